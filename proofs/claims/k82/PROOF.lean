import PyProof.Rows.All
import Wide.All
import OpenK.AllK
import Wide.FinOn
import HandS.ForMost
import HandS.Flow
import HandS.Style
import HandS.Star
import HandS.IsInst
import HandS.Deep
import HandS.TupAny
import HandS.Zip
import HandS.ListItems
import HandS.DictComp
import PySem.Challenge.RW_sameinall_k82_whole_code_there_and_back
import HandS.NoneIn
import HandS.Small
import HandS.ExcInit
import HandS.ExcField
import HandS.WordsExc
import HandS.Codes
import KE.KDictKeyed
import HandS.Conv
import HandS.EndTab
set_option Elab.async false
set_option linter.all false
set_option maxRecDepth 100000
set_option maxHeartbeats 4000000
/-! Data and how they stand in the abstract heap. G: what stands still, H: all that is tracked. -/
namespace K82
open PySem L2
def top (i : Nat) : Stmt := PySem.Challenge.pw_sameinall_k82_whole_code_there_and_back.main.body.getD i (.Pass ⟨0, 0, 0, 0⟩)
def keyD : Key → PyData
  | .inl i => .int i
  | .inr x => .str x
mutual
inductive Rp (K : PySem.W.Frag) (G : Hp) : V → PyData → Prop
  | non : Rp K G .non .none
  | bl (b : Bool) : Rp K G (.bl b) (.bool b)
  | int (i : Int) : Rp K G (.int i) (.int i)
  | str (x : Str) : Rp K G (.str x) (.str x)
  | lst {a : Addr} {xs : List V} {ds : List PyData} : G a = some (.lst xs) → RpAll K G xs ds → Rp K G (.ref a) (.list ds)
  | tup {a : Addr} {xs : List V} {ds : List PyData} : SqT K G a xs → RpAll K G xs ds → Rp K G (.ref a) (.tuple ds)
  | dic {a : Addr} {kvs : List (Key × V)} {ds : List (PyData × PyData)} : G a = some (.dK kvs) → RpKv K G kvs ds → Rp K G (.ref a) (.dict ds)
inductive RpAll (K : PySem.W.Frag) (G : Hp) : List V → List PyData → Prop
  | nil : RpAll K G [] []
  | cons {v : V} {vs : List V} {d : PyData} {ds : List PyData} : Rp K G v d → RpAll K G vs ds → RpAll K G (v :: vs) (d :: ds)
inductive RpKv (K : PySem.W.Frag) (G : Hp) : List (Key × V) → List (PyData × PyData) → Prop
  | nil : RpKv K G [] []
  | cons {k : Key} {v : V} {vs : List (Key × V)} {d : PyData} {ds : List (PyData × PyData)} : Rp K G v d → RpKv K G vs ds → RpKv K G ((k, v) :: vs) ((keyD k, d) :: ds)
end
section
variable {K : PySem.W.Frag} {G G' H H' : Hp}
theorem Same.sqt {a : Addr} {xs : List V} (e : Same G G') (h : SqT K G a xs) : SqT K G' a xs := by
  rcases h with (h | ⟨o, h⟩) | h
  · exact .inl (.inl (e _ _ h))
  · exact .inl (.inr ⟨o, e _ _ h⟩)
  · exact .inr h
mutual
theorem Rp.mono (e : Same G G') : ∀ (d : PyData) (v : V), Rp K G v d → Rp K G' v d
  | .none, _, h => by
    cases h
    exact .non
  | .bool b, _, h => by
    cases h
    exact .bl b
  | .int i, _, h => by
    cases h
    exact .int i
  | .str x, _, h => by
    cases h
    exact .str x
  | .list ds, _, h => by
    cases h with
    | lst h1 h2 => exact .lst (e _ _ h1) (RpAll.mono e ds _ h2)
  | .tuple ds, _, h => by
    cases h with
    | tup h1 h2 => exact .tup (Same.sqt e h1) (RpAll.mono e ds _ h2)
  | .dict ds, _, h => by
    cases h with
    | dic h1 h2 => exact .dic (e _ _ h1) (RpKv.mono e ds _ h2)
theorem RpAll.mono (e : Same G G') : ∀ (ds : List PyData) (vs : List V), RpAll K G vs ds → RpAll K G' vs ds
  | [], _, h => by
    cases h
    exact .nil
  | d :: ds, _, h => by
    cases h with
    | cons h1 h2 => exact .cons (Rp.mono e d _ h1) (RpAll.mono e ds _ h2)
theorem RpKv.mono (e : Same G G') : ∀ (ds : List (PyData × PyData)) (vs : List (Key × V)), RpKv K G vs ds → RpKv K G' vs ds
  | [], _, h => by
    cases h
    exact .nil
  | (k, d) :: ds, _, h => by
    cases h with
    | cons h1 h2 => exact .cons (Rp.mono e d _ h1) (RpKv.mono e ds _ h2)
end
-- data without dicts
mutual
def noD : PyData → Bool
  | .list ds => noDs ds
  | .tuple ds => noDs ds
  | .dict _ => false
  | _ => true
def noDs : List PyData → Bool
  | [] => true
  | d :: ds => noD d && noDs ds
end
mutual
theorem Rp.dp (e : Same G H) : ∀ (d : PyData) (v : V), Rp K G v d → noD d = true → Dp K H v d
  | .none, _, h, _ => by
    cases h
    exact .non
  | .bool b, _, h, _ => by
    cases h
    exact .bl b
  | .int i, _, h, _ => by
    cases h
    exact .int i
  | .str x, _, h, _ => by
    cases h
    exact .str x
  | .list ds, _, h, n => by
    cases h with
    | lst h1 h2 => exact .lst (SqL.of (e _ _ h1)) (RpAll.dp e ds _ h2 (by simpa [noD] using n))
  | .tuple ds, _, h, n => by
    cases h with
    | tup h1 h2 => exact .tup (Same.sqt e h1) (RpAll.dp e ds _ h2 (by simpa [noD] using n))
  | .dict ds, _, h, n => by simp [noD] at n
theorem RpAll.dp (e : Same G H) : ∀ (ds : List PyData) (vs : List V), RpAll K G vs ds → noDs ds = true → DpAll K H vs ds
  | [], _, h, _ => by
    cases h
    exact .nil
  | d :: ds, _, h, n => by
    cases h with
    | cons h1 h2 =>
      simp only [noDs, Bool.and_eq_true] at n
      exact .cons (Rp.dp e d _ h1 n.1) (RpAll.dp e ds _ h2 n.2)
end
theorem RpAll.length : ∀ {vs : List V} {ds : List PyData}, RpAll K G vs ds → vs.length = ds.length
  | [], [], _ => rfl
  | _ :: _, _ :: _, .cons _ r => by rw [List.length_cons, List.length_cons, RpAll.length r]
theorem RpAll.app : ∀ {vs ws : List V} {ds es : List PyData}, RpAll K G vs ds → RpAll K G ws es → RpAll K G (vs ++ ws) (ds ++ es)
  | [], _, [], _, _, h => h
  | _ :: _, _, _ :: _, _, .cons a r, h => .cons a (RpAll.app r h)
theorem RpAll.get : ∀ {vs : List V} {ds : List PyData} {i : Nat} {d : PyData}, RpAll K G vs ds → ds[i]? = some d → ∃ v, vs[i]? = some v ∧ Rp K G v d
  | _, [], _, _, _, e => by simp at e
  | v :: vs, d' :: ds, 0, d, .cons a r, e => by
    simp at e
    subst e
    exact ⟨v, rfl, a⟩
  | v :: vs, d' :: ds, i + 1, d, .cons a r, e => by
    obtain ⟨w, h1, h2⟩ := RpAll.get (i := i) r (by simpa using e)
    exact ⟨w, by simpa using h1, h2⟩
theorem RpAll.get' : ∀ {vs : List V} {ds : List PyData} {i : Nat} {v : V}, RpAll K G vs ds → vs[i]? = some v → ∃ d, ds[i]? = some d ∧ Rp K G v d
  | [], _, _, _, _, e => by simp at e
  | v' :: vs, d' :: ds, 0, v, .cons a r, e => by
    simp at e
    subst e
    exact ⟨d', rfl, a⟩
  | v' :: vs, d' :: ds, i + 1, v, .cons a r, e => by
    obtain ⟨w, h1, h2⟩ := RpAll.get' (i := i) r (by simpa using e)
    exact ⟨w, by simpa using h1, h2⟩
theorem RpAll.take : ∀ {vs : List V} {ds : List PyData} (n : Nat), RpAll K G vs ds → RpAll K G (vs.take n) (ds.take n)
  | _, _, 0, _ => .nil
  | [], [], _ + 1, _ => .nil
  | _ :: _, _ :: _, n + 1, .cons a r => .cons a (RpAll.take n r)
theorem RpAll.drop : ∀ {vs : List V} {ds : List PyData} (n : Nat), RpAll K G vs ds → RpAll K G (vs.drop n) (ds.drop n)
  | _, _, 0, h => h
  | [], [], _ + 1, _ => .nil
  | _ :: _, _ :: _, n + 1, .cons _ r => RpAll.drop n r
end
/-- from (G, H) to (G', H'): what was tracked is kept, what stands still now stood still or is new -/
structure Ext (G H G' H' : Hp) : Prop where
  hh : Same H H'
  gg : Same G G'
  gh : Same G' H'
  new : ∀ b, G' b ≠ none → G b ≠ none ∨ H b = none
/-- what stood still stands still yet -/
structure Up (G G' H' : Hp) : Prop where
  gg : Same G G'
  gh : Same G' H'
section
variable {G H G' H' G1 H1 G2 H2 : Hp} {p : Addr} {o : HO}
theorem Ext.refl (e : Same G H) : Ext G H G H := ⟨Same.refl _, Same.refl _, e, fun _ h => .inl h⟩
theorem Up.refl (e : Same G H) : Up G G H := ⟨Same.refl _, e⟩
theorem Up.trans (a : Up G G1 H1) (b : Ext G1 H1 G2 H2) : Up G G2 H2 := ⟨a.gg.trans b.gg, b.gh⟩
theorem Ext.up (a : Ext G H G1 H1) : Up G G1 H1 := ⟨a.gg, a.gh⟩
theorem Up.up (a : Up G G1 H1) (b : Up G1 G2 H2) : Up G G2 H2 := ⟨a.gg.trans b.gg, b.gh⟩
theorem Ext.trans (a : Ext G H G1 H1) (b : Ext G1 H1 G2 H2) : Ext G H G2 H2 := ⟨a.hh.trans b.hh, a.gg.trans b.gg, b.gh, fun c h => by
  rcases b.new c h with z | z
  · exact a.new c z
  · exact .inr (Same.free a.hh z)⟩
theorem Same.none {G H : Hp} (e : Same G H) (h : H p = none) : G p = none := Same.free e h
theorem same_upd {H : Hp} (h : H p = none) (o : HO) : Same H (upd H p o) := fun b u q => by
  rw [upd_ne (ne_of_none q h)]
  exact q
theorem Ext.fresh (a : Ext G H G1 H1) (h : H1 p = none) : H p = none := Same.free a.hh h
/-- a new thing that stands still -/
theorem Ext.alloc (a : Ext G H G1 H1) (h : H1 p = none) (o : HO) : Ext G H (upd G1 p o) (upd H1 p o) := by
  refine ⟨a.hh.trans (same_upd h o), a.gg.trans (same_upd (Same.none a.gh h) o), fun b u q => ?_, fun b q => ?_⟩
  · by_cases e : b = p
    · subst e
      rw [upd_same] at q ⊢
      exact q
    · rw [upd_ne e] at q ⊢
      exact a.gh _ _ q
  · by_cases e : b = p
    · subst e
      exact .inr (a.fresh h)
    · rw [upd_ne e] at q
      exact a.new b q
/-- a new thing that may change -/
theorem Ext.allocM (a : Ext G H G1 H1) (h : H1 p = none) (o : HO) : Ext G H G1 (upd H1 p o) :=
  ⟨a.hh.trans (same_upd h o), a.gg, a.gh.trans (same_upd h o), a.new⟩
/-- a thing that is new since then changes -/
theorem Ext.set (a : Ext G H G1 H1) (h : H p = none) (g : G1 p = none) (o : HO) : Ext G H G1 (upd H1 p o) :=
  ⟨fun b u q => by rw [upd_ne (ne_of_none q h)]; exact a.hh _ _ q, a.gg, fun b u q => by rw [upd_ne (ne_of_none q g)]; exact a.gh _ _ q, a.new⟩
/-- a thing that is new since then changes no more -/
theorem Ext.still (a : Ext G H G1 H1) (h : H p = none) (g : G1 p = none) (q : H1 p = some o) : Ext G H (upd G1 p o) H1 := by
  refine ⟨a.hh, a.gg.trans (same_upd g o), fun b u z => ?_, fun b z => ?_⟩
  · by_cases e : b = p
    · subst e
      rw [upd_same] at z
      rw [q]
      exact z
    · rw [upd_ne e] at z
      exact a.gh _ _ z
  · by_cases e : b = p
    · subst e
      exact .inr h
    · rw [upd_ne e] at z
      exact a.new b z
/-- what may change stays so -/
theorem Ext.loose (a : Ext G H G1 H1) (g : G p = none) (h : H p ≠ none) : G1 p = none := by
  cases e : G1 p with
  | none => rfl
  | some o =>
    rcases a.new p (by rw [e]; simp) with z | z
    · exact absurd g z
    · exact absurd z h
theorem Ext.of_same (e : Same G H) (h : Same H H') : Ext G H G H' := ⟨h, Same.refl _, e.trans h, fun _ q => .inl q⟩
end
end K82

set_option Elab.async false
set_option linter.all false
set_option maxRecDepth 100000
set_option maxHeartbeats 4000000
/-! What a reading comes to, told in data. -/
namespace K82
open PySem L2
/-! ### readings that do not look at the kind -/
section
variable {X : Cx}
theorem OpR.or {f : Value → Value → Sem Value} {r r' : R2} (h : OpR X f r) (h' : OpR X f r') : OpR X f (fun x y H Q => r x y H Q ∨ r' x y H Q) := fun pins s σ H x y v u Q I rx ry q =>
  q.elim (h pins s σ H x y v u Q I rx ry) (h' pins s σ H x y v u Q I rx ry)
theorem CallR.or {f : Value} {r r' : List V → Hp → VK → Prop} (h : CallR X f r) (h' : CallR X f r') : CallR X f (fun xs H Q => r xs H Q ∨ r' xs H Q) := fun pins s σ H xs us Q I r q =>
  q.elim (h pins s σ H xs us Q I r) (h' pins s σ H xs us Q I r)
theorem PI.or {tg it : Expr} {w w' : TI} (h : PI X tg it w) (h' : PI X tg it w') : PI X tg it (fun σ H R => w σ H R ∨ w' σ H R) := ⟨fun pins s σ H R I q =>
  q.elim (h.run pins s σ H R I) (h'.run pins s σ H R I)⟩
def rAddI : R2 := rI0 fun i j => .int (i + j)
def rAddS : R2 := fun x y H Q => ∃ i j, x = .str i ∧ y = .str j ∧ i.length + j.length ≤ sizeLine ∧ Q (.str (i ++ j)) H
def rAddX (K : PySem.W.Frag) : R2 := fun x y H Q => rAddI x y H Q ∨ rCat x y H Q ∨ rCatA K x y H Q ∨ rAddS x y H Q
theorem op_addX : OpR X (binaryOp .Add) (rAddX X.K) := OpR.or op_add (OpR.or op_cat (OpR.or op_catA op_add_str))
def rMulX : R2 := fun x y H Q => (rI CMul fun i j => .int (i * j)) x y H Q ∨ rRep x y H Q
theorem op_mulX : OpR X (binaryOp .Mult) rMulX := OpR.or op_mul op_rep
def rEqX (K : PySem.W.Frag) : R2 := fun x y H Q => rEq x y H Q ∨ rEqD K x y H Q
def rNeX (K : PySem.W.Frag) : R2 := fun x y H Q => rNe x y H Q ∨ rNeD K x y H Q
theorem op_eqX (hu : X.A.units + 64 < cLine) : OpR X (compareOp .Eq) (rEqX X.K) := OpR.or op_eq (op_eqD hu)
theorem op_neX (hu : X.A.units + 64 < cLine) : OpR X (compareOp .NotEq) (rNeX X.K) := OpR.or op_ne (op_neD hu)
def rIxX (K : PySem.W.Frag) : R2 := rIx K
def rSlX (K : PySem.W.Frag) : V → Option Int → Option Int → Hp → VK → Prop := fun x lo hi H Q => rSlL K x lo hi H Q ∨ rSlA K x lo hi H Q
theorem sl_X : SlR X (rSlX X.K) := SlR.or sl_list sl_tupA
def rIsiX (K : PySem.W.Frag) : List V → Hp → VK → Prop := fun xs H Q => rIsi K xs H Q ∨ rIsiT K xs H Q
theorem call_isiX : CallR X (.builtin "isinstance") (rIsiX X.K) := CallR.or call_isi call_isiT
def rLenX (K : PySem.W.Frag) : List V → Hp → VK → Prop := fun xs H Q => ∃ x n, xs = [x] ∧ LenV K x H n ∧ Q (.int n) H
theorem call_lenX : CallR X (.builtin "len") (rLenX X.K) := call_len
def rTupOf (K : PySem.W.Frag) : List V → Hp → VK → Prop := fun xs H Q => ∃ p ys, xs = [.ref p] ∧ ((SqL K H p ys ∧ ∀ l, H l = none → Q (.ref l) (upd H l (.tup ys))) ∨ (SqT K H p ys ∧ Q (.ref p) H))
theorem call_tupX : CallR X (.type "tuple") (rTupOf X.K) := call_tuple_of
def rLstOf (K : PySem.W.Frag) : List V → Hp → VK → Prop := fun xs H Q => ∃ p ys, xs = [.ref p] ∧ (SqL K H p ys ∨ SqT K H p ys) ∧ ∀ l, H l = none → Q (.ref l) (upd H l (.lst ys))
theorem call_lstX : CallR X (.type "list") (rLstOf X.K) := call_list_of
def rIntX : List V → Hp → VK → Prop := fun xs H Q => (∃ i, xs = [.int i] ∧ Q (.int i) H) ∨ ∃ k, xs = [.bl k] ∧ Q (.int (if k then 1 else 0)) H
theorem call_intX : CallR X (.type "int") rIntX := call_int1
def rIsNX : R2 := fun x y H Q => y = .non ∧ Q (.bl (decide (x = .non))) H
theorem op_isNX : OpR X (compareOp .Is) rIsNX := op_isN
def rNotNX : R2 := fun x y H Q => y = .non ∧ Q (.bl (!decide (x = .non))) H
theorem op_notNX : OpR X (compareOp .IsNot) rNotNX := op_notN
def iRow (K : PySem.W.Frag) (tx : TE) : TI := fun σ H R => iList K tx σ H R ∨ iTup K tx σ H R
theorem pi_row {tg l : Expr} {tl : TE} (hl : PE X l tl) : PI X tg l (iRow X.K tl) := PI.or (pi_list hl) (pi_tup hl)
def rInX (K : PySem.W.Frag) (neg : Bool) : R2 := rIn K neg
end
/-! ### data -/
def rowOf : PyData → Option (List PyData)
  | .list l => some l
  | .tuple l => some l
  | _ => none
theorem rowOf_cases {r : PyData} {ds : List PyData} (h : rowOf r = some ds) : r = .list ds ∨ r = .tuple ds := by
  cases r <;> simp [rowOf] at h
  · exact .inl (by rw [h])
  · exact .inr (by rw [h])
/-- the built-in classes that stand in the programs -/
inductive Cl | int | bool | str | list | tuple | dict
def Cl.nm : Cl → String
  | .int => "int" | .bool => "bool" | .str => "str" | .list => "list" | .tuple => "tuple" | .dict => "dict"
inductive Kd | none | bool | int | str | list | tuple | dict
def Kd.nm : Kd → String
  | .none => "NoneType" | .bool => "bool" | .int => "int" | .str => "str" | .list => "list" | .tuple => "tuple" | .dict => "dict"
def kd : PyData → Kd
  | .none => .none | .bool _ => .bool | .int _ => .int | .str _ => .str | .list _ => .list | .tuple _ => .tuple | .dict _ => .dict
def isK : Kd → Cl → Bool
  | .bool, .bool => true | .bool, .int => true | .int, .int => true | .str, .str => true | .list, .list => true | .tuple, .tuple => true | .dict, .dict => true
  | _, _ => false
def tyD (d : PyData) : String := (kd d).nm
def isD (d : PyData) (c : Cl) : Bool := isK (kd d) c
theorem kit_k : ∀ (k : Kd) (c : Cl), kitB k.nm c.nm = some (isK k c) := by
  intro k c
  cases k <;> cases c <;> decide +kernel
theorem kit_d {K : PySem.W.Frag} (d : PyData) (c : Cl) : PySem.W.kitOne K (.type (tyD d)) (.type c.nm) = some (isD d c) := kit_ty (kit_k (kd d) c)
section
variable {K : PySem.W.Frag} {σ : L2.St} {G H G1 H1 : Hp}
theorem Rp.ty (e : Same G H) {v : V} {d : PyData} (r : Rp K G v d) : TyX K H v (.type (tyD d)) := by
  cases r with
  | non => exact .base .non
  | bl b => exact .base (.bl b)
  | int i => exact .base (.int i)
  | str x => exact .base (.str x)
  | lst h _ => exact .base (.lst (e _ _ h))
  | dic h _ => exact .base (.dK (e _ _ h))
  | tup h _ =>
    rcases h with (h | ⟨o, h⟩) | ⟨o, its, n, h1, h2, _⟩
    · exact .base (.tup (e _ _ h))
    · exact .fTuple (e _ _ h)
    · exact .kTuple h1 h2
theorem Rp.non_iff {v : V} {d : PyData} (r : Rp K G v d) : decide (v = .non) = (match d with | .none => true | _ => false) := by
  cases r <;> simp
theorem sz {n : Nat} (h : n ≤ 100000) : n ≤ sizeLine := Nat.le_trans h (by decide)
theorem szl {n : Nat} (h : n < 100000) : n < sizeLine := Nat.lt_of_lt_of_le h (by decide)
theorem SqT.up {G H : Hp} {a : Addr} {xs : List V} (e : Same G H) (h : SqT K G a xs) : SqT K H a xs := Same.sqt e h
/-- from a data's row to the tracked row -/
theorem Rp.row (e : Same G H) {v : V} {r : PyData} {ds : List PyData} (h : Rp K G v r) (hr : rowOf r = some ds) : ∃ a xs, v = .ref a ∧ RpAll K G xs ds ∧ ((r = .list ds ∧ SqL K H a xs ∧ G a = some (.lst xs)) ∨ (r = .tuple ds ∧ SqT K H a xs)) := by
  rcases rowOf_cases hr with q | q
  · subst q
    cases h with
    | lst h1 h2 => exact ⟨_, _, rfl, h2, .inl ⟨rfl, SqL.of (e _ _ h1), h1⟩⟩
  · subst q
    cases h with
    | tup h1 h2 => exact ⟨_, _, rfl, h2, .inr ⟨rfl, Same.sqt e h1⟩⟩
theorem Up.rp {G' H' : Hp} (a : Up G G' H') {v : V} {d : PyData} (r : Rp K G v d) : Rp K G' v d := Rp.mono a.gg d v r
theorem Up.rpa {G' H' : Hp} (a : Up G G' H') {vs : List V} {ds : List PyData} (r : RpAll K G vs ds) : RpAll K G' vs ds := RpAll.mono a.gg ds vs r
theorem Ext.rp {G' H' : Hp} (a : Ext G H G' H') {v : V} {d : PyData} (r : Rp K G v d) : Rp K G' v d := Rp.mono a.gg d v r
theorem Ext.rpa {G' H' : Hp} (a : Ext G H G' H') {vs : List V} {ds : List PyData} (r : RpAll K G vs ds) : RpAll K G' vs ds := RpAll.mono a.gg ds vs r

def Dv (K : PySem.W.Frag) (te : TE) (σ : L2.St) (G H : Hp) (d : PyData) : Prop := ∀ G1 H1, Up G G1 H1 → ∀ Q : VK, (∀ v G2 H2, Ext G1 H1 G2 H2 → Rp K G2 v d → Q v H2) → te σ H1 Q
def DvA (K : PySem.W.Frag) (ta : TA) (σ : L2.St) (G H : Hp) (ds : List PyData) : Prop := ∀ G1 H1, Up G G1 H1 → ∀ Q : List V → Hp → Prop, (∀ vs G2 H2, Ext G1 H1 G2 H2 → RpAll K G2 vs ds → Q vs H2) → ta σ H1 Q
def DvT (tt : TT) (σ : L2.St) (G H : Hp) (b : Bool) : Prop := ∀ G1 H1, Up G G1 H1 → ∀ Q : Bool → Hp → Prop, (∀ G2 H2, Ext G1 H1 G2 H2 → Q b H2) → tt σ H1 Q
def DvO (to : TO) (σ : L2.St) (G H : Hp) (o : Option Int) : Prop := ∀ G1 H1, Up G G1 H1 → ∀ Q : Option Int → Hp → Prop, (∀ G2 H2, Ext G1 H1 G2 H2 → Q o H2) → to σ H1 Q
variable {te ta tb tc : TE} {tt tu : TT} {d d' r : PyData} {ds es : List PyData} {v : V} {i j : Nat} {b c : Bool}
theorem Dv.mono (a : Up G G1 H1) (h : Dv K te σ G H d) : Dv K te σ G1 H1 d := fun _ _ e => h _ _ (a.up e)
theorem DvT.mono (a : Up G G1 H1) (h : DvT tt σ G H b) : DvT tt σ G1 H1 b := fun _ _ e => h _ _ (a.up e)
theorem Dv.is (h : Dv K te σ G H d) (e : d = d') : Dv K te σ G H d' := e ▸ h
theorem DvT.is (h : DvT tt σ G H b) (e : b = c) : DvT tt σ G H c := e ▸ h
theorem dv_var (h : σ[i]? = some (some v)) (q : Rp K G v d) : Dv K (tVar i) σ G H d := fun G1 H1 e Q k => ⟨v, h, k v G1 H1 (Ext.refl e.gh) (e.rp q)⟩
theorem dv_c (h : ∀ G, Rp K G v d) : Dv K (tC v) σ G H d := fun G1 H1 e Q k => k v G1 H1 (Ext.refl e.gh) (h G1)
theorem dv_non : Dv K (tC .non) σ G H .none := dv_c fun _ => .non
theorem dv_bl : Dv K (tC (.bl b)) σ G H (.bool b) := dv_c fun _ => .bl b
theorem dv_int {z : Int} : Dv K (tC (.int z)) σ G H (.int z) := dv_c fun _ => .int z
theorem dv_str {x : Str} : Dv K (tC (.str x)) σ G H (.str x) := dv_c fun _ => .str x
theorem dva_nil : DvA K tNil σ G H [] := fun G1 H1 e Q k => k [] G1 H1 (Ext.refl e.gh) .nil
theorem dva_cons {tr : TA} (h : Dv K te σ G H d) (hr : DvA K tr σ G H ds) : DvA K (tCons te tr) σ G H (d :: ds) := fun G1 H1 e Q k =>
  h G1 H1 e _ fun v G2 H2 e2 q => hr G2 H2 (e.trans e2) _ fun vs G3 H3 e3 qs => k _ G3 H3 (e2.trans e3) (.cons (e3.rp q) qs)
theorem dva_star {tr : TA} (h : Dv K te σ G H r) (hw : rowOf r = some ds) (hr : DvA K tr σ G H es) : DvA K (StX.tStar K te tr) σ G H (ds ++ es) := fun G1 H1 e Q k =>
  h G1 H1 e _ fun v G2 H2 e2 q => by
    obtain ⟨a, xs, rfl, ra, z⟩ := q.row e2.gh hw
    refine ⟨a, xs, rfl, z.elim (fun z => .inr z.2.1) (fun z => .inl z.2), hr G2 H2 (e.trans e2) _ fun vs G3 H3 e3 qs => k _ G3 H3 (e2.trans e3) (RpAll.app (e3.rpa ra) qs)⟩
theorem dv_tup {ta : TA} (h : DvA K ta σ G H ds) (hz : ds.length ≤ 100000) : Dv K (tTup ta) σ G H (.tuple ds) := fun G1 H1 e Q k =>
  h G1 H1 e _ fun vs G2 H2 e2 q => ⟨by rw [q.length]; exact sz hz, fun p hp => k _ _ _ (e2.alloc hp _) (.tup (.inl (.inl upd_same)) (RpAll.mono (same_upd (Same.none e2.gh hp) _) _ _ q))⟩
theorem dv_lst {ta : TA} (h : DvA K ta σ G H ds) (hz : ds.length ≤ 100000) : Dv K (tLst ta) σ G H (.list ds) := fun G1 H1 e Q k =>
  h G1 H1 e _ fun vs G2 H2 e2 q => ⟨by rw [q.length]; exact sz hz, fun p hp => k _ _ _ (e2.alloc hp _) (.lst upd_same (RpAll.mono (same_upd (Same.none e2.gh hp) _) _ _ q))⟩
/-- the promise of a def that makes data of data: R ds d, it hands back d -/
def spD (K : PySem.W.Frag) (n : Nat) (R : List PyData → PyData → Prop) : Sp := fun vs H Q _ => vs.length = n ∧ ∃ G ds d, Same G H ∧ RpAll K G vs ds ∧ R ds d ∧ ∀ v G' H', Ext G H G' H' → Rp K G' v d → Q v H'
theorem dv_call {n : Nat} {R : List PyData → PyData → Prop} {E : XK} {ta : TA} (h : DvA K ta σ G H ds) (hn : ds.length = n) (hR : R ds d) : Dv K (tCall (spD K n R) [] E ta) σ G H d := fun G1 H1 e Q k =>
  h G1 H1 e _ fun vs G2 H2 e2 q => by
    show spD K n R (vs ++ []) H2 Q E
    rw [List.append_nil]
    exact ⟨by rw [q.length, hn], G2, ds, d, e2.gh, q, hR, fun v G3 H3 e3 q3 => k v G3 H3 (e2.trans e3) q3⟩
/-- two values -/
theorem dv_op {rr : R2} (ha : Dv K ta σ G H d) (hb : Dv K tb σ G H d') (h : ∀ x y G1 H1, Up G G1 H1 → Rp K G1 x d → Rp K G1 y d' → ∀ Q : VK, (∀ v G2 H2, Ext G1 H1 G2 H2 → Rp K G2 v r → Q v H2) → rr x y H1 Q) : Dv K (tOp rr ta tb) σ G H r := fun G1 H1 e Q k =>
  ha G1 H1 e _ fun x G2 H2 e2 qx => hb G2 H2 (e.trans e2) _ fun y G3 H3 e3 qy => h x y G3 H3 ((e.trans e2).trans e3) (e3.rp qx) qy Q fun v G4 H4 e4 q => k v G4 H4 ((e2.trans e3).trans e4) q
theorem dv_addI {m n : Int} (ha : Dv K ta σ G H (.int m)) (hb : Dv K tb σ G H (.int n)) : Dv K (tOp (rAddX K) ta tb) σ G H (.int (m + n)) := dv_op ha hb fun x y G1 H1 e qx qy Q k => by
  cases qx
  cases qy
  exact .inl ⟨m, n, rfl, rfl, k _ G1 H1 (Ext.refl e.gh) (.int _)⟩
theorem dv_addL (ha : Dv K ta σ G H (.list ds)) (hb : Dv K tb σ G H (.list es)) (hz : ds.length + es.length ≤ 100000) : Dv K (tOp (rAddX K) ta tb) σ G H (.list (ds ++ es)) := dv_op ha hb fun x y G1 H1 e qx qy Q k => by
  cases qx with
  | lst h1 r1 =>
    cases qy with
    | lst h2 r2 => exact .inr (.inl ⟨_, _, _, _, rfl, rfl, e.gh _ _ h1, e.gh _ _ h2, by rw [r1.length, r2.length]; exact sz hz, fun p hp => k _ _ _ ((Ext.refl e.gh).alloc hp _) (.lst upd_same (RpAll.mono (same_upd (Same.none e.gh hp) _) _ _ (RpAll.app r1 r2)))⟩)
theorem RpAll.nil_iff {vs : List V} (h : RpAll K G vs ds) : vs = [] ↔ ds = [] := by cases h <;> simp
theorem dv_addT (ha : Dv K ta σ G H (.tuple ds)) (hb : Dv K tb σ G H (.tuple es)) (hz : ds.length + es.length ≤ 100000) : Dv K (tOp (rAddX K) ta tb) σ G H (.tuple (ds ++ es)) := dv_op ha hb fun x y G1 H1 e qx qy Q k => by
  cases qx with
  | tup h1 r1 =>
    cases qy with
    | tup h2 r2 =>
      refine .inr (.inr (.inl ⟨_, _, _, _, rfl, rfl, Same.sqt e.gh h1, Same.sqt e.gh h2, by rw [r1.length, r2.length]; exact sz hz, fun q => ?_, fun q q2 => ?_, fun q q2 p hp => ?_⟩))
      · have z := r1.nil_iff.mp q
        subst z
        exact k _ G1 H1 (Ext.refl e.gh) (.tup h2 r2)
      · have z := r2.nil_iff.mp q2
        subst z
        rw [List.append_nil] at k
        exact k _ G1 H1 (Ext.refl e.gh) (.tup h1 r1)
      · exact k _ _ _ ((Ext.refl e.gh).alloc hp _) (.tup (.inl (.inl upd_same)) (RpAll.mono (same_upd (Same.none e.gh hp) _) _ _ (RpAll.app r1 r2)))
theorem dv_I0 {g : Int → Int → V} {f : Int → Int → PyData} {m n : Int} (hg : ∀ G, Rp K G (g m n) (f m n)) (ha : Dv K ta σ G H (.int m)) (hb : Dv K tb σ G H (.int n)) : Dv K (tOp (rI0 g) ta tb) σ G H (f m n) := dv_op ha hb fun x y G1 H1 e qx qy Q k => by
  cases qx
  cases qy
  exact ⟨m, n, rfl, rfl, k _ G1 H1 (Ext.refl e.gh) (hg _)⟩
theorem dv_I {C : Int → Int → Prop} {g : Int → Int → V} {f : Int → Int → PyData} {m n : Int} (hg : ∀ G, Rp K G (g m n) (f m n)) (hC : C m n) (ha : Dv K ta σ G H (.int m)) (hb : Dv K tb σ G H (.int n)) : Dv K (tOp (rI C g) ta tb) σ G H (f m n) := dv_op ha hb fun x y G1 H1 e qx qy Q k => by
  cases qx
  cases qy
  exact ⟨m, n, rfl, rfl, hC, k _ G1 H1 (Ext.refl e.gh) (hg _)⟩
theorem dv_sub {m n : Int} (ha : Dv K ta σ G H (.int m)) (hb : Dv K tb σ G H (.int n)) : Dv K (tOp (rI0 fun i j => .int (i - j)) ta tb) σ G H (.int (m - n)) := dv_I0 (f := fun m n => .int (m - n)) (fun _ => .int _) ha hb
theorem dv_lt {m n : Int} (ha : Dv K ta σ G H (.int m)) (hb : Dv K tb σ G H (.int n)) : Dv K (tOp (rI0 fun i j => .bl (decide (i < j))) ta tb) σ G H (.bool (decide (m < n))) := dv_I0 (f := fun m n => .bool (decide (m < n))) (fun _ => .bl _) ha hb
theorem dv_le {m n : Int} (ha : Dv K ta σ G H (.int m)) (hb : Dv K tb σ G H (.int n)) : Dv K (tOp (rI0 fun i j => .bl (decide (i ≤ j))) ta tb) σ G H (.bool (decide (m ≤ n))) := dv_I0 (f := fun m n => .bool (decide (m ≤ n))) (fun _ => .bl _) ha hb
theorem dv_gt {m n : Int} (ha : Dv K ta σ G H (.int m)) (hb : Dv K tb σ G H (.int n)) : Dv K (tOp (rI0 fun i j => .bl (decide (j < i))) ta tb) σ G H (.bool (decide (n < m))) := dv_I0 (f := fun m n => .bool (decide (n < m))) (fun _ => .bl _) ha hb
theorem dv_ge {m n : Int} (ha : Dv K ta σ G H (.int m)) (hb : Dv K tb σ G H (.int n)) : Dv K (tOp (rI0 fun i j => .bl (decide (j ≤ i))) ta tb) σ G H (.bool (decide (n ≤ m))) := dv_I0 (f := fun m n => .bool (decide (n ≤ m))) (fun _ => .bl _) ha hb
theorem dv_mul {m n : Int} (hC : CMul m n) (ha : Dv K ta σ G H (.int m)) (hb : Dv K tb σ G H (.int n)) : Dv K (tOp rMulX ta tb) σ G H (.int (m * n)) := dv_op ha hb fun x y G1 H1 e qx qy Q k => by
  cases qx
  cases qy
  exact .inl ⟨m, n, rfl, rfl, hC, k _ G1 H1 (Ext.refl e.gh) (.int _)⟩
/-! ### == and != -/
/-- as V, of what is no row -/
def scD : PyData → PyData → Bool
  | .none, .none => true | .none, .int _ => true | .int _, .none => true | .none, .bool _ => true | .bool _, .none => true | .none, .str _ => true | .str _, .none => true
  | .int _, .int _ => true | .bool _, .bool _ => true | .str _, .str _ => true | .int _, .str _ => true | .str _, .int _ => true | .bool _, .str _ => true | .str _, .bool _ => true
  | _, _ => false
theorem eqv_sc {x y : V} (qx : Rp K G x d) (qy : Rp K G y d') (h : scD d d' = true) : scal x y = true ∧ decide (x = y) = PyData.eqv d d' := by
  cases qx <;> cases qy <;> simp_all [scD, scal, PyData.eqv] <;> first | rfl | (rw [Bool.eq_iff_iff]; simp)
def eqOk (d d' : PyData) : Bool := scD d d' || (noD d && noD d' && SeqAt.shaped d && SeqAt.shaped d')
theorem eqOk_or (h : eqOk d d' = true) : scD d d' = true ∨ (noD d = true ∧ noD d' = true ∧ SeqAt.shaped d = true ∧ SeqAt.shaped d' = true) := by
  unfold eqOk at h
  simp only [Bool.or_eq_true, Bool.and_eq_true] at h
  rcases h with h | ⟨⟨⟨h1, h2⟩, h3⟩, h4⟩
  · exact .inl h
  · exact .inr ⟨h1, h2, h3, h4⟩
theorem dv_eq (ha : Dv K ta σ G H d) (hb : Dv K tb σ G H d') (h : eqOk d d' = true) : Dv K (tOp (rEqX K) ta tb) σ G H (.bool (PyData.eqv d d')) := dv_op ha hb fun x y G1 H1 e qx qy Q k => by
  rcases eqOk_or h with h | ⟨h1, h2, h3, h4⟩
  · obtain ⟨z1, z2⟩ := eqv_sc qx qy h
    exact .inl ⟨z1, by rw [z2]; exact k _ G1 H1 (Ext.refl e.gh) (.bl _)⟩
  · exact .inr ⟨d, d', Rp.dp e.gh d x qx h1, Rp.dp e.gh d' y qy h2, h3, h4, k _ G1 H1 (Ext.refl e.gh) (.bl _)⟩
theorem dv_ne (ha : Dv K ta σ G H d) (hb : Dv K tb σ G H d') (h : eqOk d d' = true) : Dv K (tOp (rNeX K) ta tb) σ G H (.bool (!PyData.eqv d d')) := dv_op ha hb fun x y G1 H1 e qx qy Q k => by
  rcases eqOk_or h with h | ⟨h1, h2, h3, h4⟩
  · obtain ⟨z1, z2⟩ := eqv_sc qx qy h
    exact .inl ⟨z1, by rw [z2]; exact k _ G1 H1 (Ext.refl e.gh) (.bl _)⟩
  · exact .inr ⟨d, d', Rp.dp e.gh d x qx h1, Rp.dp e.gh d' y qy h2, h3, h4, k _ G1 H1 (Ext.refl e.gh) (.bl _)⟩
def isN : PyData → Bool
  | .none => true
  | _ => false
theorem Rp.isN {v : V} {d : PyData} (q : Rp K G v d) : decide (v = .non) = isN d := by
  cases q <;> simp [K82.isN]
theorem dv_isN (ha : Dv K ta σ G H d) : Dv K (tOp rIsNX ta (tC .non)) σ G H (.bool (isN d)) := fun G1 H1 e Q k =>
  ha G1 H1 e _ fun x G2 H2 e2 qx => ⟨rfl, by rw [qx.isN]; exact k _ G2 H2 e2 (.bl _)⟩
theorem dv_notN (ha : Dv K ta σ G H d) : Dv K (tOp rNotNX ta (tC .non)) σ G H (.bool (!isN d)) := fun G1 H1 e Q k =>
  ha G1 H1 e _ fun x G2 H2 e2 qx => ⟨rfl, by rw [qx.isN]; exact k _ G2 H2 e2 (.bl _)⟩
/-! ### rows -/
theorem RpAll.at {vs : List V} (q : RpAll K G vs ds) {z : Int} (h : atI ds z = some d) : ∃ v, atI vs z = some v ∧ Rp K G v d := by
  unfold atI at h ⊢
  rw [q.length]
  cases e : ixN ds.length z with
  | none =>
    rw [e] at h
    cases h
  | some j =>
    rw [e] at h
    exact q.get h
theorem dv_ix {z : Int} (ha : Dv K ta σ G H r) (hb : Dv K tb σ G H (.int z)) (hr : rowOf r = some ds) (hi : atI ds z = some d) : Dv K (tOp (rIx K) ta tb) σ G H d := dv_op ha hb fun x y G1 H1 e qx qy Q k => by
  cases qy
  obtain ⟨a, xs, rfl, ra, q⟩ := qx.row e.gh hr
  obtain ⟨v, h1, h2⟩ := ra.at hi
  rcases q with ⟨_, q, _⟩ | ⟨_, q⟩
  · exact .inl ⟨a, xs, z, v, rfl, rfl, q, h1, k v G1 H1 (Ext.refl e.gh) h2⟩
  · exact .inr (.inl ⟨a, xs, z, v, rfl, rfl, q, h1, k v G1 H1 (Ext.refl e.gh) h2⟩)
/-- a cut of a list, as cutV -/
def cutL {α : Type} (xs : List α) (lo hi : Option Int) : List α := (xs.drop (HT.sIx xs.length 0 lo)).take (HT.sIx xs.length xs.length hi - HT.sIx xs.length 0 lo)
theorem RpAll.cut {vs : List V} (q : RpAll K G vs ds) (lo hi : Option Int) : RpAll K G (cutV vs lo hi) (cutL ds lo hi) := by
  unfold cutV cutL
  rw [q.length]
  exact RpAll.take _ (RpAll.drop _ q)
theorem cut_whole {α : Type} {xs : List α} {lo hi : Option Int} (h : HT.sIx xs.length 0 lo = 0 ∧ HT.sIx xs.length xs.length hi = xs.length) : cutL xs lo hi = xs := by
  unfold cutL
  rw [h.1, h.2]
  simp
theorem dvo_none : DvO tNoPart σ G H none := fun G1 H1 e _ k => k G1 H1 (Ext.refl e.gh)
theorem dvo_some {z : Int} (h : Dv K te σ G H (.int z)) : DvO (tPart te) σ G H (some z) := fun G1 H1 e _ k => h G1 H1 e _ fun v G2 H2 e2 q => by
  cases q
  exact ⟨z, rfl, k G2 H2 e2⟩
/-- the cut row, of its kind -/
def cutR : PyData → Option Int → Option Int → PyData
  | .list l, lo, hi => .list (cutL l lo hi)
  | .tuple l, lo, hi => .tuple (cutL l lo hi)
  | d, _, _ => d
theorem dv_sl {tl th : TO} {lo hi : Option Int} (ha : Dv K ta σ G H r) (hr : rowOf r = some ds) (h1 : DvO tl σ G H lo) (h2 : DvO th σ G H hi) : Dv K (tSl (rSlX K) ta tl th) σ G H (cutR r lo hi) := fun G1 H1 e Q k =>
  ha G1 H1 e _ fun x G2 H2 e2 qx => h1 G2 H2 (e.trans e2) _ fun G3 H3 e3 => h2 G3 H3 ((e.trans e2).trans e3) _ fun G4 H4 e4 => by
    have ex := e3.trans e4
    have q' := ex.rp qx
    have e' := e2.trans ex
    rcases rowOf_cases hr with q | q
    · subst q
      cases q' with
      | lst z1 z2 => exact .inl ⟨_, _, rfl, SqL.of (ex.gh _ _ z1), fun p hp => k _ _ _ (e'.alloc hp _) (.lst upd_same (RpAll.mono (same_upd (Same.none e'.gh hp) _) _ _ (z2.cut lo hi)))⟩
    · subst q
      cases q' with
      | tup z1 z2 =>
        refine .inr ⟨_, _, rfl, Same.sqt ex.gh z1, fun hw => ?_, fun hw p hp => ?_⟩
        · rw [z2.length] at hw
          refine k _ G4 H4 e' ?_
          show Rp K G4 _ (.tuple (cutL ds lo hi))
          rw [cut_whole hw]
          exact .tup z1 z2
        · exact k _ _ _ (e'.alloc hp _) (.tup (.inl (.inl upd_same)) (RpAll.mono (same_upd (Same.none e'.gh hp) _) _ _ (z2.cut lo hi)))
/-! ### calls of what is built in -/
theorem dv_isi (c : Cl) (ha : Dv K ta σ G H d) : Dv K (tCB (rIsiX K) (tCons ta (tCons (tC (.ty c.nm)) tNil))) σ G H (.bool (isD d c)) := fun G1 H1 e Q k =>
  ha G1 H1 e _ fun x G2 H2 e2 qx => .inl ⟨x, .ty c.nm, _, _, _, rfl, .ty _, qx.ty e2.gh, kit_d d c, k _ G2 H2 e2 (.bl _)⟩
def isAny (d : PyData) : List Cl → Bool
  | [] => false
  | c :: r => isD d c || isAny d r
theorem kit_any (d : PyData) : ∀ cs : List Cl, PySem.W.kitAny K (.type (tyD d)) (cs.map fun c => .type c.nm) = some (isAny d cs)
  | [] => kitAny_nil
  | c :: r => kitAny_cons (kit_d d c) (fun h => by rw [kit_any d r]; simp [isAny, h]) (fun h => by simp [isAny, h])
theorem cls_all : ∀ cs : List Cl, Paired ClsV (cs.map fun c => V.ty c.nm) (cs.map fun c => Value.type c.nm)
  | [] => .nil
  | c :: r => .cons (.ty _) (cls_all r)
theorem dv_isi2 (c1 c2 : Cl) (ha : Dv K ta σ G H d) : Dv K (tCB (rIsiX K) (tCons ta (tCons (tTup (tCons (tC (.ty c1.nm)) (tCons (tC (.ty c2.nm)) tNil))) tNil))) σ G H (.bool (isAny d [c1, c2])) := fun G1 H1 e Q k =>
  ha G1 H1 e _ fun x G2 H2 e2 qx => ⟨by show 2 ≤ sizeLine; decide, fun p hp => .inr ⟨x, p, _, _, _, _, rfl, upd_same, cls_all [c1, c2], qx.ty (e2.gh.trans (same_upd hp _)), kit_any d [c1, c2], k _ G2 _ (e2.allocM hp _) (.bl _)⟩⟩
theorem dv_isi3 (c1 c2 c3 : Cl) (ha : Dv K ta σ G H d) : Dv K (tCB (rIsiX K) (tCons ta (tCons (tTup (tCons (tC (.ty c1.nm)) (tCons (tC (.ty c2.nm)) (tCons (tC (.ty c3.nm)) tNil)))) tNil))) σ G H (.bool (isAny d [c1, c2, c3])) := fun G1 H1 e Q k =>
  ha G1 H1 e _ fun x G2 H2 e2 qx => ⟨by show 3 ≤ sizeLine; decide, fun p hp => .inr ⟨x, p, _, _, _, _, rfl, upd_same, cls_all [c1, c2, c3], qx.ty (e2.gh.trans (same_upd hp _)), kit_any d [c1, c2, c3], k _ G2 _ (e2.allocM hp _) (.bl _)⟩⟩
theorem dv_len (ha : Dv K ta σ G H r) (hr : rowOf r = some ds) : Dv K (tCB (rLenX K) (tCons ta tNil)) σ G H (.int ds.length) := fun G1 H1 e Q k =>
  ha G1 H1 e _ fun x G2 H2 e2 qx => by
    obtain ⟨a, xs, rfl, ra, q⟩ := qx.row e2.gh hr
    refine ⟨.ref a, xs.length, rfl, q.elim (fun z => .inl ⟨xs, z.2.1, rfl⟩) (fun z => .inr ⟨xs, z.2, rfl⟩), ?_⟩
    rw [ra.length]
    exact k _ G2 H2 e2 (.int _)
theorem dv_lenS {x : Str} (ha : Dv K ta σ G H (.str x)) (hz : x.length ≤ 100000) : Dv K (tCB (rLenX K) (tCons ta tNil)) σ G H (.int x.length) := fun G1 H1 e Q k =>
  ha G1 H1 e _ fun v G2 H2 e2 qx => by
    cases qx
    exact ⟨.str x, x.length, rfl, ⟨sz hz, rfl⟩, k _ G2 H2 e2 (.int _)⟩
theorem dv_tupOf (ha : Dv K ta σ G H r) (hr : rowOf r = some ds) : Dv K (tCB (rTupOf K) (tCons ta tNil)) σ G H (.tuple ds) := fun G1 H1 e Q k =>
  ha G1 H1 e _ fun x G2 H2 e2 qx => by
    obtain ⟨a, xs, rfl, ra, q⟩ := qx.row e2.gh hr
    rcases q with ⟨_, q, _⟩ | ⟨rfl, q⟩
    · exact ⟨a, xs, rfl, .inl ⟨q, fun p hp => k _ _ _ (e2.alloc hp _) (.tup (.inl (.inl upd_same)) (RpAll.mono (same_upd (Same.none e2.gh hp) _) _ _ ra))⟩⟩
    · exact ⟨a, xs, rfl, .inr ⟨q, k _ G2 H2 e2 qx⟩⟩
theorem dv_lstOf (ha : Dv K ta σ G H r) (hr : rowOf r = some ds) : Dv K (tCB (rLstOf K) (tCons ta tNil)) σ G H (.list ds) := fun G1 H1 e Q k =>
  ha G1 H1 e _ fun x G2 H2 e2 qx => by
    obtain ⟨a, xs, rfl, ra, q⟩ := qx.row e2.gh hr
    exact ⟨a, xs, rfl, q.elim (fun z => .inl z.2.1) (fun z => .inr z.2), fun p hp => k _ _ _ (e2.alloc hp _) (.lst upd_same (RpAll.mono (same_upd (Same.none e2.gh hp) _) _ _ ra))⟩
theorem RpAll.bls : ∀ {bs : List Bool} {vs : List V}, RpAll K G vs (bs.map .bool) → vs = bs.map .bl
  | [], _, h => by
    cases h
    rfl
  | b :: bs, _, h => by
    cases h with
    | cons h1 h2 =>
      cases h1
      rw [RpAll.bls h2]
      rfl
theorem dv_all {bs : List Bool} (ha : Dv K ta σ G H (.list (bs.map .bool))) : Dv K (tCB (rAll K) (tCons ta tNil)) σ G H (.bool (bs.all id)) := fun G1 H1 e Q k =>
  ha G1 H1 e _ fun x G2 H2 e2 qx => by
    cases qx with
    | lst h1 h2 =>
      have z := h2.bls
      subst z
      exact ⟨_, bs, rfl, SqL.of (e2.gh _ _ h1), k _ G2 H2 e2 (.bl _)⟩
theorem dv_intI {z : Int} (ha : Dv K ta σ G H (.int z)) : Dv K (tCB rIntX (tCons ta tNil)) σ G H (.int z) := fun G1 H1 e Q k =>
  ha G1 H1 e _ fun x G2 H2 e2 qx => by
    cases qx
    exact .inl ⟨z, rfl, k _ G2 H2 e2 (.int _)⟩
/-! ### ways -/
theorem dvt_test (h : Dv K te σ G H (.bool b)) : DvT (tTest te) σ G H b := fun G1 H1 e _ k => h G1 H1 e _ fun v G2 H2 e2 q => by
  cases q
  exact ⟨b, rfl, k G2 H2 e2⟩
theorem dvt_B (h : Dv K te σ G H (.bool b)) : DvT (tB te) σ G H b := fun G1 H1 e _ k => h G1 H1 e _ fun v G2 H2 e2 q => by
  cases q
  exact ⟨b, rfl, k G2 H2 e2⟩
theorem dvt_not (h : DvT tt σ G H b) : DvT (tNot tt) σ G H (!b) := fun G1 H1 e _ k => h G1 H1 e _ fun G2 H2 e2 => k G2 H2 e2
theorem dvt_and (h : DvT tt σ G H b) (h2 : b = true → DvT tu σ G H c) : DvT (tAnd tt tu) σ G H (b && c) := fun G1 H1 e Q k => h G1 H1 e _ fun G2 H2 e2 => by
  cases b with
  | true => exact iteT (h2 rfl G2 H2 (e.trans e2) Q fun G3 H3 e3 => k G3 H3 (e2.trans e3))
  | false => exact iteF (k G2 H2 e2)
theorem dvt_or (h : DvT tt σ G H b) (h2 : b = false → DvT tu σ G H c) : DvT (tOr tt tu) σ G H (b || c) := fun G1 H1 e Q k => h G1 H1 e _ fun G2 H2 e2 => by
  cases b with
  | true => exact iteT (k G2 H2 e2)
  | false => exact iteF (h2 rfl G2 H2 (e.trans e2) Q fun G3 H3 e3 => k G3 H3 (e2.trans e3))
theorem dv_and (h : Dv K ta σ G H (.bool b)) (h2 : b = true → Dv K tb σ G H (.bool c)) : Dv K (tAndV ta tb) σ G H (.bool (b && c)) := fun G1 H1 e Q k => h G1 H1 e _ fun v G2 H2 e2 q => by
  cases q
  refine ⟨b, rfl, ?_⟩
  cases b with
  | true => exact iteT (h2 rfl G2 H2 (e.trans e2) Q fun v G3 H3 e3 q3 => k v G3 H3 (e2.trans e3) q3)
  | false => exact iteF (k _ G2 H2 e2 (.bl _))
theorem dv_or (h : Dv K ta σ G H (.bool b)) (h2 : b = false → Dv K tb σ G H (.bool c)) : Dv K (tOrV ta tb) σ G H (.bool (b || c)) := fun G1 H1 e Q k => h G1 H1 e _ fun v G2 H2 e2 q => by
  cases q
  refine ⟨b, rfl, ?_⟩
  cases b with
  | true => exact iteT (k _ G2 H2 e2 (.bl _))
  | false => exact iteF (h2 rfl G2 H2 (e.trans e2) Q fun v G3 H3 e3 q3 => k v G3 H3 (e2.trans e3) q3)
theorem dv_not (h : Dv K ta σ G H (.bool b)) : Dv K (tNotV ta) σ G H (.bool (!b)) := fun G1 H1 e Q k => h G1 H1 e _ fun v G2 H2 e2 q => by
  cases q
  exact ⟨b, rfl, k _ G2 H2 e2 (.bl _)⟩
theorem dv_if (h : DvT tt σ G H b) (h1 : b = true → Dv K ta σ G H d) (h2 : b = false → Dv K tb σ G H d) : Dv K (tIf tt ta tb) σ G H d := fun G1 H1 e Q k => h G1 H1 e _ fun G2 H2 e2 => by
  cases b with
  | true => exact iteT (h1 rfl G2 H2 (e.trans e2) Q fun v G3 H3 e3 q3 => k v G3 H3 (e2.trans e3) q3)
  | false => exact iteF (h2 rfl G2 H2 (e.trans e2) Q fun v G3 H3 e3 q3 => k v G3 H3 (e2.trans e3) q3)
/-- a < b < c, of whole numbers by two orders -/
theorem dv_chain {p p' : Int → Int → Bool} {l m n : Int} (ha : Dv K ta σ G H (.int l)) (hb : Dv K tb σ G H (.int m)) (hc : Dv K tc σ G H (.int n)) :
    Dv K (tChain (rI0 fun i j => .bl (p i j)) (rI0 fun i j => .bl (p' i j)) ta tb tc) σ G H (.bool (p l m && p' m n)) := fun G1 H1 e Q k =>
  ha G1 H1 e _ fun x G2 H2 e2 qx => hb G2 H2 (e.trans e2) _ fun y G3 H3 e3 qy => by
    cases qx
    cases qy
    refine ⟨l, m, rfl, rfl, p l m, rfl, ?_⟩
    cases h : p l m with
    | true => exact iteT (hc G3 H3 ((e.trans e2).trans e3) _ fun z G4 H4 e4 qz => by
        cases qz
        refine ⟨m, n, rfl, rfl, ?_⟩
        have q := k (.bl (p' m n)) G4 H4 ((e2.trans e3).trans e4)
        rw [h] at q
        exact q (.bl _))
    | false =>
      have q := k (.bl false) G3 H3 (e2.trans e3)
      rw [h] at q
      exact iteF (q (.bl _))
/-! ### statements -/
section
variable {D : Ends} {tu tw : TS}
theorem ds_seq {t u : TS} (h : t { D with nx := u D } σ H) : tSeq t u D σ H := h
theorem ds_ret (e : Same G H) (h : Dv K te σ G H d) (k : ∀ v G1 H1, Ext G H G1 H1 → Rp K G1 v d → D.rt v H1) : tRet te D σ H := h G H (Up.refl e) _ k
theorem ds_if (e : Same G H) (h : DvT tt σ G H b) (h1 : b = true → ∀ G1 H1, Ext G H G1 H1 → tu D σ H1) (h2 : b = false → ∀ G1 H1, Ext G H G1 H1 → tw D σ H1) : tIfS tt tu tw D σ H := h G H (Up.refl e) _ fun G1 H1 e1 => by
  cases b with
  | true => exact iteT (h1 rfl G1 H1 e1)
  | false => exact iteF (h2 rfl G1 H1 e1)
theorem ds_set (e : Same G H) (h : Dv K te σ G H d) (k : ∀ v G1 H1, Ext G H G1 H1 → Rp K G1 v d → D.nx (σ.set i (some v)) H1) : tAsg te (gName i) D σ H := h G H (Up.refl e) _ k
theorem ds_par {ta tb : TE} (e : Same G H) (h : DvA K (tCons ta (tCons tb tNil)) σ G H [d, d']) (k : ∀ v w G1 H1, Ext G H G1 H1 → Rp K G1 v d → Rp K G1 w d' → D.nx ((σ.set i (some v)).set j (some w)) H1) : tPar i j (tCons ta (tCons tb tNil)) D σ H :=
  h G H (Up.refl e) _ fun vs G1 H1 e1 q => by
    cases q with
    | cons q1 q =>
      cases q with
      | cons q2 q =>
        cases q
        exact ⟨_, _, rfl, k _ _ G1 H1 e1 q1 q2⟩
end
end
end K82

set_option Elab.async false
set_option linter.all false
set_option maxRecDepth 100000
set_option maxHeartbeats 4000000
/-! The text by places (printed by gen.py). -/
namespace K82
open PySem L2
abbrev s_is_list : Stmt := top 1
theorem sc_is_list : FnScope ["thing"] ["thing"] (defScope s_is_list) := ⟨rfl, rfl, rfl, by decide +kernel, rfl, by decide +kernel, by decide +kernel⟩
abbrev s_is_whole : Stmt := top 2
theorem sc_is_whole : FnScope ["thing"] ["thing"] (defScope s_is_whole) := ⟨rfl, rfl, rfl, by decide +kernel, rfl, by decide +kernel, by decide +kernel⟩
abbrev s_is_number : Stmt := top 3
theorem sc_is_number : FnScope ["thing"] ["thing"] (defScope s_is_number) := ⟨rfl, rfl, rfl, by decide +kernel, rfl, by decide +kernel, by decide +kernel⟩
abbrev s_is_below : Stmt := top 4
theorem sc_is_below : FnScope ["thing", "most"] ["thing", "most"] (defScope s_is_below) := ⟨rfl, rfl, rfl, by decide +kernel, rfl, by decide +kernel, by decide +kernel⟩
abbrev s_is_row : Stmt := top 5
theorem sc_is_row : FnScope ["thing", "many"] ["thing", "many"] (defScope s_is_row) := ⟨rfl, rfl, rfl, by decide +kernel, rfl, by decide +kernel, by decide +kernel⟩
abbrev s_as_tuples : Stmt := top 6
theorem sc_as_tuples : FnScope ["thing", "part"] ["thing"] (defScope s_as_tuples) := ⟨rfl, rfl, rfl, by decide +kernel, rfl, by decide +kernel, by decide +kernel⟩
abbrev s_is_type : Stmt := top 14
theorem sc_is_type : FnScope ["thing", "part"] ["thing"] (defScope s_is_type) := ⟨rfl, rfl, rfl, by decide +kernel, rfl, by decide +kernel, by decide +kernel⟩
abbrev s_kept_type : Stmt := top 15
theorem sc_kept_type : FnScope ["thing"] ["thing"] (defScope s_kept_type) := ⟨rfl, rfl, rfl, by decide +kernel, rfl, by decide +kernel, by decide +kernel⟩
abbrev s_is_many : Stmt := top 19
theorem sc_is_many : FnScope ["thing"] ["thing"] (defScope s_is_many) := ⟨rfl, rfl, rfl, by decide +kernel, rfl, by decide +kernel, by decide +kernel⟩
abbrev s_check_many : Stmt := top 20
theorem sc_check_many : FnScope ["many"] ["many"] (defScope s_check_many) := ⟨rfl, rfl, rfl, by decide +kernel, rfl, by decide +kernel, by decide +kernel⟩
abbrev s_is_name : Stmt := top 21
theorem sc_is_name : FnScope ["thing", "sign"] ["thing"] (defScope s_is_name) := ⟨rfl, rfl, rfl, by decide +kernel, rfl, by decide +kernel, by decide +kernel⟩
abbrev s_kept_all : Stmt := top 22
theorem sc_kept_all : FnScope ["many", "things", "found", "thing"] ["many", "things"] (defScope s_kept_all) := ⟨rfl, rfl, rfl, by decide +kernel, rfl, by decide +kernel, by decide +kernel⟩
abbrev s_kept_binder : Stmt := top 23
theorem sc_kept_binder : FnScope ["many", "thing", "word", "name", "kind", "body", "kept", "inner"] ["many", "thing"] (defScope s_kept_binder) := ⟨rfl, rfl, rfl, by decide +kernel, rfl, by decide +kernel, by decide +kernel⟩
abbrev s_kept_case : Stmt := top 24
theorem sc_kept_case : FnScope ["many", "thing", "inner", "parts"] ["many", "thing"] (defScope s_kept_case) := ⟨rfl, rfl, rfl, by decide +kernel, rfl, by decide +kernel, by decide +kernel⟩
abbrev s_kept_term : Stmt := top 25
theorem sc_kept_term : FnScope ["many", "thing", "word", "size", "parts"] ["many", "thing"] (defScope s_kept_term) := ⟨rfl, rfl, rfl, by decide +kernel, rfl, by decide +kernel, by decide +kernel⟩
abbrev s_own_parts : Stmt := top 26
theorem sc_own_parts : FnScope ["term", "word"] ["term"] (defScope s_own_parts) := ⟨rfl, rfl, rfl, by decide +kernel, rfl, by decide +kernel, by decide +kernel⟩
abbrev s_joined_type : Stmt := top 28
theorem sc_joined_type : FnScope ["term", "kinds", "names", "word", "kind"] ["term", "kinds", "names"] (defScope s_joined_type) := ⟨rfl, rfl, rfl, by decide +kernel, rfl, by decide +kernel, by decide +kernel⟩
abbrev s_type_within : Stmt := top 29
theorem sc_type_within : FnScope ["names", "term", "path", "found", "inner", "kinds", "index", "part", "kind"] ["names", "term", "path", "found"] (defScope s_type_within) := ⟨rfl, rfl, rfl, by decide +kernel, rfl, by decide +kernel, by decide +kernel⟩
abbrev s_own_type : Stmt := top 30
theorem sc_own_type : FnScope ["names", "term"] ["names", "term"] (defScope s_own_type) := ⟨rfl, rfl, rfl, by decide +kernel, rfl, by decide +kernel, by decide +kernel⟩
abbrev s_base_term : Stmt := top 32
theorem sc_base_term : FnScope ["many", "thing", "kept"] ["many", "thing"] (defScope s_base_term) := ⟨rfl, rfl, rfl, by decide +kernel, rfl, by decide +kernel, by decide +kernel⟩
abbrev s_put_code : Stmt := top 33
theorem sc_put_code : FnScope ["term", "bound", "code", "number", "word", "inner", "numbers", "part"] ["term", "bound", "code"] (defScope s_put_code) := ⟨rfl, rfl, rfl, by decide +kernel, rfl, by decide +kernel, by decide +kernel⟩
abbrev s_own_code : Stmt := top 34
theorem sc_own_code : FnScope ["term", "code"] ["term"] (defScope s_own_code) := ⟨rfl, rfl, rfl, by decide +kernel, rfl, by decide +kernel, by decide +kernel⟩
abbrev s_code_of : Stmt := top 35
theorem sc_code_of : FnScope ["many", "term"] ["many", "term"] (defScope s_code_of) := ⟨rfl, rfl, rfl, by decide +kernel, rfl, by decide +kernel, by decide +kernel⟩
abbrev s_numbers_of : Stmt := top 36
theorem sc_numbers_of : FnScope ["thing", "word", "size"] ["thing"] (defScope s_numbers_of) := ⟨rfl, rfl, rfl, by decide +kernel, rfl, by decide +kernel, by decide +kernel⟩
abbrev s_decoded : Stmt := top 37
theorem sc_decoded : FnScope ["code", "number", "bound", "thing", "word", "numbers", "terms", "here", "inner", "part", "found"] ["code", "number", "bound"] (defScope s_decoded) := ⟨rfl, rfl, rfl, by decide +kernel, rfl, by decide +kernel, by decide +kernel⟩
abbrev s_read_code : Stmt := top 38
theorem sc_read_code : FnScope ["many", "code", "kept", "found", "term", "thing"] ["many", "code"] (defScope s_read_code) := ⟨rfl, rfl, rfl, by decide +kernel, rfl, by decide +kernel, by decide +kernel⟩
abbrev s_need_code : Stmt := top 39
theorem sc_need_code : FnScope ["many", "code", "term"] ["many", "code"] (defScope s_need_code) := ⟨rfl, rfl, rfl, by decide +kernel, rfl, by decide +kernel, by decide +kernel⟩
abbrev s_term_of : Stmt := top 40
theorem sc_term_of : FnScope ["many", "code"] ["many", "code"] (defScope s_term_of) := ⟨rfl, rfl, rfl, by decide +kernel, rfl, by decide +kernel, by decide +kernel⟩
abbrev s_law_stream : Stmt := top 42
theorem sc_law_stream : FnScope ["script"] ["script"] (defScope s_law_stream) := ⟨rfl, rfl, rfl, by decide +kernel, rfl, by decide +kernel, by decide +kernel⟩
abbrev s_law_draw : Stmt := top 43
theorem sc_law_draw : FnScope ["stream", "many", "cell", "digit", "mixed"] ["stream", "many"] (defScope s_law_draw) := ⟨rfl, rfl, rfl, by decide +kernel, rfl, by decide +kernel, by decide +kernel⟩
abbrev s_law_pick : Stmt := top 44
theorem sc_law_pick : FnScope ["stream", "things"] ["stream", "things"] (defScope s_law_pick) := ⟨rfl, rfl, rfl, by decide +kernel, rfl, by decide +kernel, by decide +kernel⟩
abbrev s_law_same : Stmt := top 45
theorem sc_law_same : FnScope ["found", "due", "mine", "theirs"] ["found", "due"] (defScope s_law_same) := ⟨rfl, rfl, rfl, by decide +kernel, rfl, by decide +kernel, by decide +kernel⟩
abbrev s_law_copied : Stmt := top 46
theorem sc_law_copied : FnScope ["thing", "some", "key", "one"] ["thing"] (defScope s_law_copied) := ⟨rfl, rfl, rfl, by decide +kernel, rfl, by decide +kernel, by decide +kernel⟩
abbrev s_law_loose : Stmt := top 47
theorem sc_law_loose : FnScope ["stream", "thing", "some", "part"] ["stream", "thing"] (defScope s_law_loose) := ⟨rfl, rfl, rfl, by decide +kernel, rfl, by decide +kernel, by decide +kernel⟩
abbrev s_law_is_very : Stmt := top 48
theorem sc_law_is_very : FnScope ["word", "ask", "found", "odd"] ["word", "ask"] (defScope s_law_is_very) := ⟨rfl, rfl, rfl, by decide +kernel, rfl, by decide +kernel, by decide +kernel⟩
abbrev s_law_bound_name : Stmt := top 49
theorem sc_law_bound_name : FnScope ["stream", "names", "some", "name", "kind"] ["stream", "names"] (defScope s_law_bound_name) := ⟨rfl, rfl, rfl, by decide +kernel, rfl, by decide +kernel, by decide +kernel⟩
abbrev s_law_with : Stmt := top 50
theorem sc_law_with : FnScope ["names", "name", "kind", "pair"] ["names", "name", "kind"] (defScope s_law_with) := ⟨rfl, rfl, rfl, by decide +kernel, rfl, by decide +kernel, by decide +kernel⟩
abbrev s_law_called : Stmt := top 51
theorem sc_law_called : FnScope ["stream", "many", "names", "head", "kinds", "size", "found", "kind"] ["stream", "many", "names", "head", "kinds", "size"] (defScope s_law_called) := ⟨rfl, rfl, rfl, by decide +kernel, rfl, by decide +kernel, by decide +kernel⟩
abbrev s_law_heads : Stmt := top 52
theorem sc_law_heads : FnScope ["names", "kind", "found", "name", "other", "ahead"] ["names", "kind"] (defScope s_law_heads) := ⟨rfl, rfl, rfl, by decide +kernel, rfl, by decide +kernel, by decide +kernel⟩
abbrev s_law_small : Stmt := top 53
theorem sc_law_small : FnScope ["stream", "many", "names", "kind", "heads", "name", "pair"] ["stream", "many", "names", "kind"] (defScope s_law_small) := ⟨rfl, rfl, rfl, by decide +kernel, rfl, by decide +kernel, by decide +kernel⟩
abbrev s_law_term : Stmt := top 54
theorem sc_law_term : FnScope ["stream", "many", "names", "kind", "size", "heads", "way", "name", "kinds", "other", "inner", "rows", "k"] ["stream", "many", "names", "kind", "size"] (defScope s_law_term) := ⟨rfl, rfl, rfl, by decide +kernel, rfl, by decide +kernel, by decide +kernel⟩
abbrev s_law_parts : Stmt := top 55
theorem sc_law_parts : FnScope ["term"] ["term"] (defScope s_law_parts) := ⟨rfl, rfl, rfl, by decide +kernel, rfl, by decide +kernel, by decide +kernel⟩
abbrev s_law_size : Stmt := top 56
theorem sc_law_size : FnScope ["term", "part"] ["term"] (defScope s_law_size) := ⟨rfl, rfl, rfl, by decide +kernel, rfl, by decide +kernel, by decide +kernel⟩
abbrev s_law_free : Stmt := top 57
theorem sc_law_free : FnScope ["term", "found", "part", "name"] ["term"] (defScope s_law_free) := ⟨rfl, rfl, rfl, by decide +kernel, rfl, by decide +kernel, by decide +kernel⟩
abbrev s_law_type_in : Stmt := top 58
theorem sc_law_type_in : FnScope ["names", "term", "inner", "kinds", "part", "kind"] ["names", "term"] (defScope s_law_type_in) := ⟨rfl, rfl, rfl, by decide +kernel, rfl, by decide +kernel, by decide +kernel⟩
abbrev s_law_below : Stmt := top 59
theorem sc_law_below : FnScope ["one", "other", "mine", "theirs"] ["one", "other"] (defScope s_law_below) := ⟨rfl, rfl, rfl, by decide +kernel, rfl, by decide +kernel, by decide +kernel⟩
abbrev s_law_all : Stmt := top 60
theorem sc_law_all : FnScope ["book", "many", "kind", "found", "ins", "outs", "at", "one", "under", "over", "further", "table", "out", "k"] ["book", "many", "kind"] (defScope s_law_all) := ⟨rfl, rfl, rfl, by decide +kernel, rfl, by decide +kernel, by decide +kernel⟩
abbrev s_law_s_is_kind : Stmt := top 61
theorem sc_law_s_is_kind : FnScope ["thing", "part"] ["thing"] (defScope s_law_s_is_kind) := ⟨rfl, rfl, rfl, by decide +kernel, rfl, by decide +kernel, by decide +kernel⟩
abbrev s_law_s_is_name : Stmt := top 62
theorem sc_law_s_is_name : FnScope ["thing", "sign"] ["thing"] (defScope s_law_s_is_name) := ⟨rfl, rfl, rfl, by decide +kernel, rfl, by decide +kernel, by decide +kernel⟩
abbrev s_law_s_is_term : Stmt := top 63
theorem sc_law_s_is_term : FnScope ["many", "thing", "word", "size", "part"] ["many", "thing"] (defScope s_law_s_is_term) := ⟨rfl, rfl, rfl, by decide +kernel, rfl, by decide +kernel, by decide +kernel⟩
abbrev s_law_s_is_closed : Stmt := top 64
theorem sc_law_s_is_closed : FnScope ["many", "kind", "thing"] ["many", "kind", "thing"] (defScope s_law_s_is_closed) := ⟨rfl, rfl, rfl, by decide +kernel, rfl, by decide +kernel, by decide +kernel⟩
abbrev s_law_s_fit_kind : Stmt := top 65
theorem sc_law_s_fit_kind : FnScope ["book", "many", "kind", "outs", "found", "one", "part"] ["book", "many", "kind"] (defScope s_law_s_fit_kind) := ⟨rfl, rfl, rfl, by decide +kernel, rfl, by decide +kernel, by decide +kernel⟩
abbrev s_law_s_fits : Stmt := top 66
theorem sc_law_s_fits : FnScope ["book", "many", "names", "term", "kind", "lots", "name", "inner", "part"] ["book", "many", "names", "term"] (defScope s_law_s_fits) := ⟨rfl, rfl, rfl, by decide +kernel, rfl, by decide +kernel, by decide +kernel⟩
abbrev s_law_s_term : Stmt := top 67
theorem sc_law_s_term : FnScope ["stream", "book", "many", "names", "kind", "size", "turn", "found"] ["stream", "book", "many", "names", "kind", "size"] (defScope s_law_s_term) := ⟨rfl, rfl, rfl, by decide +kernel, rfl, by decide +kernel, by decide +kernel⟩
abbrev s_law_s_never : Stmt := top 68
theorem sc_law_s_never : FnScope ["kind"] ["kind"] (defScope s_law_s_never) := ⟨rfl, rfl, rfl, by decide +kernel, rfl, by decide +kernel, by decide +kernel⟩
abbrev s_law_met : Stmt := top 69
theorem sc_law_met : FnScope ["ask", "e"] ["ask"] (defScope s_law_met) := ⟨rfl, rfl, rfl, by decide +kernel, rfl, by decide +kernel, by decide +kernel⟩
abbrev s_law_put_code : Stmt := top 70
theorem sc_law_put_code : FnScope ["term", "bound", "code", "number", "inner", "numbers", "part"] ["term", "bound", "code"] (defScope s_law_put_code) := ⟨rfl, rfl, rfl, by decide +kernel, rfl, by decide +kernel, by decide +kernel⟩
abbrev s_law_bent : Stmt := top 71
theorem sc_law_bent : FnScope ["stream", "code", "at", "way", "odds", "row", "place"] ["stream", "code"] (defScope s_law_bent) := ⟨rfl, rfl, rfl, by decide +kernel, rfl, by decide +kernel, by decide +kernel⟩
abbrev s_law_tupled : Stmt := top 72
theorem sc_law_tupled : FnScope ["thing", "part"] ["thing"] (defScope s_law_tupled) := ⟨rfl, rfl, rfl, by decide +kernel, rfl, by decide +kernel, by decide +kernel⟩
abbrev s_law_is_of : Stmt := top 73
theorem sc_law_is_of : FnScope ["many", "thing", "others"] ["many", "thing", "others"] (defScope s_law_is_of) := ⟨rfl, rfl, rfl, by decide +kernel, rfl, by decide +kernel, by decide +kernel⟩
abbrev s_law_code : Stmt := top 74
theorem sc_law_code : FnScope ["term", "code"] ["term"] (defScope s_law_code) := ⟨rfl, rfl, rfl, by decide +kernel, rfl, by decide +kernel, by decide +kernel⟩
abbrev s_law : Stmt := top 75
theorem sc_law : FnScope ["script", "stream", "book", "turn", "term", "due", "handed", "was", "found", "some", "kept", "met", "many", "odd", "shared", "at"] ["script"] (defScope s_law) := ⟨rfl, rfl, rfl, by decide +kernel, rfl, by decide +kernel, by decide +kernel⟩
/-- a def of the top as it stands -/
structure Df (K : PySem.W.Frag) (mg : Str → Option Value) (x : Str) (st : Stmt) (ps : List Str) where
  f : Addr
  fd : FuncData
  F : Fun K x x st f fd
  m : mg x = some (.ref f)
  b : Binds K fd ps []
/-- what the top has written -/
structure Txt (K : PySem.W.Frag) (mg : Str → Option Value) where
  is_list : Df K mg "is_list" s_is_list ["thing"]
  is_whole : Df K mg "is_whole" s_is_whole ["thing"]
  is_number : Df K mg "is_number" s_is_number ["thing"]
  is_below : Df K mg "is_below" s_is_below ["thing", "most"]
  is_row : Df K mg "is_row" s_is_row ["thing", "many"]
  as_tuples : Df K mg "as_tuples" s_as_tuples ["thing"]
  is_type : Df K mg "is_type" s_is_type ["thing"]
  kept_type : Df K mg "kept_type" s_kept_type ["thing"]
  is_many : Df K mg "is_many" s_is_many ["thing"]
  check_many : Df K mg "check_many" s_check_many ["many"]
  is_name : Df K mg "is_name" s_is_name ["thing"]
  kept_all : Df K mg "kept_all" s_kept_all ["many", "things"]
  kept_binder : Df K mg "kept_binder" s_kept_binder ["many", "thing"]
  kept_case : Df K mg "kept_case" s_kept_case ["many", "thing"]
  kept_term : Df K mg "kept_term" s_kept_term ["many", "thing"]
  own_parts : Df K mg "own_parts" s_own_parts ["term"]
  joined_type : Df K mg "joined_type" s_joined_type ["term", "kinds", "names"]
  type_within : Df K mg "type_within" s_type_within ["names", "term", "path", "found"]
  own_type : Df K mg "own_type" s_own_type ["names", "term"]
  base_term : Df K mg "base_term" s_base_term ["many", "thing"]
  put_code : Df K mg "put_code" s_put_code ["term", "bound", "code"]
  own_code : Df K mg "own_code" s_own_code ["term"]
  code_of : Df K mg "code_of" s_code_of ["many", "term"]
  numbers_of : Df K mg "numbers_of" s_numbers_of ["thing"]
  decoded : Df K mg "decoded" s_decoded ["code", "number", "bound"]
  read_code : Df K mg "read_code" s_read_code ["many", "code"]
  need_code : Df K mg "need_code" s_need_code ["many", "code"]
  term_of : Df K mg "term_of" s_term_of ["many", "code"]
  law_stream : Df K mg "_law_stream" s_law_stream ["script"]
  law_draw : Df K mg "_law_draw" s_law_draw ["stream", "many"]
  law_pick : Df K mg "_law_pick" s_law_pick ["stream", "things"]
  law_same : Df K mg "_law_same" s_law_same ["found", "due"]
  law_copied : Df K mg "_law_copied" s_law_copied ["thing"]
  law_loose : Df K mg "_law_loose" s_law_loose ["stream", "thing"]
  law_is_very : Df K mg "_law_is_very" s_law_is_very ["word", "ask"]
  law_bound_name : Df K mg "_law_bound_name" s_law_bound_name ["stream", "names"]
  law_with : Df K mg "_law_with" s_law_with ["names", "name", "kind"]
  law_called : Df K mg "_law_called" s_law_called ["stream", "many", "names", "head", "kinds", "size"]
  law_heads : Df K mg "_law_heads" s_law_heads ["names", "kind"]
  law_small : Df K mg "_law_small" s_law_small ["stream", "many", "names", "kind"]
  law_term : Df K mg "_law_term" s_law_term ["stream", "many", "names", "kind", "size"]
  law_parts : Df K mg "_law_parts" s_law_parts ["term"]
  law_size : Df K mg "_law_size" s_law_size ["term"]
  law_free : Df K mg "_law_free" s_law_free ["term"]
  law_type_in : Df K mg "_law_type_in" s_law_type_in ["names", "term"]
  law_below : Df K mg "_law_below" s_law_below ["one", "other"]
  law_all : Df K mg "_law_all" s_law_all ["book", "many", "kind"]
  law_s_is_kind : Df K mg "_law_s_is_kind" s_law_s_is_kind ["thing"]
  law_s_is_name : Df K mg "_law_s_is_name" s_law_s_is_name ["thing"]
  law_s_is_term : Df K mg "_law_s_is_term" s_law_s_is_term ["many", "thing"]
  law_s_is_closed : Df K mg "_law_s_is_closed" s_law_s_is_closed ["many", "kind", "thing"]
  law_s_fit_kind : Df K mg "_law_s_fit_kind" s_law_s_fit_kind ["book", "many", "kind"]
  law_s_fits : Df K mg "_law_s_fits" s_law_s_fits ["book", "many", "names", "term"]
  law_s_term : Df K mg "_law_s_term" s_law_s_term ["stream", "book", "many", "names", "kind", "size"]
  law_s_never : Df K mg "_law_s_never" s_law_s_never ["kind"]
  law_met : Df K mg "_law_met" s_law_met ["ask"]
  law_put_code : Df K mg "_law_put_code" s_law_put_code ["term", "bound", "code"]
  law_bent : Df K mg "_law_bent" s_law_bent ["stream", "code"]
  law_tupled : Df K mg "_law_tupled" s_law_tupled ["thing"]
  law_is_of : Df K mg "_law_is_of" s_law_is_of ["many", "thing", "others"]
  law_code : Df K mg "_law_code" s_law_code ["term"]
  z_isinstance : mg "isinstance" = none
  z_int : mg "int" = none
  z_bool : mg "bool" = none
  z_str : mg "str" = none
  z_list : mg "list" = none
  z_tuple : mg "tuple" = none
  z_dict : mg "dict" = none
  z_len : mg "len" = none
  z_all : mg "all" = none
  z_enumerate : mg "enumerate" = none
  z_range : mg "range" = none
  z_zip : mg "zip" = none
  z_abs : mg "abs" = none
  z_max : mg "max" = none
  z_min : mg "min" = none
  z_sum : mg "sum" = none
  z_sorted : mg "sorted" = none
  tS : Tok
  m_SMALL : mg "SMALL" = some (.str "abcdefghijklmnopqrstuvwxyz" tS)
  aB : Addr
  m_BINDS : mg "BINDS" = some (.ref aB)
  q_BINDS : ∀ H : Hp, SqT K H aB [.str "fun", .str "fix"]
theorem Txt.r_SMALL {K : PySem.W.Frag} {mg : Str → Option Value} (T : Txt K mg) : RelV (.str "abcdefghijklmnopqrstuvwxyz") (.str "abcdefghijklmnopqrstuvwxyz" T.tS) := ⟨_, rfl⟩
theorem Txt.r_BINDS {K : PySem.W.Frag} {mg : Str → Option Value} (T : Txt K mg) : RelV (.ref T.aB) (.ref T.aB) := rfl
theorem Txt.p_BINDS {K : PySem.W.Frag} {mg : Str → Option Value} (T : Txt K mg) (G : Hp) : Rp K G (.ref T.aB) (.tuple [.str "fun", .str "fix"]) := .tup (T.q_BINDS G) (.cons (.str _) (.cons (.str _) .nil))
end K82

set_option Elab.async false
set_option linter.all false
set_option maxRecDepth 100000
set_option maxHeartbeats 4000000
/-! Walks, comprehensions, loops, local lists, told in data. -/
namespace K82
open PySem L2
section
variable {X : Cx}
def rInL (K : PySem.W.Frag) (neg : Bool) : R2 := fun x y H Q => rIn K neg x y H Q ∨ (if neg then rNotInD K x y H Q else rInD K x y H Q)
theorem op_inL (hu : X.A.units + 65 < cLine) : OpR X (compareOp .In) (rInL X.K false) := by
  have z : rInL X.K false = fun x y H Q => rIn X.K false x y H Q ∨ rInD X.K x y H Q := by
    funext x y H Q
    simp [rInL]
  rw [z]
  exact OpR.or op_in_seq (op_inD hu)
theorem op_notInL (hu : X.A.units + 65 < cLine) : OpR X (compareOp .NotIn) (rInL X.K true) := by
  have z : rInL X.K true = fun x y H Q => rIn X.K true x y H Q ∨ rNotInD X.K x y H Q := by
    funext x y H Q
    simp [rInL]
  rw [z]
  exact OpR.or op_notIn_seq (op_notInD hu)
def rInSg : R2 := fun x y H Q => ∃ (c : Nat) (z : Str), x = .str ⟨#[c]⟩ ∧ y = .str z ∧ Q (.bl (decide (c ∈ z.cps.toList))) H
theorem op_inSg : OpR X (compareOp .In) rInSg := op_in_sign
theorem PG.or {tg : Expr} {g g' : TG} (h : PG X tg g) (h' : PG X tg g') : PG X tg (fun v σ H Q => g v σ H Q ∨ g' v σ H Q) := ⟨fun pins s σ H v u Q I r q =>
  q.elim (h.run pins s σ H v u Q I r) (h'.run pins s σ H v u Q I r)⟩
def gRow (K : PySem.W.Frag) (n : Nat) (t : TGs) : TG := fun v σ H Q => gTup K n t v σ H Q ∨ gUnl K n t v σ H Q
theorem pg_row {es : List Expr} {k : Nat} {t : TGs} {n : Nat} {pos : Pos} (hc : X.calm = true) (h : PGs X es t)
    (hn : (assignEach es X.env).length = n := by rfl) (hst : (assignEach es X.env).findIdx? (·.1) = none := by rfl) : PG X (.Tuple es k pos) (gRow X.K n t) := PG.or (pg_tup hc h hn hst) (pg_unl hc h hn hst)
end
section
variable {K : PySem.W.Frag} {σ : L2.St} {G H G1 H1 : Hp} {te ta tb tc : TE} {tt tu : TT} {d d' r : PyData} {ds es : List PyData} {v : V} {i j : Nat} {b c : Bool}
/-! ### in -/
theorem inV_str {x : Str} : ∀ {xs : List Str} {vs : List V}, RpAll K G vs (xs.map .str) → vs.all flatV = true ∧ inV (.str x) vs = xs.any fun y => y == x
  | [], _, h => by
    cases h
    exact ⟨rfl, rfl⟩
  | y :: ys, v :: vs, .cons h1 h2 => by
    cases h1
    obtain ⟨z1, z2⟩ := inV_str (x := x) h2
    refine ⟨by simpa [flatV] using z1, ?_⟩
    have z : inV (.str x) (V.str y :: vs) = (eqV (.str y) (.str x) || inV (.str x) vs) := rfl
    rw [z, z2]
    rfl
theorem dv_in {rr : R2} {x : Str} {xs : List Str} {neg : Bool} (ha : Dv K ta σ G H (.str x)) (hb : Dv K tb σ G H r) (hr : rowOf r = some (xs.map .str)) (hi : ∀ a b H Q, rIn K neg a b H Q → rr a b H Q) : Dv K (tOp rr ta tb) σ G H (.bool (if neg then !(xs.any fun y => y == x) else xs.any fun y => y == x)) := dv_op ha hb fun x' y G1 H1 e qx qy Q k => by
  cases qx
  obtain ⟨a, vs, rfl, ra, q⟩ := qy.row e.gh hr
  obtain ⟨z1, z2⟩ := inV_str (x := x) ra
  refine hi _ _ _ _ ⟨a, vs, rfl, q.elim (fun z => .inl z.2.1) (fun z => .inr z.2), rfl, z1, ?_⟩
  rw [z2]
  exact k _ G1 H1 (Ext.refl e.gh) (.bl _)
theorem dv_inT {x : Str} {xs : List Str} (ha : Dv K ta σ G H (.str x)) (hb : Dv K tb σ G H r) (hr : rowOf r = some (xs.map .str)) : Dv K (tOp (rInL K false) ta tb) σ G H (.bool (xs.any fun y => y == x)) := dv_in (neg := false) ha hb hr fun _ _ _ _ z => .inl z
theorem dv_ninT {x : Str} {xs : List Str} (ha : Dv K ta σ G H (.str x)) (hb : Dv K tb σ G H r) (hr : rowOf r = some (xs.map .str)) : Dv K (tOp (rInL K true) ta tb) σ G H (.bool (!xs.any fun y => y == x)) := dv_in (neg := true) ha hb hr fun _ _ _ _ z => .inl z
theorem dv_inD (ha : Dv K ta σ G H d) (hb : Dv K tb σ G H (.list ds)) (h1 : noD d = true) (h2 : noDs ds = true) (h3 : SeqAt.shaped d = true) (h4 : SeqAt.shaped (.list ds) = true) : Dv K (tOp (rInL K false) ta tb) σ G H (.bool (ds.any fun z => PyData.eqv z d)) := dv_op ha hb fun x y G1 H1 e qx qy Q k =>
  .inr (by
    show (if false = true then _ else rInD K x y H1 Q)
    rw [if_neg Bool.false_ne_true]
    exact ⟨d, ds, Rp.dp e.gh d x qx h1, Rp.dp e.gh _ y qy (by simpa [noD] using h2), h3, h4, k _ G1 H1 (Ext.refl e.gh) (.bl _)⟩)
theorem dv_inSg {c : Nat} {z : Str} (ha : Dv K ta σ G H (.str ⟨#[c]⟩)) (hb : Dv K tb σ G H (.str z)) : Dv K (tOp rInSg ta tb) σ G H (.bool (decide (c ∈ z.cps.toList))) := dv_op ha hb fun x y G1 H1 e qx qy Q k => by
  cases qx
  cases qy
  exact ⟨c, z, rfl, rfl, k _ G1 H1 (Ext.refl e.gh) (.bl _)⟩
/-! ### what is walked -/
structure Walks (K : PySem.W.Frag) (J : It) (G : Hp) (ds : List PyData) : Prop where
  go : ∀ i G1 H1, Same G G1 → Same G1 H1 → i < ds.length → J.go i H1
  stop : ∀ G1 H1, Same G G1 → Same G1 H1 → J.stop ds.length H1
  yld : ∀ i d G1 H1 x H2, Same G G1 → Same G1 H1 → ds[i]? = some d → J.yld i H1 x H2 → ∃ G2, Ext G1 H1 G2 H2 ∧ Rp K G2 x d
def DvI (K : PySem.W.Frag) (wi : TI) (σ : L2.St) (G H : Hp) (ds : List PyData) : Prop := ∀ G1 H1, Up G G1 H1 → ∀ R : It → Hp → Prop, (∀ J G2 H2, Ext G1 H1 G2 H2 → Walks K J G2 ds → R J H2) → wi σ H1 R
theorem lt_get {α : Type} {l : List α} {n : Nat} (h : n < l.length) : ∃ x, l[n]? = some x := ⟨l[n], List.getElem?_eq_getElem h⟩
theorem walks_l {a : Addr} {xs : List V} (h : G a = some (.lst xs)) (q : RpAll K G xs ds) : Walks K (Itl K a) G ds where
  go := fun i G1 H1 e1 e2 hi => by
    obtain ⟨x, hx⟩ := lt_get (l := xs) (by rw [q.length]; exact hi)
    exact ⟨xs, x, SqL.of (e2 _ _ (e1 _ _ h)), hx⟩
  stop := fun G1 H1 e1 e2 => ⟨xs, SqL.of (e2 _ _ (e1 _ _ h)), Nat.le_of_eq q.length⟩
  yld := fun i d G1 H1 x H2 e1 e2 hd y => by
    obtain ⟨rfl, y⟩ := y
    obtain ⟨v, h1, h2⟩ := q.get hd
    have z := y xs (SqL.of (e2 _ _ (e1 _ _ h)))
    rw [h1] at z
    cases z
    exact ⟨G1, Ext.refl e2, Rp.mono e1 d _ h2⟩
theorem walks_t {a : Addr} {xs : List V} (h : SqT K G a xs) (q : RpAll K G xs ds) : Walks K (Itt K a) G ds where
  go := fun i G1 H1 e1 e2 hi => by
    obtain ⟨x, hx⟩ := lt_get (l := xs) (by rw [q.length]; exact hi)
    exact ⟨xs, x, Same.sqt e2 (Same.sqt e1 h), hx⟩
  stop := fun G1 H1 e1 e2 => ⟨xs, Same.sqt e2 (Same.sqt e1 h), Nat.le_of_eq q.length⟩
  yld := fun i d G1 H1 x H2 e1 e2 hd y => by
    obtain ⟨rfl, y⟩ := y
    obtain ⟨v, h1, h2⟩ := q.get hd
    have z := y xs (Same.sqt e2 (Same.sqt e1 h))
    rw [h1] at z
    cases z
    exact ⟨G1, Ext.refl e2, Rp.mono e1 d _ h2⟩
theorem dvi_row {tx : TE} (hx : Dv K tx σ G H r) (hr : rowOf r = some ds) : DvI K (iRow K tx) σ G H ds := fun G1 H1 e R k => by
  rcases rowOf_cases hr with q | q
  · subst q
    exact .inl (hx G1 H1 e _ fun v G2 H2 e2 q => by
      cases q with
      | lst h1 h2 => exact ⟨_, rfl, ⟨_, SqL.of (e2.gh _ _ h1)⟩, k _ G2 H2 e2 (walks_l h1 h2)⟩)
  · subst q
    exact .inr (hx G1 H1 e _ fun v G2 H2 e2 q => by
      cases q with
      | tup h1 h2 => exact ⟨_, rfl, ⟨_, Same.sqt e2.gh h1⟩, k _ G2 H2 e2 (walks_t h1 h2)⟩)
def sgs (x : Str) : List PyData := x.cps.toList.map fun c => .str ⟨#[c]⟩
theorem dvi_str {tx : TE} {x : Str} (hx : Dv K tx σ G H (.str x)) : DvI K (iStr tx) σ G H (sgs x) := fun G1 H1 e R k => hx G1 H1 e _ fun v G2 H2 e2 q => by
  cases q
  have hl : (sgs x).length = x.cps.size := by simp [sgs]
  refine ⟨x, rfl, k _ G2 H2 e2 ⟨fun i G1 H1 _ _ hi => by rw [hl] at hi; exact hi, fun G1 H1 _ _ => Nat.le_of_eq hl.symm, fun i d G1 H1 y H2 _ e2 hd y => ?_⟩⟩
  obtain ⟨rfl, c, h1, rfl⟩ := y
  refine ⟨G1, Ext.refl e2, ?_⟩
  have z : (sgs x)[i]? = some (.str ⟨#[c]⟩) := by
    unfold sgs
    rw [List.getElem?_map]
    have : x.cps.toList[i]? = some c := by simpa using h1
    rw [this]
    rfl
  rw [z] at hd
  cases hd
  exact .str _
def rints (lo : Int) (n : Nat) : List PyData := (List.range n).map fun (k : Nat) => .int (lo + ((k : Nat) : Int))
theorem walks_r {lo : Int} {n : Nat} : Walks K (Itr lo n) G (rints lo n) := by
  have hl : (rints lo n).length = n := by simp [rints]
  refine ⟨fun i G1 H1 _ _ hi => by rw [hl] at hi; exact hi, fun G1 H1 _ _ => Nat.le_of_eq hl.symm, fun i d G1 H1 x H2 _ e2 hd y => ?_⟩
  obtain ⟨rfl, rfl⟩ := y
  refine ⟨G1, Ext.refl e2, ?_⟩
  unfold rints at hd
  rw [List.getElem?_map] at hd
  cases q : (List.range n)[i]? with
  | none =>
    rw [q] at hd
    cases hd
  | some k =>
    have hk : k = i := by
      have := List.getElem?_eq_some_iff.mp q
      obtain ⟨h1, h2⟩ := this
      simpa using h2.symm
    rw [q, hk] at hd
    cases hd
    exact .int _
theorem dvi_range1 {n : Nat} (hx : Dv K te σ G H (.int n)) (hn : (n : Int) < 2 ^ 62) : DvI K (iRng1 (tCons te tNil)) σ G H (rints 0 n) := fun G1 H1 e R k => hx G1 H1 e _ fun v G2 H2 e2 q => by
  cases q
  refine ⟨(n : Int), rfl, by omega, hn, ?_⟩
  rw [Int.toNat_natCast]
  exact k _ G2 H2 e2 walks_r
def zips (xs ys : List PyData) : List PyData := (xs.zip ys).map fun p => .tuple [p.1, p.2]
theorem zips_get {xs ys : List PyData} {d : PyData} (h : (zips xs ys)[i]? = some d) : ∃ x y, xs[i]? = some x ∧ ys[i]? = some y ∧ d = .tuple [x, y] := by
  unfold zips at h
  rw [List.getElem?_map] at h
  cases q : (xs.zip ys)[i]? with
  | none =>
    rw [q] at h
    cases h
  | some p =>
    rw [q] at h
    cases h
    have := List.getElem?_zip_eq_some.mp q
    exact ⟨p.1, p.2, this.1, this.2, rfl⟩
theorem dvi_zip {xs ys : List PyData} {r r' : PyData} (hx : Dv K ta σ G H r) (hy : Dv K tb σ G H r') (hr : (r = .list xs ∧ r' = .list ys) ∨ (r = .tuple xs ∧ r' = .tuple ys)) (hl : xs.length = ys.length) : DvI K (RZ.iZipA K (tCons ta (tCons tb tNil))) σ G H (zips xs ys) := fun G1 H1 e R k =>
  hx G1 H1 e _ fun x G2 H2 e2 qx => hy G2 H2 (e.trans e2) _ fun y G3 H3 e3 qy => by
    have qx' := e3.rp qx
    have hz : (zips xs ys).length = xs.length := by simp [zips, hl]
    rcases hr with ⟨rfl, rfl⟩ | ⟨rfl, rfl⟩
    · cases qx' with
      | lst h1 r1 =>
        cases qy with
        | lst h2 r2 =>
          refine ⟨_, _, _, _, rfl, .inl ⟨SqL.of (e3.gh _ _ h1), SqL.of (e3.gh _ _ h2), k _ G3 H3 (e2.trans e3) ⟨fun i G4 H4 a1 a2 hi => ?_, fun G4 H4 a1 a2 => ?_, fun i d G4 H4 z H5 a1 a2 hd y => ?_⟩⟩⟩
          · obtain ⟨u, hu⟩ := lt_get (l := _) (n := i) (by rw [r1.length, ← hz]; exact hi)
            obtain ⟨w, hw⟩ := lt_get (l := _) (n := i) (by rw [r2.length, ← hl, ← hz]; exact hi)
            exact ⟨_, _, u, w, SqL.of (a2 _ _ (a1 _ _ h1)), SqL.of (a2 _ _ (a1 _ _ h2)), hu, hw⟩
          · exact ⟨_, _, SqL.of (a2 _ _ (a1 _ _ h1)), SqL.of (a2 _ _ (a1 _ _ h2)), .inl (by rw [r1.length, hz]; exact Nat.le_refl _)⟩
          · obtain ⟨T, u, w, rfl, hT, rfl, y1, y2⟩ := y
            obtain ⟨dx, dy, z1, z2, rfl⟩ := zips_get hd
            obtain ⟨u', u1, u2⟩ := r1.get z1
            obtain ⟨w', w1, w2⟩ := r2.get z2
            have b1 := y1 _ (SqL.of (a2 _ _ (a1 _ _ h1)))
            have b2 := y2 _ (SqL.of (a2 _ _ (a1 _ _ h2)))
            rw [u1] at b1
            rw [w1] at b2
            cases b1
            cases b2
            have hs := same_upd (Same.none a2 hT) (.tup [u, w])
            exact ⟨_, (Ext.refl a2).alloc hT _, .tup (.inl (.inl upd_same)) (.cons (Rp.mono (a1.trans hs) _ _ u2) (.cons (Rp.mono (a1.trans hs) _ _ w2) .nil))⟩
    · cases qx' with
      | tup h1 r1 =>
        cases qy with
        | tup h2 r2 =>
          refine ⟨_, _, _, _, rfl, .inr ⟨Same.sqt e3.gh h1, Same.sqt e3.gh h2, k _ G3 H3 (e2.trans e3) ⟨fun i G4 H4 a1 a2 hi => ?_, fun G4 H4 a1 a2 => ?_, fun i d G4 H4 z H5 a1 a2 hd y => ?_⟩⟩⟩
          · obtain ⟨u, hu⟩ := lt_get (l := _) (n := i) (by rw [r1.length, ← hz]; exact hi)
            obtain ⟨w, hw⟩ := lt_get (l := _) (n := i) (by rw [r2.length, ← hl, ← hz]; exact hi)
            exact ⟨_, _, u, w, Same.sqt (a1.trans a2) h1, Same.sqt (a1.trans a2) h2, hu, hw⟩
          · exact ⟨_, _, Same.sqt (a1.trans a2) h1, Same.sqt (a1.trans a2) h2, .inl (by rw [r1.length, hz]; exact Nat.le_refl _)⟩
          · obtain ⟨T, u, w, rfl, hT, rfl, y1, y2⟩ := y
            obtain ⟨dx, dy, z1, z2, rfl⟩ := zips_get hd
            obtain ⟨u', u1, u2⟩ := r1.get z1
            obtain ⟨w', w1, w2⟩ := r2.get z2
            have b1 := y1 _ (Same.sqt (a1.trans a2) h1)
            have b2 := y2 _ (Same.sqt (a1.trans a2) h2)
            rw [u1] at b1
            rw [w1] at b2
            cases b1
            cases b2
            have hs := same_upd (Same.none a2 hT) (.tup [u, w])
            exact ⟨_, (Ext.refl a2).alloc hT _, .tup (.inl (.inl upd_same)) (.cons (Rp.mono (a1.trans hs) _ _ u2) (.cons (Rp.mono (a1.trans hs) _ _ w2) .nil))⟩
def enums : Nat → List PyData → List PyData
  | _, [] => []
  | k, d :: ds => .tuple [.int k, d] :: enums (k + 1) ds
theorem enums_length : ∀ (k : Nat) (ds : List PyData), (enums k ds).length = ds.length
  | _, [] => rfl
  | k, d :: ds => by rw [enums, List.length_cons, List.length_cons, enums_length]
theorem enums_get : ∀ {k i : Nat} {ds : List PyData} {d : PyData}, (enums k ds)[i]? = some d → ∃ x, ds[i]? = some x ∧ d = .tuple [.int ((k + i : Nat) : Int), x]
  | k, i, [], d, h => by simp [enums] at h
  | k, 0, x :: ds, d, h => by
    rw [enums] at h
    cases (Option.some.inj h)
    exact ⟨x, rfl, rfl⟩
  | k, i + 1, x :: ds, d, h => by
    rw [enums] at h
    obtain ⟨y, h1, h2⟩ := enums_get (k := k + 1) (i := i) (ds := ds) (d := d) (by simpa using h)
    exact ⟨y, by simpa using h1, by rw [h2, show k + 1 + i = k + (i + 1) by omega]⟩
theorem dvi_enum {xs : List PyData} (hx : Dv K ta σ G H (.list xs)) : DvI K (iEnum K (tCons ta tNil)) σ G H (enums 0 xs) := fun G1 H1 e R k =>
  hx G1 H1 e _ fun x G2 H2 e2 qx => by
    have hz := enums_length 0 xs
    cases qx with
    | lst h1 r1 =>
      refine ⟨_, _, rfl, SqL.of (e2.gh _ _ h1), k _ G2 H2 e2 ⟨fun i G4 H4 a1 a2 hi => ?_, fun G4 H4 a1 a2 => ?_, fun i d G4 H4 z H5 a1 a2 hd y => ?_⟩⟩
      · obtain ⟨u, hu⟩ := lt_get (l := _) (n := i) (by rw [r1.length, ← hz]; exact hi)
        exact ⟨_, u, SqL.of (a2 _ _ (a1 _ _ h1)), hu⟩
      · exact ⟨_, SqL.of (a2 _ _ (a1 _ _ h1)), by rw [r1.length, hz]; exact Nat.le_refl _⟩
      · obtain ⟨T, u, rfl, hT, rfl, y1⟩ := y
        obtain ⟨dx, z1, rfl⟩ := enums_get hd
        obtain ⟨u', u1, u2⟩ := r1.get z1
        have b1 := y1 _ (SqL.of (a2 _ _ (a1 _ _ h1)))
        rw [u1] at b1
        cases b1
        have hs := same_upd (Same.none a2 hT) (.tup [.int ((i : Nat) : Int), u])
        refine ⟨_, (Ext.refl a2).alloc hT _, .tup (.inl (.inl upd_same)) (.cons ?_ (.cons (Rp.mono (a1.trans hs) _ _ u2) .nil))⟩
        rw [Nat.zero_add]
        exact .int _
/-! ### comprehensions -/
theorem filter_map_snoc {α β : Type} {p : α → Bool} {f : α → β} {l : List α} {k : Nat} {x : α} (h : l[k]? = some x) : ((l.take (k + 1)).filter p).map f = ((l.take k).filter p).map f ++ (if p x then [f x] else []) := by
  have z : l.take (k + 1) = l.take k ++ [x] := by
    obtain ⟨h1, h2⟩ := List.getElem?_eq_some_iff.mp h
    rw [← h2, List.take_append_getElem]
  rw [z, List.filter_append, List.map_append]
  cases q : p x <;> simp [q]
theorem dv_lcG {wi : TI} {g : TG} {vs : List Nat} {p : PyData → Bool} {f : PyData → PyData} {B : PyData → L2.St → Hp → Prop} (hw : DvI K wi σ G H ds) (hz : ds.length < 100000)
    (hg : ∀ d ∈ ds, ∀ x G1 H1 (Q : L2.St → Hp → Prop), Up G G1 H1 → Rp K G1 x d → (∀ σ2, wipe σ2 vs = wipe σ vs → B d σ2 G1 → Q σ2 H1) → g x (wipe σ vs) H1 Q)
    (ht : ∀ d ∈ ds, ∀ σ2 G1 H1, Up G G1 H1 → B d σ2 G1 → DvT tt σ2 G1 H1 (p d)) (he : ∀ d ∈ ds, p d = true → ∀ σ2 G1 H1, Up G G1 H1 → B d σ2 G1 → Dv K te σ2 G1 H1 (f d)) :
    Dv K (tLc wi g tt te vs) σ G H (.list ((ds.filter p).map f)) := fun G0 H0 e0 Q k => hw G0 H0 e0 _ fun J G1 H1 e1 W D hD => by
  have e01 := e0.trans e1
  have gD : G1 D = none := Same.none e1.gh hD
  refine ⟨fun i m Hc => m = ds.length - i ∧ i ≤ ds.length ∧ ∃ Gc acc, Ext G1 H1 Gc Hc ∧ Gc D = none ∧ Hc D = some (.lst acc) ∧ RpAll K Gc acc (((ds.take i).filter p).map f), ⟨ds.length, by simp, Nat.zero_le _, G1, [], (Ext.refl e1.gh).allocM hD _, gD, upd_same, by simpa using RpAll.nil⟩, ?_⟩
  rintro i m Hc ⟨rfl, hi, Gc, acc, ec, gc, hc, rc⟩
  by_cases hlt : i < ds.length
  · obtain ⟨d, hd⟩ := lt_get hlt
    have hm : d ∈ ds := List.mem_of_getElem? hd
    refine .inr ⟨W.go i Gc Hc ec.gg ec.gh hlt, fun H' => i + 1 ≤ ds.length ∧ ∃ Gc acc, Ext G1 H1 Gc H' ∧ Gc D = none ∧ H' D = some (.lst acc) ∧ RpAll K Gc acc (((ds.take (i + 1)).filter p).map f), fun H' z => ⟨ds.length - (i + 1), by omega, rfl, z⟩, fun x Hy y => ?_⟩
    obtain ⟨Gy, ey, ry⟩ := W.yld i d Gc Hc x Hy ec.gg ec.gh hd y
    have ecy := ec.trans ey
    have e0y := e01.trans ecy
    refine hg d hm x Gy Hy _ e0y ry fun σ2 hw2 hB => ⟨hw2, ?_⟩
    refine ht d hm σ2 Gy Hy e0y hB Gy Hy (Up.refl ey.gh) _ fun Gt Ht et => ?_
    have hDy : Hc D ≠ none := by
      rw [hc]
      simp
    have ecyt := ecy.trans et
    have gt : Gt D = none := by
      have z := ey.loose gc hDy
      refine et.loose z ?_
      rw [ey.hh _ _ hc]
      simp
    have hDt : Ht D = some (.lst acc) := et.hh _ _ (ey.hh _ _ hc)
    cases hp : p d with
    | false =>
      refine iteF ⟨hlt, Gt, acc, ecyt, gt, hDt, ?_⟩
      rw [filter_map_snoc hd, hp]
      simpa using (ey.trans et).rpa rc
    | true =>
      refine iteT ((he d hm hp σ2 Gy Hy e0y hB).mono et.up Gt Ht (Up.refl et.gh) _ fun y Ge He ee re => ?_)
      have hDe : He D = some (.lst acc) := ee.hh _ _ hDt
      have ge : Ge D = none := ee.loose gt (by rw [hDt]; simp)
      have rc' := ((ey.trans et).trans ee).rpa rc
      have hl : acc.length ≤ i := by
        rw [rc.length, List.length_map]
        exact Nat.le_trans (List.length_filter_le _ _) (by simp; omega)
      refine ⟨acc, hDe, szl (by omega), hlt, Ge, acc ++ [y], (ecyt.trans ee).set hD ge _, ge, upd_same, ?_⟩
      rw [filter_map_snoc hd, hp]
      exact RpAll.app rc' (.cons re .nil)
  · have hi' : i = ds.length := by omega
    subst hi'
    refine .inl ⟨W.stop Gc Hc ec.gg ec.gh, ?_⟩
    rw [List.take_length] at rc
    exact k _ _ Hc (e1.trans (ec.still hD gc hc)) (.lst upd_same (RpAll.mono (same_upd gc _) _ _ rc))
theorem set_wipe1 {x : Option V} : (wipe σ [i]).set i x = σ.set i x := by
  show (σ.set i none).set i x = σ.set i x
  rw [List.set_set]
theorem wipe_set1 {x : Option V} : wipe (σ.set i x) [i] = wipe σ [i] := by
  show (σ.set i x).set i none = σ.set i none
  rw [List.set_set]
/-- [te for slot i in wi if tt] -/
theorem dv_lc {wi : TI} {p : PyData → Bool} {f : PyData → PyData} (hw : DvI K wi σ G H ds) (hz : ds.length < 100000)
    (ht : ∀ d ∈ ds, ∀ x G1 H1, Up G G1 H1 → Rp K G1 x d → DvT tt (σ.set i (some x)) G1 H1 (p d)) (he : ∀ d ∈ ds, p d = true → ∀ x G1 H1, Up G G1 H1 → Rp K G1 x d → Dv K te (σ.set i (some x)) G1 H1 (f d)) :
    Dv K (tLc wi (gName i) tt te [i]) σ G H (.list ((ds.filter p).map f)) :=
  dv_lcG (B := fun d σ2 G1 => ∃ x, σ2 = σ.set i (some x) ∧ Rp K G1 x d) hw hz (fun d _ x G1 H1 Q e q k => k _ (by rw [set_wipe1]; exact wipe_set1) ⟨x, set_wipe1, q⟩) (fun d hd σ2 G1 H1 e ⟨x, hx, q⟩ => by
    subst hx
    exact ht d hd x G1 H1 e q) fun d hd hp σ2 G1 H1 e ⟨x, hx, q⟩ => by
    subst hx
    exact he d hd hp x G1 H1 e q
theorem dvt_yes : DvT tYes σ G H true := fun G1 H1 e Q k => k G1 H1 (Ext.refl e.gh)
/-- without a test -/
theorem dv_lcA {wi : TI} {f : PyData → PyData} (hw : DvI K wi σ G H ds) (hz : ds.length < 100000) (he : ∀ d ∈ ds, ∀ x G1 H1, Up G G1 H1 → Rp K G1 x d → Dv K te (σ.set i (some x)) G1 H1 (f d)) :
    Dv K (tLc wi (gName i) tYes te [i]) σ G H (.list (ds.map f)) := by
  have z := dv_lc (p := fun _ => true) (tt := tYes) hw hz (fun d _ x G1 H1 _ _ => dvt_yes) fun d hd _ x G1 H1 e q => he d hd x G1 H1 e q
  rwa [List.filter_eq_self.mpr (fun _ _ => rfl)] at z
/-- with two targets, of pairs -/
theorem dv_lcP {wi : TI} {n : Nat} {f : PyData → PyData} (hij : i ≠ j) (hw : DvI K wi σ G H ds) (hz : ds.length < 100000) (hp : ∀ d ∈ ds, ∃ a b, d = .tuple [a, b])
    (he : ∀ a b, PyData.tuple [a, b] ∈ ds → ∀ x y G1 H1, Up G G1 H1 → Rp K G1 x a → Rp K G1 y b → Dv K te ((σ.set i (some x)).set j (some y)) G1 H1 (f (.tuple [a, b]))) :
    Dv K (tLc wi (gTup K 2 (gCons (gName i) (gCons (gName j) gNil))) tYes te [i, j]) σ G H (.list (ds.map f)) := by
  have key : ∀ x y : Option V, ((wipe σ [i, j]).set i x).set j y = (σ.set i x).set j y := fun x y => by
    show (((σ.set j none).set i none).set i x).set j y = _
    rw [List.set_set, List.set_comm _ _ (Ne.symm hij), List.set_set, List.set_comm _ _ hij]
  have key2 : ∀ x y : Option V, wipe ((σ.set i x).set j y) [i, j] = wipe σ [i, j] := fun x y => by
    show (((σ.set i x).set j y).set j none).set i none = (σ.set j none).set i none
    rw [List.set_set, List.set_comm _ _ hij, List.set_set]
  have z := dv_lcG (tt := tYes) (p := fun _ => true) (f := f) (B := fun d σ2 G1 => ∃ a b x y, d = .tuple [a, b] ∧ σ2 = (σ.set i (some x)).set j (some y) ∧ Rp K G1 x a ∧ Rp K G1 y b) (vs := [i, j]) (g := gTup K 2 (gCons (gName i) (gCons (gName j) gNil))) (te := te) hw hz
    (fun d hd x G1 H1 Q e q k => by
      obtain ⟨a, b, rfl⟩ := hp d hd
      cases q with
      | tup h1 h2 =>
        cases h2 with
        | cons r1 h2 =>
          cases h2 with
          | cons r2 h2 =>
            cases h2
            refine ⟨_, _, rfl, Same.sqt e.gh h1, rfl, _, _, rfl, _, _, rfl, rfl, ?_⟩
            exact k _ (by rw [key]; exact key2 _ _) ⟨a, b, _, _, rfl, key _ _, r1, r2⟩)
    (fun d _ σ2 G1 H1 _ _ => dvt_yes) fun d hd _ σ2 G1 H1 e ⟨a, b, x, y, h1, h2, h3, h4⟩ => by
      subst h1 h2
      exact he a b hd x y G1 H1 e h3 h4
  rwa [List.filter_eq_self.mpr (fun _ _ => rfl)] at z
/-! ### for -/
theorem ds_for {wi : TI} {g : TG} {tb : TS} {D : Ends} (e : Same G H) (hw : DvI K wi σ G H ds) (k : ∀ G1 H1, Ext G H G1 H1 → ∃ I : Nat → L2.St → Hp → Hp → Prop, (∀ i σ1 Gc Hc, I i σ1 Gc Hc → Same G1 Gc ∧ Same Gc Hc) ∧ I 0 σ G1 H1 ∧
    (∀ i d σ1 Gc Hc, ds[i]? = some d → I i σ1 Gc Hc → ∀ x G2 H2, Ext Gc Hc G2 H2 → Rp K G2 x d → g x σ1 H2 fun σ2 H3 => tb { D with nx := fun σ H => ∃ G, I (i + 1) σ G H, ct := fun σ H => ∃ G, I (i + 1) σ G H, bk := D.nx } σ2 H3) ∧
    (∀ σ1 Gc Hc, I ds.length σ1 Gc Hc → D.nx σ1 Hc)) : tFor wi g tb D σ H := hw G H (Up.refl e) _ fun J G1 H1 e1 W => by
  obtain ⟨I, hI, h0, hs, hd⟩ := k G1 H1 e1
  refine ⟨fun i m σ Hc => m = ds.length - i ∧ i ≤ ds.length ∧ ∃ Gc, I i σ Gc Hc, ⟨ds.length, by simp, Nat.zero_le _, G1, h0⟩, ?_⟩
  rintro i m σ1 Hc ⟨rfl, hi, Gc, ic⟩
  obtain ⟨s1, s2⟩ := hI i σ1 Gc Hc ic
  by_cases hlt : i < ds.length
  · obtain ⟨d, hd'⟩ := lt_get hlt
    refine .inr ⟨W.go i Gc Hc s1 s2 hlt, fun σ H => ∃ G, I (i + 1) σ G H, fun σ' H' z => ⟨ds.length - (i + 1), by omega, rfl, hlt, z⟩, fun x Hy y => ?_⟩
    obtain ⟨Gy, ey, ry⟩ := W.yld i d Gc Hc x Hy s1 s2 hd' y
    exact hs i d σ1 Gc Hc hd' ic x Gy Hy ey ry
  · have hi' : i = ds.length := by omega
    subst hi'
    exact .inl ⟨W.stop Gc Hc s1 s2, hd σ1 Gc Hc ic⟩
/-! ### local lists -/
section
variable {D : Ends} {p : Addr} {xs : List V}
/-- x = [] -/
theorem ds_new {g : TG} (k : ∀ p, H p = none → g (.ref p) σ (upd H p (.lst [])) D.nx) : tAsg (tLst tNil) g D σ H := ⟨Nat.zero_le _, k⟩
/-- x.append(e) -/
theorem ds_app (e : Same G H) (hs : σ[i]? = some (some (.ref p))) (hp : H p = some (.lst xs)) (hz : xs.length < 100000) (h : Dv K te σ G H d) (k : ∀ y G1 H1, Ext G H G1 H1 → Rp K G1 y d → D.nx σ (upd H1 p (.lst (xs ++ [y])))) :
    tDrop (tBM K "list" rAppend (tVar i) (tCons te tNil)) D σ H := ⟨.ref p, hs, .inl ⟨rfl, xs, SqL.of hp⟩, h G H (Up.refl e) _ fun y G1 H1 e1 q => ⟨p, xs, y, rfl, rfl, e1.hh _ _ hp, szl hz, k y G1 H1 e1 q⟩⟩
/-- x.extend(e) -/
theorem ds_ext (e : Same G H) (hs : σ[i]? = some (some (.ref p))) (hp : H p = some (.lst xs)) (hz : xs.length + ds.length ≤ 100000) (h : Dv K te σ G H (.list ds)) (k : ∀ ys G1 H1, Ext G H G1 H1 → RpAll K G1 ys ds → D.nx σ (upd H1 p (.lst (xs ++ ys)))) :
    tDrop (tBM K "list" rExtend (tVar i) (tCons te tNil)) D σ H := ⟨.ref p, hs, .inl ⟨rfl, xs, SqL.of hp⟩, h G H (Up.refl e) _ fun y G1 H1 e1 q => by
  cases q with
  | lst h1 h2 => exact ⟨p, _, xs, _, rfl, rfl, e1.hh _ _ hp, e1.gh _ _ h1, by rw [h2.length]; exact sz hz, k _ G1 H1 e1 h2⟩⟩
/-- a, b, .. = e -/
theorem ds_row {gs : TGs} {n : Nat} (e : Same G H) (h : Dv K te σ G H r) (hr : rowOf r = some ds) (hn : ds.length = n) (k : ∀ vs G1 H1, Ext G H G1 H1 → RpAll K G1 vs ds → gs vs σ H1 D.nx) : tAsg te (gRow K n gs) D σ H := h G H (Up.refl e) _ fun x G1 H1 e1 q => by
  obtain ⟨a, vs, rfl, ra, q⟩ := q.row e1.gh hr
  rcases q with ⟨_, q, _⟩ | ⟨_, q⟩
  · exact .inr ⟨a, vs, rfl, q, by rw [ra.length, hn], k vs G1 H1 e1 ra⟩
  · exact .inl ⟨a, vs, rfl, q, by rw [ra.length, hn], k vs G1 H1 e1 ra⟩
end
end
end K82

set_option Elab.async false
set_option linter.all false
set_option maxRecDepth 100000
set_option maxHeartbeats 4000000
/-! Types, terms; the program's defs on any data. -/
namespace K82
open PySem L2 PyProof.Rows
theorem hu65 {k : Nat} {A : Around} (r : Room k A) : A.units + 65 < cLine := by
  have := r.un
  omega
theorem k1 {n : Nat} (h : n < 1000) : n < 100000 := by omega
/-! ### data that is short everywhere -/
mutual
def shr : PyData → Bool
  | .list l => decide (l.length < 1000) && shrs l
  | .tuple l => decide (l.length < 1000) && shrs l
  | .str x => decide (x.length < 1000)
  | _ => true
def shrs : List PyData → Bool
  | [] => true
  | d :: ds => shr d && shrs ds
end
/-- of depth n at most, without dicts, short everywhere -/
structure Good (n : Nat) (d : PyData) : Prop where
  dp : d.depth ≤ n
  lay : d.canLay0 = true
  sh : shr d = true
theorem depthAll_le {n : Nat} : ∀ {l : List PyData}, PyData.depthAll l ≤ n ↔ ∀ d ∈ l, d.depth ≤ n
  | [] => by simp [PyData.depthAll]
  | d :: ds => by
    rw [PyData.depthAll, Nat.max_le, depthAll_le (l := ds)]
    simp
theorem canLayAll_iff : ∀ {l : List PyData}, PyData.canLayAll0 l = true ↔ ∀ d ∈ l, d.canLay0 = true
  | [] => by simp [PyData.canLayAll0]
  | d :: ds => by
    rw [PyData.canLayAll0, Bool.and_eq_true, canLayAll_iff (l := ds)]
    simp
theorem shrs_iff : ∀ {l : List PyData}, shrs l = true ↔ ∀ d ∈ l, shr d = true
  | [] => by simp [shrs]
  | d :: ds => by
    rw [shrs, Bool.and_eq_true, shrs_iff (l := ds)]
    simp
theorem Good.row {n : Nat} {r : PyData} {ds : List PyData} (g : Good (n + 1) r) (h : rowOf r = some ds) : ds.length < 1000 ∧ ∀ d ∈ ds, Good n d := by
  have h1 := g.dp
  have h2 := g.lay
  have h3 := g.sh
  rcases rowOf_cases h with q | q <;> subst q <;> simp only [PyData.depth, PyData.canLay0, shr, Bool.and_eq_true, decide_eq_true_eq] at h1 h2 h3 <;>
    exact ⟨h3.1, fun d hd => ⟨depthAll_le.mp (Nat.le_of_succ_le_succ h1) d hd, canLayAll_iff.mp h2 d hd, shrs_iff.mp h3.2 d hd⟩⟩
theorem Good.no_row {r : PyData} {ds : List PyData} (g : Good 0 r) (h : rowOf r = some ds) : False := by
  have h1 := g.dp
  rcases rowOf_cases h with q | q <;> subst q <;> simp [PyData.depth] at h1
theorem Good.mono {n m : Nat} {d : PyData} (g : Good n d) (h : n ≤ m) : Good m d := ⟨Nat.le_trans g.dp h, g.lay, g.sh⟩
mutual
theorem noD_lay : ∀ (d : PyData), d.canLay0 = true → noD d = true
  | .none, _ => rfl
  | .bool _, _ => rfl
  | .int _, _ => rfl
  | .str _, _ => rfl
  | .list l, h => by
    rw [PyData.canLay0] at h
    rw [noD]
    exact noDs_lay l h
  | .tuple l, h => by
    rw [PyData.canLay0] at h
    rw [noD]
    exact noDs_lay l h
  | .dict _, h => by simp [PyData.canLay0] at h
theorem noDs_lay : ∀ (l : List PyData), PyData.canLayAll0 l = true → noDs l = true
  | [], _ => rfl
  | d :: ds, h => by
    rw [PyData.canLayAll0, Bool.and_eq_true] at h
    rw [noDs, noD_lay d h.1, noDs_lay ds h.2]
    rfl
end
theorem Good.shaped {n : Nat} {d : PyData} (g : Good n d) (h : n ≤ 64) : SeqAt.shaped d = true := by
  unfold SeqAt.shaped
  rw [g.lay, decide_eq_true (Nat.le_trans g.dp h)]
  rfl
theorem Good.noD {n : Nat} {d : PyData} (g : Good n d) : noD d = true := noD_lay d g.lay
theorem Good.eqOk {n m : Nat} {d e : PyData} (g : Good n d) (g' : Good m e) (h : n ≤ 64) (h' : m ≤ 64) : eqOk d e = true := by
  unfold K82.eqOk
  rw [g.noD, g'.noD, g.shaped h, g'.shaped h']
  simp
theorem Good.mkT {n : Nat} {ds : List PyData} (hz : ds.length < 1000) (h : ∀ d ∈ ds, Good n d) : Good (n + 1) (.tuple ds) := by
  refine ⟨?_, ?_, ?_⟩
  · rw [PyData.depth]
    exact Nat.succ_le_succ (depthAll_le.mpr fun d hd => (h d hd).dp)
  · rw [PyData.canLay0]
    exact canLayAll_iff.mpr fun d hd => (h d hd).lay
  · rw [shr, decide_eq_true hz, shrs_iff.mpr fun d hd => (h d hd).sh]
    rfl
theorem Good.mkL {n : Nat} {ds : List PyData} (hz : ds.length < 1000) (h : ∀ d ∈ ds, Good n d) : Good (n + 1) (.list ds) := by
  refine ⟨?_, ?_, ?_⟩
  · rw [PyData.depth]
    exact Nat.succ_le_succ (depthAll_le.mpr fun d hd => (h d hd).dp)
  · rw [PyData.canLay0]
    exact canLayAll_iff.mpr fun d hd => (h d hd).lay
  · rw [shr, decide_eq_true hz, shrs_iff.mpr fun d hd => (h d hd).sh]
    rfl
/-! ### what the program's defs make of data -/
def isL (d : PyData) : Bool := isAny d [.list, .tuple]
theorem isL_row {d : PyData} : isL d = (rowOf d).isSome := by
  cases d <;> rfl
def isWh (d : PyData) : Bool := isD d .int && !isD d .bool
theorem isWh_iff {d : PyData} : isWh d = true ↔ ∃ i, d = .int i := by
  cases d <;> simp [isWh, isD, kd, isK]
def isNu : PyData → Bool
  | .int i => decide (0 ≤ i)
  | _ => false
def isBe (d : PyData) (m : Int) : Bool := match d with
  | .int i => decide (0 ≤ i) && decide (i < m)
  | _ => false
-- as_tuples
mutual
def toT : PyData → PyData
  | .list l => .tuple (toTs l)
  | .tuple l => .tuple (toTs l)
  | d => d
def toTs : List PyData → List PyData
  | [] => []
  | d :: ds => toT d :: toTs ds
end
theorem toTs_map : ∀ l : List PyData, toTs l = l.map toT
  | [] => rfl
  | d :: ds => by rw [toTs, toTs_map ds, List.map_cons]
theorem toT_row {d : PyData} {ds : List PyData} (h : rowOf d = some ds) : toT d = .tuple (ds.map toT) := by
  rcases rowOf_cases h with q | q <;> subst q <;> rw [toT, toTs_map]
theorem toT_no {d : PyData} (h : rowOf d = none) : toT d = d := by
  cases d <;> simp_all [rowOf, toT]
mutual
def isTy : PyData → Bool
  | .list l => isTys l
  | .tuple l => isTys l
  | _ => false
def isTys : List PyData → Bool
  | [] => true
  | d :: ds => isTy d && isTys ds
end
theorem isTys_all : ∀ l : List PyData, isTys l = (l.map isTy).all id
  | [] => rfl
  | d :: ds => by rw [isTys, isTys_all ds, List.map_cons, List.all_cons]; rfl
theorem isTy_row {d : PyData} {ds : List PyData} (h : rowOf d = some ds) : isTy d = (ds.map isTy).all id := by
  rcases rowOf_cases h with q | q <;> subst q <;> rw [isTy, isTys_all]
theorem isTy_no {d : PyData} (h : rowOf d = none) : isTy d = false := by
  cases d <;> simp_all [rowOf, isTy]
def smalls : Str := "abcdefghijklmnopqrstuvwxyz"
def nmOk (x : Str) : Bool := (decide ((1 : Int) ≤ x.length) && decide ((x.length : Int) ≤ 8)) && (x.cps.toList.map fun c => decide (c ∈ smalls.cps.toList)).all id
def isNm : PyData → Bool
  | .str x => nmOk x
  | _ => false
/-- a promise of a def of one argument, of two -/
abbrev sp1 (K : PySem.W.Frag) (f : PyData → PyData) (A : PyData → Prop) : Sp := spD K 1 fun ds d => ∃ x, ds = [x] ∧ A x ∧ d = f x
abbrev sp2 (K : PySem.W.Frag) (f : PyData → PyData → PyData) (A : PyData → PyData → Prop) : Sp := spD K 2 fun ds d => ∃ x y, ds = [x, y] ∧ A x y ∧ d = f x y
section
variable {P : Program} {w : World} {K : PySem.W.Frag} {mg : Str → Option Value} {base : Heap}
/-- a def of one argument -/
theorem ok1 {x : Str} {st : Stmt} {p : Str} {N : List Str} {k : Nat} {f : PyData → PyData} {A : PyData → Prop} (D : Df K mg x st [p]) (S : FnScope N [p] (defScope st))
    (h : ∀ (cdv : Value) (Ar : Around) (outer : List Env) (s : Shared) (H : Hp) (Q : VK) (E : XK) (v : V) (G : Hp) (d : PyData), Room k (Ar.deeper (envOfC x (defScope st) s.heap.objs.size D.f cdv)) → Same G H → Rp K G v d → A d → (∀ v G' H', Ext G H G' H' → Rp K G' v (f d) → Q v H') →
      ∃ t, PSs (cxOf CX0 P w K mg base N x (defScope st) D.f cdv Ar outer s H E).nox (defBody st) t ∧ t { nx := fun _ H' => Q .non H', rt := Q } (start N [v]) H) : FnOk P w K mg base CX0 (k + 1) D.f D.fd [p] (sp1 K f A) := by
  refine D.F.ok S (fun vs H Q E z => z.1) (fun cdv Ar outer s H vs Q E hr z => ?_)
  obtain ⟨hl, G, ds, d, e, r, ⟨a, rfl, ha, rfl⟩, kk⟩ := z
  cases r with
  | cons r1 r =>
    cases r
    exact h cdv Ar outer s H Q E _ G a hr e r1 ha kk
theorem ok2 {x : Str} {st : Stmt} {p q : Str} {N : List Str} {k : Nat} {f : PyData → PyData → PyData} {A : PyData → PyData → Prop} (D : Df K mg x st [p, q]) (S : FnScope N [p, q] (defScope st))
    (h : ∀ (cdv : Value) (Ar : Around) (outer : List Env) (s : Shared) (H : Hp) (Q : VK) (E : XK) (v u : V) (G : Hp) (d e : PyData), Room k (Ar.deeper (envOfC x (defScope st) s.heap.objs.size D.f cdv)) → Same G H → Rp K G v d → Rp K G u e → A d e → (∀ v G' H', Ext G H G' H' → Rp K G' v (f d e) → Q v H') →
      ∃ t, PSs (cxOf CX0 P w K mg base N x (defScope st) D.f cdv Ar outer s H E).nox (defBody st) t ∧ t { nx := fun _ H' => Q .non H', rt := Q } (start N [v, u]) H) : FnOk P w K mg base CX0 (k + 1) D.f D.fd [p, q] (sp2 K f A) := by
  refine D.F.ok S (fun vs H Q E z => z.1) (fun cdv Ar outer s H vs Q E hr z => ?_)
  obtain ⟨hl, G, ds, d, e, r, ⟨a, b, rfl, ha, rfl⟩, kk⟩ := z
  cases r with
  | cons r1 r =>
    cases r with
    | cons r2 r =>
      cases r
      exact h cdv Ar outer s H Q E _ _ G a b hr e r1 r2 ha kk
theorem dv_call1 {σ : L2.St} {G H : Hp} {te : TE} {d : PyData} {E : XK} {f : PyData → PyData} {A : PyData → Prop} (h : Dv K te σ G H d) (hA : A d) : Dv K (tCall (sp1 K f A) [] E (tCons te tNil)) σ G H (f d) := dv_call (dva_cons h dva_nil) rfl ⟨d, rfl, hA, rfl⟩
theorem dv_call2 {σ : L2.St} {G H : Hp} {te ta : TE} {d e : PyData} {E : XK} {f : PyData → PyData → PyData} {A : PyData → PyData → Prop} (h : Dv K te σ G H d) (h2 : Dv K ta σ G H e) (hA : A d e) : Dv K (tCall (sp2 K f A) [] E (tCons te (tCons ta tNil))) σ G H (f d e) := dv_call (dva_cons h (dva_cons h2 dva_nil)) rfl ⟨d, e, rfl, hA, rfl⟩
def any1 : PyData → Prop := fun _ => True
theorem ok_is_list (T : Txt K mg) : FnOk P w K mg base CX0 1 T.is_list.f T.is_list.fd ["thing"] (sp1 K (fun d => .bool (isL d)) any1) := by
  refine ok1 T.is_list sc_is_list fun cdv Ar outer s H Q E v G d hr e r hA k => ?_
  refine ⟨_, (pss_one (ps_ret (pe_callB call_isiX rfl T.z_isinstance (by decide +kernel) (pa_cons (pv 0) (pa_cons (pe_tup (pa_cons (pe_bltn (v := .ty "list") rfl T.z_list (by decide +kernel) rfl) (pa_cons (pe_bltn (v := .ty "tuple") rfl T.z_tuple (by decide +kernel) rfl) pa_nil))) pa_nil))))), ?_⟩
  exact ds_ret e (dv_isi2 .list .tuple (dv_var rfl r)) k
theorem ok_is_whole (T : Txt K mg) : FnOk P w K mg base CX0 1 T.is_whole.f T.is_whole.fd ["thing"] (sp1 K (fun d => .bool (isWh d)) any1) := by
  refine ok1 T.is_whole sc_is_whole fun cdv Ar outer s H Q E v G d hr e r hA k => ?_
  refine ⟨_, (pss_one (ps_ret (pe_and (pe_callB call_isiX rfl T.z_isinstance (by decide +kernel) (pa_cons (pv 0) (pa_cons (pe_bltn (v := .ty "int") rfl T.z_int (by decide +kernel) rfl) pa_nil))) (pe_one (pe_not (pe_callB call_isiX rfl T.z_isinstance (by decide +kernel) (pa_cons (pv 0) (pa_cons (pe_bltn (v := .ty "bool") rfl T.z_bool (by decide +kernel) rfl) pa_nil)))))))), ?_⟩
  exact ds_ret e (dv_and (dv_isi .int (dv_var rfl r)) fun _ => dv_not (dv_isi .bool (dv_var rfl r))) k
end
end K82

set_option Elab.async false
set_option linter.all false
set_option maxRecDepth 100000
set_option maxHeartbeats 4000000
namespace K82
open PySem L2 PyProof.Rows
/-! ### types and terms -/
/-- a type: a row of types -/
inductive Ty | nil | cons (a r : Ty)
  deriving DecidableEq
def Ty.l : Ty → List PyData
  | .nil => []
  | .cons a r => .tuple a.l :: r.l
def Ty.py (t : Ty) : PyData := .tuple t.l
mutual
def tyOf : PyData → Ty
  | .list l => tyOfs l
  | .tuple l => tyOfs l
  | _ => .nil
def tyOfs : List PyData → Ty
  | [] => .nil
  | d :: ds => .cons (tyOf d) (tyOfs ds)
end
mutual
theorem toT_ty : ∀ d : PyData, isTy d = true → toT d = (tyOf d).py
  | .list l, h => by
    rw [isTy] at h
    rw [toT, tyOf, Ty.py, toTs_ty l h]
  | .tuple l, h => by
    rw [isTy] at h
    rw [toT, tyOf, Ty.py, toTs_ty l h]
  | .none, h => by simp [isTy] at h
  | .bool _, h => by simp [isTy] at h
  | .int _, h => by simp [isTy] at h
  | .str _, h => by simp [isTy] at h
  | .dict _, h => by simp [isTy] at h
theorem toTs_ty : ∀ l : List PyData, isTys l = true → toTs l = (tyOfs l).l
  | [], _ => rfl
  | d :: ds, h => by
    rw [isTys, Bool.and_eq_true] at h
    rw [toTs, tyOfs, Ty.l, toT_ty d h.1, toTs_ty ds h.2]
    rfl
end
def kTy (d : PyData) : Option Ty := if isTy d = true then some (tyOf d) else none
def oTy : Option Ty → PyData
  | some t => t.py
  | none => .none
inductive Tm | name (x : Str) | fn (x : Str) (s : Ty) (t : Tm) | ap (t u : Tm) | con (c : Int) | no | cs (t : Tm) (l : List Tm) | fx (x : Str) (s : Ty) (t : Tm) | ei (t u : Tm)
mutual
def Tm.py : Tm → PyData
  | .name x => .tuple [.str "name", .str x]
  | .fn x s t => .tuple [.str "fun", .str x, s.py, t.py]
  | .ap t u => .tuple [.str "call", t.py, u.py]
  | .con c => .tuple [.str "constant", .int c]
  | .no => .tuple [.str "nothing"]
  | .cs t l => .tuple [.str "case", t.py, .tuple (Tm.pys l)]
  | .fx x s t => .tuple [.str "fix", .str x, s.py, t.py]
  | .ei t u => .tuple [.str "either", t.py, u.py]
def Tm.pys : List Tm → List PyData
  | [] => []
  | t :: ts => t.py :: Tm.pys ts
end
theorem Tm.pys_map : ∀ l : List Tm, Tm.pys l = l.map Tm.py
  | [] => rfl
  | t :: ts => by rw [Tm.pys, Tm.pys_map ts, List.map_cons]
def oTm : Option Tm → PyData
  | some t => t.py
  | none => .none
theorem isN_oTm (o : Option Tm) : isN (oTm o) = o.isNone := by
  cases o with
  | none => rfl
  | some t => cases t <;> rfl
theorem isN_oTy (o : Option Ty) : isN (oTy o) = o.isNone := by
  cases o with
  | none => rfl
  | some t => cases t <;> rfl
/-- all of them, if none lacks -/
def allS {α : Type} : List (Option α) → Option (List α)
  | [] => some []
  | none :: _ => none
  | some a :: r => (allS r).map (a :: ·)
/-- what kept_all hands back -/
def oTms : Option (List Tm) → PyData
  | some l => .tuple (Tm.pys l)
  | none => .none
def isRow (d : PyData) (m : Int) : Bool := match rowOf d with
  | some l => decide ((l.length : Int) = m)
  | none => false
def nameT : PyData → Option Tm
  | .str y => if nmOk y = true then some (.name y) else none
  | _ => none
def conT (m : Int) : PyData → Option Tm
  | .int c => if isBe (.int c) m = true then some (.con c) else none
  | _ => none
def bindT (mk : Str → Ty → Tm → Tm) : PyData → Option Ty → Option Tm → Option Tm
  | .str y, some s, some t => if nmOk y = true then some (mk y s t) else none
  | _, _, _ => none
def caseT : Option Tm → Option (List Tm) → Option Tm
  | some t, some l => some (.cs t l)
  | _, _ => none
def twoT (mk : Tm → Tm → Tm) : Option Tm → Option Tm → Option Tm
  | some t, some u => some (mk t u)
  | _, _ => none
/-- kept_term, on data of depth below n -/
def kTm (m : Int) : Nat → PyData → Option Tm
  | 0, _ => none
  | n + 1, d => match rowOf d with
    | some [.str x] => if x = "nothing" then some .no else none
    | some [.str x, a] => if x = "name" then nameT a else if x = "constant" then conT m a else none
    | some [.str x, a, b] => if x = "case" then caseT (kTm m n a) (match rowOf b with | some l => if (l.length : Int) = m then allS (l.map (kTm m n)) else none | none => none)
        else if x = "call" then twoT .ap (kTm m n a) (kTm m n b) else if x = "either" then twoT .ei (kTm m n a) (kTm m n b) else none
    | some [.str x, a, b, c] => if x = "fun" then bindT .fn a (kTy b) (kTm m n c) else if x = "fix" then bindT .fx a (kTy b) (kTm m n c) else none
    | _ => none
def partsT (m : Int) (n : Nat) (b : PyData) : Option (List Tm) := match rowOf b with
  | some l => if (l.length : Int) = m then allS (l.map (kTm m n)) else none
  | none => none
theorem allS_none {α : Type} : ∀ l : List (Option α), (allS l).isNone = l.any Option.isNone
  | [] => rfl
  | none :: _ => rfl
  | some a :: r => by
    have ih := allS_none r
    cases h : allS r <;> simp_all [allS]
theorem allS_py : ∀ {l : List (Option Tm)} {ts : List Tm}, allS l = some ts → l.map oTm = Tm.pys ts
  | [], ts, h => by
    cases h
    rfl
  | none :: _, _, h => by cases h
  | some a :: r, ts, h => by
    cases q : allS r with
    | none => simp [allS, q] at h
    | some us =>
      simp [allS, q] at h
      subst h
      rw [List.map_cons, allS_py q]
      rfl
/-! ### what comes of good data is good -/
mutual
theorem toT_depth : ∀ d : PyData, (toT d).depth = d.depth
  | .none => rfl
  | .bool _ => rfl
  | .int _ => rfl
  | .str _ => rfl
  | .dict _ => rfl
  | .list l => by rw [toT, PyData.depth, PyData.depth, toTs_depth l]
  | .tuple l => by rw [toT, PyData.depth, PyData.depth, toTs_depth l]
theorem toTs_depth : ∀ l : List PyData, PyData.depthAll (toTs l) = PyData.depthAll l
  | [] => rfl
  | d :: ds => by rw [toTs, PyData.depthAll, PyData.depthAll, toT_depth d, toTs_depth ds]
end
mutual
theorem toT_lay : ∀ d : PyData, (toT d).canLay0 = d.canLay0
  | .none => rfl
  | .bool _ => rfl
  | .int _ => rfl
  | .str _ => rfl
  | .dict _ => rfl
  | .list l => by rw [toT, PyData.canLay0, PyData.canLay0, toTs_lay l]
  | .tuple l => by rw [toT, PyData.canLay0, PyData.canLay0, toTs_lay l]
theorem toTs_lay : ∀ l : List PyData, PyData.canLayAll0 (toTs l) = PyData.canLayAll0 l
  | [] => rfl
  | d :: ds => by rw [toTs, PyData.canLayAll0, PyData.canLayAll0, toT_lay d, toTs_lay ds]
end
theorem toTs_length : ∀ l : List PyData, (toTs l).length = l.length
  | [] => rfl
  | d :: ds => by rw [toTs, List.length_cons, List.length_cons, toTs_length ds]
mutual
theorem toT_shr : ∀ d : PyData, shr (toT d) = shr d
  | .none => rfl
  | .bool _ => rfl
  | .int _ => rfl
  | .str _ => rfl
  | .dict _ => rfl
  | .list l => by rw [toT, shr, shr, toTs_shr l, toTs_length]
  | .tuple l => by rw [toT, shr, shr, toTs_shr l, toTs_length]
theorem toTs_shr : ∀ l : List PyData, shrs (toTs l) = shrs l
  | [] => rfl
  | d :: ds => by rw [toTs, shrs, shrs, toT_shr d, toTs_shr ds]
end
theorem Good.toT {n : Nat} {d : PyData} (g : Good n d) : Good n (K82.toT d) := ⟨by rw [toT_depth]; exact g.dp, by rw [toT_lay]; exact g.lay, by rw [toT_shr]; exact g.sh⟩
end K82

set_option Elab.async false
set_option linter.all false
set_option maxRecDepth 100000
set_option maxHeartbeats 4000000
namespace K82
open PySem L2 PyProof.Rows
def Lt : Nat → PyData → Prop
  | 0, _ => False
  | n + 1, d => Good n d
theorem Lt.row {n : Nat} {r : PyData} {ds : List PyData} (g : Lt (n + 1) r) (h : rowOf r = some ds) : ds.length < 1000 ∧ ∀ d ∈ ds, Lt n d := by
  cases n with
  | zero => exact (Good.no_row g h).elim
  | succ n => exact Good.row g h
theorem Lt.mono {n m : Nat} {d : PyData} (g : Lt n d) (h : n ≤ m) : Lt m d := by
  cases n with
  | zero => exact g.elim
  | succ n =>
    cases m with
    | zero => omega
    | succ m => exact Good.mono g (by omega)
theorem Lt.shr {n : Nat} {d : PyData} (g : Lt n d) : shr d = true := by
  cases n with
  | zero => exact g.elim
  | succ n => exact g.sh
theorem isL_some {d : PyData} (h : isL d = true) : ∃ ds, rowOf d = some ds := by
  rw [isL_row] at h
  exact Option.isSome_iff_exists.mp h
theorem isL_none {d : PyData} (h : isL d = false) : rowOf d = none := by
  rw [isL_row] at h
  simpa using h
section
variable {P : Program} {w : World} {K : PySem.W.Frag} {mg : Str → Option Value} {base : Heap}
theorem fn_no {CX : CXT} {k : Nat} {f : Addr} {fd : FuncData} {ps : List Str} {sp : Sp} (h : ∀ vs H Q E, ¬ sp vs H Q E) : FnOk P w K mg base CX k f fd ps sp :=
  ⟨fun vs H Q E q => absurd q (h vs H Q E), fun A outer s H args us vs Q E _ _ _ _ q => absurd q (h vs H Q E)⟩
theorem no1 {f : PyData → PyData} : ∀ vs H Q E, ¬ sp1 K f (Lt 0) vs H Q E := by
  rintro vs H Q E ⟨_, _, _, _, _, _, ⟨x, _, h, _⟩, _⟩
  exact h
theorem bmap (f : PyData → Bool) (ds : List PyData) : ds.map (fun d => PyData.bool (f d)) = (ds.map f).map .bool := by
  rw [List.map_map]
  rfl
theorem ok_is_number (T : Txt K mg) : FnOk P w K mg base CX0 2 T.is_number.f T.is_number.fd ["thing"] (sp1 K (fun d => .bool (isNu d)) any1) := by
  have g_is_whole : FnOk P w K mg base CX0 1 _ _ _ _ := ok_is_whole T
  refine ok1 T.is_number sc_is_number fun cdv Ar outer s H Q E v G d hr e r hA k => ?_
  refine ⟨_, (pss_one (ps_ret (pe_and (pe_call g_is_whole (hr.mono (by omega)) rfl T.is_whole.m T.is_whole.F.kp T.is_whole.b .nil pass0 (pa_cons (pv 0) pa_nil)) (pe_one (pe_cmpR op_ge (pv 0) pe_int (nomark _)))))), ?_⟩
  refine ds_ret e (Dv.is (dv_and (c := isNu d) (dv_call1 (dv_var rfl r) trivial) fun h => ?_) ?_) k
  · obtain ⟨i, rfl⟩ := isWh_iff.mp h
    exact dv_ge (dv_var rfl r) dv_int
  · cases d <;> rfl
theorem ok_is_below (T : Txt K mg) : FnOk P w K mg base CX0 3 T.is_below.f T.is_below.fd ["thing", "most"] (sp2 K (fun d m => match m with | .int m => .bool (isBe d m) | _ => .none) (fun _ m => ∃ i, m = .int i)) := by
  have g_is_number : FnOk P w K mg base CX0 2 _ _ _ _ := ok_is_number T
  refine ok2 T.is_below sc_is_below fun cdv Ar outer s H Q E v u G d m hr e r r2 hA k => ?_
  obtain ⟨m, rfl⟩ := hA
  refine ⟨_, (pss_one (ps_ret (pe_and (pe_call g_is_number (hr.mono (by omega)) rfl T.is_number.m T.is_number.F.kp T.is_number.b .nil pass0 (pa_cons (pv 0) pa_nil)) (pe_one (pe_cmpR op_lt (pv 0) (pv 1) (nomark _)))))), ?_⟩
  refine ds_ret e (Dv.is (dv_and (c := isBe d m) (dv_call1 (dv_var rfl r) trivial) fun h => ?_) ?_) k
  · cases d <;> simp [isNu] at h
    rename_i i
    refine Dv.is (dv_lt (dv_var rfl r) (dv_var rfl r2)) ?_
    simp [isBe, h]
  · cases d <;> simp [isNu, isBe]
theorem ok_is_row (T : Txt K mg) : FnOk P w K mg base CX0 2 T.is_row.f T.is_row.fd ["thing", "many"] (sp2 K (fun d m => match m with | .int m => .bool (isRow d m) | _ => .none) (fun _ m => ∃ i, m = .int i)) := by
  have g_is_list : FnOk P w K mg base CX0 1 _ _ _ _ := ok_is_list T
  refine ok2 T.is_row sc_is_row fun cdv Ar outer s H Q E v u G d m hr e r r2 hA k => ?_
  obtain ⟨m, rfl⟩ := hA
  refine ⟨_, (pss_one (ps_ret (pe_and (pe_call g_is_list (hr.mono (by omega)) rfl T.is_list.m T.is_list.F.kp T.is_list.b .nil pass0 (pa_cons (pv 0) pa_nil)) (pe_one (pe_cmpR (op_eqX hr.units) (pe_callB call_lenX rfl T.z_len (by decide +kernel) (pa_cons (pv 0) pa_nil)) (pv 1) (nomark _)))))), ?_⟩
  refine ds_ret e (Dv.is (dv_and (c := isRow d m) (dv_call1 (dv_var rfl r) trivial) fun h => ?_) ?_) k
  · obtain ⟨ds, hds⟩ := isL_some h
    refine Dv.is (dv_eq (dv_len (dv_var rfl r) hds) (dv_var rfl r2) rfl) ?_
    simp only [isRow, hds, PyData.eqv]
    congr 1
  · rw [isL_row]
    cases h : rowOf d <;> simp [isRow, h]
theorem ok_as_tuples (T : Txt K mg) : ∀ n, FnOk P w K mg base CX0 (n + 1) T.as_tuples.f T.as_tuples.fd ["thing"] (sp1 K toT (Lt n))
  | 0 => fn_no no1
  | n + 1 => by
    have g_as_tuples : FnOk P w K mg base CX0 (n + 1) _ _ _ _ := ok_as_tuples T n
    have g_is_list : FnOk P w K mg base CX0 1 _ _ _ _ := ok_is_list T
    refine ok1 T.as_tuples sc_as_tuples fun cdv Ar outer s H Q E v G d hr e r hA k => ?_
    refine ⟨_, (pss_one (ps_ret (pe_ifExp (pt_val (pe_call g_is_list (hr.mono (by omega)) rfl T.is_list.m T.is_list.F.kp T.is_list.b .nil pass0 (pa_cons (pv 0) pa_nil))) (pe_callTy call_tupX rfl T.z_tuple (by decide +kernel) (pa_cons (pe_lc (own := [("part", 1)]) (g := gName 1) (tt := tYes) rfl sc_as_tuples.nd (pi_row (pv 0)) (blkOk_by (N := ["thing", "part"]) (sc := defScope s_as_tuples) (by decide +kernel)) (fun _ _ _ _ _ => (pg_name (i := 1) sc_as_tuples.nd rfl (Or.inl rfl))) (fun _ _ _ _ _ => pts_nil) (fun _ _ _ _ _ => (pe_call g_as_tuples (hr.mono (by omega)) rfl T.as_tuples.m T.as_tuples.F.kp T.as_tuples.b .nil pass0 (pa_cons (pv 1) pa_nil)))) pa_nil)) (pv 0)))), ?_⟩
    refine ds_ret e (dv_if (dvt_B (dv_call1 (dv_var rfl r) trivial)) (fun h => ?_) fun h => ?_) k
    · obtain ⟨ds, hds⟩ := isL_some h
      obtain ⟨hz, hall⟩ := Lt.row hA hds
      exact Dv.is (dv_tupOf (dv_lcA (dvi_row (dv_var rfl r) hds) (k1 hz) fun d hd x G1 H1 e1 q => dv_call1 (dv_var rfl q) (hall d hd)) rfl) (toT_row hds).symm
    · exact Dv.is (dv_var rfl r) (toT_no (isL_none h)).symm
theorem ok_is_type (T : Txt K mg) : ∀ n, FnOk P w K mg base CX0 (n + 1) T.is_type.f T.is_type.fd ["thing"] (sp1 K (fun d => .bool (isTy d)) (Lt n))
  | 0 => fn_no no1
  | n + 1 => by
    have g_is_type : FnOk P w K mg base CX0 (n + 1) _ _ _ _ := ok_is_type T n
    have g_is_list : FnOk P w K mg base CX0 1 _ _ _ _ := ok_is_list T
    refine ok1 T.is_type sc_is_type fun cdv Ar outer s H Q E v G d hr e r hA k => ?_
    refine ⟨_, (pss_one (ps_ret (pe_and (pe_call g_is_list (hr.mono (by omega)) rfl T.is_list.m T.is_list.F.kp T.is_list.b .nil pass0 (pa_cons (pv 0) pa_nil)) (pe_one (pe_callB (cr_all rfl) rfl T.z_all (by decide +kernel) (pa_cons (pe_lc (own := [("part", 1)]) (g := gName 1) (tt := tYes) rfl sc_is_type.nd (pi_row (pv 0)) (blkOk_by (N := ["thing", "part"]) (sc := defScope s_is_type) (by decide +kernel)) (fun _ _ _ _ _ => (pg_name (i := 1) sc_is_type.nd rfl (Or.inl rfl))) (fun _ _ _ _ _ => pts_nil) (fun _ _ _ _ _ => (pe_call g_is_type (hr.mono (by omega)) rfl T.is_type.m T.is_type.F.kp T.is_type.b .nil pass0 (pa_cons (pv 1) pa_nil)))) pa_nil)))))), ?_⟩
    refine ds_ret e (Dv.is (dv_and (c := isTy d) (dv_call1 (dv_var rfl r) trivial) fun h => ?_) ?_) k
    · obtain ⟨ds, hds⟩ := isL_some h
      obtain ⟨hz, hall⟩ := Lt.row hA hds
      refine Dv.is (dv_all (bs := ds.map isTy) (Dv.is (dv_lcA (f := fun d => .bool (isTy d)) (dvi_row (dv_var rfl r) hds) (k1 hz) fun d hd x G1 H1 e1 q => dv_call1 (dv_var rfl q) (hall d hd)) (by rw [bmap]))) ?_
      rw [isTy_row hds]
    · cases h : isL d with
      | true => rfl
      | false => rw [isTy_no (isL_none h)]; rfl
theorem ok_kept_type (T : Txt K mg) (n : Nat) : FnOk P w K mg base CX0 (n + 2) T.kept_type.f T.kept_type.fd ["thing"] (sp1 K (fun d => oTy (kTy d)) (Lt n)) := by
  have g_is_type : FnOk P w K mg base CX0 (n + 1) _ _ _ _ := ok_is_type T n
  have g_as_tuples : FnOk P w K mg base CX0 (n + 1) _ _ _ _ := ok_as_tuples T n
  refine ok1 T.kept_type sc_kept_type fun cdv Ar outer s H Q E v G d hr e r hA k => ?_
  refine ⟨_, (pss_one (ps_ret (pe_ifExp (pt_val (pe_call g_is_type (hr.mono (by omega)) rfl T.is_type.m T.is_type.F.kp T.is_type.b .nil pass0 (pa_cons (pv 0) pa_nil))) (pe_call g_as_tuples (hr.mono (by omega)) rfl T.as_tuples.m T.as_tuples.F.kp T.as_tuples.b .nil pass0 (pa_cons (pv 0) pa_nil)) pe_non))), ?_⟩
  refine ds_ret e (dv_if (dvt_B (dv_call1 (dv_var rfl r) hA)) (fun h => ?_) fun h => ?_) k
  · refine Dv.is (dv_call1 (dv_var rfl r) hA) ?_
    rw [toT_ty d h]
    simp [kTy, h, oTy]
  · refine Dv.is dv_non ?_
    simp [kTy, h, oTy]
def isMa : PyData → Bool
  | .int i => decide (1 ≤ i) && decide (i ≤ 3)
  | _ => false
theorem ok_is_many (T : Txt K mg) : FnOk P w K mg base CX0 2 T.is_many.f T.is_many.fd ["thing"] (sp1 K (fun d => .bool (isMa d)) any1) := by
  have g_is_whole : FnOk P w K mg base CX0 1 _ _ _ _ := ok_is_whole T
  refine ok1 T.is_many sc_is_many fun cdv Ar outer s H Q E v G d hr e r hA k => ?_
  refine ⟨_, (pss_one (ps_ret (pe_and (pe_call g_is_whole (hr.mono (by omega)) rfl T.is_whole.m T.is_whole.F.kp T.is_whole.b .nil pass0 (pa_cons (pv 0) pa_nil)) (pe_one (pe_chain op_le op_le pe_int (pv 0) pe_int))))), ?_⟩
  refine ds_ret e (Dv.is (dv_and (c := isMa d) (dv_call1 (dv_var rfl r) trivial) fun h => ?_) ?_) k
  · obtain ⟨i, rfl⟩ := isWh_iff.mp h
    exact dv_chain dv_int (dv_var rfl r) dv_int
  · cases d <;> rfl
theorem ok_is_name (T : Txt K mg) : FnOk P w K mg base CX0 1 T.is_name.f T.is_name.fd ["thing"] (sp1 K (fun d => .bool (isNm d)) (fun d => shr d = true)) := by
  refine ok1 T.is_name sc_is_name fun cdv Ar outer s H Q E v G d hr e r hA k => ?_
  refine ⟨_, (pss_one (ps_ret (pe_and (pe_callB call_isiX rfl T.z_isinstance (by decide +kernel) (pa_cons (pv 0) (pa_cons (pe_bltn (v := .ty "str") rfl T.z_str (by decide +kernel) rfl) pa_nil))) (pe_and (pe_chain op_le op_le pe_int (pe_callB call_lenX rfl T.z_len (by decide +kernel) (pa_cons (pv 0) pa_nil)) pe_int) (pe_one (pe_callB (cr_all rfl) rfl T.z_all (by decide +kernel) (pa_cons (pe_lc (own := [("sign", 1)]) (g := gName 1) (tt := tYes) rfl sc_is_name.nd (pi_str (pv 0)) (blkOk_by (N := ["thing", "sign"]) (sc := defScope s_is_name) (by decide +kernel)) (fun _ _ _ _ _ => (pg_name (i := 1) sc_is_name.nd rfl (Or.inl rfl))) (fun _ _ _ _ _ => pts_nil) (fun _ _ _ _ _ => (pe_cmpR op_inSg (pv 1) (pe_glob rfl T.m_SMALL T.r_SMALL) rfl))) pa_nil))))))), ?_⟩
  refine ds_ret e (Dv.is (dv_and (c := isNm d) (dv_isi .str (dv_var rfl r)) fun h => ?_) ?_) k
  · obtain ⟨x, rfl⟩ : ∃ x, d = .str x := by cases d <;> simp_all [isD, kd, isK]
    have hz : x.length < 1000 := by simpa [shr] using hA
    refine Dv.is (dv_and (c := (x.cps.toList.map fun c => decide (c ∈ smalls.cps.toList)).all id) (dv_chain dv_int (dv_lenS (dv_var rfl r) (Nat.le_of_lt (k1 hz))) dv_int) fun _ => ?_) rfl
    refine dv_all (Dv.is (dv_lcA (f := fun d => match d with | .str y => .bool (decide (y.cps.toList.headD 0 ∈ smalls.cps.toList)) | _ => .none) (dvi_str (dv_var rfl r)) (by simp only [sgs, List.length_map, Array.length_toList]; exact k1 hz) fun d hd y G1 H1 e1 q => ?_) ?_)
    · obtain ⟨c, _, rfl⟩ := List.mem_map.mp hd
      exact dv_inSg (dv_var rfl q) dv_str
    · unfold sgs
      rw [List.map_map, List.map_map]
      rfl
  · cases d <;> rfl
end
end K82

set_option Elab.async false
set_option linter.all false
set_option maxRecDepth 100000
set_option maxHeartbeats 4000000
namespace K82
open PySem L2 PyProof.Rows
theorem Lt.toT {n : Nat} {d : PyData} (g : Lt n d) : Lt n (K82.toT d) := by
  cases n with
  | zero => exact g.elim
  | succ n => exact Good.toT g
theorem Lt.str {n : Nat} {d : PyData} (g : Lt n d) (x : Str) (h : ((PyData.str x).canLay0 && decide (x.length < 1000)) = true := by decide +kernel) : Lt n (.str x) := by
  rw [Bool.and_eq_true] at h
  cases n with
  | zero => exact g.elim
  | succ n => exact ⟨by simp [PyData.depth], h.1, h.2⟩
theorem Lt.mkT {n : Nat} {ds : List PyData} (hz : ds.length < 1000) (h : ∀ d ∈ ds, Lt n d) (h0 : ds ≠ []) : Lt (n + 1) (.tuple ds) := by
  cases n with
  | zero =>
    cases ds with
    | nil => exact absurd rfl h0
    | cons d r => exact (h d List.mem_cons_self).elim
  | succ n => exact Good.mkT hz h
theorem Lt.row' {k : Nat} {r : PyData} {ds : List PyData} (g : Lt k r) (h : rowOf r = some ds) : ∃ k', k = k' + 1 ∧ ds.length < 1000 ∧ ∀ d ∈ ds, Lt k' d := by
  cases k with
  | zero => exact g.elim
  | succ k => exact ⟨k, rfl, Lt.row g h⟩
theorem kTy_py {d : PyData} {s : Ty} (h : kTy d = some s) : s.py = toT d := by
  unfold kTy at h
  split at h
  · rename_i q
    cases h
    exact (toT_ty d q).symm
  · cases h
theorem bindT_some {mk : Str → Ty → Tm → Tm} {a : PyData} {s : Option Ty} {t : Option Tm} {r : Tm} (h : bindT mk a s t = some r) : ∃ y s' t', a = .str y ∧ s = some s' ∧ t = some t' ∧ nmOk y = true ∧ r = mk y s' t' := by
  unfold bindT at h
  split at h
  · split at h
    · cases h
      exact ⟨_, _, _, rfl, rfl, rfl, by assumption, rfl⟩
    · cases h
  · cases h
theorem caseT_some {t : Option Tm} {l : Option (List Tm)} {r : Tm} (h : caseT t l = some r) : ∃ t' l', t = some t' ∧ l = some l' ∧ r = .cs t' l' := by
  unfold caseT at h
  split at h
  · cases h
    exact ⟨_, _, rfl, rfl, rfl⟩
  · cases h
theorem twoT_some {mk : Tm → Tm → Tm} {t u : Option Tm} {r : Tm} (h : twoT mk t u = some r) : ∃ t' u', t = some t' ∧ u = some u' ∧ r = mk t' u' := by
  unfold twoT at h
  split at h
  · cases h
    exact ⟨_, _, rfl, rfl, rfl⟩
  · cases h
theorem allS_mem {α : Type} : ∀ {l : List (Option α)} {ts : List α}, allS l = some ts → ts.length = l.length ∧ ∀ t ∈ ts, some t ∈ l
  | [], ts, h => by
    cases h
    simp
  | none :: _, _, h => by cases h
  | some a :: r, ts, h => by
    cases q : allS r with
    | none => simp [allS, q] at h
    | some us =>
      simp [allS, q] at h
      subst h
      obtain ⟨h1, h2⟩ := allS_mem q
      refine ⟨by simp [h1], fun t ht => ?_⟩
      rcases List.mem_cons.mp ht with e | ht
      · subst e
        exact List.mem_cons_self
      · exact List.mem_cons_of_mem _ (h2 t ht)
/-- the parts of a case -/
theorem kTm_case (m : Int) (n : Nat) (x : Str) (a b : PyData) : kTm m (n + 1) (.tuple [.str x, a, b]) = if x = "case" then caseT (kTm m n a) (partsT m n b) else if x = "call" then twoT .ap (kTm m n a) (kTm m n b) else if x = "either" then twoT .ei (kTm m n a) (kTm m n b) else none := rfl
theorem kTm_row {m : Int} {n : Nat} {d e : PyData} (h : rowOf d = rowOf e) : kTm m n d = kTm m n e := by
  cases n with
  | zero => rfl
  | succ n =>
    unfold kTm
    rw [h]
theorem mem1 {Q : PyData → Prop} {a : PyData} (h : Q a) : ∀ d ∈ [a], Q d := by simpa using h
theorem mem2 {Q : PyData → Prop} {a b : PyData} (h : Q a) (h2 : Q b) : ∀ d ∈ [a, b], Q d := by simp [h, h2]
theorem mem3 {Q : PyData → Prop} {a b c : PyData} (h : Q a) (h2 : Q b) (h3 : Q c) : ∀ d ∈ [a, b, c], Q d := by simp [h, h2, h3]
theorem mem4 {Q : PyData → Prop} {a b c e : PyData} (h : Q a) (h2 : Q b) (h3 : Q c) (h4 : Q e) : ∀ d ∈ [a, b, c, e], Q d := by simp [h, h2, h3, h4]
theorem kTm_good (m : Int) : ∀ (n k : Nat) (d : PyData) (t : Tm), Lt k d → kTm m n d = some t → Lt k t.py
  | 0, _, _, _, _, h => by cases h
  | n + 1, k, d, t, g, h => by
    unfold kTm at h
    split at h
    · rename_i x q
      obtain ⟨k, rfl, hz, hall⟩ := Lt.row' g q
      have g0 := hall (.str x) (by simp)
      split at h
      · cases h
        exact Lt.mkT (by simp) (mem1 (g0.str _)) (by simp)
      · cases h
    · rename_i x a q
      obtain ⟨k, rfl, hz, hall⟩ := Lt.row' g q
      have g0 := hall (.str x) (by simp)
      have ga := hall a (by simp)
      split at h
      · unfold nameT at h
        split at h
        · split at h
          · cases h
            exact Lt.mkT (by simp) (mem2 (g0.str _) ga) (by simp)
          · cases h
        · cases h
      · split at h
        · unfold conT at h
          split at h
          · split at h
            · cases h
              exact Lt.mkT (by simp) (mem2 (g0.str _) ga) (by simp)
            · cases h
          · cases h
        · cases h
    · rename_i x a b q
      obtain ⟨k, rfl, hz, hall⟩ := Lt.row' g q
      have g0 := hall (.str x) (by simp)
      have ga := hall a (by simp)
      have gb := hall b (by simp)
      split at h
      · obtain ⟨t', l', h1, h2, rfl⟩ := caseT_some h
        refine Lt.mkT (by simp) (mem3 (g0.str _) (kTm_good m n k a t' ga h1) ?_) (by simp)
        split at h2
        · rename_i l hl
          split at h2
          · obtain ⟨k, rfl, hz, hall'⟩ := Lt.row' gb hl
            obtain ⟨h3, h4⟩ := allS_mem h2
            have hlen : (Tm.pys l').length = l.length := by
              rw [Tm.pys_map, List.length_map, h3, List.length_map]
            have hall2 : ∀ d ∈ Tm.pys l', Lt k d := by
              rw [Tm.pys_map]
              intro d hd
              obtain ⟨u, hu, rfl⟩ := List.mem_map.mp hd
              obtain ⟨e, he, hek⟩ := List.mem_map.mp (h4 u hu)
              exact kTm_good m n k e u (hall' e he) hek
            cases hp : Tm.pys l' with
            | nil =>
              cases k with
              | zero => exact (Good.no_row gb hl).elim
              | succ k => exact Good.mkT (by simp) (by simp)
            | cons d r =>
              rw [← hp]
              exact Lt.mkT (by rw [hlen]; exact hz) hall2 (by rw [hp]; simp)
          · cases h2
        · cases h2
      · split at h
        · obtain ⟨t', u', h1, h2, rfl⟩ := twoT_some h
          exact Lt.mkT (by simp) (mem3 (g0.str _) (kTm_good m n k a t' ga h1) (kTm_good m n k b u' gb h2)) (by simp)
        · split at h
          · obtain ⟨t', u', h1, h2, rfl⟩ := twoT_some h
            exact Lt.mkT (by simp) (mem3 (g0.str _) (kTm_good m n k a t' ga h1) (kTm_good m n k b u' gb h2)) (by simp)
          · cases h
    · rename_i x a b c q
      obtain ⟨k, rfl, hz, hall⟩ := Lt.row' g q
      have g0 := hall (.str x) (by simp)
      have ga := hall a (by simp)
      have gb := hall b (by simp)
      have gc := hall c (by simp)
      split at h
      · obtain ⟨y, s', t', rfl, h1, h2, h3, rfl⟩ := bindT_some h
        exact Lt.mkT (by simp) (mem4 (g0.str _) ga (by rw [kTy_py h1]; exact gb.toT) (kTm_good m n k c t' gc h2)) (by simp)
      · split at h
        · obtain ⟨y, s', t', rfl, h1, h2, h3, rfl⟩ := bindT_some h
          exact Lt.mkT (by simp) (mem4 (g0.str _) ga (by rw [kTy_py h1]; exact gb.toT) (kTm_good m n k c t' gc h2)) (by simp)
        · cases h
    · cases h
theorem oTm_any (l : List (Option Tm)) : ((l.map oTm).any fun z => PyData.eqv z .none) = (allS l).isNone := by
  rw [allS_none]
  induction l with
  | nil => rfl
  | cons o r ih =>
    rw [List.map_cons, List.any_cons, List.any_cons, ih]
    cases o with
    | none => rfl
    | some t => cases t <;> rfl
theorem oTm_good {m : Int} {n k : Nat} {d : PyData} (g : Lt k d) : Lt k (oTm (kTm m n d)) := by
  cases h : kTm m n d with
  | some t => exact kTm_good m n k d t g h
  | none =>
    cases k with
    | zero => exact g.elim
    | succ k => exact ⟨by simp [oTm, PyData.depth], by simp [oTm, PyData.canLay0], by simp [oTm, shr]⟩
theorem Lt.lay {n : Nat} {d : PyData} (g : Lt n d) : d.canLay0 = true := by
  cases n with
  | zero => exact g.elim
  | succ n => exact (show Good n d from g).lay
theorem Lt.dp {n : Nat} {d : PyData} (g : Lt n d) : d.depth < n := by
  cases n with
  | zero => exact g.elim
  | succ n => exact Nat.lt_succ_of_le (show Good n d from g).dp
theorem Lt.shaped {n : Nat} {d : PyData} (g : Lt n d) (h : n ≤ 64) : SeqAt.shaped d = true := by
  unfold SeqAt.shaped
  have := g.dp
  rw [g.lay, decide_eq_true (by omega)]
  rfl
theorem shaped_row {n : Nat} {ds : List PyData} (h : ∀ d ∈ ds, Lt n d) (hn : n ≤ 62) : noDs ds = true ∧ SeqAt.shaped (.list ds) = true ∧ SeqAt.shaped (.tuple ds) = true := by
  have h1 : PyData.canLayAll0 ds = true := canLayAll_iff.mpr fun d hd => (h d hd).lay
  have h2 : PyData.depthAll ds ≤ n := depthAll_le.mpr fun d hd => Nat.le_of_lt (h d hd).dp
  refine ⟨noDs_lay ds h1, ?_, ?_⟩
  · unfold SeqAt.shaped
    rw [PyData.canLay0, PyData.depth, h1, decide_eq_true (by omega)]
    rfl
  · unfold SeqAt.shaped
    rw [PyData.canLay0, PyData.depth, h1, decide_eq_true (by omega)]
    rfl
abbrev mI (f : Int → PyData → PyData) : PyData → PyData → PyData := fun m d => match m with
  | .int m => f m d
  | _ => .none
abbrev aI (A : PyData → Prop) : PyData → PyData → Prop := fun m d => (∃ i, m = .int i) ∧ A d
section
variable {P : Program} {w : World} {K : PySem.W.Frag} {mg : Str → Option Value} {base : Heap}
abbrev spKT (K : PySem.W.Frag) (n : Nat) : Sp := sp2 K (mI fun m d => oTm (kTm m n d)) (aI (Lt n))
abbrev FKT (P : Program) (w : World) (K : PySem.W.Frag) (mg : Str → Option Value) (base : Heap) (T : Txt K mg) (j n : Nat) : Prop := FnOk P w K mg base CX0 j T.kept_term.f T.kept_term.fd ["many", "thing"] (spKT K n)
theorem ok_kept_all (T : Txt K mg) {j n : Nat} (hn : n ≤ 60) (g_kept_term : FKT P w K mg base T j n) : FnOk P w K mg base CX0 (j + 1) T.kept_all.f T.kept_all.fd ["many", "things"] (sp2 K (mI fun m d => oTms (match rowOf d with | some l => allS (l.map (kTm m n)) | none => none)) (aI fun d => ∃ l, rowOf d = some l ∧ l.length < 1000 ∧ ∀ e ∈ l, Lt n e)) := by
  refine ok2 T.kept_all sc_kept_all fun cdv Ar outer s H Q E v u G m d hr e r r2 hA k => ?_
  obtain ⟨⟨m, rfl⟩, l, hl, hz, hall⟩ := hA
  refine ⟨_, (pss_cons (ps_setLc (i := 2) (own := [("thing", 3)]) (g := gName 3) (tt := tYes) rfl sc_kept_all.nd rfl rfl (sw_true rfl rfl rfl (by decide +kernel)) (pi_row (pv 1)) (blkOk_by (N := ["many", "things", "found", "thing"]) (sc := defScope s_kept_all) (by decide +kernel)) (fun _ _ _ _ _ => (pg_name (i := 3) sc_kept_all.nd rfl (Or.inl rfl))) (fun _ _ _ _ _ => pts_nil) (fun _ _ _ _ _ => (pe_call g_kept_term (hr.mono (by omega)) rfl T.kept_term.m T.kept_term.F.kp T.kept_term.b .nil pass0 (pa_cons (pv 0) (pa_cons (pv 3) pa_nil)))))
      (pss_one (ps_ret (pe_ifExp (pt_cmpR (op_inL (hu65 hr)) pe_non (pv 2) rfl) pe_non (pe_callTy call_tupX rfl T.z_tuple (by decide +kernel) (pa_cons (pv 2) pa_nil)))))), ?_⟩
  have hgood : ∀ d ∈ l.map (fun x => oTm (kTm m n x)), Lt n d := by
    intro d hd
    obtain ⟨x, hx, rfl⟩ := List.mem_map.mp hd
    exact oTm_good (hall x hx)
  obtain ⟨s1, s2, s3⟩ := shaped_row hgood (by omega)
  refine ds_set e (dv_lcA (f := fun x => oTm (kTm m n x)) (dvi_row (dv_var rfl r2) hl) (k1 hz) fun x hx y G1 H1 e1 q => dv_call2 (f := mI fun m d => oTm (kTm m n d)) (dv_var rfl (e1.rp r)) (dv_var rfl q) ⟨⟨m, rfl⟩, hall x hx⟩) fun y G1 H1 e1 q => ?_
  have hm : l.map (fun x => oTm (kTm m n x)) = (l.map (kTm m n)).map oTm := by
    rw [List.map_map]
    rfl
  refine ds_ret e1.gh (dv_if (dvt_test (dv_inD dv_non (dv_var rfl q) rfl s1 rfl s2)) (fun h => ?_) fun h => ?_) fun z G2 H2 e2 q2 => k z G2 H2 (e1.trans e2) q2
  · refine Dv.is dv_non ?_
    rw [hm, oTm_any] at h
    show PyData.none = oTms _
    rw [hl]
    show PyData.none = oTms (allS (l.map (kTm m n)))
    cases q : allS (l.map (kTm m n)) with
    | none => rfl
    | some ts => rw [q] at h; cases h
  · refine Dv.is (dv_tupOf (dv_var rfl q) rfl) ?_
    rw [hm, oTm_any] at h
    show _ = oTms _
    rw [hl]
    show _ = oTms (allS (l.map (kTm m n)))
    cases q : allS (l.map (kTm m n)) with
    | none => rw [q] at h; cases h
    | some ts =>
      rw [hm, allS_py q]
      rfl
end
end K82

set_option Elab.async false
set_option linter.all false
set_option maxRecDepth 100000
set_option maxHeartbeats 4000000
namespace K82
open PySem L2 PyProof.Rows
section
variable {P : Program} {w : World} {K : PySem.W.Frag} {mg : Str → Option Value} {base : Heap}
def bindD (x : PyData) (a : PyData) (s : Option Ty) (t : Option Tm) : PyData := match s, t with
  | some s, some t => if isNm a = true then .tuple [x, a, s.py, t.py] else .none
  | _, _ => .none
abbrev spKB (K : PySem.W.Frag) (n : Nat) : Sp := spD K 2 fun ds d => ∃ m thing x a b c, ds = [.int m, thing] ∧ rowOf thing = some [x, a, b, c] ∧ shr a = true ∧ Lt n b ∧ Lt n c ∧ d = bindD x a (kTy b) (kTm m n c)
theorem ok_kept_binder (T : Txt K mg) {j n : Nat} (hj : n + 2 ≤ j) (g_kept_term : FKT P w K mg base T j n) : FnOk P w K mg base CX0 (j + 1) T.kept_binder.f T.kept_binder.fd ["many", "thing"] (spKB K n) := by
  have g_kept_type : FnOk P w K mg base CX0 (n + 2) _ _ _ _ := ok_kept_type T n
  have g_is_name : FnOk P w K mg base CX0 1 _ _ _ _ := ok_is_name T
  refine T.kept_binder.F.ok sc_kept_binder (fun vs H Q E z => z.1) (fun cdv Ar outer s H vs Q E hr z => ?_)
  obtain ⟨hl, G, ds, d, e, r, ⟨m, thing, x, a, b, c, rfl, hrow, ha, hb, hc, rfl⟩, k⟩ := z
  cases r with
  | cons r1 r =>
  cases r with
  | cons r2 r =>
  cases r
  refine ⟨_, (pss_cons (ps_asg (pv 1) (pg_row rfl (pgs_cons (pg_name (i := 2) sc_kept_binder.nd rfl (Or.inl rfl)) (pgs_cons (pg_name (i := 3) sc_kept_binder.nd rfl (Or.inl rfl)) (pgs_cons (pg_name (i := 4) sc_kept_binder.nd rfl (Or.inl rfl)) (pgs_cons (pg_name (i := 5) sc_kept_binder.nd rfl (Or.inl rfl)) pgs_nil))))))
      (pss_cons (ps_par (i := 6) (j := 7) rfl sc_kept_binder.nd rfl rfl (by decide) rfl rfl (pa_cons (pe_call g_kept_type (hr.mono (by omega)) rfl T.kept_type.m T.kept_type.F.kp T.kept_type.b .nil pass0 (pa_cons (pv 4) pa_nil)) (pa_cons (pe_call g_kept_term (hr.mono (by omega)) rfl T.kept_term.m T.kept_term.F.kp T.kept_term.b .nil pass0 (pa_cons (pv 0) (pa_cons (pv 5) pa_nil))) pa_nil)) rfl)
      (pss_one (ps_ret (pe_ifExp (PW.pt (pw_or (pt_not (pt_val (pe_call g_is_name (hr.mono (by omega)) rfl T.is_name.m T.is_name.F.kp T.is_name.b .nil pass0 (pa_cons (pv 3) pa_nil)))) (pw_or (pt_cmpR op_isNX (pv 6) pe_non (nomark _)) (pw_or1 (pt_cmpR op_isNX (pv 7) pe_non (nomark _)))))) pe_non (pe_tup (pa_cons (pv 2) (pa_cons (pv 3) (pa_cons (pv 6) (pa_cons (pv 7) pa_nil)))))))))), ?_⟩
  refine ds_row e (dv_var rfl r2) hrow rfl fun vs G1 H1 e1 q => ?_
  cases q with
  | cons qx q =>
  cases q with
  | cons qa q =>
  cases q with
  | cons qb q =>
  cases q with
  | cons qc q =>
  cases q
  refine ⟨_, _, rfl, _, _, rfl, _, _, rfl, _, _, rfl, rfl, ?_⟩
  refine ds_par e1.gh (dva_cons (dv_call1 (dv_var rfl qb) hb) (dva_cons (dv_call2 (f := mI fun m d => oTm (kTm m n d)) (dv_var rfl (e1.rp r1)) (dv_var rfl qc) ⟨⟨m, rfl⟩, hc⟩) dva_nil)) fun v w G2 H2 e2 q1 q2 => ?_
  have e12 := e1.trans e2
  have q2 : Rp K G2 w (oTm (kTm m n c)) := q2
  have q1 : Rp K G2 v (oTy (kTy b)) := q1
  dsimp only
  refine ds_ret (d := bindD x a (kTy b) (kTm m n c)) e2.gh (dv_if (dvt_or (dvt_not (dvt_B (dv_call1 (dv_var rfl (e2.rp qa)) ha))) fun _ => dvt_or (dvt_test (dv_isN (dv_var rfl q1))) fun _ => dvt_test (dv_isN (dv_var rfl q2))) (fun h => ?_) fun h => ?_) fun z G3 H3 e3 q3 => k z G3 H3 (e12.trans e3) q3
  · refine Dv.is dv_non ?_
    rw [isN_oTy, isN_oTm] at h
    unfold bindD
    split
    · rename_i s' t' hs ht
      rw [hs, ht] at h
      simp at h
      rw [if_neg (by rw [h]; simp)]
    · rfl
  · rw [isN_oTy, isN_oTm] at h
    unfold bindD
    split
    · rename_i s' t' hs ht
      rw [hs] at q1
      rw [ht] at q2
      rw [hs, ht] at h
      simp at h
      rw [if_pos h]
      exact dv_tup (dva_cons (dv_var rfl (e2.rp qx)) (dva_cons (dv_var rfl (e2.rp qa)) (dva_cons (dv_var rfl q1) (dva_cons (dv_var rfl q2) dva_nil)))) (by simp)
    · rename_i hno
      exfalso
      cases hs : kTy b with
      | none => rw [hs] at h; simp at h
      | some s' =>
        cases ht : kTm m n c with
        | none => rw [ht] at h; simp at h
        | some t' => exact hno s' t' hs ht
abbrev spKC (K : PySem.W.Frag) (n : Nat) : Sp := spD K 2 fun ds d => ∃ m thing x a b, ds = [.int m, thing] ∧ rowOf thing = some [x, a, b] ∧ Lt n a ∧ Lt n b ∧ d = oTm (caseT (kTm m n a) (partsT m n b))
theorem ok_kept_case (T : Txt K mg) {j n : Nat} (hn : n ≤ 60) (hj : 1 ≤ j) (g_kept_term : FKT P w K mg base T j n) : FnOk P w K mg base CX0 (j + 2) T.kept_case.f T.kept_case.fd ["many", "thing"] (spKC K n) := by
  have g_kept_all : FnOk P w K mg base CX0 (j + 1) _ _ _ _ := ok_kept_all T hn g_kept_term
  have g_is_row : FnOk P w K mg base CX0 2 _ _ _ _ := ok_is_row T
  refine T.kept_case.F.ok sc_kept_case (fun vs H Q E z => z.1) (fun cdv Ar outer s H vs Q E hr z => ?_)
  obtain ⟨hl, G, ds, d, e, r, ⟨m, thing, x, a, b, rfl, hrow, ha, hb, rfl⟩, k⟩ := z
  cases r with
  | cons r1 r =>
  cases r with
  | cons r2 r =>
  cases r
  refine ⟨_, (pss_cons (ps_par (i := 2) (j := 3) rfl sc_kept_case.nd rfl rfl (by decide) rfl rfl (pa_cons (pe_call g_kept_term (hr.mono (by omega)) rfl T.kept_term.m T.kept_term.F.kp T.kept_term.b .nil pass0 (pa_cons (pv 0) (pa_cons (pe_ix ix_seq (pv 1) pe_int (fun _ _ => rfl)) pa_nil))) (pa_cons (pe_ifExp (pt_val (pe_call g_is_row (hr.mono (by omega)) rfl T.is_row.m T.is_row.F.kp T.is_row.b .nil pass0 (pa_cons (pe_ix ix_seq (pv 1) pe_int (fun _ _ => rfl)) (pa_cons (pv 0) pa_nil)))) (pe_call g_kept_all (hr.mono (by omega)) rfl T.kept_all.m T.kept_all.F.kp T.kept_all.b .nil pass0 (pa_cons (pv 0) (pa_cons (pe_ix ix_seq (pv 1) pe_int (fun _ _ => rfl)) pa_nil))) pe_non) pa_nil)) rfl)
      (pss_one (ps_ret (pe_ifExp (PW.pt (pw_or (pt_cmpR op_isNX (pv 2) pe_non (nomark _)) (pw_or1 (pt_cmpR op_isNX (pv 3) pe_non (nomark _))))) pe_non (pe_tup (pa_cons pe_str (pa_cons (pv 2) (pa_cons (pv 3) pa_nil)))))))), ?_⟩
  refine ds_par e (dva_cons (dv_call2 (f := mI fun m d => oTm (kTm m n d)) (dv_var rfl r1) (dv_ix (dv_var rfl r2) dv_int hrow rfl) ⟨⟨m, rfl⟩, ha⟩)
    (dva_cons (d := oTms (partsT m n b)) (dv_if (dvt_B (dv_call2 (f := fun d m => match m with | .int m => .bool (isRow d m) | _ => .none) (dv_ix (dv_var rfl r2) dv_int hrow rfl) (dv_var rfl r1) ⟨m, rfl⟩)) (fun h => ?_) fun h => ?_) dva_nil)) fun v w G2 H2 e2 q1 q2 => ?_
  · unfold isRow at h
    cases hl : rowOf b with
    | none => rw [hl] at h; cases h
    | some l =>
      rw [hl] at h
      obtain ⟨n', hn', hz, hall⟩ := Lt.row' hb hl
      refine Dv.is (dv_call2 (f := mI fun m d => oTms (match rowOf d with | some l => allS (l.map (kTm m n)) | none => none)) (dv_var rfl r1) (dv_ix (dv_var rfl r2) dv_int hrow rfl) ⟨⟨m, rfl⟩, l, hl, hz, fun e he => (hall e he).mono (by omega)⟩) ?_
      show oTms _ = oTms _
      unfold partsT
      rw [hl]
      simp only at h ⊢
      rw [if_pos (by simpa using h)]
  · refine Dv.is dv_non ?_
    unfold isRow at h
    unfold partsT
    cases hl : rowOf b with
    | none => rfl
    | some l =>
      rw [hl] at h
      simp only at h ⊢
      rw [if_neg (by simpa using h)]
      rfl
  · have hp : isN (oTms (partsT m n b)) = (partsT m n b).isNone := by cases partsT m n b <;> rfl
    have q1 : Rp K G2 v (oTm (kTm m n a)) := q1
    refine ds_ret e2.gh (dv_if (dvt_or (dvt_test (dv_isN (dv_var rfl q1))) fun _ => dvt_test (dv_isN (dv_var rfl q2))) (fun h => ?_) fun h => ?_) fun z G3 H3 e3 q3 => k z G3 H3 (e2.trans e3) q3
    · rw [isN_oTm, hp] at h
      refine Dv.is dv_non ?_
      cases hs : kTm m n a with
      | none => rfl
      | some t' =>
        cases ht : partsT m n b with
        | none => rfl
        | some l' => rw [hs, ht] at h; simp at h
    · rw [isN_oTm, hp] at h
      cases hs : kTm m n a with
      | none => rw [hs] at h; simp at h
      | some t' =>
        cases ht : partsT m n b with
        | none => rw [ht] at h; simp at h
        | some l' =>
          rw [hs] at q1
          rw [ht] at q2
          exact dv_tup (dva_cons dv_str (dva_cons (dv_var rfl q1) (dva_cons (dv_var rfl q2) dva_nil))) (by simp)
end
end K82

set_option Elab.async false
set_option linter.all false
set_option maxRecDepth 100000
set_option maxHeartbeats 4000000
namespace K82
open PySem L2 PyProof.Rows
@[simp] theorem ne_nothing_name : (("nothing" : Str) = "name") = False := eq_false (by decide +kernel)
@[simp] theorem ne_nothing_constant : (("nothing" : Str) = "constant") = False := eq_false (by decide +kernel)
@[simp] theorem ne_nothing_fun : (("nothing" : Str) = "fun") = False := eq_false (by decide +kernel)
@[simp] theorem ne_nothing_fix : (("nothing" : Str) = "fix") = False := eq_false (by decide +kernel)
@[simp] theorem ne_nothing_case : (("nothing" : Str) = "case") = False := eq_false (by decide +kernel)
@[simp] theorem ne_nothing_call : (("nothing" : Str) = "call") = False := eq_false (by decide +kernel)
@[simp] theorem ne_nothing_either : (("nothing" : Str) = "either") = False := eq_false (by decide +kernel)
@[simp] theorem ne_name_nothing : (("name" : Str) = "nothing") = False := eq_false (by decide +kernel)
@[simp] theorem ne_name_constant : (("name" : Str) = "constant") = False := eq_false (by decide +kernel)
@[simp] theorem ne_name_fun : (("name" : Str) = "fun") = False := eq_false (by decide +kernel)
@[simp] theorem ne_name_fix : (("name" : Str) = "fix") = False := eq_false (by decide +kernel)
@[simp] theorem ne_name_case : (("name" : Str) = "case") = False := eq_false (by decide +kernel)
@[simp] theorem ne_name_call : (("name" : Str) = "call") = False := eq_false (by decide +kernel)
@[simp] theorem ne_name_either : (("name" : Str) = "either") = False := eq_false (by decide +kernel)
@[simp] theorem ne_constant_nothing : (("constant" : Str) = "nothing") = False := eq_false (by decide +kernel)
@[simp] theorem ne_constant_name : (("constant" : Str) = "name") = False := eq_false (by decide +kernel)
@[simp] theorem ne_constant_fun : (("constant" : Str) = "fun") = False := eq_false (by decide +kernel)
@[simp] theorem ne_constant_fix : (("constant" : Str) = "fix") = False := eq_false (by decide +kernel)
@[simp] theorem ne_constant_case : (("constant" : Str) = "case") = False := eq_false (by decide +kernel)
@[simp] theorem ne_constant_call : (("constant" : Str) = "call") = False := eq_false (by decide +kernel)
@[simp] theorem ne_constant_either : (("constant" : Str) = "either") = False := eq_false (by decide +kernel)
@[simp] theorem ne_fun_nothing : (("fun" : Str) = "nothing") = False := eq_false (by decide +kernel)
@[simp] theorem ne_fun_name : (("fun" : Str) = "name") = False := eq_false (by decide +kernel)
@[simp] theorem ne_fun_constant : (("fun" : Str) = "constant") = False := eq_false (by decide +kernel)
@[simp] theorem ne_fun_fix : (("fun" : Str) = "fix") = False := eq_false (by decide +kernel)
@[simp] theorem ne_fun_case : (("fun" : Str) = "case") = False := eq_false (by decide +kernel)
@[simp] theorem ne_fun_call : (("fun" : Str) = "call") = False := eq_false (by decide +kernel)
@[simp] theorem ne_fun_either : (("fun" : Str) = "either") = False := eq_false (by decide +kernel)
@[simp] theorem ne_fix_nothing : (("fix" : Str) = "nothing") = False := eq_false (by decide +kernel)
@[simp] theorem ne_fix_name : (("fix" : Str) = "name") = False := eq_false (by decide +kernel)
@[simp] theorem ne_fix_constant : (("fix" : Str) = "constant") = False := eq_false (by decide +kernel)
@[simp] theorem ne_fix_fun : (("fix" : Str) = "fun") = False := eq_false (by decide +kernel)
@[simp] theorem ne_fix_case : (("fix" : Str) = "case") = False := eq_false (by decide +kernel)
@[simp] theorem ne_fix_call : (("fix" : Str) = "call") = False := eq_false (by decide +kernel)
@[simp] theorem ne_fix_either : (("fix" : Str) = "either") = False := eq_false (by decide +kernel)
@[simp] theorem ne_case_nothing : (("case" : Str) = "nothing") = False := eq_false (by decide +kernel)
@[simp] theorem ne_case_name : (("case" : Str) = "name") = False := eq_false (by decide +kernel)
@[simp] theorem ne_case_constant : (("case" : Str) = "constant") = False := eq_false (by decide +kernel)
@[simp] theorem ne_case_fun : (("case" : Str) = "fun") = False := eq_false (by decide +kernel)
@[simp] theorem ne_case_fix : (("case" : Str) = "fix") = False := eq_false (by decide +kernel)
@[simp] theorem ne_case_call : (("case" : Str) = "call") = False := eq_false (by decide +kernel)
@[simp] theorem ne_case_either : (("case" : Str) = "either") = False := eq_false (by decide +kernel)
@[simp] theorem ne_call_nothing : (("call" : Str) = "nothing") = False := eq_false (by decide +kernel)
@[simp] theorem ne_call_name : (("call" : Str) = "name") = False := eq_false (by decide +kernel)
@[simp] theorem ne_call_constant : (("call" : Str) = "constant") = False := eq_false (by decide +kernel)
@[simp] theorem ne_call_fun : (("call" : Str) = "fun") = False := eq_false (by decide +kernel)
@[simp] theorem ne_call_fix : (("call" : Str) = "fix") = False := eq_false (by decide +kernel)
@[simp] theorem ne_call_case : (("call" : Str) = "case") = False := eq_false (by decide +kernel)
@[simp] theorem ne_call_either : (("call" : Str) = "either") = False := eq_false (by decide +kernel)
@[simp] theorem ne_either_nothing : (("either" : Str) = "nothing") = False := eq_false (by decide +kernel)
@[simp] theorem ne_either_name : (("either" : Str) = "name") = False := eq_false (by decide +kernel)
@[simp] theorem ne_either_constant : (("either" : Str) = "constant") = False := eq_false (by decide +kernel)
@[simp] theorem ne_either_fun : (("either" : Str) = "fun") = False := eq_false (by decide +kernel)
@[simp] theorem ne_either_fix : (("either" : Str) = "fix") = False := eq_false (by decide +kernel)
@[simp] theorem ne_either_case : (("either" : Str) = "case") = False := eq_false (by decide +kernel)
@[simp] theorem ne_either_call : (("either" : Str) = "call") = False := eq_false (by decide +kernel)
def m1 (f : PyData → Option Tm) : List PyData → Option Tm
  | [a] => f a
  | _ => none
def m2 (f : PyData → PyData → Option Tm) : List PyData → Option Tm
  | [a, b] => f a b
  | _ => none
def m3 (f : PyData → PyData → PyData → Option Tm) : List PyData → Option Tm
  | [a, b, c] => f a b c
  | _ => none
section
variable {m : Int} {n : Nat} {d : PyData} {r : List PyData} {x : Str}
theorem kTm_none (h : rowOf d = none) : kTm m n d = none := by
  cases n with
  | zero => rfl
  | succ n =>
    unfold kTm
    rw [h]
theorem kTm_head {ds : List PyData} (h : rowOf d = some ds) (h2 : ∀ x r, ds ≠ .str x :: r) : kTm m n d = none := by
  cases n with
  | zero => rfl
  | succ n =>
    unfold kTm
    rw [h]
    split <;> first | rfl | (rename_i q; cases q; exact absurd rfl (h2 _ _))
theorem kTm_long {ds : List PyData} (h : rowOf d = some ds) (h2 : 4 < ds.length) : kTm m n d = none := by
  cases n with
  | zero => rfl
  | succ n =>
    unfold kTm
    rw [h]
    split <;> first | rfl | (rename_i q; cases q; simp at h2)
theorem kTm_nothing (h : rowOf d = some (.str "nothing" :: r)) : kTm m (n + 1) d = if r = [] then some .no else none := by
  conv => lhs; unfold kTm
  rw [h]
  rcases r with _ | ⟨a, _ | ⟨b, _ | ⟨c, _ | ⟨e, r⟩⟩⟩⟩ <;> simp [m1, m2, m3]
theorem kTm_name (h : rowOf d = some (.str "name" :: r)) : kTm m (n + 1) d = m1 nameT r := by
  conv => lhs; unfold kTm
  rw [h]
  rcases r with _ | ⟨a, _ | ⟨b, _ | ⟨c, _ | ⟨e, r⟩⟩⟩⟩ <;> simp [m1, m2, m3]
theorem kTm_constant (h : rowOf d = some (.str "constant" :: r)) : kTm m (n + 1) d = m1 (conT m) r := by
  conv => lhs; unfold kTm
  rw [h]
  rcases r with _ | ⟨a, _ | ⟨b, _ | ⟨c, _ | ⟨e, r⟩⟩⟩⟩ <;> simp [m1, m2, m3]
theorem kTm_fun (h : rowOf d = some (.str "fun" :: r)) : kTm m (n + 1) d = m3 (fun a b c => bindT .fn a (kTy b) (kTm m n c)) r := by
  conv => lhs; unfold kTm
  rw [h]
  rcases r with _ | ⟨a, _ | ⟨b, _ | ⟨c, _ | ⟨e, r⟩⟩⟩⟩ <;> simp [m1, m2, m3]
theorem kTm_fix (h : rowOf d = some (.str "fix" :: r)) : kTm m (n + 1) d = m3 (fun a b c => bindT .fx a (kTy b) (kTm m n c)) r := by
  conv => lhs; unfold kTm
  rw [h]
  rcases r with _ | ⟨a, _ | ⟨b, _ | ⟨c, _ | ⟨e, r⟩⟩⟩⟩ <;> simp [m1, m2, m3]
theorem kTm_cas (h : rowOf d = some (.str "case" :: r)) : kTm m (n + 1) d = m2 (fun a b => caseT (kTm m n a) (partsT m n b)) r := by
  conv => lhs; unfold kTm
  rw [h]
  rcases r with _ | ⟨a, _ | ⟨b, _ | ⟨c, _ | ⟨e, r⟩⟩⟩⟩ <;> simp [partsT, m2]
theorem kTm_call (h : rowOf d = some (.str "call" :: r)) : kTm m (n + 1) d = m2 (fun a b => twoT .ap (kTm m n a) (kTm m n b)) r := by
  conv => lhs; unfold kTm
  rw [h]
  rcases r with _ | ⟨a, _ | ⟨b, _ | ⟨c, _ | ⟨e, r⟩⟩⟩⟩ <;> simp [m1, m2, m3]
theorem kTm_either (h : rowOf d = some (.str "either" :: r)) : kTm m (n + 1) d = m2 (fun a b => twoT .ei (kTm m n a) (kTm m n b)) r := by
  conv => lhs; unfold kTm
  rw [h]
  rcases r with _ | ⟨a, _ | ⟨b, _ | ⟨c, _ | ⟨e, r⟩⟩⟩⟩ <;> simp [m1, m2, m3]
theorem kTm_else (h : rowOf d = some (.str x :: r)) (h1 : ¬ x = "nothing") (h2 : ¬ x = "name") (h3 : ¬ x = "constant") (h4 : ¬ x = "fun") (h5 : ¬ x = "fix") (h6 : ¬ x = "case") (h7 : ¬ x = "call") (h8 : ¬ x = "either") : kTm m (n + 1) d = none := by
  conv => lhs; unfold kTm
  rw [h]
  rcases r with _ | ⟨a, _ | ⟨b, _ | ⟨c, _ | ⟨e, r⟩⟩⟩⟩ <;> simp [h1, h2, h3, h4, h5, h6, h7, h8]
end
end K82

set_option Elab.async false
set_option linter.all false
set_option maxRecDepth 100000
set_option maxHeartbeats 4000000
namespace K82
open PySem L2 PyProof.Rows
theorem eqv_str {x y : Str} : PyData.eqv (.str x) (.str y) = decide (x = y) := by
  rw [Bool.eq_iff_iff]
  simp [PyData.eqv]
theorem eqv_int {x y : Int} : PyData.eqv (.int x) (.int y) = decide (x = y) := by
  rw [Bool.eq_iff_iff]
  simp [PyData.eqv]
section
variable {P : Program} {w : World} {K : PySem.W.Frag} {mg : Str → Option Value} {base : Heap}
theorem len1 {r : List PyData} {x : PyData} (h : PyData.eqv (.int ((x :: r).length : Int)) (.int 1) = true) : r = [] := by
  rw [eqv_int] at h
  rcases r with _ | ⟨a, r⟩
  · rfl
  · simp at h; omega
theorem len2 {r : List PyData} {x : PyData} (h : PyData.eqv (.int ((x :: r).length : Int)) (.int 2) = true) : ∃ a, r = [a] := by
  rw [eqv_int] at h
  rcases r with _ | ⟨a, _ | ⟨b, r⟩⟩
  · simp at h
  · exact ⟨a, rfl⟩
  · simp at h; omega
theorem len3 {r : List PyData} {x : PyData} (h : PyData.eqv (.int ((x :: r).length : Int)) (.int 3) = true) : ∃ a b, r = [a, b] := by
  rw [eqv_int] at h
  rcases r with _ | ⟨a, _ | ⟨b, _ | ⟨c, r⟩⟩⟩
  · simp at h
  · simp at h
  · exact ⟨a, b, rfl⟩
  · simp at h; omega
theorem len4 {r : List PyData} {x : PyData} (h : PyData.eqv (.int ((x :: r).length : Int)) (.int 4) = true) : ∃ a b c, r = [a, b, c] := by
  rw [eqv_int] at h
  rcases r with _ | ⟨a, _ | ⟨b, _ | ⟨c, _ | ⟨d, r⟩⟩⟩⟩
  · simp at h
  · simp at h
  · simp at h
  · exact ⟨a, b, c, rfl⟩
  · simp at h; omega
theorem m1_none {r : List PyData} {x : PyData} {f : PyData → Option Tm} (h : PyData.eqv (.int ((x :: r).length : Int)) (.int 2) = false) : m1 f r = none := by
  rcases r with _ | ⟨a, _ | ⟨b, r⟩⟩ <;> first | rfl | (rw [eqv_int] at h; simp at h)
theorem m2_none {r : List PyData} {x : PyData} {f : PyData → PyData → Option Tm} (h : PyData.eqv (.int ((x :: r).length : Int)) (.int 3) = false) : m2 f r = none := by
  rcases r with _ | ⟨a, _ | ⟨b, _ | ⟨c, r⟩⟩⟩ <;> first | rfl | (rw [eqv_int] at h; simp at h)
theorem m3_none {r : List PyData} {x : PyData} {f : PyData → PyData → PyData → Option Tm} (h : PyData.eqv (.int ((x :: r).length : Int)) (.int 4) = false) : m3 f r = none := by
  rcases r with _ | ⟨a, _ | ⟨b, _ | ⟨c, _ | ⟨d, r⟩⟩⟩⟩ <;> first | rfl | (rw [eqv_int] at h; simp at h)
theorem isNm_str {a : PyData} (h : isNm a = true) : ∃ y, a = .str y ∧ nmOk y = true := by
  cases a <;> simp [isNm] at h
  exact ⟨_, rfl, h⟩
theorem isBe_int {a : PyData} {m : Int} (h : isBe a m = true) : ∃ y, a = .int y := by
  cases a <;> simp [isBe] at h
  exact ⟨_, rfl⟩
theorem nameT_yes {y : Str} (h : nmOk y = true) : nameT (.str y) = some (.name y) := if_pos h
theorem conT_yes {m y : Int} (h : isBe (.int y) m = true) : conT m (.int y) = some (.con y) := if_pos h
theorem any2 {a b x : Str} (h : ([a, b].any fun y => y == x) = true) : x = a ∨ x = b := by
  rw [List.any_cons, List.any_cons, List.any_nil, Bool.or_false, Bool.or_eq_true, beq_iff_eq, beq_iff_eq] at h
  exact h.imp Eq.symm Eq.symm
theorem cutR_row {d : PyData} {ds : List PyData} (h : rowOf d = some ds) (lo hi : Option Int) : rowOf (cutR d lo hi) = some (cutL ds lo hi) := by
  rcases rowOf_cases h with q | q <;> subst q <;> rfl
theorem any2n {a b x : Str} (h : (!([a, b].any fun y => y == x)) = false) : x = a ∨ x = b := any2 (by rwa [Bool.not_eq_false'] at h)
theorem bindD_bindT (mk : Str → Ty → Tm → Tm) (x : Str) (hmk : ∀ y s t, (mk y s t).py = .tuple [.str x, .str y, s.py, t.py]) (a : PyData) (s : Option Ty) (t : Option Tm) : bindD (.str x) a s t = oTm (bindT mk a s t) := by
  cases s with
  | none => cases a <;> rfl
  | some s =>
    cases t with
    | none => cases a <;> rfl
    | some t =>
      cases a with
      | str y =>
        show (if nmOk y = true then _ else _) = oTm (if nmOk y = true then _ else _)
        by_cases h : nmOk y = true
        · rw [if_pos h, if_pos h]
          exact (hmk y s t).symm
        · rw [if_neg h, if_neg h]
          rfl
      | _ => rfl
theorem oTms_two (mk : Tm → Tm → Tm) (x : Str) (hmk : ∀ t u, (mk t u).py = .tuple [.str x, t.py, u.py]) (o o2 : Option Tm) : (match oTms (allS [o, o2]) with | .tuple l => .tuple (.str x :: l) | _ => .none) = oTm (twoT mk o o2) := by
  cases o with
  | none => rfl
  | some t =>
    cases o2 with
    | none => rfl
    | some u => exact (hmk t u).symm
theorem at0 {x : PyData} {r : List PyData} : atI (x :: r) 0 = some x := by
  unfold atI ixN
  simp
theorem ok_kept_term (T : Txt K mg) : ∀ n, n ≤ 60 → FKT P w K mg base T (3 * n + 4) n
  | 0, _ => fn_no (by
    rintro vs H Q E ⟨_, _, _, _, _, _, ⟨x, y, _, h, _⟩, _⟩
    exact h.2)
  | n + 1, hn => by
    have g_kept_term : FKT P w K mg base T (3 * n + 4) n := ok_kept_term T n (by omega)
    have g_kept_all : FnOk P w K mg base CX0 (3 * n + 4 + 1) _ _ _ _ := ok_kept_all T (by omega) g_kept_term
    have g_kept_binder : FnOk P w K mg base CX0 (3 * n + 4 + 1) _ _ _ _ := ok_kept_binder T (by omega) g_kept_term
    have g_kept_case : FnOk P w K mg base CX0 (3 * n + 4 + 2) _ _ _ _ := ok_kept_case T (by omega) (by omega) g_kept_term
    have g_is_list : FnOk P w K mg base CX0 1 _ _ _ _ := ok_is_list T
    have g_is_name : FnOk P w K mg base CX0 1 _ _ _ _ := ok_is_name T
    have g_is_below : FnOk P w K mg base CX0 3 _ _ _ _ := ok_is_below T
    refine ok2 (k := 3 * n + 6) T.kept_term sc_kept_term fun cdv Ar outer s H Q E v u G m d hr e r r2 hA k => ?_
    obtain ⟨⟨m, rfl⟩, hg⟩ := hA
    refine ⟨_, (pss_cons (ps_if (PW.pt (pw_or (pt_not (pt_val (pe_call g_is_list (hr.mono (by omega)) rfl T.is_list.m T.is_list.F.kp T.is_list.b .nil pass0 (pa_cons (pv 1) pa_nil)))) (pw_or (pt_not (pt_chain op_le op_le pe_int (pe_callB call_lenX rfl T.z_len (by decide +kernel) (pa_cons (pv 1) pa_nil)) pe_int)) (pw_or1 (pt_not (pt_val (pe_callB call_isiX rfl T.z_isinstance (by decide +kernel) (pa_cons (pe_ix ix_seq (pv 1) pe_int (fun _ _ => rfl)) (pa_cons (pe_bltn (v := .ty "str") rfl T.z_str (by decide +kernel) rfl) pa_nil))))))))) (pss_one (ps_ret pe_non)) pss_nil)
      (pss_cons (ps_par (i := 2) (j := 3) rfl sc_kept_term.nd rfl rfl (by decide) rfl rfl (pa_cons (pe_ix ix_seq (pv 1) pe_int (fun _ _ => rfl)) (pa_cons (pe_callB call_lenX rfl T.z_len (by decide +kernel) (pa_cons (pv 1) pa_nil)) pa_nil)) rfl)
      (pss_cons (ps_if (pt_cmpR (op_eqX hr.units) (pv 2) pe_str (nomark _)) (pss_one (ps_ret (pe_ifExp (pt_cmpR (op_eqX hr.units) (pv 3) pe_int (nomark _)) (pe_tup (pa_cons pe_str pa_nil)) pe_non))) pss_nil)
      (pss_cons (ps_if (pt_cmpR (op_eqX hr.units) (pv 2) pe_str (nomark _)) (pss_one (ps_ret (pe_ifExp (PW.pt (pw_and (pt_cmpR (op_eqX hr.units) (pv 3) pe_int (nomark _)) (pw_and1 (pt_val (pe_call g_is_name (hr.mono (by omega)) rfl T.is_name.m T.is_name.F.kp T.is_name.b .nil pass0 (pa_cons (pe_ix ix_seq (pv 1) pe_int (fun _ _ => rfl)) pa_nil)))))) (pe_tup (pa_cons pe_str (pa_cons (pe_ix ix_seq (pv 1) pe_int (fun _ _ => rfl)) pa_nil))) pe_non))) pss_nil)
      (pss_cons (ps_if (pt_cmpR (op_eqX hr.units) (pv 2) pe_str (nomark _)) (pss_one (ps_ret (pe_ifExp (PW.pt (pw_and (pt_cmpR (op_eqX hr.units) (pv 3) pe_int (nomark _)) (pw_and1 (pt_val (pe_call g_is_below (hr.mono (by omega)) rfl T.is_below.m T.is_below.F.kp T.is_below.b .nil pass0 (pa_cons (pe_ix ix_seq (pv 1) pe_int (fun _ _ => rfl)) (pa_cons (pv 0) pa_nil))))))) (pe_tup (pa_cons pe_str (pa_cons (pe_ix ix_seq (pv 1) pe_int (fun _ _ => rfl)) pa_nil))) pe_non))) pss_nil)
      (pss_cons (ps_if (pt_cmpR (op_inL (hu65 hr)) (pv 2) (pe_glob rfl T.m_BINDS T.r_BINDS) rfl) (pss_one (ps_ret (pe_ifExp (pt_cmpR (op_eqX hr.units) (pv 3) pe_int (nomark _)) (pe_call g_kept_binder (hr.mono (by omega)) rfl T.kept_binder.m T.kept_binder.F.kp T.kept_binder.b .nil pass0 (pa_cons (pv 0) (pa_cons (pv 1) pa_nil))) pe_non))) pss_nil)
      (pss_cons (ps_if (pt_cmpR (op_eqX hr.units) (pv 2) pe_str (nomark _)) (pss_one (ps_ret (pe_ifExp (pt_cmpR (op_eqX hr.units) (pv 3) pe_int (nomark _)) (pe_call g_kept_case (hr.mono (by omega)) rfl T.kept_case.m T.kept_case.F.kp T.kept_case.b .nil pass0 (pa_cons (pv 0) (pa_cons (pv 1) pa_nil))) pe_non))) pss_nil)
      (pss_cons (ps_if (PW.pt (pw_or (pt_cmpR (op_notInL (hu65 hr)) (pv 2) (pe_tup (pa_cons pe_str (pa_cons pe_str pa_nil))) rfl) (pw_or1 (pt_cmpR (op_neX hr.units) (pv 3) pe_int (nomark _))))) (pss_one (ps_ret pe_non)) pss_nil)
      (pss_cons (ps_set (i := 4) sc_kept_term.nd rfl (Or.inl rfl) (pe_call g_kept_all (hr.mono (by omega)) rfl T.kept_all.m T.kept_all.F.kp T.kept_all.b .nil pass0 (pa_cons (pv 0) (pa_cons (pe_slice sl_X (pv 1) (po_some pe_int) po_none) pa_nil))))
      (pss_one (ps_ret (pe_ifExp (pt_cmpR op_isNX (pv 4) pe_non (nomark _)) pe_non (pe_op op_addX (pe_tup (pa_cons (pv 2) pa_nil)) (pv 4)))))))))))))), ?_⟩
    have kn : kTm m (n + 1) d = none → ∀ v G' H', Ext G H G' H' → Rp K G' v PyData.none → Q v H' := fun hno v G' H' e' q => k v G' H' e' (by
      show Rp K G' v (oTm (kTm m (n + 1) d))
      rw [hno]
      exact q)
    have hl : Dv K (tCall (sp1 K (fun d => .bool (isL d)) any1) [] E0 (tCons (tVar 1) tNil)) (start ["many", "thing", "word", "size", "parts"] [v, u]) G H (.bool (isL d)) := dv_call1 (A := any1) (dv_var rfl r2) trivial
    cases hrow : rowOf d with
    | none =>
      have hL : isL d = false := by rw [isL_row, hrow]; rfl
      refine ds_if (b := true) e ?_ ?_ ?_
      · exact DvT.is (dvt_or (c := false) (dvt_not (dvt_B hl)) fun h => by rw [hL] at h; cases h) (by rw [hL]; rfl)
      · exact fun _ G1 H1 e1 => ds_ret e1.gh dv_non fun v G2 H2 e2 q => kn (kTm_none hrow) v G2 H2 (e1.trans e2) q
      · intro h; cases h
    | some ds =>
      have hL : isL d = true := by rw [isL_row, hrow]; rfl
      obtain ⟨n0, hn0, hz, hall⟩ := Lt.row' hg hrow
      cases hn0
      have hlen := dv_chain (K := K) (p := fun i j => decide (i ≤ j)) (p' := fun i j => decide (i ≤ j)) (l := 1) (n := 4) dv_int (dv_len (dv_var (σ := start ["many", "thing", "word", "size", "parts"] [v, u]) (i := 1) (G := G) (H := H) rfl r2) hrow) dv_int
      rcases ds with _ | ⟨x0, ll⟩
      · refine ds_if (b := true) e ?_ ?_ ?_
        · exact DvT.is (dvt_or (c := true) (dvt_not (dvt_B hl)) fun h => DvT.is (dvt_or (c := false) (dvt_not (dvt_test hlen)) fun h => by cases h) rfl) (by rw [hL]; rfl)
        · exact fun _ G1 H1 e1 => ds_ret e1.gh dv_non fun v G2 H2 e2 q => kn (kTm_head hrow (by intro _ _ z; cases z)) v G2 H2 (e1.trans e2) q
        · intro h; cases h
      · by_cases h4 : 4 < (x0 :: ll).length
        · refine ds_if (b := true) e ?_ ?_ ?_
          · refine DvT.is (dvt_or (c := true) (dvt_not (dvt_B hl)) fun h => DvT.is (dvt_or (c := false) (dvt_not (dvt_test hlen)) fun h => ?_) ?_) (by rw [hL]; rfl)
            · exfalso
              simp at h h4
              omega
            · simp at h4 ⊢
              omega
          · exact fun _ G1 H1 e1 => ds_ret e1.gh dv_non fun v G2 H2 e2 q => kn (kTm_long hrow h4) v G2 H2 (e1.trans e2) q
          · intro h; cases h
        · have h4' : (!(decide ((1 : Int) ≤ ((x0 :: ll).length : Int)) && decide (((x0 :: ll).length : Int) ≤ 4))) = false := by
            simp at h4 ⊢
            omega
          cases hs : isD x0 .str with
          | false =>
            refine ds_if (b := true) e ?_ ?_ ?_
            · exact DvT.is (dvt_or (c := true) (dvt_not (dvt_B hl)) fun h => DvT.is (dvt_or (c := true) (dvt_not (dvt_test hlen)) fun h => DvT.is (dvt_not (dvt_B (dv_isi .str (dv_ix (dv_var rfl r2) dv_int hrow at0)))) (by rw [hs]; rfl)) (by rw [h4']; rfl)) (by rw [hL]; rfl)
            · exact fun _ G1 H1 e1 => ds_ret e1.gh dv_non fun v G2 H2 e2 q => kn (kTm_head hrow (by
                intro x r' z
                cases z
                cases hs)) v G2 H2 (e1.trans e2) q
            · intro h; cases h
          | true =>
            obtain ⟨x, rfl⟩ : ∃ x, x0 = .str x := by cases x0 <;> simp_all [isD, kd, isK]
            refine ds_if (b := false) e ?_ ?_ ?_
            · exact DvT.is (dvt_or (c := false) (dvt_not (dvt_B hl)) fun h => DvT.is (dvt_or (c := false) (dvt_not (dvt_test hlen)) fun h => DvT.is (dvt_not (dvt_B (dv_isi .str (dv_ix (dv_var rfl r2) dv_int hrow at0)))) rfl) (by rw [h4']; rfl)) (by rw [hL]; rfl)
            · intro h; cases h
            intro _ G1 H1 e1
            refine ds_seq ?_
            refine ds_par e1.gh (dva_cons (d := .str x) (dv_ix (dv_var rfl (e1.rp r2)) dv_int hrow at0) (dva_cons (dv_len (dv_var rfl (e1.rp r2)) hrow) dva_nil)) fun vx vs G2 H2 e2 qx qs => ?_
            dsimp only
            have e12 := e1.trans e2
            have p1 := e12.rp r
            have p2 := e12.rp r2
            refine ds_if e2.gh (dvt_test (dv_eq (dv_var rfl qx) dv_str rfl)) (fun h G3 H3 e3 => ?_) fun h1 G3 H3 e3 => ?_
            · obtain rfl : x = "nothing" := by simpa [eqv_str] using h
              refine ds_ret e3.gh (dv_if (dvt_test (dv_eq (dv_var rfl (e3.rp qs)) dv_int rfl)) (fun h => ?_) fun h => ?_) fun v G4 H4 e4 q => k v G4 H4 ((e12.trans e3).trans e4) q
              · obtain rfl := len1 h
                refine Dv.is (dv_tup (dva_cons dv_str dva_nil) (by simp)) ?_
                show _ = oTm _
                rw [kTm_nothing hrow, if_pos rfl]
                rfl
              · refine Dv.is dv_non ?_
                show _ = oTm _
                rw [kTm_nothing hrow, if_neg (by rintro rfl; cases h)]
                rfl
            replace h1 : ¬ x = "nothing" := by simpa [eqv_str] using h1
            refine ds_if e3.gh (dvt_test (dv_eq (dv_var rfl (e3.rp qx)) dv_str rfl)) (fun h G4 H4 e4 => ?_) fun h2 G4 H4 e4 => ?_
            · obtain rfl : x = "name" := by simpa [eqv_str] using h
              have e14 := (e12.trans e3).trans e4
              refine ds_ret e4.gh (dv_if (b := PyData.eqv (.int ((.str "name" :: ll : List PyData).length : Int)) (.int 2) && (match ll with | [a] => isNm a | _ => false)) (dvt_and (dvt_test (dv_eq (dv_var rfl ((e3.trans e4).rp qs)) dv_int rfl)) fun h => ?_) (fun h => ?_) fun h => ?_) fun v G4 H4 e4 q => k v G4 H4 (e14.trans e4) q
              · obtain ⟨a, rfl⟩ := len2 h
                exact dvt_B (dv_call1 (f := fun d => .bool (isNm d)) (dv_ix (dv_var rfl (e14.rp r2)) dv_int hrow rfl) (hall a (by simp)).shr)
              · rw [Bool.and_eq_true] at h
                obtain ⟨a, rfl⟩ := len2 h.1
                obtain ⟨y, rfl, hy⟩ := isNm_str h.2
                refine Dv.is (dv_tup (dva_cons dv_str (dva_cons (dv_ix (d := .str y) (dv_var rfl (e14.rp r2)) dv_int hrow rfl) dva_nil)) (by simp)) ?_
                show _ = oTm _
                rw [kTm_name hrow]
                show _ = oTm (nameT (.str y))
                rw [nameT_yes hy]
                rfl
              · refine Dv.is dv_non ?_
                show _ = oTm _
                rw [kTm_name hrow]
                rcases ll with _ | ⟨a, _ | ⟨b, r⟩⟩
                · rfl
                · rw [show PyData.eqv (.int (([.str "name", a] : List PyData).length : Int)) (.int 2) = true from by rw [eqv_int]; rfl, Bool.true_and] at h
                  show _ = oTm (nameT a)
                  cases a <;> simp [isNm] at h <;> simp [nameT, h, oTm]
                · rfl
            replace h2 : ¬ x = "name" := by simpa [eqv_str] using h2
            refine ds_if e4.gh (dvt_test (dv_eq (dv_var rfl ((e3.trans e4).rp qx)) dv_str rfl)) (fun h G5 H5 e5 => ?_) fun h3 G5 H5 e5 => ?_
            · obtain rfl : x = "constant" := by simpa [eqv_str] using h
              have e15 := ((e12.trans e3).trans e4).trans e5
              refine ds_ret e5.gh (dv_if (b := PyData.eqv (.int ((.str "constant" :: ll : List PyData).length : Int)) (.int 2) && (match ll with | [a] => isBe a m | _ => false)) (dvt_and (dvt_test (dv_eq (dv_var rfl (((e3.trans e4).trans e5).rp qs)) dv_int rfl)) fun h => ?_) (fun h => ?_) fun h => ?_) fun v G4 H4 e4 q => k v G4 H4 (e15.trans e4) q
              · obtain ⟨a, rfl⟩ := len2 h
                exact dvt_B (dv_call2 (f := fun d m => match m with | .int m => .bool (isBe d m) | _ => .none) (dv_ix (dv_var rfl (e15.rp r2)) dv_int hrow rfl) (dv_var rfl (e15.rp r)) ⟨m, rfl⟩)
              · rw [Bool.and_eq_true] at h
                obtain ⟨a, rfl⟩ := len2 h.1
                have hb : isBe a m = true := h.2
                obtain ⟨y, rfl⟩ := isBe_int hb
                refine Dv.is (dv_tup (dva_cons dv_str (dva_cons (dv_ix (d := .int y) (dv_var rfl (e15.rp r2)) dv_int hrow rfl) dva_nil)) (by simp)) ?_
                show _ = oTm _
                rw [kTm_constant hrow]
                show _ = oTm (conT m (.int y))
                rw [conT_yes hb]
                rfl
              · refine Dv.is dv_non ?_
                show _ = oTm _
                rw [kTm_constant hrow]
                rcases ll with _ | ⟨a, _ | ⟨b, r⟩⟩
                · rfl
                · rw [show PyData.eqv (.int (([.str "constant", a] : List PyData).length : Int)) (.int 2) = true from by rw [eqv_int]; rfl, Bool.true_and] at h
                  show _ = oTm (conT m a)
                  have hb : isBe a m = false := h
                  cases a <;> simp [conT, hb, oTm]
                · rfl
            replace h3 : ¬ x = "constant" := by simpa [eqv_str] using h3
            have e15 := ((e12.trans e3).trans e4).trans e5
            have e25 := (e3.trans e4).trans e5
            refine ds_if e5.gh (dvt_test (dv_inT (xs := ["fun", "fix"]) (dv_var rfl (e25.rp qx)) (dv_c T.p_BINDS) rfl)) (fun h G6 H6 e6 => ?_) fun h4 G6 H6 e6 => ?_
            · have e16 := e15.trans e6
              refine ds_ret e6.gh (dv_if (dvt_test (dv_eq (dv_var rfl ((e25.trans e6).rp qs)) dv_int rfl)) (fun h4 => ?_) fun h4 => ?_) fun v G7 H7 e7 q => k v G7 H7 (e16.trans e7) q
              · obtain ⟨a, b, c, rfl⟩ := len4 h4
                refine Dv.is (dv_call (dva_cons (dv_var rfl (e16.rp r)) (dva_cons (dv_var rfl (e16.rp r2)) dva_nil)) rfl ⟨m, d, .str x, a, b, c, rfl, hrow, (hall a (by simp)).shr, hall b (by simp), hall c (by simp), rfl⟩) ?_
                rcases any2 h with rfl | rfl
                · rw [bindD_bindT .fn "fun" (fun _ _ _ => rfl)]
                  show _ = oTm _
                  rw [kTm_fun hrow]
                  rfl
                · rw [bindD_bindT .fx "fix" (fun _ _ _ => rfl)]
                  show _ = oTm _
                  rw [kTm_fix hrow]
                  rfl
              · refine Dv.is dv_non ?_
                show _ = oTm _
                rcases any2 h with rfl | rfl
                · rw [kTm_fun hrow, m3_none h4]
                  rfl
                · rw [kTm_fix hrow, m3_none h4]
                  rfl
            have h4a : ¬ x = "fun" := by
              intro z
              subst z
              exact absurd h4 (by decide +kernel)
            have h4b : ¬ x = "fix" := by
              intro z
              subst z
              exact absurd h4 (by decide +kernel)
            have e26 := e25.trans e6
            have e16 := e15.trans e6
            refine ds_if e6.gh (dvt_test (dv_eq (dv_var rfl (e26.rp qx)) dv_str rfl)) (fun h G7 H7 e7 => ?_) fun h5 G7 H7 e7 => ?_
            · obtain rfl : x = "case" := by simpa [eqv_str] using h
              have e17 := e16.trans e7
              refine ds_ret e7.gh (dv_if (dvt_test (dv_eq (dv_var rfl ((e26.trans e7).rp qs)) dv_int rfl)) (fun h4 => ?_) fun h4 => ?_) fun v G8 H8 e8 q => k v G8 H8 (e17.trans e8) q
              · obtain ⟨a, b, rfl⟩ := len3 h4
                refine Dv.is (dv_call (dva_cons (dv_var rfl (e17.rp r)) (dva_cons (dv_var rfl (e17.rp r2)) dva_nil)) rfl ⟨m, d, .str "case", a, b, rfl, hrow, hall a (by simp), hall b (by simp), rfl⟩) ?_
                show _ = oTm _
                rw [kTm_cas hrow]
                rfl
              · refine Dv.is dv_non ?_
                show _ = oTm _
                rw [kTm_cas hrow, m2_none h4]
                rfl
            replace h5 : ¬ x = "case" := by simpa [eqv_str] using h5
            have e17 := e16.trans e7
            have e27 := e26.trans e7
            refine ds_if e7.gh (dvt_or (dvt_test (dv_ninT (xs := ["call", "either"]) (dv_var rfl (e27.rp qx)) (dv_tup (dva_cons dv_str (dva_cons dv_str dva_nil)) (by simp)) rfl)) fun _ => dvt_test (dv_ne (dv_var rfl (e27.rp qs)) dv_int rfl)) (fun h G8 H8 e8 => ?_) fun h6 G8 H8 e8 => ?_
            · refine ds_ret e8.gh dv_non fun v G9 H9 e9 q => kn ?_ v G9 H9 ((e17.trans e8).trans e9) q
              by_cases z1 : x = "call"
              · subst z1
                rw [kTm_call hrow]
                exact m2_none (x := .str "call") (by simpa using h)
              · by_cases z2 : x = "either"
                · subst z2
                  rw [kTm_either hrow]
                  exact m2_none (x := .str "either") (by simpa using h)
                · exact kTm_else hrow h1 h2 h3 h4a h4b h5 z1 z2
            have e18 := e17.trans e8
            have e28 := e27.trans e8
            rw [Bool.or_eq_false_iff] at h6
            obtain ⟨a, b, rfl⟩ := len3 (r := ll) (x := .str x) (by simpa using h6.2)
            refine ds_seq ?_
            have hcut : rowOf (cutR d (some 1) none) = some [a, b] := cutR_row hrow (some 1) none
            refine ds_set e8.gh (dv_call2 (f := mI fun m d => oTms (match rowOf d with | some l => allS (l.map (kTm m n)) | none => none)) (dv_var rfl (e18.rp r)) (dv_sl (dv_var rfl (e18.rp r2)) hrow (dvo_some (K := K) dv_int) dvo_none) ⟨⟨m, rfl⟩, _, hcut, by simp, mem2 (hall a (by simp)) (hall b (by simp))⟩) fun y G9 H9 e9 q9 => ?_
            have q9 : Rp K G9 y (oTms (match rowOf (cutR d (some 1) none) with | some l => allS (l.map (kTm m n)) | none => none)) := q9
            rw [hcut] at q9
            have q9 : Rp K G9 y (oTms (allS [kTm m n a, kTm m n b])) := q9
            have hp : isN (oTms (allS [kTm m n a, kTm m n b])) = (allS [kTm m n a, kTm m n b]).isNone := by cases allS [kTm m n a, kTm m n b] <;> rfl
            refine ds_ret e9.gh (dv_if (dvt_test (dv_isN (dv_var rfl q9))) (fun h => ?_) fun h => ?_) fun z G10 H10 e10 q => k z G10 H10 ((e18.trans e9).trans e10) q
            · rw [hp] at h
              refine Dv.is dv_non ?_
              show _ = oTm _
              rcases any2n h6.1 with rfl | rfl
              · rw [kTm_call hrow]
                show _ = oTm (twoT .ap _ _)
                cases o1 : kTm m n a <;> cases o2 : kTm m n b <;> first | rfl | (rw [o1, o2] at h; cases h)
              · rw [kTm_either hrow]
                show _ = oTm (twoT .ei _ _)
                cases o1 : kTm m n a <;> cases o2 : kTm m n b <;> first | rfl | (rw [o1, o2] at h; cases h)
            · rw [hp] at h
              cases o1 : kTm m n a with
              | none => rw [o1] at h; cases h
              | some t =>
                cases o2 : kTm m n b with
                | none => rw [o1, o2] at h; cases h
                | some u =>
                  rw [o1, o2] at q9
                  refine Dv.is (dv_addT (dv_tup (dva_cons (dv_var rfl ((e28.trans e9).rp qx)) dva_nil) (by simp)) (es := [t.py, u.py]) (dv_var rfl q9) (by simp)) ?_
                  show _ = oTm _
                  rcases any2n h6.1 with rfl | rfl
                  · rw [kTm_call hrow]
                    show _ = oTm (twoT .ap _ _)
                    rw [o1, o2]
                    rfl
                  · rw [kTm_either hrow]
                    show _ = oTm (twoT .ei _ _)
                    rw [o1, o2]
                    rfl
end
end K82

set_option Elab.async false
set_option linter.all false
set_option maxRecDepth 100000
set_option maxHeartbeats 4000000
/-! {**d, k: e} -/
namespace K82
open PySem L2 PyProof.Rows
section
variable {prog : Program} {w : World} {A : Around} {E : Value → Shared → Prop} {s : Shared}
abbrev MK (prog : Program) (w : World) := mixKind prog w
theorem put_pairs {d : Addr} {kvs : List (Key × Value)} {k : Key} {key v : Value} {Q : Unit → Shared → Prop} (hkey : (MK prog w).is k key = true) (hm : s.heap.DictOf (MK prog w) d kvs)
    (hQ : ∀ h', h'.DictOf (MK prog w) d (stored kvs k v) → Heap.SameBut d s.heap h' → Q () { s with heap := h' }) (hsz : kvs.length ≤ sizeLine) :
    wpAny (model prog w) A (dictPut d ((MK prog w).hash k) key v) Q E s := by
  obtain ⟨o, ⟨l⟩, ep, ho, hc, hd, hk, hp, hn⟩ := hm
  have hes : (Array.mk l).size ≤ sizeLine := by
    have e1 := hp.length
    show l.length ≤ _
    have e2 : l.length = kvs.length := e1
    omega
  unfold dictPut
  refine wpAny_bind (wpAny_dictFind_of hkey ho hd hk ?_)
  have hi2 : ((Array.mk l).findIdx? fun e => (MK prog w).is k e.key) = l.findIdx? fun e => (MK prog w).is k e.key := by simp
  have hi3 := hp.findIdx k
  cases hi : (Array.mk l).findIdx? fun e => (MK prog w).is k e.key with
  | some i =>
    rw [hi2] at hi
    have hl : kvs.findIdx? (fun kv => decide (kv.1 = k)) = some i := by rw [← hi3]; exact hi
    have hst : stored kvs k v = kvs.map fun kv => if kv.1 = k then (kv.1, v) else kv := by
      rw [stored, if_pos (any_of_findIdx_some hl)]
    refine wpAny_updateDict ho hd (hQ _ ⟨_, _, ep, Heap.get?_update_self _ ho (Obj.isFreed_of_dict (Obj.data_mapDict hd _)), hc.mapDict _, Obj.data_mapDict hd _, hk.modify _ _, ?_, ?_⟩ (Heap.SameBut.update ..))
    · rw [hst]
      have z := hp.modify hn hi v
      simpa using z
    · rw [hst, keys_map_store]
      exact hn
  | none =>
    rw [hi2] at hi
    have hl : kvs.findIdx? (fun kv => decide (kv.1 = k)) = none := by rw [← hi3]; exact hi
    have hnot : k ∉ kvs.map (·.1) := not_mem_of_findIdx_none hl
    have hst : stored kvs k v = kvs ++ [(k, v)] := by
      rw [stored, if_neg]
      intro z
      obtain ⟨kv, h1, h2⟩ := List.any_eq_true.mp z
      exact hnot (List.mem_map.mpr ⟨kv, h1, of_decide_eq_true h2⟩)
    refine wpAny_updateDictKeys (hz := hes) ho hd (hQ _ ⟨_, _, ep + 1, Heap.get?_update_self _ ho (Obj.isFreed_of_dict (Obj.data_mapDictKeys hd _)), hc.mapDictKeys _, Obj.data_mapDictKeys hd _, hk.push hkey _, ?_, ?_⟩ (Heap.SameBut.update ..))
    · rw [hst]
      have z := hp.append hkey ((MK prog w).hash k) v
      simpa using z
    · rw [hst, List.map_append, List.nodup_append]
      refine ⟨hn, by simp, fun a ha b hb e => ?_⟩
      simp only [List.map_cons, List.map_nil, List.mem_singleton] at hb
      exact hnot (by rw [← hb, ← e]; exact ha)
theorem pairs_at {es : List DictEntry} {more : List (Key × Value)} (hp : Pairs (MK prog w) es more) {i : Nat} {e : DictEntry} (h : es[i]? = some e) : ∃ k v, more[i]? = some (k, v) ∧ (MK prog w).is k e.key = true ∧ e.val = v := by
  have hl : i < more.length := by
    have := hp.length
    have h2 := (List.getElem?_eq_some_iff.mp h).1
    omega
  obtain ⟨h1, h2⟩ := hp.get? h (List.getElem?_eq_getElem hl)
  exact ⟨_, _, List.getElem?_eq_getElem hl, h1, h2⟩
theorem is_noref {k : Key} {v : Value} (h : (MK prog w).is k v = true) : ∀ a, v ≠ .ref a := by
  intro a e
  subst e
  rcases keyIs_shape h with ⟨i, t, _, z⟩ | ⟨i, t, _, z⟩ <;> cases z
theorem merge_map {d o : Addr} {kvs more : List (Key × Value)} {Q : Unit → Shared → Prop} (hdo : d ≠ o) (hoS : (o == sysModules) = false)
    (hd : s.heap.DictOf (MK prog w) d kvs) (ho : s.heap.DictOf (MK prog w) o more)
    (hQ : ∀ h', h'.DictOf (MK prog w) d (merged kvs more) → Heap.SameBut d s.heap h' → Q () { s with heap := h' })
    (hsz : kvs.length + more.length ≤ sizeLine) :
    wpAny (model prog w) A (mergeMapping d (.ref o) false) Q E s := by
  obtain ⟨od, esd, epd, hod, hcd, hdd, hkd, hpd, hnd⟩ := id hd
  obtain ⟨oo, eso, epo, hoo, hco, hdo', hko, hpo, hno⟩ := id ho
  unfold mergeMapping
  refine wpAny_bind (wpAny_isInstance ho.typeIs isSubtype_dict_dict ?_)
  simp only [if_true]
  refine wpAny_bind (wpAny_specialOf ho.typeIs F.slot_dict_iter.lookup ?_)
  refine wpAny_bind (wpAny_pure ?_)
  simp only [beq_self_eq_true, hoS, Bool.false_eq_true, if_false]
  have hlen : eso.size = more.length := by
    have := hpo.length
    simpa using this
  have hz : ∀ i, (merged kvs (more.take i)).length ≤ sizeLine := fun i => by
    have e1 := merged_length_le kvs (more.take i)
    have e2 : (more.take i).length ≤ more.length := by rw [List.length_take]; omega
    omega
  have hkeys : ∀ e ∈ eso.toList, ∀ a, e.key ≠ .ref a := fun e he => by
    obtain ⟨k', h1, _⟩ := hko e (by simpa using he)
    exact is_noref h1
  have loop : ∀ f : Nat → Nat → PUnit → Sem (ForInStep PUnit), (∀ i u s', (∃ h', s' = { s with heap := h' } ∧ i < eso.size ∧ h'.DictOf (MK prog w) d (merged kvs (more.take i)) ∧ h'.get? o = some oo ∧ Heap.SameBut d s.heap h') →
      wpAny (model prog w) A (f epo i u) (fun r s' => r = .yield PUnit.unit ∧ ∃ h', s' = { s with heap := h' } ∧ h'.DictOf (MK prog w) d (merged kvs (more.take (i + 1))) ∧ h'.get? o = some oo ∧ Heap.SameBut d s.heap h') E s') →
      wpAny (model prog w) A (do
        let n ← dictEntries o
        let ep ← dictEpoch o
        forIn (List.range n.size) PUnit.unit (f ep)
        pure ()) Q E s := by
    intro f hf
    refine wpAny_bind (wpAny_dictEntries hoo hdo' ?_)
    refine wpAny_bind (wpAny_dictEpoch hoo hdo' ?_)
    rw [List.range_eq_range']
    refine wpAny_bind (wpAny_forIn_list (f epo) (fun rest _ s' => ∃ h' i, s' = { s with heap := h' } ∧ rest = List.range' i (eso.size - i) ∧ i ≤ eso.size ∧ h'.DictOf (MK prog w) d (merged kvs (more.take i)) ∧ h'.get? o = some oo ∧ Heap.SameBut d s.heap h') _ ?_ ?_ _ _
      ⟨s.heap, 0, rfl, by simp, Nat.zero_le _, by simpa [merged] using hd, hoo, Heap.SameBut.refl _ _⟩)
    · rintro x rest u s' ⟨h', i, e1, hr, hi, h1, h2, h3⟩
      rcases Nat.lt_or_ge i eso.size with hlt | hge
      · have e : eso.size - i = (eso.size - (i + 1)) + 1 := by omega
        rw [e, List.range'_succ] at hr
        injection hr with q1 q2
        subst q1
        refine wpAny_mono (hf x u s' ⟨h', e1, hlt, h1, h2, h3⟩) (fun r s2 z => ?_) fun _ _ z => z
        obtain ⟨rfl, h2', z1, z2, z3, z4⟩ := z
        exact ⟨h2', x + 1, z1, q2, hlt, z2, z3, z4⟩
      · rw [Nat.sub_eq_zero_of_le hge] at hr
        cases hr
    · rintro u s' ⟨h', i, e1, hr, hi, h1, h2, h3⟩
      have hin : i = eso.size := by
        rcases Nat.lt_or_ge i eso.size with h | h
        · have e : eso.size - i = (eso.size - (i + 1)) + 1 := by omega
          rw [e, List.range'_succ] at hr
          cases hr
        · exact Nat.le_antisymm hi h
      subst e1
      rw [hin, hlen, List.take_length] at h1
      exact wpAny_pure (hQ h' h1 h3)
  have turn : ∀ i (u : PUnit) s', (∃ h', s' = { s with heap := h' } ∧ i < eso.size ∧ h'.DictOf (MK prog w) d (merged kvs (more.take i)) ∧ h'.get? o = some oo ∧ Heap.SameBut d s.heap h') →
      wpAny (model prog w) A (do
        let es ← dictEntries o
        match es[i]? with
        | some e => do
          holding [e.key, e.val] (dictPut d e.hash e.key e.val)
          let n ← dictEpoch o
          if (n != epo) = true then do
            let _ ← (unsupported "dict.changed-during-merge" : Sem PUnit)
            pure (ForInStep.yield PUnit.unit)
          else pure (ForInStep.yield PUnit.unit)
        | _ => do
          let _ ← (unsupported "dict.changed-during-merge" : Sem PUnit)
          pure (ForInStep.yield PUnit.unit)) (fun r s' => r = .yield PUnit.unit ∧ ∃ h', s' = { s with heap := h' } ∧ h'.DictOf (MK prog w) d (merged kvs (more.take (i + 1))) ∧ h'.get? o = some oo ∧ Heap.SameBut d s.heap h') E s' := by
    rintro i u s' ⟨h', rfl, hlt, h1, h2, h3⟩
    refine wpAny_bind (wpAny_dictEntries h2 hdo' ?_)
    have hget : eso[i]? = some eso[i] := Array.getElem?_eq_getElem hlt
    obtain ⟨k, v, q1, q2, q3⟩ := pairs_at hpo (i := i) (e := eso[i]) (by simp [hlt])
    obtain ⟨k', q4, q5⟩ := hko eso[i] (Array.getElem_mem hlt)
    obtain rfl : k' = k := (MK prog w).inj _ _ _ q4 q2
    rw [hget]
    show wpAny _ _ (holding [eso[i].key, eso[i].val] (dictPut d eso[i].hash eso[i].key eso[i].val) >>= _) _ _ _
    rw [q5, q3]
    refine wpAny_bind (wpAny_holding (put_pairs q2 h1 (fun h2' z1 z2 => ?_) (hz i)))
    have z3 : h2'.get? o = some oo := (z2.2 o (Ne.symm hdo)).trans h2
    refine wpAny_bind (wpAny_dictEpoch z3 hdo' ?_)
    rw [if_neg (by simp)]
    exact wpAny_pure ⟨rfl, h2', rfl, by rw [merged_take_succ kvs more i (k', v) q1]; exact z1, z3, h3.trans z2⟩
  refine wpAny_bind (wpAny_dictEntries hod hdd ?_)
  split
  · refine wpAny_bind (wpAny_dictEntries hoo hdo' ?_)
    refine wpAny_bind (wpAny_forIn_array' _ (fun rest _ s' => s' = s ∧ ∀ e ∈ rest, ∀ a, e.key ≠ .ref a) _ ?_ ?_ _ _ ⟨rfl, hkeys⟩)
    · rintro e rest _ s' ⟨rfl, h⟩
      have h0 := h e List.mem_cons_self
      have h1 := fun e he => h e (List.mem_cons_of_mem _ he)
      split
      · rename_i a q
        exact absurd q (h0 a)
      · exact wpAny_pure ⟨rfl, h1⟩
    rintro _ s' ⟨rfl, _⟩
    exact loop (fun ep i _ => (do
        let es ← dictEntries o
        match es[i]? with
        | some e => do
          holding [e.key, e.val] (dictPut d e.hash e.key e.val)
          let n ← dictEpoch o
          if (n != ep) = true then do
            let _ ← (unsupported "dict.changed-during-merge" : Sem PUnit)
            pure (ForInStep.yield PUnit.unit)
          else pure (ForInStep.yield PUnit.unit)
        | _ => do
          let _ ← (unsupported "dict.changed-during-merge" : Sem PUnit)
          pure (ForInStep.yield PUnit.unit))) turn
  · exact loop (fun ep i _ => (do
        let es ← dictEntries o
        match es[i]? with
        | some e => do
          holding [e.key, e.val] (dictPut d e.hash e.key e.val)
          let n ← dictEpoch o
          if (n != ep) = true then do
            let _ ← (unsupported "dict.changed-during-merge" : Sem PUnit)
            pure (ForInStep.yield PUnit.unit)
          else pure (ForInStep.yield PUnit.unit)
        | _ => do
          let _ ← (unsupported "dict.changed-during-merge" : Sem PUnit)
          pure (ForInStep.yield PUnit.unit))) turn
end
end K82

set_option Elab.async false
set_option linter.all false
set_option maxRecDepth 100000
set_option maxHeartbeats 4000000
namespace K82
open PySem L2 PyProof.Rows
/-- {**d, k: e} -/
def tStarD (tn tk tv : TE) : TE := fun σ H Q => ∀ p, H p = none → tn σ (upd H p (.dK [])) fun x H1 => ∃ a kvs, x = .ref a ∧ a ≠ p ∧ H1 a = some (.dK kvs) ∧ kvs.length < sizeLine ∧ H1 p = some (.dK []) ∧
  ∀ q, upd H1 p (.dK kvs) q = none → tk σ (upd (upd H1 p (.dK kvs)) q (.dK [])) fun y H2 => tv σ H2 fun z H3 => ∃ k, y = kV k ∧ q ≠ p ∧ H3 q = some (.dK []) ∧ H3 p = some (.dK kvs) ∧
    Q (.ref p) (upd (upd H3 q (.dK [(k, z)])) p (.dK (putK kvs k z)))
theorem disp_two (a : Sem Value) (k v : Sem Value) : dictDisplay [(none, a), (some k, v)] = (do
    let d ← alloc { cls := .type "dict", data := .dict #[] }
    let m ← holding [.ref d] a
    (((holding [.ref d, m] (mergeMapping d m false)).onRaise fun x => do let _ ← holding [.ref d, m, x] (runValue (.builtin "proto.let_go" {}))).tryCatch fun e => do
        if ← isInstance e (.type "AttributeError") then
          rule "dict.display.not-a-mapping"; raiseError "TypeError" s!"'{← typeNameOf m}' object is not a mapping"
        throw e).onRaise fun x => do let _ ← holding [.ref d, x] (runValue (.builtin "proto.let_go" {}))
    let sub ← holding [.ref d] (subDict [(k, v)])
    (holding [.ref d, .ref sub] (mergeMapping d (.ref sub) false)).onRaise fun x => do let _ ← holding [.ref d, x] (runValue (.builtin "proto.let_go" {}))
    pure (.ref d)) := by
  unfold dictDisplay
  simp only [List.forIn_cons, List.forIn_nil, List.isEmpty_nil, if_true, pure_bind, bind_assoc, List.nil_append, List.length_singleton, show ((1 : Nat) == 17) = false from rfl, Bool.false_eq_true, if_false, List.isEmpty_cons]
section
variable {X : Cx} {n k v : Expr} {tn tk tv : TE} {pos : Pos}
theorem pe_starD (hn : PE X n tn) (hk : PE X k tk) (hv : PE X v tv) : PE X (.Dict [none, some k] [n, v] pos) (tStarD tn tk tv) := by
  refine ⟨fun pins s σ H Q I q => ?_⟩
  rw [arm_eval_Dict]
  refine wpAny_bind (wpAny_standAt ?_)
  show wpAny _ _ (dictDisplay [(none, (do let x ← eval n X.env; standAt pos; pure x)), (some (eval k X.env), (do let x ← eval v X.env; standAt pos; pure x))]) _ _ _
  rw [disp_two]
  refine wpAny_bind (wpAny_alloc ?_)
  have hf := I.hok.fresh (Nat.le_refl s.heap.objs.size)
  have I1 := I.laid (a := s.heap.objs.size) (o := .dK []) (h' := s.heap.push { cls := .type "dict", data := .dict #[] }) (t' := s.toks) (fun _ _ q => Heap.get?_push_of_some _ q) (Nat.le_refl _) (dk_empty s.heap I.big)
  refine wpAny_bind (wpAny_holding (wpAny_bind (thn (hn.run pins _ σ _ _ I1 (q _ hf)) fun u s2 z => ?_)))
  obtain ⟨x, H1, I2, rx, a, kvs, rfl, hap, ha, hl, hp, q2⟩ := z
  obtain rfl : u = Value.ref a := rx
  refine wpAny_bind (wpAny_standAt (wpAny_pure ?_))
  obtain ⟨z1, hd1, vs, r1, dd1⟩ := dk_of I2.hok ha
  obtain ⟨z2, hd2, vs0, r0, dd2⟩ := dk_of I2.hok hp
  cases r0
  have hlen1 : vs.length = kvs.length := r1.length.symm
  refine wpAny_bind (wpAny_onRaise (wpAny_tryCatch (wpAny_onRaise (wpAny_holding (merge_map (fun e => hap e.symm) hd1 dd2 dd1 (fun h' d' hs => ?_) (by simp; omega))))))
  rw [merged_nil_of_nodup vs (let ⟨_, _, _, _, _, _, _, _, hn⟩ := dd1; hn)] at d'
  have he : ∃ q, h'.get? s.heap.objs.size = some q := let ⟨q, _, _, hq, _⟩ := d'; ⟨q, hq⟩
  have I3 := d_write (t' := s2.toks) I2 (a := s.heap.objs.size) (by rw [hp]; exact True.intro) hs he (dk_new (Nat.le_of_lt hl) hd2 r1 d')
  have hf2 := I3.hok.fresh (Nat.le_refl h'.objs.size)
  have I4 := I3.laid (a := h'.objs.size) (o := .dK []) (h' := h'.push { cls := .type "dict", data := .dict #[] }) (t' := s2.toks) (fun _ _ q => Heap.get?_push_of_some _ q) (Nat.le_refl _) (dk_empty h' I3.big)
  refine wpAny_bind (wpAny_holding (wpAny_subDict (knd := mixKind X.prog X.w) (by simp) ?_))
  refine evalPairs_cons (thn (hk.run pins _ σ _ _ I4 (q2 _ hf2)) fun u s3 z => ?_)
  obtain ⟨y, H2, I5, ry, q3⟩ := z
  refine wpAny_bind (thn (hv.run pins _ σ _ _ I5 q3) fun u2 s4 z => ?_)
  obtain ⟨zv, H3, I6, rz, key, rfl, hqp, hq, hp3, q4⟩ := z
  refine wpAny_bind (wpAny_standAt (wpAny_pure (evalPairs_nil ?_)))
  obtain ⟨z5, hd5, vs5, r5, dd5⟩ := dk_of I6.hok hq
  cases r5
  refine ⟨[(key, u2)], ⟨kV_is ry, rfl, True.intro⟩, dd5, fun h5 d5 hs5 => ?_⟩
  have he5 : ∃ q, h5.get? h'.objs.size = some q := let ⟨q, _, _, hq, _⟩ := d5; ⟨q, hq⟩
  have rk : KV [(key, zv)] [(key, u2)] := .cons ⟨rfl, rz⟩ .nil
  have I7 := d_write (t' := s4.toks + 1) I6 (a := h'.objs.size) (by rw [hq]; exact True.intro) hs5 he5 (dk_new (kvs := [(key, zv)]) (vs := [(key, u2)]) (by show 1 ≤ sizeLine; decide) hd5 rk d5)
  have hp7 : upd H3 h'.objs.size (.dK [(key, zv)]) s.heap.objs.size = some (.dK kvs) := by rw [upd_ne (fun e => hqp e.symm)]; exact hp3
  obtain ⟨z7, hd7, vs7, r7, dd7⟩ := dk_of I7.hok hp7
  have hlen7 : vs7.length = kvs.length := r7.length.symm
  refine wpAny_bind (wpAny_onRaise (wpAny_holding (merge_map (s := { s4 with heap := h5, toks := s4.toks + 1 }) (fun e => hqp e.symm) hd5 dd7 d5 (fun h8 d8 hs8 => ?_) (by show vs7.length + 1 ≤ _; omega))))
  have he8 : ∃ q, h8.get? s.heap.objs.size = some q := let ⟨q, _, _, hq, _⟩ := d8; ⟨q, hq⟩
  have rk8 : KV (putK kvs key zv) (merged vs7 [(key, u2)]) := rk.merge r7
  have I9 := d_write (t' := s4.toks + 1) I7 (a := s.heap.objs.size) (by rw [hp7]; exact True.intro) hs8 he8 (dk_new (by have := length_putK kvs key zv; omega) hd7 rk8 d8)
  exact wpAny_pure ⟨.ref s.heap.objs.size, _, I9, rfl, q4⟩
end
end K82

set_option Elab.async false
set_option linter.all false
set_option maxRecDepth 100000
set_option maxHeartbeats 4000000
/-! Readings that change some things that we know: W which, J how they stand. -/
namespace K82
open PySem L2 PyProof.Rows
structure Wd where
  M : Type
  W : Addr → Prop
  J : M → Hp → Hp → Prop
  mono : ∀ {m G H G' H'}, J m G H → Same G G' → (∀ b u, W b → H b = some u → H' b = some u) → (∀ b, W b → G b = none → H b ≠ none → G' b = none) → J m G' H'
  alive : ∀ {m G H}, J m G H → ∀ b, W b → H b ≠ none
  free : ∀ {m G H}, J m G H → ∀ b, W b → G b = none
/-- as Ext, but what W says may have changed -/
structure ExtW (W : Addr → Prop) (G H G' H' : Hp) : Prop where
  hh : ∀ b u, ¬ W b → H b = some u → H' b = some u
  dom : ∀ b, H b ≠ none → H' b ≠ none
  gg : Same G G'
  gh : Same G' H'
  new : ∀ b, G' b ≠ none → G b ≠ none ∨ H b = none
section
variable {W W' : Addr → Prop} {G H G' H' G1 H1 G2 H2 : Hp} {p : Addr} {o : HO}
theorem Ext.w (a : Ext G H G1 H1) : ExtW W G H G1 H1 := ⟨fun b u _ h => a.hh b u h, fun b h => by
  cases q : H b with
  | none => exact absurd q h
  | some u => rw [a.hh b u q]; simp, a.gg, a.gh, a.new⟩
theorem ExtW.refl (e : Same G H) : ExtW W G H G H := (Ext.refl e).w
theorem ExtW.sub (a : ExtW W G H G1 H1) (h : ∀ b, W b → W' b) : ExtW W' G H G1 H1 := ⟨fun b u n q => a.hh b u (fun z => n (h b z)) q, a.dom, a.gg, a.gh, a.new⟩
theorem ExtW.fresh (a : ExtW W G H G1 H1) {b : Addr} (h : H1 b = none) : H b = none := by
  cases q : H b with
  | none => rfl
  | some u => exact absurd h (a.dom b (by rw [q]; simp))
theorem ExtW.trans (a : ExtW W G H G1 H1) (b : ExtW W G1 H1 G2 H2) : ExtW W G H G2 H2 :=
  ⟨fun c u n q => b.hh c u n (a.hh c u n q), fun c h => b.dom c (a.dom c h), a.gg.trans b.gg, b.gh, fun c h => by
    rcases b.new c h with z | z
    · exact a.new c z
    · exact .inr (a.fresh z)⟩
theorem ExtW.up (a : ExtW W G H G1 H1) : Up G G1 H1 := ⟨a.gg, a.gh⟩
theorem ExtW.rp {K : PySem.W.Frag} (a : ExtW W G H G1 H1) {v : V} {d : PyData} (r : Rp K G v d) : Rp K G1 v d := a.up.rp r
theorem ExtW.rpa {K : PySem.W.Frag} (a : ExtW W G H G1 H1) {v : List V} {d : List PyData} (r : RpAll K G v d) : RpAll K G1 v d := a.up.rpa r
/-- what may change is changed -/
theorem ExtW.put (a : ExtW W G H G1 H1) (w : W p) (g : G1 p = none) (o : HO) : ExtW W G H G1 (upd H1 p o) :=
  ⟨fun b u n q => by rw [upd_ne (fun z : b = p => n (by rw [z]; exact w))]; exact a.hh b u n q, fun b h => by
    by_cases e : b = p
    · subst e; rw [upd_same]; simp
    · rw [upd_ne e]; exact a.dom b h, a.gg, fun b u q => by rw [upd_ne (ne_of_none q g)]; exact a.gh b u q, a.new⟩
theorem ExtW.loose (a : ExtW W G H G1 H1) (g : G p = none) (h : H p ≠ none) : G1 p = none := by
  cases e : G1 p with
  | none => rfl
  | some o =>
    rcases a.new p (by rw [e]; simp) with z | z
    · exact absurd g z
    · exact absurd z h
/-- a thing that was not yet there -/
theorem ExtW.set (a : ExtW W G H G1 H1) (h : H p = none) (g : G1 p = none) (o : HO) : ExtW W G H G1 (upd H1 p o) :=
  ⟨fun b u n q => by rw [upd_ne (ne_of_none q h)]; exact a.hh b u n q, fun b h => by
    by_cases e : b = p
    · subst e; rw [upd_same]; simp
    · rw [upd_ne e]; exact a.dom b h, a.gg, fun b u q => by rw [upd_ne (ne_of_none q g)]; exact a.gh b u q, a.new⟩
theorem ExtW.still (a : ExtW W G H G1 H1) (h : H p = none) (g : G1 p = none) (q : H1 p = some o) : ExtW W G H (upd G1 p o) H1 := by
  refine ⟨a.hh, a.dom, a.gg.trans (same_upd g o), fun b u z => ?_, fun b z => ?_⟩
  · by_cases e : b = p
    · subst e
      rw [upd_same] at z
      rw [q]
      exact z
    · rw [upd_ne e] at z
      exact a.gh _ _ z
  · by_cases e : b = p
    · subst e
      exact .inr h
    · rw [upd_ne e] at z
      exact a.new b z
/-- no W: an Ext -/
theorem ExtW.ext (a : ExtW W G H G1 H1) (h : ∀ b, W b → H b = none) : Ext G H G1 H1 := ⟨fun b u q => a.hh b u (fun w => by rw [h b w] at q; cases q) q, a.gg, a.gh, a.new⟩
theorem Wd.ext {D : Wd} {m : D.M} (j : D.J m G H) (e : Ext G H G1 H1) : D.J m G1 H1 := D.mono j e.gg (fun b u _ q => e.hh b u q) fun b _ g h => e.loose g h
/-- another's change -/
theorem Wd.extW {D : Wd} {m : D.M} (j : D.J m G H) (e : ExtW W G H G1 H1) (h : ∀ b, D.W b → ¬ W b) : D.J m G1 H1 := D.mono j e.gg (fun b u w q => e.hh b u (h b w) q) fun b _ g h => e.loose g h
end
/-- what is handed over: data, or a thing itself -/
inductive Arg | pd (d : PyData) | raw (v : V)
def Arg.R (K : PySem.W.Frag) (G : Hp) : V → Arg → Prop
  | v, .pd d => Rp K G v d
  | v, .raw u => v = u
inductive ArgsR (K : PySem.W.Frag) (G : Hp) : List V → List Arg → Prop
  | nil : ArgsR K G [] []
  | cons {v a vs as} : Arg.R K G v a → ArgsR K G vs as → ArgsR K G (v :: vs) (a :: as)
section
variable {K : PySem.W.Frag} {D : Wd} {σ : L2.St} {G H G1 H1 : Hp} {te ta tb : TE} {tt : TT} {m : D.M} {d : PyData} {v : V} {i : Nat}
theorem Arg.R.mono (e : Same G G1) {v : V} {a : Arg} (h : a.R K G v) : a.R K G1 v := by
  cases a with
  | pd d => exact Rp.mono e d v h
  | raw u => exact h
theorem ArgsR.mono (e : Same G G1) : ∀ {vs as}, ArgsR K G vs as → ArgsR K G1 vs as
  | _, _, .nil => .nil
  | _, _, .cons h r => .cons (Arg.R.mono e h) (ArgsR.mono e r)
theorem ArgsR.data : ∀ {ds : List PyData} {vs}, ArgsR K G vs (ds.map .pd) → RpAll K G vs ds
  | [], _, h => by cases h; exact .nil
  | d :: ds, _, h => by
    cases h with
    | cons h1 h2 => exact .cons h1 (ArgsR.data h2)
theorem RpAll.args : ∀ {ds : List PyData} {vs}, RpAll K G vs ds → ArgsR K G vs (ds.map .pd)
  | [], _, h => by cases h; exact .nil
  | d :: ds, _, h => by
    cases h with
    | cons h1 h2 => exact .cons h1 (RpAll.args h2)
def Mv (K : PySem.W.Frag) (D : Wd) (te : TE) (σ : L2.St) (G : Hp) (m : D.M) (R : PyData → D.M → Prop) : Prop := ∀ G1 H1, Up G G1 H1 → D.J m G1 H1 → ∀ Q : VK,
  (∀ v d m' G2 H2, ExtW D.W G1 H1 G2 H2 → D.J m' G2 H2 → Rp K G2 v d → R d m' → Q v H2) → te σ H1 Q
def MvA (K : PySem.W.Frag) (D : Wd) (ta : TA) (σ : L2.St) (G : Hp) (m : D.M) (R : List Arg → D.M → Prop) : Prop := ∀ G1 H1, Up G G1 H1 → D.J m G1 H1 → ∀ Q : List V → Hp → Prop,
  (∀ vs as m' G2 H2, ExtW D.W G1 H1 G2 H2 → D.J m' G2 H2 → ArgsR K G2 vs as → R as m' → Q vs H2) → ta σ H1 Q
def MvT (D : Wd) (tt : TT) (σ : L2.St) (G : Hp) (m : D.M) (R : Bool → D.M → Prop) : Prop := ∀ G1 H1, Up G G1 H1 → D.J m G1 H1 → ∀ Q : Bool → Hp → Prop,
  (∀ b m' G2 H2, ExtW D.W G1 H1 G2 H2 → D.J m' G2 H2 → R b m' → Q b H2) → tt σ H1 Q
theorem Mv.imp {R S : PyData → D.M → Prop} (h : Mv K D te σ G m R) (k : ∀ d m', R d m' → S d m') : Mv K D te σ G m S := fun G1 H1 e j Q q => h G1 H1 e j Q fun v d m' G2 H2 e2 j2 r z => q v d m' G2 H2 e2 j2 r (k d m' z)
theorem Mv.up {R : PyData → D.M → Prop} (h : Mv K D te σ G m R) (e : Up G G1 H1) : Mv K D te σ G1 m R := fun G2 H2 e2 => h G2 H2 (e.up e2)
theorem mv_dv {R : PyData → D.M → Prop} (h : Dv K te σ G G d) (r : R d m) : Mv K D te σ G m R := fun G1 H1 e j Q q => h G1 H1 e Q fun v G2 H2 e2 rp => q v d m G2 H2 e2.w (Wd.ext j e2) rp r
theorem mvt_dv {b : Bool} {R : Bool → D.M → Prop} (h : DvT tt σ G G b) (r : R b m) : MvT D tt σ G m R := fun G1 H1 e j Q q => h G1 H1 e Q fun G2 H2 e2 => q b m G2 H2 e2.w (Wd.ext j e2) r
theorem mva_nil {R : List Arg → D.M → Prop} (r : R [] m) : MvA K D tNil σ G m R := fun G1 H1 e j Q q => q [] [] m G1 H1 (ExtW.refl e.gh) j .nil r
theorem mva_cons {tr : TA} {R : List Arg → D.M → Prop} (h : Mv K D te σ G m fun d m1 => MvA K D tr σ G m1 fun as m2 => R (.pd d :: as) m2) : MvA K D (tCons te tr) σ G m R := fun G1 H1 e j Q q =>
  h G1 H1 e j _ fun v d m1 G2 H2 e2 j2 r z => z G2 H2 (e.up e2.up) j2 _ fun vs as m2 G3 H3 e3 j3 r3 z3 => q _ _ m2 G3 H3 (e2.trans e3) j3 (.cons (a := .pd d) (show Arg.R K G3 v (.pd d) from e3.rp r) r3) z3
theorem mva_raw {tr : TA} {R : List Arg → D.M → Prop} (hv : σ[i]? = some (some v)) (h : MvA K D tr σ G m fun as m2 => R (.raw v :: as) m2) : MvA K D (tCons (tVar i) tr) σ G m R := fun G1 H1 e j Q q =>
  ⟨v, hv, h G1 H1 e j _ fun vs as m2 G3 H3 e3 j3 r3 z3 => q _ _ m2 G3 H3 e3 j3 (.cons (a := .raw v) rfl r3) z3⟩
/-- all of them data -/
theorem mva_dv {ta : TA} {ds : List PyData} {R : List Arg → D.M → Prop} (h : DvA K ta σ G G ds) (r : R (ds.map .pd) m) : MvA K D ta σ G m R := fun G1 H1 e j Q q => h G1 H1 e Q fun vs G2 H2 e2 rp => q vs _ m G2 H2 e2.w (Wd.ext j e2) rp.args r
theorem mv_tup {ta : TA} {R : PyData → D.M → Prop} (h : MvA K D ta σ G m fun as m' => ∃ ds, as = ds.map .pd ∧ ds.length ≤ 100000 ∧ R (.tuple ds) m') : Mv K D (tTup ta) σ G m R := fun G1 H1 e j Q q =>
  h G1 H1 e j _ fun vs as m' G2 H2 e2 j2 r z => by
    obtain ⟨ds, rfl, hl, z⟩ := z
    have r := r.data
    exact ⟨by rw [r.length]; exact sz hl, fun p hp => q _ _ m' _ _ (e2.trans ((Ext.refl e2.gh).alloc hp _).w) (Wd.ext j2 ((Ext.refl e2.gh).alloc hp _)) (.tup (.inl (.inl upd_same)) (RpAll.mono (same_upd (Same.none e2.gh hp) _) _ _ r)) z⟩
theorem mv_lst {ta : TA} {R : PyData → D.M → Prop} (h : MvA K D ta σ G m fun as m' => ∃ ds, as = ds.map .pd ∧ ds.length ≤ 100000 ∧ R (.list ds) m') : Mv K D (tLst ta) σ G m R := fun G1 H1 e j Q q =>
  h G1 H1 e j _ fun vs as m' G2 H2 e2 j2 r z => by
    obtain ⟨ds, rfl, hl, z⟩ := z
    have r := r.data
    exact ⟨by rw [r.length]; exact sz hl, fun p hp => q _ _ m' _ _ (e2.trans ((Ext.refl e2.gh).alloc hp _).w) (Wd.ext j2 ((Ext.refl e2.gh).alloc hp _)) (.lst upd_same (RpAll.mono (same_upd (Same.none e2.gh hp) _) _ _ r)) z⟩
theorem mvt_test {R : Bool → D.M → Prop} (h : Mv K D te σ G m fun d m' => ∃ b, d = .bool b ∧ R b m') : MvT D (tTest te) σ G m R := fun G1 H1 e j Q q => h G1 H1 e j _ fun v d m' G2 H2 e2 j2 r z => by
  obtain ⟨b, rfl, z⟩ := z
  cases r
  exact ⟨b, rfl, q b m' G2 H2 e2 j2 z⟩
theorem mvt_B {R : Bool → D.M → Prop} (h : Mv K D te σ G m fun d m' => ∃ b, d = .bool b ∧ R b m') : MvT D (tB te) σ G m R := fun G1 H1 e j Q q => h G1 H1 e j _ fun v d m' G2 H2 e2 j2 r z => by
  obtain ⟨b, rfl, z⟩ := z
  cases r
  exact ⟨b, rfl, q b m' G2 H2 e2 j2 z⟩
theorem mvt_and {tu : TT} {R : Bool → D.M → Prop} (h : MvT D tt σ G m fun b m1 => if b = true then MvT D tu σ G m1 R else R false m1) : MvT D (tAnd tt tu) σ G m R := fun G1 H1 e j Q q => h G1 H1 e j _ fun b m1 G2 H2 e2 j2 z => by
  cases b with
  | true => exact iteT ((show MvT D tu σ G m1 R from by simpa using z) G2 H2 (e.up e2.up) j2 Q fun b m' G3 H3 e3 => q b m' G3 H3 (e2.trans e3))
  | false => exact iteF (q false m1 G2 H2 e2 j2 (by simpa using z))
theorem mv_if {R : PyData → D.M → Prop} (h : MvT D tt σ G m fun b m1 => if b = true then Mv K D ta σ G m1 R else Mv K D tb σ G m1 R) : Mv K D (tIf tt ta tb) σ G m R := fun G1 H1 e j Q q => h G1 H1 e j _ fun b m1 G2 H2 e2 j2 z => by
  cases b with
  | true => exact iteT ((show Mv K D ta σ G m1 R from by simpa using z) G2 H2 (e.up e2.up) j2 Q fun v d m' G3 H3 e3 => q v d m' G3 H3 (e2.trans e3))
  | false => exact iteF ((show Mv K D tb σ G m1 R from by simpa using z) G2 H2 (e.up e2.up) j2 Q fun v d m' G3 H3 e3 => q v d m' G3 H3 (e2.trans e3))
/-- the promise of a def that changes what W says -/
def spM (K : PySem.W.Frag) (n : Nat) {ι : Type} (F : ι → Wd) (P : (i : ι) → List Arg → (F i).M → (PyData → (F i).M → Prop) → Prop) : Sp := fun vs H Q _ => vs.length = n ∧ ∃ (i : ι) (G : Hp) (as : List Arg) (m : (F i).M) (R : PyData → (F i).M → Prop), Same G H ∧ (F i).J m G H ∧ ArgsR K G vs as ∧ P i as m R ∧
  ∀ v d m' G' H', ExtW (F i).W G H G' H' → (F i).J m' G' H' → Rp K G' v d → R d m' → Q v H'
theorem ArgsR.length : ∀ {vs as}, ArgsR K G vs as → vs.length = as.length
  | _, _, .nil => rfl
  | _, _, .cons _ r => by rw [List.length_cons, List.length_cons, ArgsR.length r]
theorem mv_call {n : Nat} {ι : Type} {F : ι → Wd} {i : ι} {P : (i : ι) → List Arg → (F i).M → (PyData → (F i).M → Prop) → Prop} {E : XK} {ta : TA} {m : (F i).M} {R : PyData → (F i).M → Prop} (h : MvA K (F i) ta σ G m fun as m' => as.length = n ∧ P i as m' R) : Mv K (F i) (tCall (spM K n F P) [] E ta) σ G m R := fun G1 H1 e j Q q =>
  h G1 H1 e j _ fun vs as m' G2 H2 e2 j2 r z => by
    show spM K n F P (vs ++ []) H2 Q E
    rw [List.append_nil]
    exact ⟨by rw [r.length, z.1], i, G2, as, m', R, e2.gh, j2, r, z.2, fun v d m'' G3 H3 e3 j3 r3 z3 => q v d m'' G3 H3 (e2.trans e3) j3 r3 z3⟩
/-- a def that changes nothing, of what is made on the way -/
theorem mv_callP {n : Nat} {P : List PyData → PyData → Prop} {E : XK} {ta : TA} {R : PyData → D.M → Prop} (h : MvA K D ta σ G m fun as m' => ∃ ds d, as = ds.map .pd ∧ ds.length = n ∧ P ds d ∧ R d m') : Mv K D (tCall (spD K n P) [] E ta) σ G m R := fun G1 H1 e j Q q =>
  h G1 H1 e j _ fun vs as m' G2 H2 e2 j2 r z => by
    obtain ⟨ds, d, rfl, hn, hP, z⟩ := z
    show spD K n P (vs ++ []) H2 Q E
    rw [List.append_nil]
    have r := r.data
    exact ⟨by rw [r.length, hn], G2, ds, d, e2.gh, r, hP, fun v G3 H3 e3 r3 => q v d m' G3 H3 (e2.trans e3.w) (Wd.ext j2 e3) r3 z⟩
/-- two whole numbers made on the way, and a value of them -/
theorem mv_I0 {g : Int → Int → V} {f : Int → Int → PyData} (hg : ∀ G i j, Rp K G (g i j) (f i j)) {R : PyData → D.M → Prop} (h : Mv K D ta σ G m fun d m1 => ∃ i, d = .int i ∧ Mv K D tb σ G m1 fun d' m2 => ∃ j, d' = .int j ∧ R (f i j) m2) : Mv K D (tOp (rI0 g) ta tb) σ G m R := fun G1 H1 e j Q q =>
  h G1 H1 e j _ fun v d m1 G2 H2 e2 j2 r z => by
    obtain ⟨i, rfl, z⟩ := z
    cases r
    refine z G2 H2 (e.up e2.up) j2 _ fun v d m2 G3 H3 e3 j3 r z => ?_
    obtain ⟨k, rfl, z⟩ := z
    cases r
    exact ⟨i, k, rfl, rfl, q _ _ m2 G3 H3 (e2.trans e3) j3 (hg _ _ _) z⟩
theorem mv_gt {R : PyData → D.M → Prop} (h : Mv K D ta σ G m fun d m1 => ∃ i, d = .int i ∧ Mv K D tb σ G m1 fun d' m2 => ∃ j, d' = .int j ∧ R (.bool (decide (j < i))) m2) : Mv K D (tOp (rI0 fun i j => .bl (decide (j < i))) ta tb) σ G m R := mv_I0 (f := fun i j => .bool (decide (j < i))) (fun _ _ _ => .bl _) h
theorem mv_addI {R : PyData → D.M → Prop} (h : Mv K D ta σ G m fun d m1 => ∃ i, d = .int i ∧ Mv K D tb σ G m1 fun d' m2 => ∃ j, d' = .int j ∧ R (.int (i + j)) m2) : Mv K D (tOp (rAddX K) ta tb) σ G m R := fun G1 H1 e j Q q =>
  h G1 H1 e j _ fun v d m1 G2 H2 e2 j2 r z => by
    obtain ⟨i, rfl, z⟩ := z
    cases r
    refine z G2 H2 (e.up e2.up) j2 _ fun v d m2 G3 H3 e3 j3 r z => ?_
    obtain ⟨k, rfl, z⟩ := z
    cases r
    exact .inl ⟨i, k, rfl, rfl, q _ _ m2 G3 H3 (e2.trans e3) j3 (.int _) z⟩
theorem mv_eqI {R : PyData → D.M → Prop} (h : Mv K D ta σ G m fun d m1 => ∃ i, d = .int i ∧ Mv K D tb σ G m1 fun d' m2 => ∃ j, d' = .int j ∧ R (.bool (decide (i = j))) m2) : Mv K D (tOp (rEqX K) ta tb) σ G m R := fun G1 H1 e j Q q =>
  h G1 H1 e j _ fun v d m1 G2 H2 e2 j2 r z => by
    obtain ⟨i, rfl, z⟩ := z
    cases r
    refine z G2 H2 (e.up e2.up) j2 _ fun v d m2 G3 H3 e3 j3 r z => ?_
    obtain ⟨k, rfl, z⟩ := z
    cases r
    refine .inl ⟨rfl, ?_⟩
    have hd : decide (V.int i = V.int k) = decide (i = k) := by simp
    rw [hd]
    exact q _ _ m2 G3 H3 (e2.trans e3) j3 (.bl _) z
/-- row[i], the number made on the way -/
theorem mv_ix {r : PyData} {ds : List PyData} {R : PyData → D.M → Prop} (hr : rowOf r = some ds) (h : Mv K D ta σ G m fun d m1 => d = r ∧ Mv K D tb σ G m1 fun d' m2 => ∃ z d2, d' = .int z ∧ atI ds z = some d2 ∧ R d2 m2) : Mv K D (tOp (rIx K) ta tb) σ G m R := fun G1 H1 e j Q q =>
  h G1 H1 e j _ fun v d m1 G2 H2 e2 j2 rp z => by
    obtain ⟨rfl, z⟩ := z
    refine z G2 H2 (e.up e2.up) j2 _ fun y d m2 G3 H3 e3 j3 ry z => ?_
    obtain ⟨k, d2, rfl, hat, z⟩ := z
    cases ry
    obtain ⟨a, xs, rfl, ra, qq⟩ := (e3.rp rp).row e3.gh hr
    obtain ⟨v, h1, h2⟩ := ra.at hat
    rcases qq with ⟨_, qq, _⟩ | ⟨_, qq⟩
    · exact .inl ⟨a, xs, k, v, rfl, rfl, qq, h1, q v _ m2 G3 H3 (e2.trans e3) j3 h2 z⟩
    · exact .inr (.inl ⟨a, xs, k, v, rfl, rfl, qq, h1, q v _ m2 G3 H3 (e2.trans e3) j3 h2 z⟩)
theorem mv_tupOf {R : PyData → D.M → Prop} (h : Mv K D ta σ G m fun r m' => ∃ ds, rowOf r = some ds ∧ R (.tuple ds) m') : Mv K D (tCB (rTupOf K) (tCons ta tNil)) σ G m R := fun G1 H1 e j Q q =>
  h G1 H1 e j _ fun v d m1 G2 H2 e2 j2 rp z => by
    obtain ⟨ds, hr, z⟩ := z
    obtain ⟨a, xs, rfl, ra, qq⟩ := rp.row e2.gh hr
    rcases qq with ⟨_, qq, _⟩ | ⟨rfl, qq⟩
    · exact ⟨a, xs, rfl, .inl ⟨qq, fun p hp => q _ _ m1 _ _ (e2.trans ((Ext.refl e2.gh).alloc hp _).w) (Wd.ext j2 ((Ext.refl e2.gh).alloc hp _)) (.tup (.inl (.inl upd_same)) (RpAll.mono (same_upd (Same.none e2.gh hp) _) _ _ ra)) z⟩⟩
    · exact ⟨a, xs, rfl, .inr ⟨qq, q _ _ m1 G2 H2 e2 j2 rp z⟩⟩
/-- [te for slot i in wi], an element may change what W says -/
theorem mv_lc {wi : TI} {ds : List PyData} {R : PyData → D.M → Prop} (I : Nat → List PyData → D.M → Prop) (hw : DvI K wi σ G G ds) (hz : ds.length < 100000) (h0 : I 0 [] m)
    (hs : ∀ k d acc m1, ds[k]? = some d → acc.length = k → I k acc m1 → ∀ x G1 H1, Up G G1 H1 → Rp K G1 x d → Mv K D te (σ.set i (some x)) G1 m1 fun d' m2 => I (k + 1) (acc ++ [d']) m2)
    (hd : ∀ acc m1, acc.length = ds.length → I ds.length acc m1 → R (.list acc) m1) : Mv K D (tLc wi (gName i) tYes te [i]) σ G m R := fun G0 H0 e0 j0 Q q => hw G0 H0 e0 _ fun J G1 H1 e1 W C hC => by
  have gC : G1 C = none := Same.none e1.gh hC
  have j1 : D.J m G1 H1 := Wd.ext j0 e1
  refine ⟨fun k n Hc => n = ds.length - k ∧ k ≤ ds.length ∧ ∃ Gc acc ad m1, ExtW D.W G1 H1 Gc Hc ∧ Gc C = none ∧ Hc C = some (.lst acc) ∧ RpAll K Gc acc ad ∧ ad.length = k ∧ D.J m1 Gc Hc ∧ I k ad m1, ⟨ds.length, by simp, Nat.zero_le _, G1, [], [], m, ((Ext.refl e1.gh).allocM hC _).w, gC, upd_same, .nil, rfl, Wd.ext j1 ((Ext.refl e1.gh).allocM hC _), h0⟩, ?_⟩
  rintro k n Hc ⟨rfl, hi, Gc, acc, ad, m1, ec, gc, hc, rc, hl, jc, ic⟩
  have wC : ¬ D.W C := fun w => D.alive j1 C w hC
  by_cases hlt : k < ds.length
  · obtain ⟨d, hd'⟩ := lt_get hlt
    refine .inr ⟨W.go k Gc Hc ec.gg ec.gh hlt, fun H' => k + 1 ≤ ds.length ∧ ∃ Gc acc ad m1, ExtW D.W G1 H1 Gc H' ∧ Gc C = none ∧ H' C = some (.lst acc) ∧ RpAll K Gc acc ad ∧ ad.length = k + 1 ∧ D.J m1 Gc H' ∧ I (k + 1) ad m1, fun H' z => ⟨ds.length - (k + 1), by omega, rfl, z⟩, fun x Hy y => ?_⟩
    obtain ⟨Gy, ey, ry⟩ := W.yld k d Gc Hc x Hy ec.gg ec.gh hd' y
    have ecy := ec.trans ey.w
    have e0y := (e0.up e1.up).up ecy.up
    have hCy : Hy C = some (.lst acc) := ey.hh _ _ hc
    have gy : Gy C = none := ey.loose gc (by rw [hc]; simp)
    show gName i x (wipe σ [i]) Hy _
    refine ⟨by rw [set_wipe1]; exact wipe_set1, ?_⟩
    rw [set_wipe1]
    unfold tYes
    dsimp only
    rw [if_pos rfl]
    refine (hs k d ad m1 hd' hl ic x Gy Hy e0y ry Gy Hy (Up.refl ey.gh) (Wd.ext jc ey) _ fun z d' m2 Gz Hz ez jz rz iz => ?_)
    have hCz : Hz C = some (.lst acc) := ez.hh _ _ wC hCy
    have gz : Gz C = none := ez.loose gy (by rw [hCy]; simp)
    have eyz : Same Gc Gz := ey.gg.trans ez.gg
    have rc' := RpAll.mono eyz _ _ rc
    refine ⟨acc, hCz, szl (by rw [rc.length, hl]; omega), hlt, Gz, acc ++ [z], ad ++ [d'], m2, (ecy.trans ez).set hC gz _, gz, upd_same, RpAll.app rc' (.cons rz .nil), by simp [hl], ?_, iz⟩
    exact D.mono jz (Same.refl _) (fun b u w q => by rw [upd_ne (fun e : b = C => wC (by rw [← e]; exact w))]; exact q) (fun b _ g _ => g)
  · have hi' : k = ds.length := by omega
    subst hi'
    refine .inl ⟨W.stop Gc Hc ec.gg ec.gh, ?_⟩
    refine q _ _ m1 _ Hc (e1.w.trans (ec.still hC gc hc)) ?_ (.lst upd_same (RpAll.mono (same_upd gc _) _ _ rc)) (hd ad m1 hl ic)
    exact D.mono jc (same_upd gc _) (fun b u _ q => q) (fun b w g _ => by rw [upd_ne (fun e : b = C => wC (by rw [← e]; exact w))]; exact g)
end
end K82

set_option Elab.async false
set_option linter.all false
set_option maxRecDepth 100000
set_option maxHeartbeats 4000000
/-! Dicts by names. -/
namespace K82
open PySem L2 PyProof.Rows
theorem hu1 {k : Nat} {A : Around} (r : Room k A) : A.units + 1 < cLine := by
  have := r.un
  omega
section
variable {X : Cx} (K : PySem.W.Frag) (hK : X.K = K)
include hK
theorem op_addK : OpR X (binaryOp .Add) (rAddX K) := hK ▸ op_addX
theorem op_eqK (hu : X.A.units + 64 < cLine) : OpR X (compareOp .Eq) (rEqX K) := hK ▸ op_eqX hu
theorem op_neK (hu : X.A.units + 64 < cLine) : OpR X (compareOp .NotEq) (rNeX K) := hK ▸ op_neX hu
theorem op_inK (hu : X.A.units + 65 < cLine) : OpR X (compareOp .In) (rInL K false) := hK ▸ op_inL hu
theorem op_notInK (hu : X.A.units + 65 < cLine) : OpR X (compareOp .NotIn) (rInL K true) := hK ▸ op_notInL hu
theorem sl_K : SlR X (rSlX K) := hK ▸ sl_X
theorem ix_K : IxR X (rIx K) := hK ▸ ix_seq
theorem call_isiK : CallR X (.builtin "isinstance") (rIsiX K) := hK ▸ call_isiX
theorem call_lenK : CallR X (.builtin "len") (rLenX K) := hK ▸ call_lenX
theorem call_tupK : CallR X (.type "tuple") (rTupOf K) := hK ▸ call_tupX
theorem call_lstK : CallR X (.type "list") (rLstOf K) := hK ▸ call_lstX
theorem pi_rowK {tg l : Expr} {tl : TE} (hl : PE X l tl) : PI X tg l (iRow K tl) := hK ▸ pi_row hl
theorem pg_tupK {es : List Expr} {k : Nat} {t : TGs} {n : Nat} {pos : Pos} (hc : X.calm = true) (h : PGs X es t) (hn : (assignEach es X.env).length = n := by rfl) (hst : (assignEach es X.env).findIdx? (·.1) = none := by rfl) : PG X (.Tuple es k pos) (gTup K n t) := hK ▸ pg_tup hc h hn hst
end
def getS {α : Type} (l : List (Str × α)) (x : Str) : Option α := (l.find? fun p => decide (p.1 = x)).map (·.2)
def putS {α : Type} (l : List (Str × α)) (x : Str) (a : α) : List (Str × α) := if (l.any fun p => decide (p.1 = x)) = true then l.map (fun p => if p.1 = x then (p.1, a) else p) else l ++ [(x, a)]
/-- a dict by names -/
def envG {α : Type} (f : α → PyData) (l : List (Str × α)) : PyData := .dict (l.map fun p => (.str p.1, f p.2))
theorem putS_len {α : Type} (l : List (Str × α)) (x : Str) (a : α) : (putS l x a).length ≤ l.length + 1 := by
  unfold putS
  split <;> simp
section
variable {K : PySem.W.Frag} {G : Hp} {α : Type} {f : α → PyData}
theorem rpkv_cons {kvs : List (Key × V)} {p : Str × α} {l : List (Str × α)} (h : RpKv K G kvs ((p :: l).map fun p => (.str p.1, f p.2))) : ∃ v r, kvs = (.inr p.1, v) :: r ∧ Rp K G v (f p.2) ∧ RpKv K G r (l.map fun p => (.str p.1, f p.2)) := by
  rw [List.map_cons] at h
  generalize hk : PyData.str p.1 = kk at h
  cases h with
  | @cons k v vs d ds h1 h2 =>
    cases k with
    | inl i => cases hk
    | inr x =>
      cases hk
      exact ⟨v, vs, rfl, h1, h2⟩
theorem rpkv_nil {kvs : List (Key × V)} (h : RpKv K G kvs (([] : List (Str × α)).map fun p => (.str p.1, f p.2))) : kvs = [] := by
  cases h
  rfl
theorem rpkv_get {x : Str} : ∀ {l : List (Str × α)} {kvs : List (Key × V)}, RpKv K G kvs (l.map fun p => (.str p.1, f p.2)) → (match getS l x with | none => valV kvs (.inr x : Key) = none | some a => ∃ v, valV kvs (.inr x : Key) = some v ∧ Rp K G v (f a))
  | [], kvs, h => by
    rw [rpkv_nil h]
    rfl
  | p :: l, kvs, h => by
    obtain ⟨v, r, rfl, h1, h2⟩ := rpkv_cons h
    by_cases e : p.1 = x
    · have z : getS (p :: l) x = some p.2 := by simp [getS, e]
      rw [z]
      exact ⟨v, valV_pos (by rw [e]), h1⟩
    · have z : getS (p :: l) x = getS l x := by simp [getS, e]
      rw [z, valV_neg (by intro q; exact e (Sum.inr.inj q))]
      exact rpkv_get h2
theorem rpkv_any {x : Str} : ∀ {l : List (Str × α)} {kvs : List (Key × V)}, RpKv K G kvs (l.map fun p => (.str p.1, f p.2)) → (kvs.any fun kv => decide (kv.1 = (.inr x : Key))) = l.any fun p => decide (p.1 = x)
  | [], kvs, h => by
    rw [rpkv_nil h]
    rfl
  | p :: l, kvs, h => by
    obtain ⟨v, r, rfl, h1, h2⟩ := rpkv_cons h
    rw [List.any_cons, List.any_cons, rpkv_any h2]
    congr 1
    by_cases e : p.1 = x <;> simp [e]
theorem rpkv_map {x : Str} {v : V} {a : α} (rv : Rp K G v (f a)) : ∀ {l : List (Str × α)} {kvs : List (Key × V)}, RpKv K G kvs (l.map fun p => (.str p.1, f p.2)) → RpKv K G (kvs.map fun kv => if kv.1 = (.inr x : Key) then (kv.1, v) else kv) ((l.map (fun p => if p.1 = x then (p.1, a) else p)).map fun p => (.str p.1, f p.2))
  | [], kvs, h => by
    rw [rpkv_nil h]
    exact .nil
  | p :: l, kvs, h => by
    obtain ⟨u, r, rfl, h1, h2⟩ := rpkv_cons h
    have ih := rpkv_map (x := x) rv h2
    rw [List.map_cons, List.map_cons, List.map_cons]
    by_cases e : p.1 = x
    · rw [if_pos (by rw [e]), if_pos e]
      exact .cons (k := .inr p.1) rv ih
    · rw [if_neg (by intro q; exact e (Sum.inr.inj q)), if_neg e]
      exact .cons (k := .inr p.1) h1 ih
theorem rpkv_app {k : Key} {v : V} {d : PyData} (r : Rp K G v d) : ∀ {kvs : List (Key × V)} {ds : List (PyData × PyData)}, RpKv K G kvs ds → RpKv K G (kvs ++ [(k, v)]) (ds ++ [(keyD k, d)])
  | _, _, .nil => .cons r .nil
  | _, _, .cons h1 h2 => .cons h1 (rpkv_app r h2)
theorem rpkv_put {x : Str} {v : V} {a : α} (rv : Rp K G v (f a)) {l : List (Str × α)} {kvs : List (Key × V)} (h : RpKv K G kvs (l.map fun p => (.str p.1, f p.2))) : RpKv K G (putK kvs (.inr x : Key) v) ((putS l x a).map fun p => (.str p.1, f p.2)) := by
  unfold putK putS
  rw [rpkv_any h]
  split
  · exact rpkv_map rv h
  · rw [List.map_append]
    exact rpkv_app (k := .inr x) rv h
theorem rpkv_len : ∀ {kvs : List (Key × V)} {ds : List (PyData × PyData)}, RpKv K G kvs ds → kvs.length = ds.length
  | _, _, .nil => rfl
  | _, _, .cons _ h => by rw [List.length_cons, List.length_cons, rpkv_len h]
variable {σ : L2.St} {H : Hp} {tn tk tv : TE}
theorem dv_newD : Dv K tDNewK σ G H (.dict []) := fun G1 H1 e Q k p hp => k _ _ _ ((Ext.refl e.gh).alloc hp _) (.dic upd_same .nil)
theorem dv_get {l : List (Str × α)} {x : Str} (hn : Dv K tn σ G H (envG f l)) (hk : Dv K tk σ G H (.str x)) : Dv K (tDGet1 tn tk) σ G H (match getS l x with | none => .none | some a => f a) := fun G1 H1 e Q k =>
  hn G1 H1 e _ fun v G2 H2 e2 q => by
    unfold envG at q
    generalize hD : (l.map fun p => (PyData.str p.1, f p.2)) = D at q
    cases q with
    | @dic a kvs ds h1 h2 =>
      subst hD
      refine ⟨a, rfl, .inl ⟨kvs, .inl (e2.gh _ _ h1)⟩, hk G2 H2 (e.trans e2) _ fun y G3 H3 e3 qy => ?_⟩
      cases qy
      refine ⟨_, DGet.k (k := .inr x) (e3.gh _ _ (e3.gg _ _ h1)), ?_⟩
      have z := rpkv_get (x := x) h2
      cases hg : getS l x with
      | none =>
        rw [hg] at z k
        rw [show valV kvs (.inr x : Key) = none from z]
        exact k _ G3 H3 (e2.trans e3) .non
      | some a =>
        rw [hg] at z k
        obtain ⟨v, z1, z2⟩ := z
        rw [z1]
        exact k _ G3 H3 (e2.trans e3) (e3.rp z2)
theorem dv_starD {l : List (Str × α)} {x : Str} {a : α} (hz : l.length < 100000) (hn : Dv K tn σ G H (envG f l)) (hk : Dv K tk σ G H (.str x)) (hv : Dv K tv σ G H (f a)) : Dv K (tStarD tn tk tv) σ G H (envG f (putS l x a)) := fun G1 H1 e Q k p hp =>
  hn G1 _ ⟨e.gg, e.gh.trans (same_upd hp _)⟩ _ fun v G2 H2 e2 q => by
    unfold envG at q
    generalize hD : (l.map fun p => (PyData.str p.1, f p.2)) = D at q
    cases q with
    | @dic b kvs ds h1 h2 =>
      subst hD
      have g1p : G1 p = none := Same.none e.gh hp
      have e12 : Ext G1 H1 G2 H2 := ((Ext.refl e.gh).allocM hp _).trans e2
      have hp2 : H2 p = some (.dK []) := e2.hh _ _ upd_same
      have gp2 : G2 p = none := e2.loose g1p (by rw [upd_same]; simp)
      have hbp : b ≠ p := fun z => by
        subst z
        rw [gp2] at h1
        cases h1
      have hlen : kvs.length < sizeLine := by
        rw [rpkv_len h2, List.length_map]
        exact szl hz
      refine ⟨b, kvs, rfl, hbp, e2.gh _ _ h1, hlen, hp2, fun q hq => ?_⟩
      have e12' := e12.set hp gp2 (.dK kvs)
      have hqp : q ≠ p := fun z => by
        subst z
        rw [upd_same] at hq
        cases hq
      have e12q := e12'.allocM hq (.dK [])
      have gq2 : G2 q = none := Same.none e12'.gh hq
      refine hk G2 _ (e.trans e12q) _ fun y G3 H3 e3 qy => hv G3 H3 ((e.trans e12q).trans e3) _ fun z G4 H4 e4 qz => ?_
      cases qy
      have e24 := e3.trans e4
      have hq4 : H4 q = some (.dK []) := e24.hh _ _ upd_same
      have hp4 : H4 p = some (.dK kvs) := e24.hh _ _ (by rw [upd_ne (fun z => hqp z.symm)]; exact upd_same)
      have gq4 : G4 q = none := e24.loose gq2 (by rw [upd_same]; simp)
      have gp4 : G4 p = none := e24.loose gp2 (by rw [upd_ne (fun z => hqp z.symm), upd_same]; simp)
      have h1q : H1 q = none := e12'.fresh hq
      refine ⟨.inr x, rfl, hqp, hq4, hp4, ?_⟩
      have e14 := ((e12q.trans e24).set h1q gq4 (.dK [(.inr x, z)])).set hp gp4 (.dK (putK kvs (.inr x) z))
      refine k _ _ _ (e14.still hp gp4 upd_same) (.dic upd_same ?_)
      exact rpkv_put (Rp.mono (same_upd gp4 _) _ _ qz) (RpKv.mono ((e24.gg).trans (same_upd gp4 _)) _ _ h2)
end
end K82

set_option Elab.async false
set_option linter.all false
set_option maxRecDepth 100000
set_option maxHeartbeats 4000000
/-! The parts of a term, its type. -/
namespace K82
open PySem L2 PyProof.Rows
def Tm.parts : Tm → List Tm
  | .name _ => []
  | .fn _ _ t => [t]
  | .ap t u => [t, u]
  | .con _ => []
  | .no => []
  | .cs t l => t :: l
  | .fx _ _ t => [t]
  | .ei t u => [t, u]
theorem atN1 {α : Type} {xs : List α} {x : α} : atI (xs ++ [x]) (-1) = some x := by
  unfold atI ixN
  have e : (xs ++ [x]).length = xs.length + 1 := by simp
  rw [e, if_neg (by omega), if_pos (by omega)]
  have h : (-1 + ((xs.length + 1 : Nat) : Int)).toNat = xs.length := by omega
  show (xs ++ [x])[(-1 + ((xs.length + 1 : Nat) : Int)).toNat]? = some x
  rw [h]
  simp
theorem dv_neg {K : PySem.W.Frag} {σ : L2.St} {G H : Hp} {ta : TE} {i : Int} (h : Dv K ta σ G H (.int i)) : Dv K (tUn (rU fun i => .int (-i)) ta) σ G H (.int (-i)) := fun G1 H1 e Q k => h G1 H1 e _ fun v G2 H2 e2 q => by
  cases q
  exact ⟨i, rfl, k _ G2 H2 e2 (.int _)⟩
theorem pys_len (l : List Tm) : (Tm.pys l).length = l.length := by rw [Tm.pys_map, List.length_map]
section
variable {P : Program} {w : World} {K : PySem.W.Frag} {mg : Str → Option Value} {base : Heap}
abbrev spT (K : PySem.W.Frag) (A : Tm → Prop) (f : Tm → PyData) : Sp := spD K 1 fun ds d => ∃ t, ds = [t.py] ∧ A t ∧ d = f t
theorem okT {x : Str} {st : Stmt} {p : Str} {N : List Str} {k : Nat} {f : Tm → PyData} {A : Tm → Prop} (D : Df K mg x st [p]) (S : FnScope N [p] (defScope st))
    (h : ∀ (cdv : Value) (Ar : Around) (outer : List Env) (s : Shared) (H : Hp) (Q : VK) (E : XK) (v : V) (G : Hp) (t : Tm), Room k (Ar.deeper (envOfC x (defScope st) s.heap.objs.size D.f cdv)) → Same G H → Rp K G v t.py → A t → (∀ v G' H', Ext G H G' H' → Rp K G' v (f t) → Q v H') →
      ∃ t, PSs (cxOf CX0 P w K mg base N x (defScope st) D.f cdv Ar outer s H E).nox (defBody st) t ∧ t { nx := fun _ H' => Q .non H', rt := Q } (start N [v]) H) : FnOk P w K mg base CX0 (k + 1) D.f D.fd [p] (spT K A f) := by
  refine D.F.ok S (fun vs H Q E z => z.1) (fun cdv Ar outer s H vs Q E hr z => ?_)
  obtain ⟨hl, G, ds, d, e, r, ⟨t, rfl, ha, rfl⟩, kk⟩ := z
  cases r with
  | cons r1 r =>
    cases r
    exact h cdv Ar outer s H Q E _ G t hr e r1 ha kk
theorem dv_callT {σ : L2.St} {G H : Hp} {te : TE} {t : Tm} {E : XK} {f : Tm → PyData} {A : Tm → Prop} (h : Dv K te σ G H t.py) (hA : A t) : Dv K (tCall (spT K A f) [] E (tCons te tNil)) σ G H (f t) := dv_call (dva_cons h dva_nil) rfl ⟨t, rfl, hA, rfl⟩
/-- the word at the head -/
inductive Wo | name | fn | ap | con | no | cs | fx | ei
def Wo.s : Wo → Str
  | .name => "name" | .fn => "fun" | .ap => "call" | .con => "constant" | .no => "nothing" | .cs => "case" | .fx => "fix" | .ei => "either"
def Tm.wo : Tm → Wo
  | .name _ => .name | .fn .. => .fn | .ap .. => .ap | .con _ => .con | .no => .no | .cs .. => .cs | .fx .. => .fx | .ei .. => .ei
def Wo.bind : Wo → Bool
  | .fn => true | .fx => true | _ => false
def Wo.two : Wo → Bool
  | .ap => true | .ei => true | _ => false
def Wo.leaf : Wo → Bool
  | .con => true | .no => true | _ => false
def Tm.tl : Tm → List PyData
  | .name x => [.str x]
  | .fn x s t => [.str x, s.py, t.py]
  | .ap t u => [t.py, u.py]
  | .con c => [.int c]
  | .no => []
  | .cs t l => [t.py, .tuple (Tm.pys l)]
  | .fx x s t => [.str x, s.py, t.py]
  | .ei t u => [t.py, u.py]
theorem Tm.py_eq (t : Tm) : t.py = .tuple (.str t.wo.s :: t.tl) := by
  cases t <;> rfl
theorem Tm.row (t : Tm) : rowOf t.py = some (.str t.wo.s :: t.tl) := by
  rw [Tm.py_eq]
  rfl
def Wo.all : List Wo := [.name, .fn, .ap, .con, .no, .cs, .fx, .ei]
theorem wo_bind : ∀ o : Wo, ((["fun", "fix"] : List Str).any fun y => y == o.s) = o.bind := by
  intro o
  cases o <;> decide +kernel
theorem wo_two : ∀ o : Wo, ((["call", "either"] : List Str).any fun y => y == o.s) = o.two := by
  intro o
  cases o <;> decide +kernel
theorem wo_leaf : ∀ o : Wo, ((["constant", "nothing"] : List Str).any fun y => y == o.s) = o.leaf := by
  intro o
  cases o <;> decide +kernel
def Wo.is : Wo → Wo → Bool
  | .name, .name => true | .fn, .fn => true | .ap, .ap => true | .con, .con => true | .no, .no => true | .cs, .cs => true | .fx, .fx => true | .ei, .ei => true
  | _, _ => false
theorem wo_is : ∀ o q : Wo, PyData.eqv (.str o.s) (.str q.s) = o.is q := by
  intro o q
  rw [eqv_str]
  cases o <;> cases q <;> decide +kernel
theorem ok_own_parts (T : Txt K mg) : FnOk P w K mg base CX0 1 T.own_parts.f T.own_parts.fd ["term"] (spT K (fun t => shr t.py = true) fun t => .list (Tm.pys t.parts)) := by
  refine okT T.own_parts sc_own_parts fun cdv Ar outer s H Q E v G t hr e r hA k => ?_
  refine ⟨_, (pss_cons (ps_set (i := 1) sc_own_parts.nd rfl (Or.inl rfl) (pe_ix ix_seq (pv 0) pe_int (fun _ _ => rfl)))
      (pss_cons (ps_if (pt_cmpR (op_inL (hu65 hr)) (pv 1) (pe_glob rfl T.m_BINDS T.r_BINDS) rfl) (pss_one (ps_ret (pe_lst (pa_cons (pe_ix ix_seq (pv 0) (pe_un un_neg pe_int) (fun _ _ => rfl)) pa_nil)))) pss_nil)
      (pss_cons (ps_if (pt_cmpR (op_inL (hu65 hr)) (pv 1) (pe_tup (pa_cons pe_str (pa_cons pe_str pa_nil))) rfl) (pss_one (ps_ret (pe_lst (pa_cons (pe_ix ix_seq (pv 0) pe_int (fun _ _ => rfl)) (pa_cons (pe_ix ix_seq (pv 0) pe_int (fun _ _ => rfl)) pa_nil))))) pss_nil)
      (pss_one (ps_ret (pe_ifExp (pt_cmpR (op_eqX hr.units) (pv 1) pe_str (nomark _)) (pe_op op_addX (pe_lst (pa_cons (pe_ix ix_seq (pv 0) pe_int (fun _ _ => rfl)) pa_nil)) (pe_callTy call_lstX rfl T.z_list (by decide +kernel) (pa_cons (pe_ix ix_seq (pv 0) pe_int (fun _ _ => rfl)) pa_nil))) (pe_lst pa_nil))))))), ?_⟩
  have hrow := t.row
  refine ds_seq ?_
  refine ds_set e (dv_ix (d := .str t.wo.s) (dv_var rfl r) dv_int hrow at0) fun y G1 H1 e1 q => ?_
  refine ds_if e1.gh (dvt_test (dv_inT (xs := ["fun", "fix"]) (dv_var rfl q) (dv_c T.p_BINDS) rfl)) (fun h G2 H2 e2 => ?_) fun h1 G2 H2 e2 => ?_
  · rw [wo_bind] at h
    refine ds_ret e2.gh (d := .list (Tm.pys t.parts)) ?_ fun v G3 H3 e3 q => k v G3 H3 ((e1.trans e2).trans e3) q
    refine Dv.is (dv_lst (dva_cons (d := match t with | .fn _ _ t => t.py | .fx _ _ t => t.py | _ => .none) (dv_ix (dv_var rfl ((e1.trans e2).rp r)) (dv_neg dv_int) hrow ?_) dva_nil) (by simp)) ?_
    · cases t <;> first | rfl | exact Bool.noConfusion h
    · cases t <;> first | rfl | exact Bool.noConfusion h
  rw [wo_bind] at h1
  have e12 := e1.trans e2
  refine ds_if e2.gh (dvt_test (dv_inT (xs := ["call", "either"]) (dv_var rfl (e2.rp q)) (dv_tup (dva_cons dv_str (dva_cons dv_str dva_nil)) (by simp)) rfl)) (fun h G3 H3 e3 => ?_) fun h2 G3 H3 e3 => ?_
  · rw [wo_two] at h
    refine ds_ret e3.gh (d := .list (Tm.pys t.parts)) ?_ fun v G4 H4 e4 q => k v G4 H4 ((e12.trans e3).trans e4) q
    refine Dv.is (dv_lst (dva_cons (d := match t with | .ap t _ => t.py | .ei t _ => t.py | _ => .none) (dv_ix (dv_var rfl ((e12.trans e3).rp r)) dv_int hrow ?_) (dva_cons (d := match t with | .ap _ t => t.py | .ei _ t => t.py | _ => .none) (dv_ix (dv_var rfl ((e12.trans e3).rp r)) dv_int hrow ?_) dva_nil)) (by simp)) ?_
    · cases t <;> first | rfl | exact Bool.noConfusion h
    · cases t <;> first | rfl | exact Bool.noConfusion h
    · cases t <;> first | rfl | exact Bool.noConfusion h
  rw [wo_two] at h2
  refine ds_ret e3.gh (d := .list (Tm.pys t.parts)) (dv_if (dvt_test (dv_eq (dv_var rfl ((e2.trans e3).rp q)) dv_str rfl)) (fun h => ?_) fun h => ?_) fun v G4 H4 e4 q => k v G4 H4 ((e12.trans e3).trans e4) q
  · have h' := wo_is t.wo .cs
    rw [show PyData.eqv (.str t.wo.s) (.str "case") = t.wo.is .cs from h'] at h
    cases t with
    | cs u l =>
      have hl : l.length < 1000 := by
        have z : shr (Tm.py (.cs u l)) = true := hA
        simp [Tm.py, shr, shrs] at z
        rw [← pys_len]
        exact z.2.2.1
      refine Dv.is (dv_addL (dv_lst (dva_cons (d := u.py) (dv_ix (dv_var rfl ((e12.trans e3).rp r)) dv_int hrow rfl) dva_nil) (by simp)) (dv_lstOf (dv_ix (d := .tuple (Tm.pys l)) (dv_var rfl ((e12.trans e3).rp r)) dv_int hrow rfl) rfl) ?_) rfl
      rw [pys_len]
      simp
      omega
    | _ => cases h
  · rw [show PyData.eqv (.str t.wo.s) (.str "case") = t.wo.is .cs from wo_is t.wo .cs] at h
    refine Dv.is (dv_lst dva_nil (by simp)) ?_
    cases t <;> first | rfl | exact Bool.noConfusion h1 | exact Bool.noConfusion h2 | exact Bool.noConfusion h
end
end K82

set_option Elab.async false
set_option linter.all false
set_option maxRecDepth 100000
set_option maxHeartbeats 4000000
/-! Types of terms. -/
namespace K82
open PySem L2 PyProof.Rows
theorem cutL_tl {α : Type} {x : α} {l : List α} : cutL (x :: l) (some 1) none = l := by
  have e2 : HT.sIx (x :: l).length 0 (some 1) = 1 := by
    show HT.sIx (x :: l).length 0 (some ((1 : Nat) : Int)) = 1
    rw [HT.sIx_nat, List.length_cons]
    omega
  unfold cutL
  rw [e2]
  show List.take ((x :: l).length - 1) l = l
  rw [List.length_cons, Nat.add_sub_cancel, List.take_length]
theorem Ty.eqvl : ∀ a b : Ty, PyData.eqvAll a.l b.l = decide (a = b)
  | .nil, .nil => rfl
  | .nil, .cons _ _ => by simp [Ty.l, PyData.eqvAll]
  | .cons _ _, .nil => by simp [Ty.l, PyData.eqvAll]
  | .cons a r, .cons b s => by
    rw [Ty.l, Ty.l, PyData.eqvAll, PyData.eqv, Ty.eqvl a b, Ty.eqvl r s, Bool.eq_iff_iff]
    simp
theorem Ty.eqv (a b : Ty) : PyData.eqv a.py b.py = decide (a = b) := Ty.eqvl a b
def Ty.d : Ty → Nat
  | .nil => 0
  | .cons a r => max (a.d + 1) r.d
def Ty.n : Ty → Nat
  | .nil => 0
  | .cons _ r => r.n + 1
theorem Ty.depl : ∀ t : Ty, PyData.depthAll t.l = t.d
  | .nil => rfl
  | .cons a r => by rw [Ty.l, PyData.depthAll, PyData.depth, Ty.depl a, Ty.depl r, Ty.d]
theorem Ty.dep (t : Ty) : t.py.depth = t.d + 1 := by rw [Ty.py, PyData.depth, Ty.depl]
theorem Ty.layl : ∀ t : Ty, PyData.canLayAll0 t.l = true
  | .nil => rfl
  | .cons a r => by rw [Ty.l, PyData.canLayAll0, PyData.canLay0, Ty.layl a, Ty.layl r]; rfl
theorem Ty.lay (t : Ty) : t.py.canLay0 = true := by rw [Ty.py, PyData.canLay0, Ty.layl]
theorem Ty.len : ∀ t : Ty, t.l.length = t.n
  | .nil => rfl
  | .cons _ r => by rw [Ty.l, List.length_cons, Ty.len r, Ty.n]
/-- how deep and how long a type may be -/
def Ty.Ok (t : Ty) (n : Nat) : Prop := t.d ≤ 60 ∧ t.n ≤ n
theorem Ty.shaped {t : Ty} (h : t.d ≤ 60) : SeqAt.shaped t.py = true := by
  unfold SeqAt.shaped
  rw [t.lay, t.dep, decide_eq_true (by omega)]
  rfl
theorem Ty.eqOk {a b : Ty} (h : a.d ≤ 60) (h' : b.d ≤ 60) : eqOk a.py b.py = true := by
  unfold K82.eqOk
  rw [noD_lay _ a.lay, noD_lay _ b.lay, Ty.shaped h, Ty.shaped h']
  simp
theorem Ty.Ok.mono {t : Ty} {n m : Nat} (h : t.Ok n) (k : n ≤ m) : t.Ok m := ⟨h.1, Nat.le_trans h.2 k⟩
theorem Ty.Ok.tl {a r : Ty} {n : Nat} (h : (Ty.cons a r).Ok n) : r.Ok n := by
  obtain ⟨h1, h2⟩ := h
  rw [Ty.d] at h1
  rw [Ty.n] at h2
  exact ⟨by omega, by omega⟩
theorem Ty.Ok.cons {a r : Ty} {n : Nat} (h : a.d < 60) (k : r.Ok n) : (Ty.cons a r).Ok (n + 1) := by
  obtain ⟨h1, h2⟩ := k
  refine ⟨?_, ?_⟩
  · rw [Ty.d]; omega
  · rw [Ty.n]; omega
def allNil : List Ty → Bool
  | [] => true
  | .nil :: r => allNil r
  | .cons _ _ :: _ => false
def joinT (env : List (Str × Ty)) : Tm → List Ty → Option Ty
  | .name x, _ => getS env x
  | .fn _ s _, [k] => some (.cons s k)
  | .fx _ s _, [k] => if k = s then some k else none
  | .ap _ _, [.cons a r, k] => if a = k then some r else none
  | .ap _ _, _ => none
  | .fn .., _ => none
  | .fx .., _ => none
  | _, ks => if allNil ks = true then some .nil else none
/-- what is annotated at the head -/
def Tm.an : Tm → Option Ty
  | .fn _ s _ => some s
  | .fx _ s _ => some s
  | _ => none
theorem allNil_eq : ∀ ks : List Ty, (ks.map fun k => PyData.eqv k.py (.tuple [])).all id = allNil ks
  | [] => rfl
  | .nil :: r => by rw [List.map_cons, List.all_cons, allNil_eq r]; rfl
  | .cons _ _ :: _ => rfl
theorem nil_eqv (k : Ty) : PyData.eqv k.py (.tuple []) = decide (k = .nil) := Ty.eqv k .nil
section
variable {P : Program} {w : World} {K : PySem.W.Frag} {mg : Str → Option Value} {base : Heap}
abbrev spJ (K : PySem.W.Frag) : Sp := spD K 3 fun ds d => ∃ t ks env, ds = [Tm.py t, .list (ks.map Ty.py), envG Ty.py env] ∧ ks.length = t.parts.length ∧ ks.length < 100000 ∧ (∀ k ∈ ks, k.Ok 50000) ∧ (∀ s, t.an = some s → s.Ok 50000) ∧ d = oTy (joinT env t ks)
theorem ok_joined_type (T : Txt K mg) : FnOk P w K mg base CX0 1 T.joined_type.f T.joined_type.fd ["term", "kinds", "names"] (spJ K) := by
  refine T.joined_type.F.ok sc_joined_type (fun vs H Q E z => z.1) (fun cdv Ar outer s H vs Q E hr z => ?_)
  obtain ⟨hl, G, ds, d, e, r, ⟨t, ks, env, rfl, hlen, hz, hks, han, rfl⟩, k⟩ := z
  cases r with
  | cons r1 r =>
  cases r with
  | cons r2 r =>
  cases r with
  | cons r3 r =>
  cases r
  refine ⟨_, (pss_cons (ps_set (i := 3) sc_joined_type.nd rfl (Or.inl rfl) (pe_ix ix_seq (pv 0) pe_int (fun _ _ => rfl)))
      (pss_cons (ps_if (pt_cmpR (op_eqX hr.units) (pv 3) pe_str (nomark _)) (pss_one (ps_ret (pe_dget1 (hu1 hr) (pv 2) (pe_ix ix_seq (pv 0) pe_int (fun _ _ => rfl)) ⟨rfl, rfl, rfl, rfl⟩))) pss_nil)
      (pss_cons (ps_if (pt_cmpR (op_eqX hr.units) (pv 3) pe_str (nomark _)) (pss_one (ps_ret (pe_op op_addX (pe_tup (pa_cons (pe_ix ix_seq (pv 0) pe_int (fun _ _ => rfl)) pa_nil)) (pe_ix ix_seq (pv 1) pe_int (fun _ _ => rfl))))) pss_nil)
      (pss_cons (ps_if (pt_cmpR (op_eqX hr.units) (pv 3) pe_str (nomark _)) (pss_one (ps_ret (pe_ifExp (pt_cmpR (op_eqX hr.units) (pe_ix ix_seq (pv 1) pe_int (fun _ _ => rfl)) (pe_ix ix_seq (pv 0) pe_int (fun _ _ => rfl)) (nomark _)) (pe_ix ix_seq (pv 1) pe_int (fun _ _ => rfl)) pe_non))) pss_nil)
      (pss_cons (ps_if (pt_cmpR (op_eqX hr.units) (pv 3) pe_str (nomark _)) (pss_one (ps_ret (pe_ifExp (PW.pt (pw_and (pt_cmpR (op_neX hr.units) (pe_ix ix_seq (pv 1) pe_int (fun _ _ => rfl)) (pe_tup pa_nil) (nomark _)) (pw_and1 (pt_cmpR (op_eqX hr.units) (pe_ix ix_seq (pe_ix ix_seq (pv 1) pe_int (fun _ _ => rfl)) pe_int (fun _ _ => rfl)) (pe_ix ix_seq (pv 1) pe_int (fun _ _ => rfl)) (nomark _))))) (pe_slice sl_X (pe_ix ix_seq (pv 1) pe_int (fun _ _ => rfl)) (po_some pe_int) po_none) pe_non))) pss_nil)
      (pss_one (ps_ret (pe_ifExp (pt_val (pe_callB (cr_all rfl) rfl T.z_all (by decide +kernel) (pa_cons (pe_lc (own := [("kind", 4)]) (g := gName 4) (tt := tYes) rfl sc_joined_type.nd (pi_row (pv 1)) (blkOk_by (N := ["term", "kinds", "names", "word", "kind"]) (sc := defScope s_joined_type) (by decide +kernel)) (fun _ _ _ _ _ => (pg_name (i := 4) sc_joined_type.nd rfl (Or.inl rfl))) (fun _ _ _ _ _ => pts_nil) (fun _ _ _ _ _ => (pe_cmpR (op_eqK K rfl hr.units) (pv 4) (pe_tup pa_nil) (nomark _)))) pa_nil))) (pe_tup pa_nil) pe_non)))))))), ?_⟩
  have hrow := t.row
  have hkr : rowOf (.list (ks.map Ty.py)) = some (ks.map Ty.py) := rfl
  refine ds_seq ?_
  refine ds_set e (dv_ix (d := .str t.wo.s) (dv_var rfl r1) dv_int hrow at0) fun y G1 H1 e1 q => ?_
  refine ds_if e1.gh (dvt_test (dv_eq (dv_var rfl q) dv_str rfl)) (fun h G2 H2 e2 => ?_) fun h1 G2 H2 e2 => ?_
  · rw [show PyData.eqv (.str t.wo.s) (.str "name") = t.wo.is .name from wo_is t.wo .name] at h
    have e12 := e1.trans e2
    cases t with
    | name x =>
      refine ds_ret e2.gh (dv_get (dv_var rfl (e12.rp r3)) (dv_ix (d := .str x) (dv_var rfl (e12.rp r1)) dv_int hrow rfl)) fun v G3 H3 e3 q => k v G3 H3 (e12.trans e3) ?_
      have z : joinT env (.name x) ks = getS env x := rfl
      rw [z]
      cases hg : getS env x with
      | none => rw [hg] at q; exact q
      | some a => rw [hg] at q; exact q
    | _ => cases h
  rw [show PyData.eqv (.str t.wo.s) (.str "name") = t.wo.is .name from wo_is t.wo .name] at h1
  refine ds_if e2.gh (dvt_test (dv_eq (dv_var rfl (e2.rp q)) dv_str rfl)) (fun h G3 H3 e3 => ?_) fun h2 G3 H3 e3 => ?_
  · rw [show PyData.eqv (.str t.wo.s) (.str "fun") = t.wo.is .fn from wo_is t.wo .fn] at h
    have e13 := (e1.trans e2).trans e3
    cases t with
    | fn x s u =>
      obtain ⟨k0, rfl⟩ : ∃ k0, ks = [k0] := List.length_eq_one_iff.mp hlen
      have hk0 := hks k0 (by simp)
      refine ds_ret e3.gh (dv_addT (ds := [s.py]) (es := k0.l) (dv_tup (dva_cons (dv_ix (dv_var rfl (e13.rp r1)) dv_int hrow rfl) dva_nil) (by simp)) (dv_ix (d := .tuple k0.l) (dv_var rfl (e13.rp r2)) dv_int hkr rfl) ?_) fun v G4 H4 e4 q => k v G4 H4 (e13.trans e4) q
      rw [Ty.len]
      have := hk0.2
      simp
      omega
    | _ => cases h
  rw [show PyData.eqv (.str t.wo.s) (.str "fun") = t.wo.is .fn from wo_is t.wo .fn] at h2
  refine ds_if e3.gh (dvt_test (dv_eq (dv_var rfl ((e2.trans e3).rp q)) dv_str rfl)) (fun h G4 H4 e4 => ?_) fun h3 G4 H4 e4 => ?_
  · rw [show PyData.eqv (.str t.wo.s) (.str "fix") = t.wo.is .fx from wo_is t.wo .fx] at h
    have e14 := ((e1.trans e2).trans e3).trans e4
    cases t with
    | fx x s u =>
      obtain ⟨k0, rfl⟩ : ∃ k0, ks = [k0] := List.length_eq_one_iff.mp hlen
      have hk0 := hks k0 (by simp)
      have hs := han s rfl
      refine ds_ret e4.gh (d := oTy (joinT env (.fx x s u) [k0])) (dv_if (dvt_test (dv_eq (d := k0.py) (d' := s.py) (dv_ix (dv_var rfl (e14.rp r2)) dv_int hkr rfl) (dv_ix (dv_var rfl (e14.rp r1)) dv_int hrow rfl) (Ty.eqOk hk0.1 hs.1))) (fun h => ?_) fun h => ?_) fun v G5 H5 e5 q => k v G5 H5 (e14.trans e5) q
      · rw [Ty.eqv, decide_eq_true_eq] at h
        refine Dv.is (dv_ix (d := k0.py) (dv_var rfl (e14.rp r2)) dv_int hkr rfl) ?_
        simp [joinT, h, oTy]
      · rw [Ty.eqv, decide_eq_false_iff_not] at h
        refine Dv.is dv_non ?_
        simp [joinT, h, oTy]
    | _ => cases h
  rw [show PyData.eqv (.str t.wo.s) (.str "fix") = t.wo.is .fx from wo_is t.wo .fx] at h3
  refine ds_if e4.gh (dvt_test (dv_eq (dv_var rfl (((e2.trans e3).trans e4).rp q)) dv_str rfl)) (fun h G5 H5 e5 => ?_) fun h4 G5 H5 e5 => ?_
  · rw [show PyData.eqv (.str t.wo.s) (.str "call") = t.wo.is .ap from wo_is t.wo .ap] at h
    have e15 := (((e1.trans e2).trans e3).trans e4).trans e5
    cases t with
    | ap u1 u2 =>
      obtain ⟨k0, k1, rfl⟩ : ∃ k0 k1, ks = [k0, k1] := by
        rcases ks with _ | ⟨k0, _ | ⟨k1, _ | ⟨k2, ks⟩⟩⟩ <;> first | exact ⟨_, _, rfl⟩ | (simp [Tm.parts] at hlen)
      have hk0 := hks k0 (by simp)
      have hk1 := hks k1 (by simp)
      refine ds_ret e5.gh (d := oTy (joinT env (.ap u1 u2) [k0, k1])) ?_ fun v G6 H6 e6 q => k v G6 H6 (e15.trans e6) q
      have vt : ∀ σ, Dv K (tTup tNil) σ G5 H5 Ty.nil.py := fun σ => dv_tup dva_nil (Nat.zero_le _)
      cases k0 with
      | nil =>
        refine dv_if (b := false) ?_ (fun h => by cases h) fun _ => dv_non
        refine DvT.is (dvt_and (c := false) (dvt_test (dv_ne (d := Ty.nil.py) (d' := Ty.nil.py) (dv_ix (dv_var rfl (e15.rp r2)) dv_int hkr rfl) (vt _) (Ty.eqOk (by simp [Ty.d]) (by simp [Ty.d])))) fun h => ?_) ?_
        · rw [Ty.eqv] at h
          simp at h
        · rw [Ty.eqv]
          simp
      | cons a r =>
        refine dv_if (b := decide (a = k1)) ?_ (fun h => ?_) fun h => ?_
        · refine DvT.is (dvt_and (dvt_test (dv_ne (d := (Ty.cons a r).py) (d' := Ty.nil.py) (dv_ix (dv_var rfl (e15.rp r2)) dv_int hkr rfl) (vt _) (Ty.eqOk hk0.1 (by simp [Ty.d])))) fun _ => dvt_test (dv_eq (d := a.py) (d' := k1.py) (dv_ix (dv_ix (d := (Ty.cons a r).py) (dv_var rfl (e15.rp r2)) dv_int hkr rfl) dv_int rfl at0) (dv_ix (dv_var rfl (e15.rp r2)) dv_int hkr rfl) (Ty.eqOk ?_ hk1.1))) ?_
          · have := hk0.1
            rw [Ty.d] at this
            omega
          · rw [Ty.eqv, Ty.eqv]
            simp
        · refine Dv.is (dv_sl (r := (Ty.cons a r).py) (dv_ix (dv_var rfl (e15.rp r2)) dv_int hkr rfl) rfl (dvo_some (K := K) dv_int) dvo_none) ?_
          rw [decide_eq_true_eq] at h
          have z : joinT env (.ap u1 u2) [.cons a r, k1] = some r := by simp [joinT, h]
          rw [z]
          show PyData.tuple (cutL (Ty.cons a r).l (some 1) none) = .tuple r.l
          congr 1
          show cutL (PyData.tuple a.l :: r.l) (some 1) none = r.l
          exact cutL_tl
        · rw [decide_eq_false_iff_not] at h
          refine Dv.is dv_non ?_
          have z : joinT env (.ap u1 u2) [.cons a r, k1] = none := by simp [joinT, h]
          rw [z]
          rfl
    | _ => cases h
  rw [show PyData.eqv (.str t.wo.s) (.str "call") = t.wo.is .ap from wo_is t.wo .ap] at h4
  have e15 := (((e1.trans e2).trans e3).trans e4).trans e5
  have hj : joinT env t ks = if allNil ks = true then some .nil else none := by
    cases t <;> first | rfl | exact Bool.noConfusion h1 | exact Bool.noConfusion h2 | exact Bool.noConfusion h3 | exact Bool.noConfusion h4
  unfold tNext
  dsimp only
  refine ds_ret e5.gh (d := oTy (joinT env t ks)) ?_ fun v G6 H6 e6 q => k v G6 H6 (e15.trans e6) q
  refine dv_if (b := allNil ks) (DvT.is (dvt_B (dv_all (bs := (ks.map Ty.py).map fun k => PyData.eqv k (.tuple [])) ?_)) ?_) (fun h => ?_) fun h => ?_
  · refine Dv.is (dv_lcA (f := fun d => .bool (PyData.eqv d (.tuple []))) (dvi_row (dv_var rfl (e15.rp r2)) hkr) (by rw [List.length_map]; exact hz) fun d hd x G6 H6 e6 q => ?_) (by rw [List.map_map, List.map_map, List.map_map]; rfl)
    obtain ⟨k0, hk0, rfl⟩ := List.mem_map.mp hd
    exact dv_eq (dv_var rfl q) (dv_tup dva_nil (by simp)) (Ty.eqOk (b := .nil) (hks k0 hk0).1 (by simp [Ty.d]))
  · rw [← allNil_eq, List.map_map]
    rfl
  · refine Dv.is (dv_tup dva_nil (by simp)) ?_
    rw [hj, if_pos h]
    rfl
  · refine Dv.is dv_non ?_
    rw [hj, if_neg (by rw [h]; simp)]
    rfl
end
end K82

set_option Elab.async false
set_option linter.all false
set_option maxRecDepth 100000
set_option maxHeartbeats 4000000
/-! The type of a term, in plain terms. -/
namespace K82
open PySem L2 PyProof.Rows
mutual
def Tm.size : Tm → Nat
  | .name _ => 1
  | .fn _ _ t => t.size + 1
  | .ap t u => t.size + u.size + 1
  | .con _ => 1
  | .no => 1
  | .cs t l => t.size + Tm.sizes l + 1
  | .fx _ _ t => t.size + 1
  | .ei t u => t.size + u.size + 1
def Tm.sizes : List Tm → Nat
  | [] => 0
  | t :: l => t.size + Tm.sizes l
end
theorem size_parts (t : Tm) : t.size = Tm.sizes t.parts + 1 := by
  cases t <;> simp [Tm.size, Tm.parts, Tm.sizes]
mutual
def typ (env : List (Str × Ty)) : Tm → Option Ty
  | .name x => getS env x
  | .fn x s t => match typ (putS env x s) t with | some k => joinT env (.fn x s t) [k] | none => none
  | .fx x s t => match typ (putS env x s) t with | some k => joinT env (.fx x s t) [k] | none => none
  | .ap t u => match typ env t, typ env u with | some k, some k' => joinT env (.ap t u) [k, k'] | _, _ => none
  | .con _ => some .nil
  | .no => some .nil
  | .cs t l => match typ env t, typs env l with | some k, some ks => joinT env (.cs t l) (k :: ks) | _, _ => none
  | .ei t u => match typ env t, typ env u with | some k, some k' => joinT env (.ei t u) [k, k'] | _, _ => none
def typs (env : List (Str × Ty)) : List Tm → Option (List Ty)
  | [] => some []
  | t :: l => match typ env t, typs env l with | some k, some ks => some (k :: ks) | _, _ => none
end
/-- the names within -/
def inn (env : List (Str × Ty)) : Tm → List (Str × Ty)
  | .fn x s _ => putS env x s
  | .fx x s _ => putS env x s
  | _ => env
theorem typ_join (env : List (Str × Ty)) (t : Tm) : typ env t = match typs (inn env t) t.parts with | some ks => joinT env t ks | none => none := by
  cases t with
  | name x => rfl
  | fn x s t =>
    rw [typ]
    show _ = match typs (putS env x s) [t] with | some ks => joinT env _ ks | none => none
    cases h : typ (putS env x s) t <;> simp [typs, h]
  | fx x s t =>
    rw [typ]
    show _ = match typs (putS env x s) [t] with | some ks => joinT env _ ks | none => none
    cases h : typ (putS env x s) t <;> simp [typs, h]
  | ap t u =>
    rw [typ]
    show _ = match typs env [t, u] with | some ks => joinT env _ ks | none => none
    cases h : typ env t <;> cases h2 : typ env u <;> simp [typs, h, h2]
  | con c => rfl
  | no => rfl
  | cs t l =>
    rw [typ]
    show _ = match typs env (t :: l) with | some ks => joinT env _ ks | none => none
    cases h : typ env t <;> cases h2 : typs env l <;> simp [typs, h, h2]
  | ei t u =>
    rw [typ]
    show _ = match typs env [t, u] with | some ks => joinT env _ ks | none => none
    cases h : typ env t <;> cases h2 : typ env u <;> simp [typs, h, h2]
/-- step by step: all so far have a type -/
theorem typs_take {env : List (Str × Ty)} : ∀ {l : List Tm} {i : Nat} {t : Tm} {ks : List Ty}, l[i]? = some t → typs env (l.take i) = some ks → typs env (l.take (i + 1)) = (match typ env t with | some k => some (ks ++ [k]) | none => none)
  | [], i, t, ks, h, _ => by simp at h
  | u :: l, 0, t, ks, h, h2 => by
    simp at h
    subst h
    simp [typs] at h2
    subst h2
    cases h3 : typ env u <;> simp [typs, h3]
  | u :: l, i + 1, t, ks, h, h2 => by
    rw [List.take_succ_cons] at h2 ⊢
    rw [typs] at h2 ⊢
    cases h3 : typ env u with
    | none => rw [h3] at h2; cases h2
    | some k0 =>
      rw [h3] at h2
      cases h4 : typs env (l.take i) with
      | none => rw [h4] at h2; cases h2
      | some ks0 =>
        rw [h4] at h2
        simp at h2
        subst h2
        rw [typs_take (by simpa using h) h4]
        cases h5 : typ env t <;> simp
theorem typs_none {env : List (Str × Ty)} : ∀ {l : List Tm} {i : Nat}, typs env (l.take i) = none → typs env l = none
  | [], i, h => by simpa using h
  | u :: l, 0, h => by simp [typs] at h
  | u :: l, i + 1, h => by
    rw [List.take_succ_cons] at h
    rw [typs] at h ⊢
    cases h3 : typ env u with
    | none => rfl
    | some k0 =>
      rw [h3] at h
      cases h4 : typs env (l.take i) with
      | none =>
        rw [typs_none h4]
      | some ks0 => rw [h4] at h; cases h
theorem typs_len {env : List (Str × Ty)} : ∀ {l : List Tm} {ks : List Ty}, typs env l = some ks → ks.length = l.length
  | [], ks, h => by
    simp [typs] at h
    subst h
    rfl
  | u :: l, ks, h => by
    rw [typs] at h
    split at h
    · cases h
      rename_i h1 h2
      rw [List.length_cons, List.length_cons, typs_len h2]
    · cases h
/-! ### bounds -/
def EnvOk (n : Nat) (env : List (Str × Ty)) : Prop := env.length ≤ n ∧ ∀ p ∈ env, p.2.Ok 1000
theorem getS_mem {α : Type} {env : List (Str × α)} {x : Str} {a : α} (h : getS env x = some a) : ∃ p ∈ env, p.1 = x ∧ p.2 = a := by
  unfold getS at h
  obtain ⟨p, h1, h2⟩ := Option.map_eq_some_iff.mp h
  have h3 := List.find?_some h1
  exact ⟨p, List.mem_of_find?_eq_some h1, of_decide_eq_true h3, h2⟩
theorem EnvOk.put {n : Nat} {env : List (Str × Ty)} {x : Str} {s : Ty} (h : EnvOk n env) (hs : s.Ok 1000) : EnvOk (n + 1) (putS env x s) := by
  refine ⟨Nat.le_trans (putS_len env x s) (Nat.succ_le_succ h.1), fun p hp => ?_⟩
  unfold putS at hp
  split at hp
  · obtain ⟨q, hq, rfl⟩ := List.mem_map.mp hp
    by_cases e : q.1 = x
    · simp [e]; exact hs
    · simp [e]; exact h.2 q hq
  · rcases List.mem_append.mp hp with hp | hp
    · exact h.2 p hp
    · simp at hp
      subst hp
      exact hs
theorem Lt.d0 {n : Nat} {d : PyData} (g : Lt n d) : n ≠ 0 := by
  rintro rfl
  exact g
theorem Lt.parts {n : Nat} {t : Tm} (g : Lt n t.py) : ∃ m, n = m + 1 ∧ ∀ u ∈ t.parts, Lt m u.py := by
  obtain ⟨m, rfl, hz, hall⟩ := Lt.row' g t.row
  refine ⟨m, rfl, ?_⟩
  have hall' : ∀ d ∈ t.tl, Lt m d := fun d hd => hall d (List.mem_cons_of_mem _ hd)
  cases t with
  | name x => simp [Tm.parts]
  | con c => simp [Tm.parts]
  | no => simp [Tm.parts]
  | fn x s u => simpa [Tm.parts] using hall' u.py (by simp [Tm.tl])
  | fx x s u => simpa [Tm.parts] using hall' u.py (by simp [Tm.tl])
  | ap t u => simpa [Tm.parts] using ⟨hall' t.py (by simp [Tm.tl]), hall' u.py (by simp [Tm.tl])⟩
  | ei t u => simpa [Tm.parts] using ⟨hall' t.py (by simp [Tm.tl]), hall' u.py (by simp [Tm.tl])⟩
  | cs t l =>
    have h1 := hall' t.py (by simp [Tm.tl])
    have h2 := hall' (.tuple (Tm.pys l)) (by simp [Tm.tl])
    obtain ⟨m', rfl, _, h3⟩ := Lt.row' h2 rfl
    intro u hu
    rcases List.mem_cons.mp (show u ∈ t :: l from hu) with rfl | hu
    · exact h1
    · exact (h3 u.py (by rw [Tm.pys_map]; exact List.mem_map.mpr ⟨u, hu, rfl⟩)).mono (by omega)
theorem Lt.ty {n : Nat} {s : Ty} (g : Lt n s.py) (h : n ≤ 60) : s.d < 60 ∧ s.Ok 1000 := by
  have h1 := g.dp
  rw [Ty.dep] at h1
  have h2 := g.shr
  rw [Ty.py, K82.shr, Bool.and_eq_true, decide_eq_true_eq, Ty.len] at h2
  exact ⟨by omega, by omega, by omega⟩
theorem Lt.an {n : Nat} {t : Tm} {s : Ty} (g : Lt n t.py) (h : n ≤ 60) (hs : t.an = some s) : s.d < 60 ∧ s.Ok 1000 := by
  obtain ⟨m, rfl, hz, hall⟩ := Lt.row' g t.row
  cases t <;> simp [Tm.an] at hs <;> subst hs
  · exact Lt.ty (hall _ (by simp [Tm.tl])) (by omega)
  · exact Lt.ty (hall _ (by simp [Tm.tl])) (by omega)
theorem inn_ok {n m : Nat} {env : List (Str × Ty)} {t : Tm} (g : Lt m t.py) (hm : m ≤ 60) (h : EnvOk n env) : EnvOk (n + 1) (inn env t) := by
  cases t with
  | fn x s u => exact h.put (g.an hm rfl).2
  | fx x s u => exact h.put (g.an hm rfl).2
  | _ => exact ⟨Nat.le_succ_of_le h.1, h.2⟩
mutual
theorem typ_ok {env : List (Str × Ty)} : ∀ (t : Tm) (n e : Nat) (env : List (Str × Ty)) (k : Ty), Lt n t.py → n ≤ 60 → EnvOk e env → typ env t = some k → k.Ok (1000 + n)
  | t, 0, e, env, k, g, _, _, _ => g.elim
  | .name x, n + 1, e, env, k, g, hn, he, h => by
    rw [typ] at h
    obtain ⟨p, hp, _, rfl⟩ := getS_mem h
    exact (he.2 p hp).mono (by omega)
  | .con _, n + 1, e, env, k, g, hn, he, h => by
    rw [typ] at h
    cases h
    exact ⟨by simp [Ty.d], by simp [Ty.n]⟩
  | .no, n + 1, e, env, k, g, hn, he, h => by
    rw [typ] at h
    cases h
    exact ⟨by simp [Ty.d], by simp [Ty.n]⟩
  | .fn x s t, n + 1, e, env, k, g, hn, he, h => by
    obtain ⟨m, hm, hp⟩ := g.parts
    cases hm
    have ga := g.an hn (t := .fn x s t) rfl
    rw [typ] at h
    split at h
    · rename_i k' hk
      cases h
      have ih := typ_ok (env := env) t n (e + 1) _ k' (hp t (by simp [Tm.parts])) (by omega) (he.put ga.2) hk
      exact Ty.Ok.cons ga.1 ih
    · cases h
  | .fx x s t, n + 1, e, env, k, g, hn, he, h => by
    obtain ⟨m, hm, hp⟩ := g.parts
    cases hm
    have ga := g.an hn (t := .fx x s t) rfl
    rw [typ] at h
    split at h
    · rename_i k' hk
      rw [show joinT env (.fx x s t) [k'] = if k' = s then some k' else none from rfl] at h
      split at h
      · cases h
        rename_i q
        rw [q]
        exact ga.2.mono (by omega)
      · cases h
    · cases h
  | .ap t u, n + 1, e, env, k, g, hn, he, h => by
    obtain ⟨m, hm, hp⟩ := g.parts
    cases hm
    rw [typ] at h
    split at h
    · rename_i k1 k2 h1 h2
      have ih := typ_ok (env := env) t n e env k1 (hp t (by simp [Tm.parts])) (by omega) he h1
      cases k1 with
      | nil => cases h
      | cons a r =>
        rw [show joinT env (.ap t u) [.cons a r, k2] = if a = k2 then some r else none from rfl] at h
        split at h
        · cases h
          exact ih.tl.mono (by omega)
        · cases h
    · cases h
  | .cs t l, n + 1, e, env, k, g, hn, he, h => by
    rw [typ] at h
    split at h
    · rename_i k1 ks h1 h2
      rw [show joinT env (.cs t l) (k1 :: ks) = if allNil (k1 :: ks) = true then some .nil else none from rfl] at h
      split at h
      · cases h
        exact ⟨by simp [Ty.d], by simp [Ty.n]⟩
      · cases h
    · cases h
  | .ei t u, n + 1, e, env, k, g, hn, he, h => by
    rw [typ] at h
    split at h
    · rename_i k1 k2 h1 h2
      rw [show joinT env (.ei t u) [k1, k2] = if allNil [k1, k2] = true then some .nil else none from rfl] at h
      split at h
      · cases h
        exact ⟨by simp [Ty.d], by simp [Ty.n]⟩
      · cases h
    · cases h
end
theorem parts_len {n : Nat} {t : Tm} (g : Lt n t.py) : t.parts.length ≤ 1000 := by
  have h := g.shr
  cases t with
  | cs t l =>
    simp [Tm.py, shr, shrs] at h
    have := h.2.2.1
    rw [pys_len] at this
    show (t :: l).length ≤ 1000
    rw [List.length_cons]
    omega
  | _ => simp [Tm.parts]
theorem typs_ok {n e : Nat} {env : List (Str × Ty)} (hn : n ≤ 60) (he : EnvOk e env) : ∀ {l : List Tm} {ks : List Ty}, (∀ u ∈ l, Lt n u.py) → typs env l = some ks → ∀ k ∈ ks, k.Ok (1000 + n)
  | [], ks, _, h => by
    simp [typs] at h
    subst h
    simp
  | u :: l, ks, hl, h => by
    rw [typs] at h
    split at h
    · cases h
      rename_i h1 h2
      intro k hk
      rcases List.mem_cons.mp hk with rfl | hk
      · exact typ_ok (env := env) u n e env _ (hl u (by simp)) hn he h1
      · exact typs_ok hn he (fun u hu => hl u (by simp [hu])) h2 k hk
    · cases h
theorem sizes_take : ∀ {l : List Tm} {i : Nat} {t : Tm}, l[i]? = some t → Tm.sizes (l.take (i + 1)) = Tm.sizes (l.take i) + t.size
  | [], i, t, h => by simp at h
  | u :: l, 0, t, h => by
    simp at h
    subst h
    simp [Tm.sizes]
  | u :: l, i + 1, t, h => by
    rw [List.take_succ_cons, List.take_succ_cons, Tm.sizes, Tm.sizes, sizes_take (by simpa using h)]
    omega
theorem sizes_take_le : ∀ (l : List Tm) (i : Nat), Tm.sizes (l.take i) ≤ Tm.sizes l
  | [], i => by simp
  | u :: l, 0 => by simp [Tm.sizes]
  | u :: l, i + 1 => by
    rw [List.take_succ_cons, Tm.sizes, Tm.sizes]
    have := sizes_take_le l i
    omega
end K82

set_option Elab.async false
set_option linter.all false
set_option maxRecDepth 100000
set_option maxHeartbeats 4000000
/-! type_within, own_type. -/
namespace K82
open PySem L2 PyProof.Rows
theorem putK_len {κ : Type} [DecidableEq κ] (kvs : List (κ × V)) (k : κ) (v : V) : (putK kvs k v).length ≤ kvs.length + 1 := by
  unfold putK
  split <;> simp
/-- the dict at fa, by tuples: room for m more -/
def DF (fa : Addr) : Wd where
  M := Nat
  W := fun b => b = fa
  J := fun m G H => G fa = none ∧ ∃ kvs, H fa = some (.dT kvs) ∧ kvs.length + m < 100000
  mono := fun {m G H G' H'} j g w f => ⟨f fa rfl j.1 (by obtain ⟨_, kvs, h, _⟩ := j; rw [h]; simp), by
    obtain ⟨_, kvs, h, hl⟩ := j
    exact ⟨kvs, w fa _ rfl h, hl⟩⟩
  alive := fun {m G H} j b e => by
    obtain ⟨_, kvs, h, _⟩ := j
    cases e
    rw [h]
    simp
  free := fun {m G H} j b e => by
    cases e
    exact j.1
section
variable {P : Program} {w : World} {K : PySem.W.Frag} {mg : Str → Option Value} {base : Heap}
theorem ds_asg {K : PySem.W.Frag} {σ : L2.St} {G H : Hp} {te : TE} {d : PyData} {D : Ends} {g : TG} (e : Same G H) (h : Dv K te σ G H d) (k : ∀ v G1 H1, Ext G H G1 H1 → Rp K G1 v d → g v σ H1 D.nx) : tAsg te g D σ H := h G H (Up.refl e) _ k
theorem path_add {σ : L2.St} {G H : Hp} {pb : Addr} {ks : List Key} {z : Int} {i j : Nat} {Q : VK} (e : Same G H) (hp : G pb = some (.tup (ks.map kV))) (hl : ks.length < 1000) (h2 : σ[i]? = some (some (.ref pb))) (h6 : σ[j]? = some (some (.int z)))
    (k : ∀ pb' G' H', Ext G H G' H' → G' pb' = some (.tup ((ks ++ [(Sum.inl z : Key)]).map kV)) → Q (.ref pb') H') : tOp (rAddX K) (tVar i) (tTup (tCons (tVar j) tNil)) σ H Q := by
  refine ⟨.ref pb, h2, .int z, h6, by show 1 ≤ sizeLine; decide, fun p1 hp1 => ?_⟩
  have e1 := (Ext.refl e).alloc hp1 (.tup [.int z])
  have hpb : upd H p1 (.tup [.int z]) pb = some (.tup (ks.map kV)) := same_upd hp1 _ _ _ (e _ _ hp)
  refine .inr (.inr (.inl ⟨pb, p1, _, _, rfl, rfl, .inl (.inl hpb), .inl (.inl upd_same), ?_, fun q => ?_, fun q q2 => ?_, fun q q2 p2 hp2 => ?_⟩))
  · rw [List.length_map]
    exact sz (by show ks.length + 1 ≤ 100000; omega)
  · have hk : ks = [] := by simpa using q
    subst hk
    exact k p1 _ _ e1 upd_same
  · exact absurd q2 (by simp)
  · refine k p2 _ _ (e1.alloc hp2 (.tup (ks.map kV ++ [.int z]))) ?_
    rw [upd_same, List.map_append]
    rfl
abbrev spTW (K : PySem.W.Frag) (n : Nat) : Sp := fun vs H Q _ => ∃ (G : Hp) (fa : Addr) (env : List (Str × Ty)) (t : Tm) (ks : List Key) (pb : Addr) (vn vt : V) (m : Nat), vs = [vn, vt, .ref pb, .ref fa] ∧ Same G H ∧ (DF fa).J m G H ∧ Rp K G vn (envG Ty.py env) ∧ Rp K G vt (Tm.py t) ∧ Lt n t.py ∧ EnvOk (1000 - n) env ∧ t.size ≤ m ∧ ks.length + n ≤ 1000 ∧ G pb = some (.tup (List.map kV ks)) ∧
  ∀ v G' H' (m' : Nat), ExtW (DF fa).W G H G' H' → (DF fa).J m' G' H' → m ≤ m' + t.size → Rp K G' v (oTy (typ env t)) → Q v H'
theorem ok_type_within (T : Txt K mg) : ∀ n, n ≤ 60 → FnOk P w K mg base CX0 (n + 2) T.type_within.f T.type_within.fd ["names", "term", "path", "found"] (spTW K n)
  | 0, _ => fn_no (by
    rintro vs H Q E ⟨G, fa, env, t, ks, pb, vn, vt, m, _, _, _, _, _, h, _⟩
    exact h)
  | n + 1, hn => by
    have g_type_within : FnOk P w K mg base CX0 (n + 2) _ _ _ _ := ok_type_within T n (by omega)
    have g_own_parts : FnOk P w K mg base CX0 1 _ _ _ _ := ok_own_parts T
    have g_joined_type : FnOk P w K mg base CX0 1 _ _ _ _ := ok_joined_type T
    refine T.type_within.F.ok sc_type_within (fun vs H Q E z => by obtain ⟨G, fa, env, t, ks, pb, vn, vt, m, rfl, _⟩ := z; rfl) (fun cdv Ar outer s H vs Q E hr z => ?_)
    obtain ⟨G, fa, env, t, ks, pb, vn, vt, m, rfl, e, j, rn, rt, hg, henv, hm, hks, hp, k⟩ := z
    refine ⟨_, (pss_cons (ps_set (i := 4) sc_type_within.nd rfl (Or.inl rfl) (pe_ifExp (pt_cmpR (op_inL (hu65 hr)) (pe_ix ix_seq (pv 1) pe_int (fun _ _ => rfl)) (pe_glob rfl T.m_BINDS T.r_BINDS) rfl) (pe_starD (pv 0) (pe_ix ix_seq (pv 1) pe_int (fun _ _ => rfl)) (pe_ix ix_seq (pv 1) pe_int (fun _ _ => rfl))) (pv 0)))
      (pss_cons (ps_set (i := 5) sc_type_within.nd rfl (Or.inl rfl) (pe_lst pa_nil))
      (pss_cons (ps_for PassesOwn.never rfl (pi_enum (by rfl) T.z_enumerate (pa_cons (pe_call g_own_parts (hr.mono (by omega)) rfl T.own_parts.m T.own_parts.F.kp T.own_parts.b .nil pass0 (pa_cons (pv 1) pa_nil)) pa_nil)) (pg_tup rfl (pgs_cons (pg_name (i := 6) sc_type_within.nd rfl (Or.inl rfl)) (pgs_cons (pg_name (i := 7) sc_type_within.nd rfl (Or.inl rfl)) pgs_nil))) (pss_cons (ps_expr (pe_bm PySem.F.plainAttrs_list PySem.F.slot_list_append PySem.F.type_list_append mt_append (pv 5) (pa_cons (pe_call g_type_within (hr.mono (by omega)) rfl T.type_within.m T.type_within.F.kp T.type_within.b .nil pass0 (pa_cons (pv 4) (pa_cons (pv 7) (pa_cons (pe_op op_addX (pv 2) (pe_tup (pa_cons (pv 6) pa_nil))) (pa_cons (pv 3) pa_nil))))) pa_nil)))
      (pss_one (ps_if (pt_cmpR op_isNX (pe_ix ix_seq (pv 5) (pe_un un_neg pe_int) (fun _ _ => rfl)) pe_non (nomark _)) (pss_one (ps_ret pe_non)) pss_nil))))
      (pss_cons (ps_set (i := 8) sc_type_within.nd rfl (Or.inl rfl) (pe_call g_joined_type (hr.mono (by omega)) rfl T.joined_type.m T.joined_type.F.kp T.joined_type.b .nil pass0 (pa_cons (pv 1) (pa_cons (pv 5) (pa_cons (pv 0) pa_nil)))))
      (pss_cons (ps_asg (pe_tup (pa_cons (pv 8) (pa_cons (pv 0) pa_nil))) (pg_sub (pv 3) (pv 2) (set_dict (hu1 hr))))
      (pss_one (ps_ret (pv 8)))))))), ?_⟩
    have hrow := t.row
    have hi : EnvOk (1000 - n) (inn env t) := by
      have := inn_ok hg hn henv
      rwa [show 1000 - (n + 1) + 1 = 1000 - n by omega] at this
    obtain ⟨n', hn', hparts⟩ := hg.parts
    cases hn'
    refine ds_seq ?_
    refine ds_set (K := K) (d := envG Ty.py (inn env t)) e (dv_if (dvt_test (dv_inT (xs := ["fun", "fix"]) (dv_ix (d := .str t.wo.s) (dv_var rfl rt) dv_int hrow at0) (dv_c T.p_BINDS) rfl)) (fun h => ?_) fun h => ?_) fun vi G1 H1 e1 qi => ?_
    · rw [wo_bind] at h
      cases t with
      | fn x s u => exact dv_starD (f := Ty.py) (by have := henv.1; omega) (dv_var rfl rn) (dv_ix (d := .str x) (dv_var rfl rt) dv_int hrow rfl) (dv_ix (d := s.py) (dv_var rfl rt) dv_int hrow rfl)
      | fx x s u => exact dv_starD (f := Ty.py) (by have := henv.1; omega) (dv_var rfl rn) (dv_ix (d := .str x) (dv_var rfl rt) dv_int hrow rfl) (dv_ix (d := s.py) (dv_var rfl rt) dv_int hrow rfl)
      | _ => cases h
    · rw [wo_bind] at h
      refine Dv.is (dv_var rfl rn) ?_
      cases t <;> first | rfl | cases h
    refine ds_seq ?_
    refine ds_new fun kp hkp => ?_
    have j1 := Wd.ext j e1
    have gkp : G1 kp = none := Same.none e1.gh hkp
    have e2 : ExtW (DF fa).W G H G1 (upd H1 kp (.lst [])) := e1.w.set (e1.fresh hkp) gkp _
    have hfk : fa ≠ kp := by
      obtain ⟨_, kvs, h, _⟩ := j1
      intro z
      rw [z, hkp] at h
      cases h
    have j2 : (DF fa).J m G1 (upd H1 kp (.lst [])) := by
      obtain ⟨h0, kvs, h, hl⟩ := j1
      exact ⟨h0, kvs, by rw [upd_ne hfk]; exact h, hl⟩
    refine ds_seq ?_
    refine ds_for e2.gh (dvi_enum (xs := Tm.pys t.parts) (dv_callT (f := fun t => .list (Tm.pys t.parts)) (t := t) (dv_var rfl (e2.rp rt)) hg.shr)) fun G3 H3 e3 => ?_
    have e23 := e2.trans e3.w
    have hk3 : H3 kp = some (.lst []) := e3.hh _ _ upd_same
    have gk3 : G3 kp = none := e3.loose gkp (by rw [upd_same]; simp)
    refine ⟨fun i σ Gc Hc => ∃ (a b : Option V) (xs : List V) (tys : List Ty) (m' : Nat), σ = [some vn, some vt, some (.ref pb), some (.ref fa), some vi, some (.ref kp), a, b, none] ∧ Up G3 Gc Hc ∧ ExtW (DF fa).W G H Gc Hc ∧ (DF fa).J m' Gc Hc ∧ Gc kp = none ∧ Hc kp = some (.lst xs) ∧ RpAll K Gc xs (tys.map Ty.py) ∧ typs (inn env t) (t.parts.take i) = some tys ∧ m ≤ m' + Tm.sizes (t.parts.take i), ?_, ?_, ?_, ?_⟩
    · rintro i σ1 Gc Hc ⟨a, b, xs, tys, m', _, u, _⟩
      exact ⟨u.gg, u.gh⟩
    · exact ⟨none, none, [], [], m, rfl, Up.refl e3.gh, e23, Wd.ext j2 e3, gk3, hk3, .nil, rfl, by simp [Tm.sizes]⟩
    · rintro i d σ1 Gc Hc hd ⟨a, b, xs, tys, m', rfl, u3, ec, jc, gkc, hkc, rc, htys, hmm⟩ x G4 H4 e4 q
      obtain ⟨dp, hdp, rfl⟩ := enums_get hd
      rw [Tm.pys_map, List.getElem?_map] at hdp
      obtain ⟨u, hu, rfl⟩ := Option.map_eq_some_iff.mp hdp
      rw [Nat.zero_add] at q
      have hmu : u ∈ t.parts := List.mem_of_getElem? hu
      cases q with
      | tup h1 h2 =>
      cases h2 with
      | cons r1 h2 =>
      cases h2 with
      | cons r2 h2 =>
      cases h2
      cases r1
      refine ⟨_, _, rfl, Same.sqt e4.gh h1, rfl, _, _, rfl, _, _, rfl, rfl, ?_⟩
      dsimp only
      have j4 := Wd.ext jc e4
      have e04 := ec.trans e4.w
      have hk4 : H4 kp = some (.lst xs) := e4.hh _ _ hkc
      have gk4 : G4 kp = none := e4.loose gkc (by rw [hkc]; simp)
      refine ⟨.ref kp, rfl, .inl ⟨rfl, xs, SqL.of hk4⟩, vi, rfl, _, rfl, path_add e4.gh (e04.gg _ _ hp) (by omega) rfl rfl fun pb' G5 H5 e5 hp5 => ⟨.ref fa, rfl, ?_⟩⟩
      have e05 := e04.trans e5.w
      have u45 : Up G3 G5 H5 := (u3.trans e4).trans e5
      have hsz : u.size ≤ m' := by
        have q1 := size_parts t
        have q2 := sizes_take hu
        have q3 := sizes_take_le t.parts (i + 1)
        omega
      refine ⟨G5, fa, inn env t, u, ks ++ [(Sum.inl (i : Int) : Key)], pb', vi, _, m', rfl, e5.gh, Wd.ext j4 e5, (e3.up.up u45).rp qi, e5.rp r2, hparts u hmu, hi, hsz, by simp; omega, hp5, fun v G6 H6 m6 e6 j6 hm6 rv => ?_⟩
      have nw : ¬ (DF fa).W kp := fun z => hfk z.symm
      have hk5 : H5 kp = some (.lst xs) := e5.hh _ _ hk4
      have gk5 : G5 kp = none := e5.loose gk4 (by rw [hk4]; simp)
      have hk6 : H6 kp = some (.lst xs) := e6.hh _ _ nw hk5
      have gk6 : G6 kp = none := e6.loose gk5 (by rw [hk5]; simp)
      have hlx : xs.length ≤ i := by
        have := typs_len htys
        rw [rc.length, List.length_map, this, List.length_take]
        omega
      have hpl := parts_len hg
      have hil : i < t.parts.length := (List.getElem?_eq_some_iff.mp hu).1
      refine ⟨kp, xs, v, rfl, rfl, hk6, szl (by omega), ?_⟩
      dsimp only
      have e07 : ExtW (DF fa).W G H G6 (upd H6 kp (.lst (xs ++ [v]))) := (e05.trans e6).set (e1.fresh hkp) gk6 _
      have j7 : (DF fa).J m6 G6 (upd H6 kp (.lst (xs ++ [v]))) := by
        obtain ⟨h0, kvs, h, hl⟩ := j6
        exact ⟨h0, kvs, by rw [upd_ne hfk]; exact h, hl⟩
      have hst := sizes_take hu
      have hsz1 := size_parts t
      have hsz2 := sizes_take_le t.parts (i + 1)
      have htk := typs_take hu htys
      refine ⟨.ref kp, rfl, 1, rfl, .inl ⟨kp, _, -1, v, rfl, rfl, SqL.of upd_same, atN1, rfl, _, rfl, ?_⟩⟩
      rw [rv.isN, isN_oTy]
      cases hty : typ (inn env t) u with
      | none =>
        rw [hty] at htk
        refine iteT ?_
        refine k .non G6 _ m6 e07 j7 (by omega) ?_
        rw [typ_join, typs_none htk]
        exact .non
      | some kd =>
        rw [hty] at htk rv
        refine iteF ?_
        refine ⟨G6, _, _, _, tys ++ [kd], m6, rfl, ⟨u45.gg.trans e6.gg, e07.gh⟩, e07, j7, gk6, upd_same, ?_, htk, by omega⟩
        rw [List.map_append]
        exact RpAll.app (RpAll.mono (((e4.gg).trans e5.gg).trans e6.gg) _ _ rc) (.cons rv .nil)
    · rintro σ1 Gc Hc ⟨a, b, xs, tys, m', rfl, u3, ec, jc, gkc, hkc, rc, htys, hmm⟩
      rw [enums_length, pys_len, List.take_length] at htys hmm
      dsimp only
      have es : ExtW (DF fa).W G H (upd Gc kp (.lst xs)) Hc := ec.still (e1.fresh hkp) gkc hkc
      have js : (DF fa).J m' (upd Gc kp (.lst xs)) Hc := by
        obtain ⟨h0, kvs, h, hl⟩ := jc
        exact ⟨by rw [upd_ne hfk]; exact h0, kvs, h, hl⟩
      have rks : Rp K (upd Gc kp (.lst xs)) (.ref kp) (.list (tys.map Ty.py)) := .lst upd_same (RpAll.mono (same_upd gkc _) _ _ rc)
      have hsz1 := size_parts t
      refine ds_seq ?_
      refine ds_set (K := K) (d := oTy (joinT env t tys)) es.gh (dv_call (dva_cons (dv_var rfl (es.rp rt)) (dva_cons (dv_var rfl rks) (dva_cons (dv_var rfl (es.rp rn)) dva_nil))) rfl ⟨t, tys, env, rfl, typs_len htys, ?_, ?_, fun s hs => (hg.an hn hs).2.mono (by omega), rfl⟩) fun vk G5 H5 e5 qk => ?_
      · have := parts_len hg
        have := typs_len htys
        omega
      · exact fun k0 hk0 => (typs_ok (by omega) hi hparts htys k0 hk0).mono (by omega)
      have e05 := es.trans e5.w
      have j5 := Wd.ext js e5
      refine ds_seq ?_
      refine ds_asg (K := K) e5.gh (dv_tup (dva_cons (dv_var rfl qk) (dva_cons (dv_var rfl (e05.rp rn)) dva_nil)) (by simp)) fun v G6 H6 e6 q6 => ?_
      have j6 := Wd.ext j5 e6
      have e06 := e05.trans e6.w
      obtain ⟨gf6, kvs, hf6, hl6⟩ := j6
      refine ⟨.ref fa, rfl, .ref pb, rfl, fa, _, rfl, DPut.t hf6 (e06.gh _ _ (e06.gg _ _ hp)) (szl (by omega)), ?_⟩
      dsimp only
      have e07 : ExtW (DF fa).W G H G6 (upd H6 fa (.dT (putK kvs ks v))) := e06.put rfl gf6 _
      refine ⟨vk, rfl, k vk G6 _ (m' - 1) e07 ⟨gf6, _, upd_same, ?_⟩ (by omega) ?_⟩
      · have := putK_len kvs ks v
        omega
      · rw [typ_join, htys]
        exact e6.rp qk
/-- own_type -/
abbrev spOT (K : PySem.W.Frag) (n : Nat) : Sp := spD K 2 fun ds d => ∃ env t, ds = [envG Ty.py env, Tm.py t] ∧ Lt n t.py ∧ n ≤ 60 ∧ EnvOk (1000 - n) env ∧ t.size < 90000 ∧ d = oTy (typ env t)
theorem ok_own_type (T : Txt K mg) (n : Nat) (hn : n ≤ 60) : FnOk P w K mg base CX0 (n + 3) T.own_type.f T.own_type.fd ["names", "term"] (spOT K n) := by
  have g_type_within : FnOk P w K mg base CX0 (n + 2) _ _ _ _ := ok_type_within T n hn
  refine T.own_type.F.ok sc_own_type (fun vs H Q E z => z.1) (fun cdv Ar outer s H vs Q E hr z => ?_)
  obtain ⟨hl, G, ds, d, e, r, ⟨env, t, rfl, hg, _, henv, hsz, rfl⟩, k⟩ := z
  cases r with
  | cons r1 r =>
  cases r with
  | cons r2 r =>
  cases r
  refine ⟨_, (pss_one (ps_ret (pe_call g_type_within (hr.mono (by omega)) rfl T.type_within.m T.type_within.F.kp T.type_within.b .nil pass0 (pa_cons (pv 0) (pa_cons (pv 1) (pa_cons (pe_tup pa_nil) (pa_cons pe_dnewT pa_nil))))))), ?_⟩
  refine ⟨_, rfl, _, rfl, Nat.zero_le _, fun p hp fa hfa => ?_⟩
  have e1 := (Ext.refl e).alloc hp (.tup [])
  have e2 := e1.allocM hfa (.dT [])
  have gfa : upd G p (.tup []) fa = none := Same.none e1.gh hfa
  refine ⟨upd G p (.tup []), fa, env, t, [], p, _, _, 99999, rfl, e2.gh, ⟨gfa, [], upd_same, by simp⟩, e1.rp r1, e1.rp r2, hg, henv, by omega, by simp; omega, upd_same, fun v G' H' m' e' j' hm' rv => ?_⟩
  refine k v G' H' ?_ rv
  refine ⟨fun b u q => e'.hh b u (fun z => ?_) (e2.hh b u q), e1.gg.trans e'.gg, e'.gh, fun b q => ?_⟩
  · cases (show b = fa from z)
    rw [e1.fresh hfa] at q
    cases q
  · rcases e'.new b q with z | z
    · exact e1.new b z
    · exact .inr (e2.fresh z)
end
end K82

set_option Elab.async false
set_option linter.all false
set_option maxRecDepth 100000
set_option maxHeartbeats 4000000
/-! The code of a term, in plain terms; a list that grows. -/
namespace K82
open PySem L2 PyProof.Rows
/-- the first place of a name -/
def idx : List Str → Str → Nat
  | [], _ => 0
  | y :: r, x => if y = x then 0 else idx r x + 1
def innB (b : List Str) : Tm → List Str
  | .fn x _ _ => x :: b
  | .fx x _ _ => x :: b
  | _ => b
/-- where the parts begin -/
def starts : Nat → List Tm → List PyData
  | _, [] => []
  | n, t :: l => .int n :: starts (n + t.size) l
def ins (b : List Str) (n : Nat) : Tm → PyData
  | .name x => .tuple [.str "look", .int (idx b x)]
  | .fn x s _ => .tuple [.str "take", .str x, s.py, .int (n + 1 : Nat)]
  | .ap t _ => .tuple [.str "call", .int (n + 1 : Nat), .int (n + 1 + t.size : Nat)]
  | .con c => .tuple [.str "constant", .int c]
  | .no => .tuple [.str "nothing"]
  | .cs t l => .tuple [.str "case", .int (n + 1 : Nat), .tuple (starts (n + 1 + t.size) l)]
  | .fx x s _ => .tuple [.str "loop", .str x, s.py, .int (n + 1 : Nat)]
  | .ei t _ => .tuple [.str "either", .int (n + 1 : Nat), .int (n + 1 + t.size : Nat)]
mutual
def put (b : List Str) (n : Nat) : Tm → List PyData
  | .name x => [ins b n (.name x)]
  | .fn x s t => ins b n (.fn x s t) :: put (x :: b) (n + 1) t
  | .ap t u => ins b n (.ap t u) :: (put b (n + 1) t ++ put b (n + 1 + t.size) u)
  | .con c => [ins b n (.con c)]
  | .no => [ins b n .no]
  | .cs t l => ins b n (.cs t l) :: (put b (n + 1) t ++ puts b (n + 1 + t.size) l)
  | .fx x s t => ins b n (.fx x s t) :: put (x :: b) (n + 1) t
  | .ei t u => ins b n (.ei t u) :: (put b (n + 1) t ++ put b (n + 1 + t.size) u)
def puts (b : List Str) (n : Nat) : List Tm → List PyData
  | [] => []
  | t :: l => put b n t ++ puts b (n + t.size) l
end
theorem put_parts (b : List Str) (n : Nat) (t : Tm) : put b n t = ins b n t :: puts (innB b t) (n + 1) t.parts := by
  cases t <;> simp [put, puts, innB, Tm.parts]
mutual
theorem put_len : ∀ (b : List Str) (n : Nat) (t : Tm), (put b n t).length = t.size
  | b, n, .name x => rfl
  | b, n, .fn x s t => by rw [put, List.length_cons, put_len (x :: b) (n + 1) t, Tm.size]
  | b, n, .ap t u => by rw [put, List.length_cons, List.length_append, put_len b (n + 1) t, put_len b _ u, Tm.size]
  | b, n, .con c => rfl
  | b, n, .no => rfl
  | b, n, .cs t l => by rw [put, List.length_cons, List.length_append, put_len b (n + 1) t, puts_len b _ l, Tm.size]
  | b, n, .fx x s t => by rw [put, List.length_cons, put_len (x :: b) (n + 1) t, Tm.size]
  | b, n, .ei t u => by rw [put, List.length_cons, List.length_append, put_len b (n + 1) t, put_len b _ u, Tm.size]
theorem puts_len : ∀ (b : List Str) (n : Nat) (l : List Tm), (puts b n l).length = Tm.sizes l
  | b, n, [] => rfl
  | b, n, t :: l => by rw [puts, List.length_append, put_len b n t, puts_len b _ l, Tm.sizes]
end
theorem puts_take {b : List Str} : ∀ {l : List Tm} {i n : Nat} {t : Tm}, l[i]? = some t → puts b n (l.take (i + 1)) = puts b n (l.take i) ++ put b (n + Tm.sizes (l.take i)) t
  | [], i, n, t, h => by simp at h
  | u :: l, 0, n, t, h => by
    simp at h
    subst h
    simp [puts, Tm.sizes]
  | u :: l, i + 1, n, t, h => by
    rw [List.take_succ_cons, List.take_succ_cons, puts, puts, puts_take (by simpa using h), Tm.sizes, List.append_assoc, Nat.add_assoc]
theorem starts_take : ∀ {l : List Tm} {i n : Nat} {t : Tm}, l[i]? = some t → starts n (l.take (i + 1)) = starts n (l.take i) ++ [.int ((n + Tm.sizes (l.take i) : Nat) : Int)]
  | [], i, n, t, h => by simp at h
  | u :: l, 0, n, t, h => by
    simp at h
    subst h
    simp [starts, Tm.sizes]
  | u :: l, i + 1, n, t, h => by
    rw [List.take_succ_cons, List.take_succ_cons, starts, starts, starts_take (by simpa using h), Tm.sizes, Nat.add_assoc]
    rfl
theorem starts_len : ∀ (n : Nat) (l : List Tm), (starts n l).length = l.length
  | _, [] => rfl
  | n, t :: l => by rw [starts, List.length_cons, List.length_cons, starts_len]
mutual
/-- all free names are among some -/
def bnd (b : List Str) : Tm → Bool
  | .name x => decide (x ∈ b)
  | .fn x _ t => bnd (x :: b) t
  | .ap t u => bnd b t && bnd b u
  | .con _ => true
  | .no => true
  | .cs t l => bnd b t && bnds b l
  | .fx x _ t => bnd (x :: b) t
  | .ei t u => bnd b t && bnd b u
def bnds (b : List Str) : List Tm → Bool
  | [] => true
  | t :: l => bnd b t && bnds b l
end
theorem bnds_iff {b : List Str} : ∀ {l : List Tm}, bnds b l = true ↔ ∀ t ∈ l, bnd b t = true
  | [] => by simp [bnds]
  | t :: l => by rw [bnds, Bool.and_eq_true, bnds_iff (l := l)]; simp
theorem bnd_parts {b : List Str} {t : Tm} (h : bnd b t = true) : ∀ u ∈ t.parts, bnd (innB b t) u = true := by
  cases t <;> simp [bnd, Tm.parts, innB, bnds_iff] at h ⊢ <;> first | exact h | exact ⟨h.1, h.2⟩
theorem idx_at : ∀ {b : List Str} {x : Str}, x ∈ b → b[idx b x]? = some x ∧ ∀ m y, m < idx b x → b[m]? = some y → y ≠ x
  | [], x, h => by simp at h
  | y :: r, x, h => by
    by_cases e : y = x
    · subst e
      simp [idx]
    · have hx : x ∈ r := by
        rcases List.mem_cons.mp h with z | z
        · exact absurd z.symm e
        · exact z
      obtain ⟨h1, h2⟩ := idx_at hx
      rw [idx, if_neg e]
      refine ⟨by simpa using h1, fun m z hm hz => ?_⟩
      cases m with
      | zero =>
        simp at hz
        subst hz
        exact e
      | succ m => exact h2 m z (by omega) (by simpa using hz)
section
variable {K : PySem.W.Frag}
/-- the list at ca: what stands in it -/
def DC (K : PySem.W.Frag) (ca : Addr) : Wd where
  M := List PyData
  W := fun b => b = ca
  J := fun m G H => G ca = none ∧ ∃ vs, H ca = some (.lst vs) ∧ RpAll K G vs m
  mono := fun {m G H G' H'} j g w f => ⟨f ca rfl j.1 (by obtain ⟨_, vs, h, _⟩ := j; rw [h]; simp), by
    obtain ⟨_, vs, h, hl⟩ := j
    exact ⟨vs, w ca _ rfl h, RpAll.mono g _ _ hl⟩⟩
  alive := fun {m G H} j b e => by
    obtain ⟨_, kvs, h, _⟩ := j
    cases e
    rw [h]
    simp
  free := fun {m G H} j b e => by
    cases e
    exact j.1
variable {σ : L2.St} {G H : Hp} {te : TE} {d : PyData} {E : Ends} {i : Nat} {D : Wd} {m : D.M}
theorem ms_set {R : PyData → D.M → Prop} (e : Same G H) (j : D.J m G H) (h : Mv K D te σ G m R) (k : ∀ v d m' G1 H1, ExtW D.W G H G1 H1 → D.J m' G1 H1 → Rp K G1 v d → R d m' → E.nx (σ.set i (some v)) H1) : tAsg te (gName i) E σ H := h G H (Up.refl e) j _ k
theorem ms_ret {R : PyData → D.M → Prop} (e : Same G H) (j : D.J m G H) (h : Mv K D te σ G m R) (k : ∀ v d m' G1 H1, ExtW D.W G H G1 H1 → D.J m' G1 H1 → Rp K G1 v d → R d m' → E.rt v H1) : tRet te E σ H := h G H (Up.refl e) j _ k
theorem ms_drop {R : PyData → D.M → Prop} (e : Same G H) (j : D.J m G H) (h : Mv K D te σ G m R) (k : ∀ d m' G1 H1, ExtW D.W G H G1 H1 → D.J m' G1 H1 → R d m' → E.nx σ H1) : tDrop te E σ H := h G H (Up.refl e) j _ fun v d m' G1 H1 e1 j1 _ r => k d m' G1 H1 e1 j1 r
/-- code.append(e) -/
theorem dc_app {ca : Addr} {xs : List PyData} (e : Same G H) (j : (DC K ca).J xs G H) (hs : σ[i]? = some (some (.ref ca))) (hz : xs.length < 100000) (h : Dv K te σ G H d) (k : ∀ G1 H1, ExtW (DC K ca).W G H G1 H1 → (DC K ca).J (xs ++ [d]) G1 H1 → E.nx σ H1) :
    tDrop (tBM K "list" rAppend (tVar i) (tCons te tNil)) E σ H := by
  have j0 := j
  obtain ⟨hg, vs, hp, hr⟩ := j
  refine ⟨.ref ca, hs, .inl ⟨rfl, vs, SqL.of hp⟩, h G H (Up.refl e) _ fun y G1 H1 e1 q => ?_⟩
  obtain ⟨hg1, vs1, hp1, hr1⟩ := Wd.ext j0 e1
  refine ⟨ca, vs1, y, rfl, rfl, hp1, szl (by rw [hr1.length]; exact hz), k G1 _ (ExtW.put (W := (DC K ca).W) e1.w rfl hg1 _) ⟨hg1, _, upd_same, RpAll.app hr1 (.cons q .nil)⟩⟩
theorem RpAll.set : ∀ {vs : List V} {ds : List PyData} {n : Nat} {v : V} {d : PyData}, RpAll K G vs ds → Rp K G v d → RpAll K G (vs.set n v) (ds.set n d)
  | _, _, _, _, _, .nil, _ => .nil
  | _, _, 0, _, _, .cons _ r, h => .cons h r
  | _, _, _ + 1, _, _, .cons a r, h => .cons a (RpAll.set r h)
/-- code[i] = e -/
theorem dc_put {ca : Addr} {xs : List PyData} {n l : Nat} (e : Same G H) (j : (DC K ca).J xs G H) (hs : σ[i]? = some (some (.ref ca))) (hn : σ[l]? = some (some (.int (n : Nat)))) (hz : n < xs.length) (h : Dv K te σ G H d) (k : ∀ G1 H1, ExtW (DC K ca).W G H G1 H1 → (DC K ca).J (xs.set n d) G1 H1 → E.nx σ H1) :
    tAsg te (gSub (tVar i) (tVar l) rSetL) E σ H := h G H (Up.refl e) _ fun y G1 H1 e1 q => by
  obtain ⟨hg1, vs1, hp1, hr1⟩ := Wd.ext j e1
  have hx : ixN vs1.length (n : Int) = some n := by
    unfold ixN
    rw [hr1.length, if_pos (by omega), if_pos (by omega)]
    simp
  exact ⟨.ref ca, hs, .int n, hn, ca, vs1, n, n, rfl, rfl, hp1, hx, k G1 _ (ExtW.put (W := (DC K ca).W) e1.w rfl hg1 _) ⟨hg1, _, upd_same, RpAll.set hr1 q⟩⟩
/-- len(code) -/
theorem dc_len {ca : Addr} {xs : List PyData} {Q : VK} (j : (DC K ca).J xs G H) (hs : σ[i]? = some (some (.ref ca))) (k : Q (.int xs.length) H) : tCB (rLenX K) (tCons (tVar i) tNil) σ H Q := by
  obtain ⟨hg, vs, hp, hr⟩ := j
  refine ⟨.ref ca, hs, .ref ca, vs.length, rfl, .inl ⟨vs, SqL.of hp, rfl⟩, ?_⟩
  rw [hr.length]
  exact k
/-- names.index(x) -/
theorem dv_index {b : List Str} {x : Str} {ta tb : TE} (hx : x ∈ b) (ha : Dv K ta σ G H (.list (b.map .str))) (hb : Dv K tb σ G H (.str x)) : Dv K (tBM K "list" (rIndex K) ta (tCons tb tNil)) σ G H (.int (idx b x)) := fun G1 H1 e Q k =>
  ha G1 H1 e _ fun v G2 H2 e2 q => by
    cases q with
    | @lst a xs ds h1 h2 =>
    refine ⟨.inl ⟨rfl, xs, SqL.of (e2.gh _ _ h1)⟩, hb G2 H2 (e.trans e2) _ fun y G3 H3 e3 qy => ?_⟩
    cases qy
    obtain ⟨z1, z2⟩ := idx_at hx
    have h3 := e3.rpa h2
    obtain ⟨f1, f2⟩ := inV_str (x := x) h3
    obtain ⟨v, g1, g2⟩ := h3.get (i := idx b x) (d := .str x) (by rw [List.getElem?_map, z1]; rfl)
    cases g2
    refine ⟨a, xs, .str x, idx b x, .str x, rfl, rfl, SqL.of (e3.gh _ _ (e3.gg _ _ h1)), rfl, f1, g1, by simp [eqV], fun m z' hm hz' => ?_, k _ G3 H3 (e2.trans e3) (.int _)⟩
    obtain ⟨dz, w1, w2⟩ := h3.get' hz'
    rw [List.getElem?_map] at w1
    obtain ⟨sz, w3, rfl⟩ := Option.map_eq_some_iff.mp w1
    cases w2
    have := z2 m sz hm w3
    simp [eqV, this]
end
end K82

set_option Elab.async false
set_option linter.all false
set_option maxRecDepth 100000
set_option maxHeartbeats 4000000
/-! put_code, own_code. -/
namespace K82
open PySem L2 PyProof.Rows
section
variable {P : Program} {w : World} {K : PySem.W.Frag} {mg : Str → Option Value} {base : Heap}
abbrev spPC (K : PySem.W.Frag) (n : Nat) : Sp := spM K 3 (DC K) fun ca as (xs : List PyData) R => ∃ (t : Tm) (b : List Str), as = [.pd t.py, .pd (.list (b.map .str)), .raw (.ref ca)] ∧ Lt n t.py ∧ b.length + n ≤ 1000 ∧ bnd b t = true ∧ xs.length + t.size ≤ 90000 ∧ R (.int xs.length) (xs ++ put b xs.length t)
theorem ok_put_code (T : Txt K mg) : ∀ n, n ≤ 60 → FnOk P w K mg base CX0 (n + 2) T.put_code.f T.put_code.fd ["term", "bound", "code"] (spPC K n)
  | 0, _ => fn_no (by
    rintro vs H Q E ⟨_, ca, G, as, xs, R, _, _, _, ⟨t, b, _, h, _⟩, _⟩
    exact h)
  | n + 1, hn => by
    have g_put_code : FnOk P w K mg base CX0 (n + 2) _ _ _ _ := ok_put_code T n (by omega)
    have g_own_parts : FnOk P w K mg base CX0 1 _ _ _ _ := ok_own_parts T
    refine T.put_code.F.ok sc_put_code (fun vs H Q E z => z.1) (fun cdv Ar outer s H vs Q E hr z => ?_)
    obtain ⟨_, ca, G, as, (xs : List PyData), R, e, j, r, ⟨t, b, rfl, hg, hb, hbn, hsz, hR⟩, k⟩ := z
    cases r with
    | @cons vt _ _ _ rt r =>
    cases r with
    | @cons vb _ _ _ rb r =>
    cases r with
    | @cons vc _ _ _ rc r =>
    cases r
    cases (show vc = .ref ca from rc)
    have rt : Rp K G vt t.py := rt
    have rb : Rp K G vb (.list (b.map .str)) := rb
    refine ⟨_, (pss_cons (ps_par (i := 3) (j := 4) rfl sc_put_code.nd rfl rfl (by decide) rfl rfl (pa_cons (pe_callB call_lenX rfl T.z_len (by decide +kernel) (pa_cons (pv 2) pa_nil)) (pa_cons (pe_ix ix_seq (pv 0) pe_int (fun _ _ => rfl)) pa_nil)) rfl)
      (pss_cons (ps_expr (pe_bm PySem.F.plainAttrs_list PySem.F.slot_list_append PySem.F.type_list_append mt_append (pv 2) (pa_cons pe_non pa_nil)))
      (pss_cons (ps_set (i := 5) sc_put_code.nd rfl (Or.inr rfl) (pe_ifExp (pt_cmpR (op_inL (hu65 hr)) (pv 4) (pe_tup (pa_cons pe_str (pa_cons pe_str pa_nil))) rfl) (pe_lst (pa_cons (pe_ix ix_seq (pv 0) pe_int (fun _ _ => rfl)) (StX.pa_star (pv 1) pa_nil))) (pv 1)))
      (pss_cons (ps_setLc (i := 6) (own := [("part", 7)]) (g := gName 7) (tt := tYes) rfl sc_put_code.nd rfl rfl (sw_true rfl rfl rfl (by decide +kernel)) (pi_row (pe_call g_own_parts (hr.mono (by omega)) rfl T.own_parts.m T.own_parts.F.kp T.own_parts.b .nil pass0 (pa_cons (pv 0) pa_nil))) (blkOk_by (N := ["term", "bound", "code", "number", "word", "inner", "numbers", "part"]) (sc := defScope s_put_code) (by decide +kernel)) (fun _ _ _ _ _ => (pg_name (i := 7) sc_put_code.nd rfl (Or.inl rfl))) (fun _ _ _ _ _ => pts_nil) (fun _ _ _ _ _ => (pe_call g_put_code (hr.mono (by omega)) rfl T.put_code.m T.put_code.F.kp T.put_code.b .nil pass0 (pa_cons (pv 7) (pa_cons (pv 5) (pa_cons (pv 2) pa_nil))))))
      (pss_cons (ps_if (pt_cmpR (op_eqX hr.units) (pv 4) pe_str (nomark _)) (pss_one (ps_asg (pe_tup (pa_cons pe_str (pa_cons (pe_bm PySem.F.plainAttrs_list PySem.F.slot_list_index PySem.F.type_list_index mt_index (pv 1) (pa_cons (pe_ix ix_seq (pv 0) pe_int (fun _ _ => rfl)) pa_nil)) pa_nil))) (pg_sub (pv 2) (pv 3) set_list))) (pss_one (ps_if (pt_cmpR (op_inL (hu65 hr)) (pv 4) (pe_tup (pa_cons pe_str (pa_cons pe_str pa_nil))) rfl) (pss_one (ps_asg (pe_tup (pa_cons (pe_ifExp (pt_cmpR (op_eqX hr.units) (pv 4) pe_str (nomark _)) pe_str pe_str) (pa_cons (pe_ix ix_seq (pv 0) pe_int (fun _ _ => rfl)) (pa_cons (pe_ix ix_seq (pv 0) pe_int (fun _ _ => rfl)) (pa_cons (pe_ix ix_seq (pv 6) pe_int (fun _ _ => rfl)) pa_nil))))) (pg_sub (pv 2) (pv 3) set_list))) (pss_one (ps_if (pt_cmpR (op_eqX hr.units) (pv 4) pe_str (nomark _)) (pss_one (ps_asg (pe_tup (pa_cons pe_str (pa_cons (pe_ix ix_seq (pv 6) pe_int (fun _ _ => rfl)) (pa_cons (pe_callTy call_tupX rfl T.z_tuple (by decide +kernel) (pa_cons (pe_slice sl_X (pv 6) (po_some pe_int) po_none) pa_nil)) pa_nil)))) (pg_sub (pv 2) (pv 3) set_list))) (pss_one (ps_asg (pe_ifExp (pt_cmpR (op_inL (hu65 hr)) (pv 4) (pe_tup (pa_cons pe_str (pa_cons pe_str pa_nil))) rfl) (pv 0) (pe_tup (pa_cons (pv 4) (pa_cons (pe_ix ix_seq (pv 6) pe_int (fun _ _ => rfl)) (pa_cons (pe_ix ix_seq (pv 6) pe_int (fun _ _ => rfl)) pa_nil))))) (pg_sub (pv 2) (pv 3) set_list))))))))
      (pss_one (ps_ret (pv 3)))))))), ?_⟩
    have hrow := t.row
    obtain ⟨n', hn', hparts⟩ := hg.parts
    cases hn'
    refine ds_seq ?_
    have h0 : ∀ σ : L2.St, σ[0]? = some (some vt) → Dv K (tOp (rIx K) (tVar 0) (tC (.int 0))) σ G H (.str t.wo.s) := fun σ hσ => dv_ix (dv_var hσ rt) dv_int hrow at0
    refine dc_len j rfl (h0 _ rfl G H (Up.refl e) _ fun vw G1 H1 e1 qw => ⟨_, _, rfl, ?_⟩)
    dsimp only
    have j1 := Wd.ext j e1
    refine ds_seq ?_
    refine dc_app e1.gh j1 rfl (by omega) (dv_non (K := K)) fun G2 H2 e2 j2 => ?_
    have e02 := e1.w.trans e2
    refine ds_seq ?_
    refine ds_set (K := K) (d := .list ((innB b t).map .str)) e2.gh (dv_if (dvt_test (dv_inT (xs := ["fun", "fix"]) (dv_var rfl (e2.rp qw)) (dv_tup (dva_cons dv_str (dva_cons dv_str dva_nil)) (by simp)) rfl)) (fun h => ?_) fun h => ?_) fun vi G3 H3 e3 qi => ?_
    · rw [wo_bind] at h
      cases t with
      | fn x s u => exact Dv.is (dv_lst (dva_cons (d := .str x) (dv_ix (dv_var rfl (e02.rp rt)) dv_int hrow rfl) (dva_star (es := []) (dv_var rfl (e02.rp rb)) rfl dva_nil)) (by simp; omega)) (by simp [innB])
      | fx x s u => exact Dv.is (dv_lst (dva_cons (d := .str x) (dv_ix (dv_var rfl (e02.rp rt)) dv_int hrow rfl) (dva_star (es := []) (dv_var rfl (e02.rp rb)) rfl dva_nil)) (by simp; omega)) (by simp [innB])
      | _ => cases h
    · rw [wo_bind] at h
      refine Dv.is (dv_var rfl (e02.rp rb)) ?_
      cases t <;> first | rfl | exact Bool.noConfusion h
    have j3 := Wd.ext j2 e3
    have e03 := e02.trans e3.w
    have hib : (innB b t).length + n ≤ 1000 := by
      have : (innB b t).length ≤ b.length + 1 := by cases t <;> simp [innB]
      omega
    have hst := size_parts t
    refine ds_seq ?_
    refine ms_set (D := DC K ca) (R := fun d (m : List PyData) => d = .list (starts (xs.length + 1) t.parts) ∧ (xs ++ [PyData.none] ++ puts (innB b t) (xs.length + 1) t.parts : List PyData) = m) e3.gh j3 (mv_lc (ds := Tm.pys t.parts)
      (fun k acc (m : List PyData) => acc = starts (xs.length + 1) (t.parts.take k) ∧ (xs ++ [PyData.none] ++ puts (innB b t) (xs.length + 1) (t.parts.take k) : List PyData) = m) (dvi_row (dv_callT (f := fun t => .list (Tm.pys t.parts)) (t := t) (dv_var rfl (e03.rp rt)) hg.shr) rfl) ?_ ?_ ?_ ?_) fun vn d m4 G4 H4 e4 j4 qn hm4 => ?_
    · rw [pys_len]
      have := parts_len hg
      omega
    · exact ⟨rfl, by simp [puts]⟩
    · rintro i d acc m1 hd hacc ⟨rfl, rfl⟩ x G4 H4 u4 rx
      rw [Tm.pys_map, List.getElem?_map] at hd
      obtain ⟨u, hu, rfl⟩ := Option.map_eq_some_iff.mp hd
      have hmu : u ∈ t.parts := List.mem_of_getElem? hu
      have q3 := sizes_take_le t.parts (i + 1)
      have q2 := sizes_take hu
      have hlen : (xs ++ [PyData.none] ++ puts (innB b t) (xs.length + 1) (t.parts.take i)).length = xs.length + 1 + Tm.sizes (t.parts.take i) := by
        rw [List.length_append, List.length_append, puts_len]
        rfl
      refine mv_call (mva_cons (mv_dv (dv_var rfl rx) (mva_cons (mv_dv (d := .list ((innB b t).map .str)) (dv_var rfl (u4.rp qi)) (mva_raw rfl (mva_nil ⟨rfl, u, innB b t, rfl, hparts u hmu, hib, bnd_parts hbn u hmu, ?_, ?_⟩))))))
      · rw [hlen]
        omega
      · rw [hlen, starts_take hu, puts_take hu]
        exact ⟨rfl, by simp⟩
    · rintro acc m1 hacc ⟨rfl, rfl⟩
      rw [pys_len, List.take_length]
      exact ⟨rfl, rfl⟩
    obtain ⟨rfl, rfl⟩ := hm4
    have e04 := e03.trans e4
    have fin : ∀ G5 H5, ExtW (DC K ca).W G4 H4 G5 H5 → (DC K ca).J ((xs ++ [PyData.none] ++ puts (innB b t) (xs.length + 1) t.parts).set xs.length (ins b xs.length t)) G5 H5 → Q (.int xs.length) H5 := fun G5 H5 e5 j5 => by
      refine k _ _ _ G5 H5 (e04.trans e5) j5 (.int _) ?_
      have z : (xs ++ [PyData.none] ++ puts (innB b t) (xs.length + 1) t.parts).set xs.length (ins b xs.length t) = xs ++ put b xs.length t := by
        rw [put_parts]
        simp
      rw [z]
      exact hR
    have hlt : xs.length < (xs ++ [PyData.none] ++ puts (innB b t) (xs.length + 1) t.parts).length := by
      rw [List.length_append, List.length_append]
      simp
      omega
    have hbl : (ins b xs.length t).depth ≤ 1000000 ∨ True := .inr trivial
    have qw4 : Rp K G4 vw (.str t.wo.s) := e4.rp (e3.rp (e2.rp qw))
    refine ds_seq ?_
    refine ds_if e4.gh (dvt_test (dv_eq (dv_var rfl qw4) dv_str rfl)) (fun h G5 H5 e5 => ?_) fun h1 G5 H5 e5 => ?_
    · rw [show PyData.eqv (.str t.wo.s) (.str "name") = t.wo.is .name from wo_is t.wo .name] at h
      cases t with
      | name x =>
        have hx : x ∈ b := by simpa [bnd] using hbn
        refine dc_put (d := ins b xs.length (.name x)) e5.gh (Wd.ext j4 e5) rfl rfl hlt (dv_tup (dva_cons dv_str (dva_cons (dv_index hx (dv_var rfl (e5.rp (e4.rp (e3.rp (e02.rp rb))))) (dv_ix (d := .str x) (dv_var rfl (e5.rp (e04.rp rt))) dv_int hrow rfl)) dva_nil)) (by simp)) fun G6 H6 e6 j6 => ?_
        exact ⟨_, rfl, fin G6 H6 (e5.w.trans e6) j6⟩
      | _ => cases h
    rw [show PyData.eqv (.str t.wo.s) (.str "name") = t.wo.is .name from wo_is t.wo .name] at h1
    refine ds_if e5.gh (dvt_test (dv_inT (xs := ["fun", "fix"]) (dv_var rfl (e5.rp qw4)) (dv_tup (dva_cons dv_str (dva_cons dv_str dva_nil)) (by simp)) rfl)) (fun h G6 H6 e6 => ?_) fun h2 G6 H6 e6 => ?_
    · rw [wo_bind] at h
      have e56 := e5.trans e6
      have hn0 : rowOf (.list (starts (xs.length + 1) t.parts)) = some (starts (xs.length + 1) t.parts) := rfl
      cases t with
      | fn x s u =>
        refine dc_put (d := ins b xs.length (.fn x s u)) e6.gh (Wd.ext j4 e56) rfl rfl hlt (dv_tup (dva_cons (d := .str "take") (dv_if (dvt_test (dv_eq (dv_var rfl (e56.rp qw4)) dv_str rfl)) (fun _ => dv_str) fun h => ?_) (dva_cons (d := .str x) (dv_ix (dv_var rfl (e56.rp (e04.rp rt))) dv_int hrow rfl) (dva_cons (d := s.py) (dv_ix (dv_var rfl (e56.rp (e04.rp rt))) dv_int hrow rfl) (dva_cons (d := .int (xs.length + 1 : Nat)) (dv_ix (dv_var rfl (e56.rp qn)) dv_int hn0 rfl) dva_nil)))) (by simp)) fun G7 H7 e7 j7 => ?_
        · exact Bool.noConfusion ((wo_is .fn .fn).symm.trans h)
        · exact ⟨_, rfl, fin G7 H7 (e56.w.trans e7) j7⟩
      | fx x s u =>
        refine dc_put (d := ins b xs.length (.fx x s u)) e6.gh (Wd.ext j4 e56) rfl rfl hlt (dv_tup (dva_cons (d := .str "loop") (dv_if (dvt_test (dv_eq (dv_var rfl (e56.rp qw4)) dv_str rfl)) (fun h => ?_) fun _ => dv_str) (dva_cons (d := .str x) (dv_ix (dv_var rfl (e56.rp (e04.rp rt))) dv_int hrow rfl) (dva_cons (d := s.py) (dv_ix (dv_var rfl (e56.rp (e04.rp rt))) dv_int hrow rfl) (dva_cons (d := .int (xs.length + 1 : Nat)) (dv_ix (dv_var rfl (e56.rp qn)) dv_int hn0 rfl) dva_nil)))) (by simp)) fun G7 H7 e7 j7 => ?_
        · exact Bool.noConfusion ((wo_is .fx .fn).symm.trans h)
        · exact ⟨_, rfl, fin G7 H7 (e56.w.trans e7) j7⟩
      | _ => cases h
    rw [wo_bind] at h2
    have e56 := e5.trans e6
    refine ds_if e6.gh (dvt_test (dv_eq (dv_var rfl (e56.rp qw4)) dv_str rfl)) (fun h G7 H7 e7 => ?_) fun h3 G7 H7 e7 => ?_
    · rw [show PyData.eqv (.str t.wo.s) (.str "case") = t.wo.is .cs from wo_is t.wo .cs] at h
      have e57 := e56.trans e7
      cases t with
      | cs u l =>
        have hn0 : rowOf (.list (starts (xs.length + 1) (u :: l))) = some (starts (xs.length + 1) (u :: l)) := rfl
        have hcut : rowOf (cutR (.list (starts (xs.length + 1) (u :: l))) (some 1) none) = some (starts (xs.length + 1 + u.size) l) := by
          rw [cutR_row hn0]
          exact congrArg some cutL_tl
        refine dc_put (d := ins b xs.length (.cs u l)) e7.gh (Wd.ext j4 e57) rfl rfl hlt (dv_tup (dva_cons dv_str (dva_cons (d := .int (xs.length + 1 : Nat)) (dv_ix (dv_var rfl (e57.rp qn)) dv_int hn0 at0) (dva_cons (dv_tupOf (dv_sl (dv_var rfl (e57.rp qn)) hn0 (dvo_some (K := K) dv_int) dvo_none) hcut) dva_nil))) (by simp)) fun G8 H8 e8 j8 => ?_
        exact ⟨_, rfl, fin G8 H8 (e57.w.trans e8) j8⟩
      | _ => cases h
    rw [show PyData.eqv (.str t.wo.s) (.str "case") = t.wo.is .cs from wo_is t.wo .cs] at h3
    have e57 := e56.trans e7
    refine dc_put (d := ins b xs.length t) e7.gh (Wd.ext j4 e57) rfl rfl hlt (dv_if (dvt_test (dv_inT (xs := ["constant", "nothing"]) (dv_var rfl (e57.rp qw4)) (dv_tup (dva_cons dv_str (dva_cons dv_str dva_nil)) (by simp)) rfl)) (fun h => ?_) fun h => ?_) fun G8 H8 e8 j8 => ⟨_, rfl, fin G8 H8 (e57.w.trans e8) j8⟩
    · rw [wo_leaf] at h
      refine Dv.is (dv_var rfl (e57.rp (e04.rp rt))) ?_
      cases t <;> first | rfl | exact Bool.noConfusion h
    · rw [wo_leaf] at h
      cases t with
      | ap u v => exact dv_tup (dva_cons (dv_var rfl (e57.rp qw4)) (dva_cons (d := .int (xs.length + 1 : Nat)) (dv_ix (dv_var rfl (e57.rp qn)) dv_int rfl rfl) (dva_cons (d := .int (xs.length + 1 + u.size : Nat)) (dv_ix (dv_var rfl (e57.rp qn)) dv_int rfl rfl) dva_nil))) (by simp)
      | ei u v => exact dv_tup (dva_cons (dv_var rfl (e57.rp qw4)) (dva_cons (d := .int (xs.length + 1 : Nat)) (dv_ix (dv_var rfl (e57.rp qn)) dv_int rfl rfl) (dva_cons (d := .int (xs.length + 1 + u.size : Nat)) (dv_ix (dv_var rfl (e57.rp qn)) dv_int rfl rfl) dva_nil))) (by simp)
      | _ => first | exact Bool.noConfusion h | exact Bool.noConfusion h1 | exact Bool.noConfusion h2 | exact Bool.noConfusion h3
abbrev spOC (K : PySem.W.Frag) (n : Nat) : Sp := spT K (fun t => Lt n t.py ∧ n ≤ 60 ∧ bnd [] t = true ∧ t.size ≤ 90000) fun t => .list (put [] 0 t)
theorem ok_own_code (T : Txt K mg) (n : Nat) (hn : n ≤ 60) : FnOk P w K mg base CX0 (n + 3) T.own_code.f T.own_code.fd ["term"] (spOC K n) := by
  have g_put_code : FnOk P w K mg base CX0 (n + 2) _ _ _ _ := ok_put_code T n hn
  refine okT T.own_code sc_own_code fun cdv Ar outer s H Q E v G t hr e r hA k => ?_
  obtain ⟨hg, _, hb, hsz⟩ := hA
  refine ⟨_, (pss_cons (ps_set (i := 1) sc_own_code.nd rfl (Or.inl rfl) (pe_lst pa_nil))
      (pss_cons (ps_expr (pe_call g_put_code (hr.mono (by omega)) rfl T.put_code.m T.put_code.F.kp T.put_code.b .nil pass0 (pa_cons (pv 0) (pa_cons (pe_lst pa_nil) (pa_cons (pv 1) pa_nil)))))
      (pss_one (ps_ret (pv 1))))), ?_⟩
  refine ds_seq ?_
  refine ds_new fun ca hca => ?_
  have gca : G ca = none := Same.none e hca
  have e1 := (Ext.refl e).allocM hca (.lst [])
  have j1 : (DC K ca).J [] G (upd H ca (.lst [])) := ⟨gca, [], upd_same, .nil⟩
  refine ds_seq ?_
  refine ms_drop (D := DC K ca) (R := fun _ (m : List PyData) => put [] 0 t = m) e1.gh j1 (mv_call (mva_cons (mv_dv (dv_var rfl r) (mva_cons (mv_dv (d := .list []) (dv_lst dva_nil (by simp)) (mva_raw rfl (mva_nil ⟨rfl, t, [], rfl, hg, by simp; omega, hb, by simpa using hsz, rfl⟩))))))) fun d m G2 H2 e2 j2 hm => ?_
  subst hm
  obtain ⟨g2, vs, hp, hr2⟩ := j2
  refine ⟨.ref ca, rfl, k _ _ H2 ?_ (.lst upd_same (RpAll.mono (same_upd g2 (.lst vs)) _ _ hr2))⟩
  refine Ext.still (G := G) (H := H) (G1 := G2) ⟨fun b u q => e2.hh b u (fun z => ?_) (e1.hh b u q), e2.gg, e2.gh, fun b q => ?_⟩ hca g2 hp
  · cases (show b = ca from z)
    rw [hca] at q
    cases q
  · rcases e2.new b q with z | z
    · exact .inl z
    · exact .inr (e1.fresh z)
end
end K82

set_option Elab.async false
set_option linter.all false
set_option maxRecDepth 100000
set_option maxHeartbeats 4000000
/-! numbers_of, decoded. -/
namespace K82
open PySem L2 PyProof.Rows
theorem dv_tup2 {K : PySem.W.Frag} {σ : L2.St} {G H : Hp} {ta tb : TE} {a b : PyData} (h : Dv K ta σ G H a) (h2 : Dv K tb σ G H b) : Dv K (tTup (tCons ta (tCons tb tNil))) σ G H (.tuple [a, b]) := dv_tup (dva_cons h (dva_cons h2 dva_nil)) (by show 2 ≤ 100000; omega)
theorem dv_tup1 {K : PySem.W.Frag} {σ : L2.St} {G H : Hp} {ta : TE} {a : PyData} (h : Dv K ta σ G H a) : Dv K (tTup (tCons ta tNil)) σ G H (.tuple [a]) := dv_tup (dva_cons h dva_nil) (by show 1 ≤ 100000; omega)
theorem dv_tup3 {K : PySem.W.Frag} {σ : L2.St} {G H : Hp} {ta tb tc : TE} {a b c : PyData} (h : Dv K ta σ G H a) (h2 : Dv K tb σ G H b) (h3 : Dv K tc σ G H c) : Dv K (tTup (tCons ta (tCons tb (tCons tc tNil)))) σ G H (.tuple [a, b, c]) := dv_tup (dva_cons h (dva_cons h2 (dva_cons h3 dva_nil))) (by show 3 ≤ 100000; omega)
theorem dv_tup4 {K : PySem.W.Frag} {σ : L2.St} {G H : Hp} {ta tb tc td : TE} {a b c d : PyData} (h : Dv K ta σ G H a) (h2 : Dv K tb σ G H b) (h3 : Dv K tc σ G H c) (h4 : Dv K td σ G H d) : Dv K (tTup (tCons ta (tCons tb (tCons tc (tCons td tNil))))) σ G H (.tuple [a, b, c, d]) := dv_tup (dva_cons h (dva_cons h2 (dva_cons h3 (dva_cons h4 dva_nil)))) (by show 4 ≤ 100000; omega)
theorem dv_lst0 {K : PySem.W.Frag} {σ : L2.St} {G H : Hp} : Dv K (tLst tNil) σ G H (.list []) := dv_lst dva_nil (Nat.zero_le _)
theorem dv_lst1 {K : PySem.W.Frag} {σ : L2.St} {G H : Hp} {ta : TE} {a : PyData} (h : Dv K ta σ G H a) : Dv K (tLst (tCons ta tNil)) σ G H (.list [a]) := dv_lst (dva_cons h dva_nil) (by show 1 ≤ 100000; omega)
theorem dv_lst2 {K : PySem.W.Frag} {σ : L2.St} {G H : Hp} {ta tb : TE} {a b : PyData} (h : Dv K ta σ G H a) (h2 : Dv K tb σ G H b) : Dv K (tLst (tCons ta (tCons tb tNil))) σ G H (.list [a, b]) := dv_lst (dva_cons h (dva_cons h2 dva_nil)) (by show 2 ≤ 100000; omega)
def isTL (x : Str) : Bool := (["take", "loop"] : List Str).any fun y => y == x
def isCE (x : Str) : Bool := (["call", "either"] : List Str).any fun y => y == x
def n3 : List PyData → List PyData
  | [_, _, c] => [c]
  | _ => []
def n2 : List PyData → List PyData
  | [a, b] => [a, b]
  | _ => []
def nc : List PyData → List PyData
  | [a, b] => (match rowOf b with | some l => a :: l | none => [])
  | _ => []
def is2 : List PyData → Bool
  | [_, b] => isL b
  | _ => false
def nums (x : Str) (r : List PyData) : List PyData :=
  if (isTL x && decide (((r.length + 1 : Nat) : Int) = 4)) = true then n3 r
  else if (isCE x && decide (((r.length + 1 : Nat) : Int) = 3)) = true then n2 r
  else if (decide (x = "case") && (decide (((r.length + 1 : Nat) : Int) = 3) && is2 r)) = true then nc r
  else []
def lookD (r : List PyData) (n : Nat) (bound : List PyData) : Option (PyData × Nat) := match r with
  | [.int i] => if isBe (.int i) bound.length = true then (match bound[i.toNat]? with | some y => some (.tuple [.str "name", y], n + 1) | none => none) else none
  | _ => none
/-- what is made of the parts -/
def mkD (x : Str) (r : List PyData) (thing : PyData) (ts : List PyData) : PyData := match ts with
  | [] => thing
  | t0 :: tr => if isTL x = true then (match r with | a :: b :: _ => .tuple [.str (if x = "take" then "fun" else "fix"), a, b, t0] | _ => .none)
    else if x = "case" then .tuple [.str "case", t0, .tuple tr] else .tuple (.str x :: t0 :: tr)
def decs (dec : Nat → Option (PyData × Nat)) : Nat → List PyData → Option (List PyData × Nat)
  | n, [] => some ([], n)
  | n, p :: ps => if (match p with | .int i => decide (i = n) | _ => false) = true then (match dec n with | some (t, m) => (match decs dec m ps with | some (ts, m') => some (t :: ts, m') | none => none) | none => none) else none
/-- decoded -/
def decD : Nat → List PyData → Nat → List PyData → Option (PyData × Nat)
  | 0, _, _, _ => none
  | f + 1, code, n, bound => match code[n]? with
    | none => none
    | some thing => match rowOf thing with
      | some (.str x :: r) => if x = "look" then lookD r n bound else
          (match decs (fun m => decD f code m (if (isTL x && !(nums x r).isEmpty) = true then (match r with | a :: _ => a :: bound | [] => bound) else bound)) (n + 1) (nums x r) with
          | some (ts, m) => some (mkD x r thing ts, m)
          | none => none)
      | _ => none
def oDec : Option (PyData × Nat) → PyData
  | some (t, n) => .tuple [t, .int n]
  | none => .none
theorem nums_sub {x : Str} {r : List PyData} {n : Nat} (h : ∀ d ∈ r, Lt n d) : (∀ d ∈ nums x r, Lt n d) ∧ (nums x r).length ≤ 1000 := by
  unfold nums
  split
  · unfold n3
    split
    · exact ⟨fun d hd => h d (List.mem_cons_of_mem _ (List.mem_cons_of_mem _ hd)), by simp⟩
    · simp
  · split
    · unfold n2
      split
      · exact ⟨h, by simp⟩
      · simp
    · split
      · unfold nc
        split
        · rename_i a b _ _ _
          split
          · rename_i l hl
            obtain ⟨n', rfl, h1, h2⟩ := Lt.row' (h b (by simp)) hl
            refine ⟨fun d hd => ?_, by simp; omega⟩
            rcases List.mem_cons.mp hd with rfl | hd
            · exact h d (by simp)
            · exact (h2 d hd).mono (by omega)
          · simp
        · simp
      · simp
section
variable {P : Program} {w : World} {K : PySem.W.Frag} {mg : Str → Option Value} {base : Heap}
abbrev spNO (K : PySem.W.Frag) : Sp := spD K 1 fun ds d => ∃ thing x r, ds = [thing] ∧ rowOf thing = some (.str x :: r) ∧ r.length < 1000 ∧ (∀ e ∈ r, ∀ l, rowOf e = some l → l.length < 1000) ∧ d = .list (nums x r)
theorem ok_numbers_of (T : Txt K mg) : FnOk P w K mg base CX0 2 T.numbers_of.f T.numbers_of.fd ["thing"] (spNO K) := by
  have g_is_list : FnOk P w K mg base CX0 1 _ _ _ _ := ok_is_list T
  refine T.numbers_of.F.ok sc_numbers_of (fun vs H Q E z => z.1) (fun cdv Ar outer s H vs Q E hr z => ?_)
  obtain ⟨hl, G, ds, d, e, r, ⟨thing, x, ll, rfl, hrow, hz, hzz, rfl⟩, k⟩ := z
  cases r with
  | cons r1 r =>
  cases r
  refine ⟨_, (pss_cons (ps_par (i := 1) (j := 2) rfl sc_numbers_of.nd rfl rfl (by decide) rfl rfl (pa_cons (pe_ix ix_seq (pv 0) pe_int (fun _ _ => rfl)) (pa_cons (pe_callB call_lenX rfl T.z_len (by decide +kernel) (pa_cons (pv 0) pa_nil)) pa_nil)) rfl)
      (pss_cons (ps_if (PW.pt (pw_and (pt_cmpR (op_inL (hu65 hr)) (pv 1) (pe_tup (pa_cons pe_str (pa_cons pe_str pa_nil))) rfl) (pw_and1 (pt_cmpR (op_eqX hr.units) (pv 2) pe_int (nomark _))))) (pss_one (ps_ret (pe_lst (pa_cons (pe_ix ix_seq (pv 0) pe_int (fun _ _ => rfl)) pa_nil)))) pss_nil)
      (pss_cons (ps_if (PW.pt (pw_and (pt_cmpR (op_inL (hu65 hr)) (pv 1) (pe_tup (pa_cons pe_str (pa_cons pe_str pa_nil))) rfl) (pw_and1 (pt_cmpR (op_eqX hr.units) (pv 2) pe_int (nomark _))))) (pss_one (ps_ret (pe_lst (pa_cons (pe_ix ix_seq (pv 0) pe_int (fun _ _ => rfl)) (pa_cons (pe_ix ix_seq (pv 0) pe_int (fun _ _ => rfl)) pa_nil))))) pss_nil)
      (pss_cons (ps_if (PW.pt (pw_and (pt_cmpR (op_eqX hr.units) (pv 1) pe_str (nomark _)) (pw_and (pt_cmpR (op_eqX hr.units) (pv 2) pe_int (nomark _)) (pw_and1 (pt_val (pe_call g_is_list (hr.mono (by omega)) rfl T.is_list.m T.is_list.F.kp T.is_list.b .nil pass0 (pa_cons (pe_ix ix_seq (pv 0) pe_int (fun _ _ => rfl)) pa_nil))))))) (pss_one (ps_ret (pe_lst (pa_cons (pe_ix ix_seq (pv 0) pe_int (fun _ _ => rfl)) (StX.pa_star (pe_ix ix_seq (pv 0) pe_int (fun _ _ => rfl)) pa_nil))))) pss_nil)
      (pss_one (ps_ret (pe_lst pa_nil))))))), ?_⟩
  refine ds_seq ?_
  refine ds_par e (dva_cons (d := .str x) (dv_ix (dv_var rfl r1) dv_int hrow at0) (dva_cons (dv_len (dv_var rfl r1) hrow) dva_nil)) fun vx vs G2 H2 e2 qx qs => ?_
  dsimp only
  have p1 := e2.rp r1
  have hlen : ∀ z : Int, PyData.eqv (.int ((PyData.str x :: ll).length : Int)) (.int z) = decide (((ll.length + 1 : Nat) : Int) = z) := fun z => by rw [eqv_int]; rfl
  refine ds_if e2.gh (DvT.is (dvt_and (dvt_test (dv_inT (xs := ["take", "loop"]) (dv_var rfl qx) (dv_tup2 dv_str dv_str) rfl)) fun _ => dvt_test (dv_eq (dv_var rfl qs) dv_int rfl)) (c := (isTL x && decide (((ll.length + 1 : Nat) : Int) = 4))) (by rw [hlen]; rfl)) (fun h G3 H3 e3 => ?_) fun h1 G3 H3 e3 => ?_
  · refine ds_ret e3.gh (d := .list (nums x ll)) ?_ fun v G4 H4 e4 q => k v G4 H4 ((e2.trans e3).trans e4) q
    have hn : nums x ll = n3 ll := by
      unfold nums
      rw [if_pos h]
    rw [hn]
    rw [Bool.and_eq_true] at h
    obtain ⟨a, b, c, rfl⟩ := len4 (r := ll) (x := .str x) (by rw [hlen]; exact h.2)
    exact dv_lst1 (dv_ix (dv_var rfl (e3.rp p1)) dv_int hrow rfl)
  refine ds_if e3.gh (DvT.is (dvt_and (dvt_test (dv_inT (xs := ["call", "either"]) (dv_var rfl (e3.rp qx)) (dv_tup2 dv_str dv_str) rfl)) fun _ => dvt_test (dv_eq (dv_var rfl (e3.rp qs)) dv_int rfl)) (c := (isCE x && decide (((ll.length + 1 : Nat) : Int) = 3))) (by rw [hlen]; rfl)) (fun h G4 H4 e4 => ?_) fun h2 G4 H4 e4 => ?_
  · refine ds_ret e4.gh (d := .list (nums x ll)) ?_ fun v G5 H5 e5 q => k v G5 H5 (((e2.trans e3).trans e4).trans e5) q
    have hn : nums x ll = n2 ll := by
      unfold nums
      rw [if_neg (by rw [h1]; simp), if_pos h]
    rw [hn]
    rw [Bool.and_eq_true] at h
    obtain ⟨a, b, rfl⟩ := len3 (r := ll) (x := .str x) (by rw [hlen]; exact h.2)
    exact dv_lst2 (dv_ix (dv_var rfl (e4.rp (e3.rp p1))) dv_int hrow rfl) (dv_ix (dv_var rfl (e4.rp (e3.rp p1))) dv_int hrow rfl)
  have e34 := e3.trans e4
  refine ds_if e4.gh (b := (decide (x = "case") && (decide (((ll.length + 1 : Nat) : Int) = 3) && is2 ll))) (dvt_and (dvt_test (Dv.is (dv_eq (dv_var rfl (e34.rp qx)) dv_str rfl) (by rw [eqv_str]))) fun _ => dvt_and (dvt_test (Dv.is (dv_eq (dv_var rfl (e34.rp qs)) dv_int rfl) (by rw [hlen]))) fun h => ?_) (fun h G5 H5 e5 => ?_) fun h3 G5 H5 e5 => ?_
  · obtain ⟨a, b, rfl⟩ := len3 (r := ll) (x := .str x) (by rw [hlen]; exact h)
    exact dvt_B (dv_call1 (f := fun d => .bool (isL d)) (A := any1) (dv_ix (dv_var rfl (e34.rp p1)) dv_int hrow rfl) trivial)
  · refine ds_ret e5.gh (d := .list (nums x ll)) ?_ fun v G6 H6 e6 q => k v G6 H6 (((e2.trans e34).trans e5).trans e6) q
    have hn : nums x ll = nc ll := by
      unfold nums
      rw [if_neg (by rw [h1]; simp), if_neg (by rw [h2]; simp), if_pos h]
    rw [hn]
    rw [Bool.and_eq_true, Bool.and_eq_true] at h
    obtain ⟨a, b, rfl⟩ := len3 (r := ll) (x := .str x) (by rw [hlen]; exact h.2.1)
    obtain ⟨l, hl⟩ := isL_some (d := b) h.2.2
    show Dv _ _ _ _ _ (.list (match rowOf b with | some l => a :: l | none => []))
    rw [hl]
    have hll := hzz b (by simp) l hl
    exact Dv.is (dv_lst (dva_cons (d := a) (dv_ix (dv_var rfl (e5.rp (e34.rp p1))) dv_int hrow rfl) (dva_star (es := []) (dv_ix (d := b) (dv_var rfl (e5.rp (e34.rp p1))) dv_int hrow rfl) hl dva_nil)) (by simp; omega)) (by simp)
  · unfold tNext
    dsimp only
    refine ds_ret e5.gh (d := .list (nums x ll)) ?_ fun v G6 H6 e6 q => k v G6 H6 (((e2.trans e34).trans e5).trans e6) q
    have hn : nums x ll = [] := by
      unfold nums
      rw [if_neg (by rw [h1]; simp), if_neg (by rw [h2]; simp), if_neg (by rw [h3]; simp)]
    rw [hn]
    exact dv_lst0
end
end K82

set_option Elab.async false
set_option linter.all false
set_option maxRecDepth 100000
set_option maxHeartbeats 4000000
/-! decoded. -/
namespace K82
open PySem L2 PyProof.Rows
theorem dvt_truth {K : PySem.W.Frag} {σ : L2.St} {G H : Hp} {ta : TE} {r : PyData} {ds : List PyData} (h : Dv K ta σ G H r) (hr : rowOf r = some ds) : DvT (fun σ H Q => ta σ H fun x H' => ∃ k, TruV K x H' k ∧ Q k H') σ G H (!ds.isEmpty) := fun G1 H1 e Q k => h G1 H1 e _ fun v G2 H2 e2 q => by
  obtain ⟨a, xs, rfl, ra, z⟩ := q.row e2.gh hr
  have hx : (!xs.isEmpty) = !ds.isEmpty := by
    cases ra <;> rfl
  exact ⟨_, z.elim (fun z => .inl ⟨xs, z.2.1, hx.symm⟩) (fun z => .inr (.inl ⟨xs, z.2, hx.symm⟩)), k G2 H2 e2⟩
theorem isN_oDec (o : Option (PyData × Nat)) : isN (oDec o) = o.isNone := by
  cases o with
  | none => rfl
  | some p => rfl
def numIs (p : PyData) (h : Nat) : Bool := match p with
  | .int i => decide (i = h)
  | _ => false
theorem numIs_eq (p : PyData) (h : Nat) : (isNu p && PyData.eqv p (.int h)) = numIs p h := by
  cases p with
  | int i =>
    rw [eqv_int, Bool.eq_iff_iff]
    simp [isNu, numIs]
    omega
  | _ => rfl
def isB1 (m : Int) : List PyData → Bool
  | [a] => isBe a m
  | _ => false
theorem lookD_no {r : List PyData} {n : Nat} {bound : List PyData} (h : isB1 bound.length r = false) : lookD r n bound = none := by
  unfold lookD
  split
  · rename_i i
    rw [if_neg (by
      rw [show isBe (.int i) bound.length = false from h]
      simp)]
  · rfl
theorem lookD_yes {i : Nat} {n : Nat} {bound : List PyData} {y : PyData} (h : bound[i]? = some y) : lookD [.int i] n bound = some (.tuple [.str "name", y], n + 1) := by
  have hi : i < bound.length := (List.getElem?_eq_some_iff.mp h).1
  have hb : isBe (.int (i : Int)) bound.length = true := by
    simp [isBe]
    omega
  unfold lookD
  simp only [hb, if_true, Int.toNat_natCast, h]
theorem isBe_nat {a : PyData} {m : Nat} (h : isBe a m = true) : ∃ i : Nat, a = .int i ∧ i < m := by
  cases a <;> simp [isBe] at h
  rename_i z
  exact ⟨z.toNat, by congr 1; omega, by omega⟩
theorem nums_tl {x : Str} {r : List PyData} (h : (isTL x && !(nums x r).isEmpty) = true) : ∃ a b c, r = [a, b, c] := by
  rw [Bool.and_eq_true] at h
  obtain ⟨h1, h2⟩ := h
  have h3 : isCE x = false := by
    rcases any2 h1 with rfl | rfl <;> decide +kernel
  have h4 : decide (x = "case") = false := by
    rcases any2 h1 with rfl | rfl <;> decide +kernel
  unfold nums at h2
  split at h2
  · rename_i q
    rw [Bool.and_eq_true, decide_eq_true_eq] at q
    rcases r with _ | ⟨a, _ | ⟨b, _ | ⟨c, _ | ⟨d, r⟩⟩⟩⟩
    · simp at q
    · simp at q
    · simp at q
    · exact ⟨a, b, c, rfl⟩
    · simp at q
      omega
  · rw [h3, h4] at h2
    simp at h2
theorem decs_cons (dec : Nat → Option (PyData × Nat)) (n : Nat) (p : PyData) (ps : List PyData) : decs dec n (p :: ps) = if numIs p n = true then (match dec n with | some (t, m) => (match decs dec m ps with | some (ts, m') => some (t :: ts, m') | none => none) | none => none) else none := rfl
theorem atI_nat {α : Type} {xs : List α} {n : Nat} : atI xs (n : Int) = xs[n]? := by
  unfold atI ixN
  rw [if_pos (by omega)]
  by_cases h : n < xs.length
  · rw [if_pos (by omega)]
    simp
  · rw [if_neg (by omega), List.getElem?_eq_none (by omega)]
    rfl
/-- the names within, of a code -/
def innD (x : Str) (r : List PyData) (bound : List PyData) : List PyData := if (isTL x && !(nums x r).isEmpty) = true then (match r with | a :: _ => a :: bound | [] => bound) else bound
def decB (f : Nat) (code : List PyData) (n : Nat) (bound : List PyData) (thing : PyData) (x : Str) (r : List PyData) : Option (PyData × Nat) :=
  if x = "look" then lookD r n bound else (match decs (fun m => decD f code m (innD x r bound)) (n + 1) (nums x r) with | some (ts, m) => some (mkD x r thing ts, m) | none => none)
theorem decD_str {f : Nat} {code : List PyData} {n : Nat} {bound : List PyData} {x : Str} {r : List PyData} (h : rowOf ((code[n]?).getD .none) = some (.str x :: r)) : decD (f + 1) code n bound = decB f code n bound ((code[n]?).getD .none) x r := by
  unfold decD
  cases q : code[n]? with
  | none =>
    rw [q] at h
    cases h
  | some t =>
    rw [q] at h
    replace h : rowOf t = some (.str x :: r) := h
    simp only [h]
    rfl
theorem decD_no {f : Nat} {code : List PyData} {n : Nat} {bound : List PyData} (h : ∀ x r, rowOf ((code[n]?).getD .none) ≠ some (.str x :: r)) : decD (f + 1) code n bound = none := by
  unfold decD
  cases q : code[n]? with
  | none => rfl
  | some t =>
    rw [q] at h
    replace h : ∀ x r, rowOf t ≠ some (.str x :: r) := h
    dsimp only
    split
    · rename_i x r hx
      exact absurd hx (h _ _)
    · rfl
theorem decs_ok {dec : Nat → Option (PyData × Nat)} {L m : Nat} (hdec : ∀ a t b, dec a = some (t, b) → a < b ∧ b ≤ L ∧ Lt (m + (b - a)) t) : ∀ {ps : List PyData} {n : Nat} {ts : List PyData} {m' : Nat}, decs dec n ps = some (ts, m') → n ≤ L →
    n ≤ m' ∧ m' ≤ L ∧ ts.length = ps.length ∧ (∀ t ∈ ts, Lt (m + (m' - n)) t) ∧ (∀ t0 tr, ts = t0 :: tr → n < m' ∧ ∀ t ∈ tr, Lt (m + (m' - n - 1)) t)
  | [], n, ts, m', h, hn => by
    cases h
    exact ⟨Nat.le_refl _, hn, rfl, by simp, by simp⟩
  | p :: ps, n, ts, m', h, hn => by
    rw [decs_cons] at h
    split at h
    · cases h1 : dec n with
      | none => rw [h1] at h; cases h
      | some q =>
        obtain ⟨t, m1⟩ := q
        rw [h1] at h
        dsimp only at h
        obtain ⟨a1, a2, a3⟩ := hdec n t m1 h1
        cases h2 : decs dec m1 ps with
        | none => rw [h2] at h; cases h
        | some q2 =>
          obtain ⟨ts2, m2⟩ := q2
          rw [h2] at h
          cases h
          obtain ⟨b1, b2, b3, b4, _⟩ := decs_ok hdec h2 a2
          refine ⟨by omega, b2, by simp [b3], fun u hu => ?_, fun t0 tr e => ?_⟩
          · rcases List.mem_cons.mp hu with rfl | hu
            · exact a3.mono (by omega)
            · exact (b4 u hu).mono (by omega)
          · cases e
            exact ⟨by omega, fun u hu => (b4 u hu).mono (by omega)⟩
    · cases h
theorem nums_short {x : Str} {r : List PyData} (h : ¬ x = "case") : (nums x r).length ≤ 2 := by
  unfold nums
  split
  · unfold n3
    split <;> simp
  · split
    · unfold n2
      split <;> simp
    · rw [if_neg (by simp [h])]
      simp
theorem decD_ok {code : List PyData} {m : Nat} (hm : ∀ e ∈ code, Lt m e) : ∀ (f n : Nat) (bound : List PyData) (t : PyData) (b : Nat), (∀ e ∈ bound, Lt m e) → decD f code n bound = some (t, b) → n < b ∧ b ≤ code.length ∧ Lt (m + (b - n)) t
  | 0, n, bound, t, b, hb, h => by cases h
  | f + 1, n, bound, t, b, hb, h => by
    cases hrow : rowOf ((code[n]?).getD .none) with
    | none => rw [decD_no (by rw [hrow]; intro _ _ z; cases z)] at h; cases h
    | some ds =>
      rcases ds with _ | ⟨x0, r⟩
      · rw [decD_no (by rw [hrow]; intro _ _ z; cases z)] at h; cases h
      by_cases hx : ∃ x, x0 = .str x
      · obtain ⟨x, rfl⟩ := hx
        rw [decD_str hrow] at h
        have hn : n < code.length := by
          rcases Nat.lt_or_ge n code.length with q | q
          · exact q
          · rw [List.getElem?_eq_none q] at hrow
            cases hrow
        have hth : (code[n]?).getD .none = code[n] := by rw [List.getElem?_eq_getElem hn]; rfl
        rw [hth] at h hrow
        have hme : Lt m code[n] := hm _ (List.getElem_mem hn)
        obtain ⟨m', rfl, hz, hr⟩ := Lt.row' hme hrow
        have hr' : ∀ d ∈ r, Lt (m' + 1) d := fun d hd => (hr d (List.mem_cons_of_mem _ hd)).mono (by omega)
        have hstr : ∀ (k : Nat) (y : Str), ((PyData.str y).canLay0 && decide (y.length < 1000)) = true → Lt (k + 1) (.str y) := fun k y hy => by
          rw [Bool.and_eq_true] at hy
          exact ⟨by simp [PyData.depth], hy.1, hy.2⟩
        unfold decB at h
        split at h
        · unfold lookD at h
          split at h
          · split at h
            · rename_i i hi
              obtain ⟨j, hj, hjl⟩ := isBe_nat hi
              cases hj
              cases hy : bound[(j : Int).toNat]? with
              | none => rw [hy] at h; cases h
              | some y =>
                rw [hy] at h
                cases h
                refine ⟨by omega, by omega, ?_⟩
                have hyl := hb y (List.mem_of_getElem? hy)
                have := Lt.mkT (n := m' + 1) (ds := [.str "name", y]) (by simp) (mem2 (hstr m' "name" (by decide +kernel)) hyl) (by simp)
                exact this.mono (by omega)
            · cases h
          · cases h
        · rename_i hlook
          cases h2 : decs (fun m => decD f code m (innD x r bound)) (n + 1) (nums x r) with
          | none => rw [h2] at h; cases h
          | some q =>
            obtain ⟨ts, b'⟩ := q
            rw [h2] at h
            cases h
            have hib : ∀ e ∈ innD x r bound, Lt (m' + 1) e := by
              unfold innD
              split
              · split
                · intro e he
                  rcases List.mem_cons.mp he with rfl | he
                  · exact hr' _ (by simp)
                  · exact hb e he
                · exact hb
              · exact hb
            obtain ⟨a1, a2, a3, a4, a5⟩ := decs_ok (L := code.length) (m := m' + 1) (fun a t b hd => decD_ok hm f a _ t b hib hd) h2 (by omega)
            refine ⟨by omega, a2, ?_⟩
            unfold mkD
            split
            · exact hme.mono (by omega)
            · rename_i t0 tr
              obtain ⟨c1, c2⟩ := a5 t0 tr rfl
              have hln : tr.length + 1 ≤ 1000 := by
                have := (nums_sub (x := x) hr').2
                rw [List.length_cons] at a3
                omega
              have e1 : m' + 1 + (b - n) = (m' + 1 + (b - (n + 1))) + 1 := by omega
              rw [e1]
              have h0 : Lt (m' + 1 + (b - (n + 1))) t0 := a4 t0 (by simp)
              split
              · split
                · rename_i a b2 _
                  refine Lt.mkT (by simp) (mem4 ?_ ((hr' a (by simp)).mono (by omega)) ((hr' b2 (by simp)).mono (by omega)) h0) (by simp)
                  have : Lt (m' + 1) (.str (if x = "take" then "fun" else "fix")) := by
                    split <;> exact hstr m' _ (by decide +kernel)
                  exact this.mono (by omega)
                · exact ⟨by simp [PyData.depth], by simp [PyData.canLay0], by simp [shr]⟩
              · split
                · refine Lt.mkT (by simp) (mem3 ((hstr m' "case" (by decide +kernel)).mono (by omega)) h0 ?_) (by simp)
                  cases tr with
                  | nil =>
                    have g0 : Lt 2 (.tuple []) := Good.mkT (n := 0) (ds := []) (by simp) (by simp)
                    exact g0.mono (by omega)
                  | cons u us =>
                    have : m' + 1 + (b - (n + 1)) = (m' + 1 + (b - (n + 1) - 1)) + 1 := by omega
                    rw [this]
                    exact Lt.mkT (by omega) c2 (by simp)
                · rename_i hcase
                  have hsh := nums_short (r := r) hcase
                  rw [List.length_cons] at a3
                  refine Lt.mkT (by simp; omega) (fun d hd => ?_) (by simp)
                  rcases List.mem_cons.mp hd with rfl | hd
                  · exact (hr _ (by simp)).mono (by omega)
                  · exact a4 d hd
      · rw [decD_no (by rw [hrow]; rintro x r' z; cases z; exact hx ⟨_, rfl⟩)] at h; cases h
section
variable {P : Program} {w : World} {K : PySem.W.Frag} {mg : Str → Option Value} {base : Heap}
abbrev spDe (K : PySem.W.Frag) (m f : Nat) : Sp := spD K 3 fun ds d => ∃ (code : List PyData) (n : Nat) (bound : List PyData), ds = [.list code, .int n, .list bound] ∧ code.length < n + f ∧ code.length ≤ 1000 ∧ bound.length ≤ n ∧ n ≤ code.length ∧ (∀ e ∈ code, Lt m e) ∧ (∀ e ∈ bound, Lt m e) ∧ d = oDec (decD f code n bound)
theorem ok_decoded (T : Txt K mg) (m : Nat) : ∀ f, FnOk P w K mg base CX0 (f + 4) T.decoded.f T.decoded.fd ["code", "number", "bound"] (spDe K m f)
  | 0 => fn_no (by
    rintro vs H Q E ⟨_, _, _, _, _, _, ⟨code, n, bound, _, h, _, _, h2, _⟩, _⟩
    omega)
  | f + 1 => by
    have g_decoded : FnOk P w K mg base CX0 (f + 4) _ _ _ _ := ok_decoded T m f
    have g_is_list : FnOk P w K mg base CX0 1 _ _ _ _ := ok_is_list T
    have g_is_number : FnOk P w K mg base CX0 2 _ _ _ _ := ok_is_number T
    have g_is_below : FnOk P w K mg base CX0 3 _ _ _ _ := ok_is_below T
    have g_numbers_of : FnOk P w K mg base CX0 2 _ _ _ _ := ok_numbers_of T
    refine T.decoded.F.ok sc_decoded (fun vs H Q E z => z.1) (fun cdv Ar outer s H vs Q E hr z => ?_)
    obtain ⟨hl, G, ds, d, e, r, ⟨code, n, bound, rfl, hf, hcl, hbl, hnl, hall, hbnd, rfl⟩, k⟩ := z
    cases r with
    | @cons vc _ _ _ rc r =>
    cases r with
    | @cons vn _ _ _ rn r =>
    cases r with
    | @cons vb _ _ _ rb r =>
    cases r
    refine ⟨_, (pss_cons (ps_set (i := 3) sc_decoded.nd rfl (Or.inl rfl) (pe_ifExp (pt_cmpR op_lt (pv 1) (pe_callB call_lenX rfl T.z_len (by decide +kernel) (pa_cons (pv 0) pa_nil)) (nomark _)) (pe_ix ix_seq (pv 0) (pv 1) (fun _ _ => rfl)) pe_non))
      (pss_cons (ps_if (PW.pt (pw_or (pt_not (pt_val (pe_call g_is_list (hr.mono (by omega)) rfl T.is_list.m T.is_list.F.kp T.is_list.b .nil pass0 (pa_cons (pv 3) pa_nil)))) (pw_or (pt_cmpR (op_eqX hr.units) (pe_callB call_lenX rfl T.z_len (by decide +kernel) (pa_cons (pv 3) pa_nil)) pe_int (nomark _)) (pw_or1 (pt_not (pt_val (pe_callB call_isiX rfl T.z_isinstance (by decide +kernel) (pa_cons (pe_ix ix_seq (pv 3) pe_int (fun _ _ => rfl)) (pa_cons (pe_bltn (v := .ty "str") rfl T.z_str (by decide +kernel) rfl) pa_nil))))))))) (pss_one (ps_ret pe_non)) pss_nil)
      (pss_cons (ps_asg (pe_tup (pa_cons (pe_ix ix_seq (pv 3) pe_int (fun _ _ => rfl)) (pa_cons (pe_call g_numbers_of (hr.mono (by omega)) rfl T.numbers_of.m T.numbers_of.F.kp T.numbers_of.b .nil pass0 (pa_cons (pv 3) pa_nil)) (pa_cons (pe_lst pa_nil) (pa_cons (pe_op op_addX (pv 1) pe_int) pa_nil))))) (pg_tup rfl (pgs_cons (pg_name (i := 4) sc_decoded.nd rfl (Or.inl rfl)) (pgs_cons (pg_name (i := 5) sc_decoded.nd rfl (Or.inl rfl)) (pgs_cons (pg_name (i := 6) sc_decoded.nd rfl (Or.inl rfl)) (pgs_cons (pg_name (i := 7) sc_decoded.nd rfl (Or.inl rfl)) pgs_nil))))))
      (pss_cons (ps_if (pt_cmpR (op_eqX hr.units) (pv 4) pe_str (nomark _)) (pss_one (ps_ret (pe_ifExp (PW.pt (pw_and (pt_cmpR (op_eqX hr.units) (pe_callB call_lenX rfl T.z_len (by decide +kernel) (pa_cons (pv 3) pa_nil)) pe_int (nomark _)) (pw_and1 (pt_val (pe_call g_is_below (hr.mono (by omega)) rfl T.is_below.m T.is_below.F.kp T.is_below.b .nil pass0 (pa_cons (pe_ix ix_seq (pv 3) pe_int (fun _ _ => rfl)) (pa_cons (pe_callB call_lenX rfl T.z_len (by decide +kernel) (pa_cons (pv 2) pa_nil)) pa_nil))))))) (pe_tup (pa_cons (pe_tup (pa_cons pe_str (pa_cons (pe_ix ix_seq (pv 2) (pe_ix ix_seq (pv 3) pe_int (fun _ _ => rfl)) (fun _ _ => rfl)) pa_nil))) (pa_cons (pv 7) pa_nil))) pe_non))) pss_nil)
      (pss_cons (ps_set (i := 8) sc_decoded.nd rfl (Or.inl rfl) (pe_ifExp (PW.pt (pw_and (pt_cmpR (op_inL (hu65 hr)) (pv 4) (pe_tup (pa_cons pe_str (pa_cons pe_str pa_nil))) rfl) (pw_and1 (pt_truth (pv 5) (by intro _; rfl))))) (pe_lst (pa_cons (pe_ix ix_seq (pv 3) pe_int (fun _ _ => rfl)) (StX.pa_star (pv 2) pa_nil))) (pv 2)))
      (pss_cons (ps_for PassesOwn.never rfl (pi_row (pv 5)) (pg_name (i := 9) sc_decoded.nd rfl (Or.inl rfl)) (pss_cons (ps_set (i := 10) sc_decoded.nd rfl (Or.inl rfl) (pe_ifExp (PW.pt (pw_and (pt_val (pe_call g_is_number (hr.mono (by omega)) rfl T.is_number.m T.is_number.F.kp T.is_number.b .nil pass0 (pa_cons (pv 9) pa_nil))) (pw_and1 (pt_cmpR (op_eqX hr.units) (pv 9) (pv 7) (nomark _))))) (pe_call g_decoded (hr.mono (by omega)) rfl T.decoded.m T.decoded.F.kp T.decoded.b .nil pass0 (pa_cons (pv 0) (pa_cons (pv 7) (pa_cons (pv 8) pa_nil)))) pe_non))
      (pss_cons (ps_if (pt_cmpR op_isNX (pv 10) pe_non (nomark _)) (pss_one (ps_ret pe_non)) pss_nil)
      (pss_cons (ps_expr (pe_bm PySem.F.plainAttrs_list PySem.F.slot_list_append PySem.F.type_list_append mt_append (pv 6) (pa_cons (pe_ix ix_seq (pv 10) pe_int (fun _ _ => rfl)) pa_nil)))
      (pss_one (ps_set (i := 7) sc_decoded.nd rfl (Or.inl rfl) (pe_ix ix_seq (pv 10) pe_int (fun _ _ => rfl))))))))
      (pss_cons (ps_if (pt_not (pt_truth (pv 6) (by intro _; rfl))) (pss_one (ps_ret (pe_tup (pa_cons (pv 3) (pa_cons (pv 7) pa_nil))))) pss_nil)
      (pss_cons (ps_if (pt_cmpR (op_inL (hu65 hr)) (pv 4) (pe_tup (pa_cons pe_str (pa_cons pe_str pa_nil))) rfl) (pss_one (ps_ret (pe_tup (pa_cons (pe_tup (pa_cons (pe_ifExp (pt_cmpR (op_eqX hr.units) (pv 4) pe_str (nomark _)) pe_str pe_str) (pa_cons (pe_ix ix_seq (pv 3) pe_int (fun _ _ => rfl)) (pa_cons (pe_ix ix_seq (pv 3) pe_int (fun _ _ => rfl)) (pa_cons (pe_ix ix_seq (pv 6) pe_int (fun _ _ => rfl)) pa_nil))))) (pa_cons (pv 7) pa_nil))))) pss_nil)
      (pss_one (ps_ret (pe_ifExp (pt_cmpR (op_eqX hr.units) (pv 4) pe_str (nomark _)) (pe_tup (pa_cons (pe_tup (pa_cons pe_str (pa_cons (pe_ix ix_seq (pv 6) pe_int (fun _ _ => rfl)) (pa_cons (pe_callTy call_tupX rfl T.z_tuple (by decide +kernel) (pa_cons (pe_slice sl_X (pv 6) (po_some pe_int) po_none) pa_nil)) pa_nil)))) (pa_cons (pv 7) pa_nil))) (pe_tup (pa_cons (pe_tup (pa_cons (pv 4) (StX.pa_star (pv 6) pa_nil))) (pa_cons (pv 7) pa_nil)))))))))))))), ?_⟩
    have kn : decD (f + 1) code n bound = none → ∀ v G' H', Ext G H G' H' → Rp K G' v PyData.none → Q v H' := fun hno v G' H' e' q => k v G' H' e' (by rw [hno]; exact q)
    have hcr : rowOf (.list code) = some code := rfl
    refine ds_seq ?_
    refine ds_set (K := K) (d := (code[n]?).getD .none) e (dv_if (b := decide (n < code.length)) (DvT.is (dvt_test (dv_lt (dv_var rfl rn) (dv_len (dv_var rfl rc) hcr))) (by simp)) (fun h => ?_) fun h => ?_) fun vt G1 H1 e1 qt => ?_
    · rw [decide_eq_true_eq] at h
      refine dv_ix (dv_var rfl rc) (dv_var rfl rn) hcr ?_
      rw [atI_nat, List.getElem?_eq_getElem h]
      rfl
    · rw [decide_eq_false_iff_not] at h
      refine Dv.is dv_non ?_
      rw [List.getElem?_eq_none (by omega)]
      rfl
    generalize hth : (code[n]?).getD .none = th at qt
    dsimp only
    have hl : Dv K (tCall (sp1 K (fun d => .bool (isL d)) any1) [] E0 (tCons (tVar 3) tNil)) ((start ["code", "number", "bound", "thing", "word", "numbers", "terms", "here", "inner", "part", "found"] [vc, vn, vb]).set 3 (some vt)) G1 H1 (.bool (isL th)) := dv_call1 (A := any1) (dv_var rfl qt) trivial
    cases hrow : rowOf th with
    | none =>
      have hL : isL th = false := by rw [isL_row, hrow]; rfl
      refine ds_seq ?_
      refine ds_if (b := true) e1.gh ?_ ?_ ?_
      · exact DvT.is (dvt_or (c := false) (dvt_not (dvt_B hl)) fun h => by rw [hL] at h; cases h) (by rw [hL]; rfl)
      · exact fun _ G2 H2 e2 => ds_ret e2.gh dv_non fun v G3 H3 e3 q => kn (decD_no (by rw [hth, hrow]; intro _ _ z; cases z)) v G3 H3 ((e1.trans e2).trans e3) q
      · intro h; cases h
    | some ds =>
      have hL : isL th = true := by rw [isL_row, hrow]; rfl
      have hlen := dv_eq (K := K) (dv_len (dv_var (σ := ((start ["code", "number", "bound", "thing", "word", "numbers", "terms", "here", "inner", "part", "found"] [vc, vn, vb]).set 3 (some vt))) (i := 3) (G := G1) (H := H1) rfl qt) hrow) (dv_int (z := 0)) rfl
      rcases ds with _ | ⟨x0, ll⟩
      · refine ds_seq ?_
        refine ds_if (b := true) e1.gh ?_ ?_ ?_
        · exact DvT.is (dvt_or (c := true) (dvt_not (dvt_B hl)) fun h => DvT.is (dvt_or (c := false) (dvt_test hlen) fun h => by cases h) rfl) (by rw [hL]; rfl)
        · exact fun _ G2 H2 e2 => ds_ret e2.gh dv_non fun v G3 H3 e3 q => kn (decD_no (by rw [hth, hrow]; intro _ _ z; cases z)) v G3 H3 ((e1.trans e2).trans e3) q
        · intro h; cases h
      · have h0 : PyData.eqv (.int ((x0 :: ll).length : Int)) (.int 0) = false := by
          rw [eqv_int, decide_eq_false_iff_not]
          simp
          omega
        cases hs : isD x0 .str with
        | false =>
          refine ds_seq ?_
          refine ds_if (b := true) e1.gh ?_ ?_ ?_
          · exact DvT.is (dvt_or (c := true) (dvt_not (dvt_B hl)) fun h => DvT.is (dvt_or (c := true) (dvt_test hlen) fun h => DvT.is (dvt_not (dvt_B (dv_isi .str (dv_ix (d := x0) (dv_var rfl qt) dv_int hrow at0)))) (by rw [hs]; rfl)) (by rw [h0]; rfl)) (by rw [hL]; rfl)
          · exact fun _ G2 H2 e2 => ds_ret e2.gh dv_non fun v G3 H3 e3 q => kn (decD_no (by
              rw [hth, hrow]
              intro x r' z
              cases z
              cases hs)) v G3 H3 ((e1.trans e2).trans e3) q
          · intro h; cases h
        | true =>
          obtain ⟨x, rfl⟩ : ∃ x, x0 = .str x := by cases x0 <;> simp_all [isD, kd, isK]
          have hdec : decD (f + 1) code n bound = decB f code n bound th x ll := by
            have := decD_str (f := f) (bound := bound) (x := x) (r := ll) (by rw [hth]; exact hrow)
            rwa [hth] at this
          rw [hdec] at k
          refine ds_seq ?_
          refine ds_if (b := false) e1.gh ?_ ?_ ?_
          · exact DvT.is (dvt_or (c := false) (dvt_not (dvt_B hl)) fun h => DvT.is (dvt_or (c := false) (dvt_test hlen) fun h => DvT.is (dvt_not (dvt_B (dv_isi .str (dv_ix (d := .str x) (dv_var rfl qt) dv_int hrow at0)))) rfl) (by rw [h0]; rfl)) (by rw [hL]; rfl)
          · intro h; cases h
          intro _ G2 H2 e2
          have e02 := e1.trans e2
          have hn : n < code.length := by
            rcases Nat.lt_or_ge n code.length with q | q
            · exact q
            · rw [List.getElem?_eq_none q] at hth
              subst hth
              cases hrow
          have hcn : code[n] = th := by
            rw [← hth, List.getElem?_eq_getElem hn]
            rfl
          have hme : Lt m th := by
            rw [← hcn]
            exact hall _ (List.getElem_mem hn)
          obtain ⟨m', rfl, hz, hr'⟩ := Lt.row' hme hrow
          have hgd : ∀ e ∈ PyData.str x :: ll, ∀ l, rowOf e = some l → l.length < 1000 := fun e he l hl => by
            obtain ⟨_, _, h1, _⟩ := Lt.row' (hr' e he) hl
            exact h1
          have hll : ∀ d ∈ ll, Lt (m' + 1) d := fun d hd => (hr' d (List.mem_cons_of_mem _ hd)).mono (by omega)
          have hix : ∀ σ : L2.St, σ[3]? = some (some vt) → Dv K (tOp (rIx K) (tVar 3) (tC (.int 0))) σ G2 H2 (.str x) := fun σ hσ => dv_ix (dv_var hσ (e2.rp qt)) dv_int hrow at0
          have hnu : ∀ σ : L2.St, σ[3]? = some (some vt) → Dv K (tCall (spNO K) [] E0 (tCons (tVar 3) tNil)) σ G2 H2 (.list (nums x ll)) := fun σ hσ => dv_call (dva_cons (dv_var hσ (e2.rp qt)) dva_nil) rfl ⟨th, x, ll, rfl, hrow, by rw [List.length_cons] at hz; omega, fun e he => hgd e (List.mem_cons_of_mem _ he), rfl⟩
          have had : ∀ σ : L2.St, σ[1]? = some (some vn) → Dv K (tOp (rAddX K) (tVar 1) (tC (.int 1))) σ G2 H2 (.int ((n : Int) + 1)) := fun σ hσ => dv_addI (dv_var hσ (e02.rp rn)) dv_int
          refine ds_seq ?_
          refine hix _ rfl G2 H2 (Up.refl e2.gh) _ fun vw G3 H3 e3 qw => hnu _ rfl G3 H3 e3.up _ fun vu G4 H4 e4 qu => ⟨Nat.zero_le _, fun tl htl => had _ rfl G4 _ ⟨(e3.trans e4).gg, e4.gh.trans (same_upd htl _)⟩ _ fun vh G5 H5 e5 qh => ⟨by show 4 ≤ sizeLine; decide, fun p hp => ⟨p, _, rfl, .inl (.inl upd_same), rfl, _, _, rfl, _, _, rfl, _, _, rfl, _, _, rfl, rfl, ?_⟩⟩⟩
          dsimp only
          cases qh
          have e04 := (e02.trans e3).trans e4
          have htl0 : H tl = none := e04.fresh htl
          have gtl4 : G4 tl = none := Same.none e04.gh htl
          have htl5 : H5 tl = some (.lst []) := e5.hh _ _ upd_same
          have gtl5 : G5 tl = none := e5.loose gtl4 (by rw [upd_same]; simp)
          have e06 : Ext G H G5 (upd H5 p (.tup [vw, vu, .ref tl, .int ((n : Int) + 1)])) := ((e04.allocM htl _).trans e5).allocM hp _
          have htl6 : upd H5 p (.tup [vw, vu, .ref tl, .int ((n : Int) + 1)]) tl = some (.lst []) := by
            rw [upd_ne (fun z => by rw [← z, htl5] at hp; cases hp)]
            exact htl5
          have qw5 : Rp K G5 vw (.str x) := e5.rp (e4.rp qw)
          have qu5 : Rp K G5 vu (.list (nums x ll)) := e5.rp qu
          have qt5 : Rp K G5 vt th := e5.rp (e4.rp (e3.rp (e2.rp qt)))
          have rc5 := e06.rp rc
          have rb5 := e06.rp rb
          clear hix hnu had
          generalize hH6 : upd H5 p (.tup [vw, vu, .ref tl, .int ((n : Int) + 1)]) = H6 at e06 htl6
          refine ds_seq ?_
          refine ds_if e06.gh (dvt_test (dv_eq (dv_var rfl qw5) dv_str rfl)) (fun h G7 H7 e7 => ?_) fun h1 G7 H7 e7 => ?_
          · obtain rfl : x = "look" := by simpa [eqv_str] using h
            have hb : decB f code n bound th "look" ll = lookD ll n bound := if_pos rfl
            rw [hb] at k
            refine ds_ret (K := K) e7.gh (d := oDec (lookD ll n bound)) (dv_if (b := isB1 bound.length ll) (DvT.is (dvt_and (c := isB1 bound.length ll) (dvt_test (dv_eq (dv_len (dv_var rfl (e7.rp qt5)) hrow) dv_int rfl)) fun h => ?_) ?_) (fun h => ?_) fun h => ?_) fun v G8 H8 e8 q => k v G8 H8 ((e06.trans e7).trans e8) q
            · obtain ⟨a, rfl⟩ := len2 h
              exact dvt_B (dv_call2 (f := fun d m => match m with | .int m => .bool (isBe d m) | _ => .none) (dv_ix (dv_var rfl (e7.rp qt5)) dv_int hrow rfl) (dv_len (dv_var rfl (e7.rp rb5)) rfl) ⟨_, rfl⟩)
            · rcases ll with _ | ⟨a, _ | ⟨b, ll⟩⟩
              · simp [isB1]
              · rw [eqv_int]
                simp
              · simp [isB1]
            · obtain ⟨a, rfl⟩ : ∃ a, ll = [a] := by
                rcases ll with _ | ⟨a, _ | ⟨b, ll⟩⟩
                · cases h
                · exact ⟨a, rfl⟩
                · cases h
              obtain ⟨i, rfl, hi⟩ := isBe_nat (a := a) (m := bound.length) h
              have hy : bound[i]? = some bound[i] := List.getElem?_eq_getElem hi
              rw [lookD_yes hy]
              exact dv_tup2 (dv_tup2 dv_str (dv_ix (dv_var rfl (e7.rp rb5)) (dv_ix (d := .int i) (dv_var rfl (e7.rp qt5)) dv_int hrow rfl) rfl (by rw [atI_nat]; exact hy))) (dv_var rfl (.int _))
            · rw [lookD_no h]
              exact dv_non
          replace h1 : ¬ x = "look" := by simpa [eqv_str] using h1
          have e07 := e06.trans e7
          refine ds_seq ?_
          refine ds_set (K := K) (d := .list (innD x ll bound)) e7.gh (dv_if (dvt_and (dvt_test (dv_inT (xs := ["take", "loop"]) (dv_var rfl (e7.rp qw5)) (dv_tup2 dv_str dv_str) rfl)) fun _ => dvt_truth (dv_var rfl (e7.rp qu5)) rfl) (fun h => ?_) fun h => ?_) fun vi G8 H8 e8 qi => ?_
          · obtain ⟨a, b, c, rfl⟩ := nums_tl h
            have hi : innD x [a, b, c] bound = a :: bound := if_pos h
            rw [hi]
            exact Dv.is (dv_lst (dva_cons (d := a) (dv_ix (dv_var rfl (e7.rp qt5)) dv_int hrow rfl) (dva_star (es := []) (dv_var rfl (e7.rp rb5)) rfl dva_nil)) (by simp; omega)) (by simp)
          · have hi : innD x ll bound = bound := if_neg (by intro z; exact absurd (z.symm.trans h) (by simp))
            rw [hi]
            exact dv_var rfl (e7.rp rb5)
          have e08 := e07.trans e8
          have htl8 : H8 tl = some (.lst []) := e8.hh _ _ (e7.hh _ _ htl6)
          have gtl8 : G8 tl = none := by
            have g7 : G7 tl = none := e7.loose gtl5 (by rw [htl6]; simp)
            exact e8.loose g7 (by rw [e7.hh _ _ htl6]; simp)
          have e58 := e7.trans e8
          have hnl : (nums x ll).length ≤ 1000 := (nums_sub hll).2
          have hib : ∀ e ∈ innD x ll bound, Lt (m' + 1) e := by
            unfold innD
            split
            · split
              · intro e he
                rcases List.mem_cons.mp he with rfl | he
                · exact hll _ (by simp)
                · exact hbnd e he
              · exact hbnd
            · exact hbnd
          have hbl' : (innD x ll bound).length ≤ n + 1 := by
            unfold innD
            split
            · split <;> first | omega | (simp; omega)
            · omega
          refine ds_seq ?_
          refine ds_for e8.gh (dvi_row (dv_var rfl (e58.rp qu5)) (ds := nums x ll) rfl) fun G9 H9 e9 => ?_
          have e09 := e08.trans e9
          have e59 := e58.trans e9
          have htl9 : H9 tl = some (.lst []) := e9.hh _ _ htl8
          have gtl9 : G9 tl = none := e9.loose gtl8 (by rw [htl8]; simp)
          let dec := fun m => decD f code m (innD x ll bound)
          refine ⟨fun i σ Gc Hc => ∃ (a b : Option V) (xs : List V) (ts : List PyData) (h : Nat), σ = [some vc, some vn, some vb, some vt, some vw, some vu, some (.ref tl), some (.int h), some vi, a, b] ∧ Up G9 Gc Hc ∧ Ext G H Gc Hc ∧ Gc tl = none ∧ Hc tl = some (.lst xs) ∧ RpAll K Gc xs ts ∧ ts.length = i ∧ n + 1 ≤ h ∧ h ≤ code.length ∧
            decs dec (n + 1) (nums x ll) = (match decs dec h ((nums x ll).drop i) with | some (ts', m) => some (ts ++ ts', m) | none => none), ?_, ?_, ?_, ?_⟩
          · rintro i σ1 Gc Hc ⟨a, b, xs, ts, h, _, u, _⟩
            exact ⟨u.gg, u.gh⟩
          · refine ⟨none, none, [], [], n + 1, ?_, Up.refl e9.gh, e09, gtl9, htl9, .nil, rfl, Nat.le_refl _, by omega, ?_⟩
            · rfl
            · rw [List.drop_zero]
              cases decs dec (n + 1) (nums x ll) with
              | none => rfl
              | some p => rfl
          · rintro i p σ1 Gc Hc hp ⟨a, b, xs, ts, h, rfl, u9, ec, gc, hc, rcx, hti, hnh, hhc, heq⟩ xv G10 H10 e10 qp
            have hdrop : (nums x ll).drop i = p :: (nums x ll).drop (i + 1) := by
              obtain ⟨h1, h2⟩ := List.getElem?_eq_some_iff.mp hp
              rw [← h2]
              exact (List.drop_eq_getElem_cons h1)
            rw [hdrop, decs_cons] at heq
            show tSeq _ _ _ _ _
            dsimp only
            have e010 := ec.trans e10
            have u10 := u9.trans e10
            refine ds_seq ?_
            refine ds_set (K := K) (d := oDec (if numIs p h = true then dec h else none)) e10.gh (dv_if (b := numIs p h) (DvT.is (dvt_and (dvt_B (dv_call1 (f := fun d => .bool (isNu d)) (A := any1) (dv_var rfl qp) trivial)) fun hh => dvt_test (dv_eq (dv_var rfl qp) (dv_var rfl (.int _)) ?_)) (numIs_eq p h)) (fun hh => ?_) fun hh => ?_) fun vf G11 H11 e11 qf => ?_
            · cases p <;> simp [isNu] at hh <;> rfl
            · rw [if_pos hh]
              exact dv_call (dva_cons (dv_var rfl (e010.rp rc)) (dva_cons (dv_var rfl (.int _)) (dva_cons (dv_var rfl ((e9.up.up u10).rp qi)) dva_nil))) rfl ⟨code, h, innD x ll bound, rfl, by omega, hcl, by omega, hhc, hall, hib, rfl⟩
            · rw [if_neg (by rw [hh]; simp)]
              exact dv_non
            have e011 := e010.trans e11
            refine ds_seq ?_
            refine ds_if e11.gh (dvt_test (dv_isN (dv_var rfl qf))) (fun hh G12 H12 e12 => ?_) fun hh G12 H12 e12 => ?_
            · rw [isN_oDec] at hh
              refine ds_ret e12.gh (dv_non (K := K)) fun v G13 H13 e13 q => k v G13 H13 ((e011.trans e12).trans e13) ?_
              have hno : decs dec (n + 1) (nums x ll) = none := by
                rw [heq]
                by_cases hq : numIs p h = true
                · rw [if_pos hq] at hh
                  rw [if_pos hq]
                  cases hd : dec h with
                  | none => rfl
                  | some q => rw [hd] at hh; cases hh
                · rw [if_neg hq]
              have hb : decB f code n bound th x ll = none := by
                unfold decB
                rw [if_neg h1]
                show (match decs dec (n + 1) (nums x ll) with | some (ts, m) => some (mkD x ll th ts, m) | none => none) = none
                rw [hno]
              rw [hb]
              exact q
            · rw [isN_oDec] at hh
              have hq : numIs p h = true := by
                by_cases hq : numIs p h = true
                · exact hq
                · rw [if_neg hq] at hh; cases hh
              rw [if_pos hq] at hh qf heq
              cases hd : dec h with
              | none => rw [hd] at hh; cases hh
              | some q =>
                obtain ⟨t1, b1⟩ := q
                rw [hd] at qf heq
                dsimp only at heq
                obtain ⟨c1, c2, _⟩ := decD_ok hall f h _ t1 b1 hib hd
                have hfr : rowOf (oDec (some (t1, b1))) = some [t1, .int b1] := rfl
                have htc : H12 tl = some (.lst xs) := e12.hh _ _ (e11.hh _ _ (e10.hh _ _ hc))
                have e1012 := (e10.trans e11).trans e12
                refine ds_seq ?_
                refine ds_app (K := K) (d := t1) e12.gh rfl htc (by rw [rcx.length, hti]; have := (List.getElem?_eq_some_iff.mp hp).1; omega) (dv_ix (dv_var rfl (e12.rp qf)) dv_int hfr rfl) fun y G13 H13 e13 q13 => ?_
                have gt13 : G13 tl = none := (e1012.trans e13).loose gc (by rw [hc]; simp)
                have e013 : Ext G H G13 (upd H13 tl (.lst (xs ++ [y]))) := ((e011.trans e12).trans e13).set htl0 gt13 _
                refine ds_set (K := K) (d := .int b1) e013.gh (dv_ix (dv_var rfl (e13.rp (e12.rp qf))) dv_int hfr rfl) fun v G14 H14 e14 q14 => ?_
                cases q14
                refine ⟨G14, _, _, xs ++ [y], ts ++ [t1], b1, rfl, ?_, e013.trans e14, ?_, e14.hh _ _ upd_same, ?_, by simp [hti], by omega, c2, ?_⟩
                · exact ⟨(((u10.gg.trans e11.gg).trans e12.gg).trans e13.gg).trans e14.gg, e14.gh⟩
                · exact e14.loose gt13 (by rw [upd_same]; simp)
                · exact RpAll.app (RpAll.mono ((e1012.gg.trans e13.gg).trans e14.gg) _ _ rcx) (.cons (e14.rp q13) .nil)
                · rw [heq]
                  cases decs dec b1 ((nums x ll).drop (i + 1)) with
                  | none => rfl
                  | some q => simp
          · rintro σ1 Gc Hc ⟨a, b, xs, ts, h, rfl, u9, ec, gc, hc, rcx, hti, hnh, hhc, heq⟩
            dsimp only
            rw [List.drop_length] at heq
            have heq : decs dec (n + 1) (nums x ll) = some (ts, h) := by
              rw [heq]
              simp [decs]
            have hb : decB f code n bound th x ll = some (mkD x ll th ts, h) := by
              unfold decB
              rw [if_neg h1]
              show (match decs dec (n + 1) (nums x ll) with | some (ts, m) => some (mkD x ll th ts, m) | none => none) = _
              rw [heq]
            rw [hb] at k
            have es : Ext G H (upd Gc tl (.lst xs)) Hc := ec.still htl0 gc hc
            have us : Up G5 (upd Gc tl (.lst xs)) Hc := ⟨(e59.gg.trans u9.gg).trans (same_upd gc _), es.gh⟩
            have rts : Rp K (upd Gc tl (.lst xs)) (.ref tl) (.list ts) := .lst upd_same (RpAll.mono (same_upd gc _) _ _ rcx)
            generalize upd Gc tl (.lst xs) = Gs at es us rts
            have hrt : rowOf (.list ts) = some ts := rfl
            refine ds_seq ?_
            refine ds_if es.gh (dvt_not (dvt_truth (dv_var rfl rts) hrt)) (fun hh G7 H7 e7 => ?_) fun hh G7 H7 e7 => ?_
            · have hts : ts = [] := by
                cases ts with
                | nil => rfl
                | cons t r => cases hh
              subst hts
              exact ds_ret (K := K) e7.gh (dv_tup2 (dv_var rfl (e7.rp (us.rp qt5))) (dv_var rfl (.int _))) fun v G8 H8 e8 q => k v G8 H8 ((es.trans e7).trans e8) q
            obtain ⟨t0, tr, rfl⟩ : ∃ t0 tr, ts = t0 :: tr := by
              cases ts with
              | nil => cases hh
              | cons t r => exact ⟨t, r, rfl⟩
            have hne : nums x ll ≠ [] := by
              intro z
              rw [z] at heq
              simp [decs] at heq
            refine ds_seq ?_
            refine ds_if e7.gh (dvt_test (dv_inT (xs := ["take", "loop"]) (dv_var rfl (e7.rp (us.rp qw5))) (dv_tup2 dv_str dv_str) rfl)) (fun hh G8 H8 e8 => ?_) fun h2 G8 H8 e8 => ?_
            · obtain ⟨a1, b1, c1, rfl⟩ := nums_tl (x := x) (r := ll) (by
                rw [show isTL x = true from hh]
                cases q : nums x ll with
                | nil => exact absurd q hne
                | cons _ _ => rfl)
              have hmk : mkD x [a1, b1, c1] th (t0 :: tr) = .tuple [.str (if x = "take" then "fun" else "fix"), a1, b1, t0] := by
                unfold mkD
                simp only
                rw [if_pos (show isTL x = true from hh)]
              rw [hmk] at k
              have r8 := fun {v : V} {d : PyData} (q : Rp K G5 v d) => e8.rp (e7.rp (us.rp q))
              refine ds_ret (K := K) e8.gh (dv_tup2 (dv_tup4 (dv_if (b := decide (x = "take")) (DvT.is (dvt_test (dv_eq (dv_var rfl (r8 qw5)) dv_str rfl)) eqv_str) (fun h => ?_) fun h => ?_) (dv_ix (dv_var rfl (r8 qt5)) dv_int hrow rfl) (dv_ix (dv_var rfl (r8 qt5)) dv_int hrow rfl) (dv_ix (dv_var rfl (e8.rp (e7.rp rts))) dv_int hrt at0)) (dv_var rfl (.int _))) fun v G9 H9 e9 q => k v G9 H9 (((es.trans e7).trans e8).trans e9) q
              · rw [decide_eq_true_eq] at h
                rw [if_pos h]
                exact dv_str
              · rw [decide_eq_false_iff_not] at h
                rw [if_neg h]
                exact dv_str
            · have r8 := fun {v : V} {d : PyData} (q : Rp K G5 v d) => e8.rp (e7.rp (us.rp q))
              have rt8 := e8.rp (e7.rp rts)
              have hntl : ¬ isTL x = true := by
                rw [show isTL x = false from h2]
                simp
              unfold tNext
              dsimp only
              refine ds_ret (K := K) (d := oDec (some (mkD x ll th (t0 :: tr), h))) e8.gh (dv_if (b := decide (x = "case")) (DvT.is (dvt_test (dv_eq (dv_var rfl (r8 qw5)) dv_str rfl)) eqv_str) (fun h3 => ?_) fun h3 => ?_) fun v G9 H9 e9 q => k v G9 H9 (((es.trans e7).trans e8).trans e9) q
              · rw [decide_eq_true_eq] at h3
                have hmk : mkD x ll th (t0 :: tr) = .tuple [.str "case", t0, .tuple tr] := by
                  unfold mkD
                  simp only
                  rw [if_neg hntl, if_pos h3]
                rw [hmk]
                have hcut : rowOf (cutR (.list (t0 :: tr)) (some 1) none) = some tr := by
                  rw [cutR_row hrt]
                  exact congrArg some cutL_tl
                exact dv_tup2 (dv_tup3 dv_str (dv_ix (dv_var rfl rt8) dv_int hrt at0) (dv_tupOf (dv_sl (dv_var rfl rt8) hrt (dvo_some (K := K) dv_int) dvo_none) hcut)) (dv_var rfl (.int _))
              · rw [decide_eq_false_iff_not] at h3
                have hmk : mkD x ll th (t0 :: tr) = .tuple (.str x :: t0 :: tr) := by
                  unfold mkD
                  simp only
                  rw [if_neg hntl, if_neg h3]
                rw [hmk]
                have hlt : tr.length + 1 ≤ 1000 := by
                  rw [← List.length_cons (a := t0), hti]
                  exact hnl
                exact dv_tup2 (Dv.is (dv_tup (dva_cons (dv_var rfl (r8 qw5)) (dva_star (es := []) (dv_var rfl rt8) hrt dva_nil)) (by simp; omega)) (by simp)) (dv_var rfl (.int _))
end
end K82

set_option Elab.async false
set_option linter.all false
set_option maxRecDepth 100000
set_option maxHeartbeats 4000000
/-! How much data there is; read_code. -/
namespace K82
open PySem L2 PyProof.Rows
mutual
def cnt : PyData → Nat
  | .list l => cnts l + 1
  | .tuple l => cnts l + 1
  | .dict _ => 1
  | .none => 1
  | .bool _ => 1
  | .int _ => 1
  | .str _ => 1
def cnts : List PyData → Nat
  | [] => 0
  | d :: ds => cnt d + cnts ds
end
mutual
theorem toT_cnt : ∀ d : PyData, cnt (toT d) = cnt d
  | .none => rfl
  | .bool _ => rfl
  | .int _ => rfl
  | .str _ => rfl
  | .dict _ => rfl
  | .list l => by rw [toT, cnt, cnt, toTs_cnt l]
  | .tuple l => by rw [toT, cnt, cnt, toTs_cnt l]
theorem toTs_cnt : ∀ l : List PyData, cnts (toTs l) = cnts l
  | [] => rfl
  | d :: ds => by rw [toTs, cnts, cnts, toT_cnt d, toTs_cnt ds]
end
theorem cnt_row {d : PyData} {ds : List PyData} (h : rowOf d = some ds) : cnt d = cnts ds + 1 := by
  rcases rowOf_cases h with q | q <;> subst q <;> rw [cnt]
theorem cnts_mem : ∀ {l : List PyData} {d : PyData}, d ∈ l → cnt d ≤ cnts l
  | [], _, h => by simp at h
  | e :: l, d, h => by
    rw [cnts]
    rcases List.mem_cons.mp h with rfl | h
    · omega
    · have := cnts_mem h
      omega
theorem cnts_app : ∀ (a b : List PyData), cnts (a ++ b) = cnts a + cnts b
  | [], b => by simp [cnts]
  | d :: a, b => by rw [List.cons_append, cnts, cnts, cnts_app a b]; omega
theorem allS_cons {α : Type} {o : Option α} {r : List (Option α)} {ts : List α} (h : allS (o :: r) = some ts) : ∃ t us, o = some t ∧ allS r = some us ∧ ts = t :: us := by
  cases o with
  | none => cases h
  | some t =>
    cases q : allS r with
    | none => simp [allS, q] at h
    | some us =>
      simp [allS, q] at h
      exact ⟨t, us, rfl, rfl, h.symm⟩
theorem kTm_size (m : Int) : ∀ (n : Nat) (d : PyData) (t : Tm), kTm m n d = some t → t.size ≤ cnt d
  | 0, _, _, h => by cases h
  | n + 1, d, t, h => by
    have hall : ∀ (l : List PyData) (ts : List Tm), allS (l.map (kTm m n)) = some ts → Tm.sizes ts ≤ cnts l := by
      intro l
      induction l with
      | nil =>
        intro ts h
        cases h
        exact Nat.le_refl _
      | cons d l ih =>
        intro ts h
        obtain ⟨t, us, h1, h2, rfl⟩ := allS_cons h
        have a1 := kTm_size m n d t h1
        have a2 := ih us h2
        rw [Tm.sizes, cnts]
        omega
    unfold kTm at h
    split at h
    · rename_i x q
      rw [cnt_row q]
      split at h
      · cases h
        simp [Tm.size]
      · cases h
    · rename_i x a q
      rw [cnt_row q]
      split at h
      · unfold nameT at h
        split at h
        · split at h
          · cases h
            simp [Tm.size]
          · cases h
        · cases h
      · split at h
        · unfold conT at h
          split at h
          · split at h
            · cases h
              simp [Tm.size]
            · cases h
          · cases h
        · cases h
    · rename_i x a b q
      rw [cnt_row q]
      simp only [cnts]
      split at h
      · obtain ⟨t', l', h1, h2, rfl⟩ := caseT_some h
        have a1 := kTm_size m n a t' h1
        have a2 : Tm.sizes l' ≤ cnt b := by
          split at h2
          · rename_i l hl
            split at h2
            · have := hall l l' h2
              rw [cnt_row hl]
              omega
            · cases h2
          · cases h2
        rw [Tm.size]
        omega
      · split at h
        · obtain ⟨t', u', h1, h2, rfl⟩ := twoT_some h
          have a1 := kTm_size m n a t' h1
          have a2 := kTm_size m n b u' h2
          rw [Tm.size]
          omega
        · split at h
          · obtain ⟨t', u', h1, h2, rfl⟩ := twoT_some h
            have a1 := kTm_size m n a t' h1
            have a2 := kTm_size m n b u' h2
            rw [Tm.size]
            omega
          · cases h
    · rename_i x a b c q
      rw [cnt_row q]
      simp only [cnts]
      split at h
      · obtain ⟨y, s', t', rfl, h1, h2, h3, rfl⟩ := bindT_some h
        have a1 := kTm_size m n c t' h2
        rw [Tm.size]
        omega
      · split at h
        · obtain ⟨y, s', t', rfl, h1, h2, h3, rfl⟩ := bindT_some h
          have a1 := kTm_size m n c t' h2
          rw [Tm.size]
          omega
        · cases h
    · cases h
theorem decs_cnt {dec : Nat → Option (PyData × Nat)} {B : Nat} (hdec : ∀ a t b, dec a = some (t, b) → a < b ∧ cnt t ≤ (b - a) * B) : ∀ {ps : List PyData} {n : Nat} {ts : List PyData} {m' : Nat}, decs dec n ps = some (ts, m') → n ≤ m' ∧ cnts ts ≤ (m' - n) * B
  | [], n, ts, m', h => by
    cases h
    exact ⟨Nat.le_refl _, by simp [cnts]⟩
  | p :: ps, n, ts, m', h => by
    rw [decs_cons] at h
    split at h
    · cases h1 : dec n with
      | none => rw [h1] at h; cases h
      | some q =>
        obtain ⟨t, m1⟩ := q
        rw [h1] at h
        dsimp only at h
        obtain ⟨a1, a3⟩ := hdec n t m1 h1
        cases h2 : decs dec m1 ps with
        | none => rw [h2] at h; cases h
        | some q2 =>
          obtain ⟨ts2, m2⟩ := q2
          rw [h2] at h
          cases h
          obtain ⟨b1, b2⟩ := decs_cnt hdec h2
          refine ⟨by omega, ?_⟩
          rw [cnts]
          have e : (m' - n) = (m1 - n) + (m' - m1) := by omega
          rw [e, Nat.add_mul]
          omega
    · cases h
theorem decD_cnt {code : List PyData} {C : Nat} (hm : ∀ e ∈ code, cnt e ≤ C) : ∀ (f n : Nat) (bound : List PyData) (t : PyData) (b : Nat), (∀ e ∈ bound, cnt e ≤ C) → decD f code n bound = some (t, b) → n < b ∧ cnt t ≤ (b - n) * (2 * C + 3)
  | 0, n, bound, t, b, hb, h => by cases h
  | f + 1, n, bound, t, b, hb, h => by
    cases hrow : rowOf ((code[n]?).getD .none) with
    | none => rw [decD_no (by rw [hrow]; intro _ _ z; cases z)] at h; cases h
    | some ds =>
      rcases ds with _ | ⟨x0, r⟩
      · rw [decD_no (by rw [hrow]; intro _ _ z; cases z)] at h; cases h
      by_cases hx : ∃ x, x0 = .str x
      · obtain ⟨x, rfl⟩ := hx
        rw [decD_str hrow] at h
        have hn : n < code.length := by
          rcases Nat.lt_or_ge n code.length with q | q
          · exact q
          · rw [List.getElem?_eq_none q] at hrow
            cases hrow
        have hth : (code[n]?).getD .none = code[n] := by rw [List.getElem?_eq_getElem hn]; rfl
        rw [hth] at h hrow
        have hme : cnt code[n] ≤ C := hm _ (List.getElem_mem hn)
        have hrr : cnts r + 2 ≤ C := by
          have := cnt_row hrow
          rw [cnts, cnt] at this
          omega
        have hr' : ∀ d ∈ r, cnt d ≤ C := fun d hd => by
          have := cnts_mem hd
          omega
        unfold decB at h
        split at h
        · unfold lookD at h
          split at h
          · split at h
            · rename_i i hi
              obtain ⟨j, hj, hjl⟩ := isBe_nat hi
              cases hj
              cases hy : bound[(j : Int).toNat]? with
              | none => rw [hy] at h; cases h
              | some y =>
                rw [hy] at h
                cases h
                have hyl := hb y (List.mem_of_getElem? hy)
                refine ⟨by omega, ?_⟩
                rw [show n + 1 - n = 1 by omega]
                simp only [cnt, cnts]
                omega
            · cases h
          · cases h
        · rename_i hlook
          cases h2 : decs (fun m => decD f code m (innD x r bound)) (n + 1) (nums x r) with
          | none => rw [h2] at h; cases h
          | some q =>
            obtain ⟨ts, b'⟩ := q
            rw [h2] at h
            cases h
            have hib : ∀ e ∈ innD x r bound, cnt e ≤ C := by
              unfold innD
              split
              · split
                · intro e he
                  rcases List.mem_cons.mp he with rfl | he
                  · exact hr' _ (by simp)
                  · exact hb e he
                · exact hb
              · exact hb
            obtain ⟨a1, a2⟩ := decs_cnt (B := 2 * C + 3) (fun a t b hd => decD_cnt hm f a _ t b hib hd) h2
            refine ⟨by omega, ?_⟩
            have e1 : (b - n) * (2 * C + 3) = (b - (n + 1)) * (2 * C + 3) + (2 * C + 3) := by
              rw [← Nat.succ_mul]
              congr 1
              omega
            rw [e1]
            unfold mkD
            split
            · omega
            · rename_i t0 tr
              rw [cnts] at a2
              split
              · split
                · rename_i a b2 _
                  have := hr' a (by simp)
                  have := hr' b2 (by simp)
                  simp only [cnt, cnts]
                  omega
                · simp only [cnt]
                  omega
              · split
                · simp only [cnt, cnts]
                  omega
                · simp only [cnt, cnts]
                  omega
      · rw [decD_no (by rw [hrow]; rintro x r' z; cases z; exact hx ⟨_, rfl⟩)] at h; cases h
/-- what stands in a code -/
def candD (m : Int) (l : List PyData) : Option Tm := match decD 51 (l.map toT) 0 [] with
  | none => none
  | some (t, b) => if b = l.length then kTm m 60 t else none
def passD (l : List PyData) : Option Tm → Option Tm
  | some tm => if (decide (typ [] tm = some .nil) && PyData.eqvAll (put [] 0 tm) (l.map toT)) = true then some tm else none
  | none => none
/-- the closed term of the base that a code is of -/
def readD (m : Int) (code : PyData) : Option Tm := match rowOf code with
  | none => none
  | some l => passD l (candD m l)
/-- small codes, or what is no code -/
def CodeOk (code : PyData) : Prop := ∀ l, rowOf code = some l → l.length ≤ 50 ∧ ∀ e ∈ l, Lt 6 e ∧ cnt e ≤ 100
end K82

set_option Elab.async false
set_option linter.all false
set_option maxRecDepth 100000
set_option maxHeartbeats 4000000
/-! read_code. -/
namespace K82
open PySem L2 PyProof.Rows
theorem getS_put {α : Type} {l : List (Str × α)} {x y : Str} {a : α} : getS (putS l x a) y = if x = y then some a else getS l y := by
  induction l with
  | nil =>
    by_cases e : x = y <;> simp [putS, getS, e]
  | cons p l ih =>
    by_cases h : (l.any fun p => decide (p.1 = x)) = true
    · have h2 : putS (p :: l) x a = (if p.1 = x then (p.1, a) else p) :: l.map (fun p => if p.1 = x then (p.1, a) else p) := by
        unfold putS
        rw [if_pos (by rw [List.any_cons, h, Bool.or_true]), List.map_cons]
      have h3 : putS l x a = l.map (fun p => if p.1 = x then (p.1, a) else p) := if_pos h
      rw [h3] at ih
      rw [h2]
      by_cases e1 : p.1 = x
      · rw [if_pos e1]
        by_cases e : x = y
        · simp [getS, e1, e]
        · have : ¬ p.1 = y := fun z => e (e1.symm.trans z)
          rw [if_neg e] at ih ⊢
          have q1 : getS ((p.1, a) :: l.map (fun p => if p.1 = x then (p.1, a) else p)) y = getS (l.map (fun p => if p.1 = x then (p.1, a) else p)) y := by simp [getS, this]
          have q2 : getS (p :: l) y = getS l y := by simp [getS, this]
          rw [q1, q2, ih]
      · rw [if_neg e1]
        by_cases e2 : p.1 = y
        · have : ¬ x = y := fun z => e1 (e2.trans z.symm)
          rw [if_neg this]
          simp [getS, e2]
        · have q1 : getS (p :: l.map (fun p => if p.1 = x then (p.1, a) else p)) y = getS (l.map (fun p => if p.1 = x then (p.1, a) else p)) y := by simp [getS, e2]
          have q2 : getS (p :: l) y = getS l y := by simp [getS, e2]
          rw [q1, q2, ih]
    · by_cases e1 : p.1 = x
      · have h2 : putS (p :: l) x a = (p.1, a) :: l.map (fun p => if p.1 = x then (p.1, a) else p) := by
          unfold putS
          rw [if_pos (by rw [List.any_cons, decide_eq_true e1, Bool.true_or]), List.map_cons, if_pos e1]
        have h3 : l.map (fun p => if p.1 = x then (p.1, a) else p) = l := by
          refine (List.map_congr_left (g := id) fun q hq => ?_).trans (List.map_id l)
          rw [if_neg]
          · rfl
          · intro z
            exact h (List.any_eq_true.mpr ⟨q, hq, decide_eq_true z⟩)
        rw [h2, h3]
        by_cases e : x = y
        · simp [getS, e1, e]
        · have : ¬ p.1 = y := fun z => e (e1.symm.trans z)
          simp [getS, this, e]
      · have h2 : putS (p :: l) x a = p :: putS l x a := by
          unfold putS
          rw [if_neg (by rw [List.any_cons, decide_eq_false e1, Bool.false_or]; exact h), if_neg h]
          rfl
        rw [h2]
        by_cases e2 : p.1 = y
        · have : ¬ x = y := fun z => e1 (e2.trans z.symm)
          rw [if_neg this]
          simp [getS, e2]
        · have q1 : getS (p :: putS l x a) y = getS (putS l x a) y := by simp [getS, e2]
          have q2 : getS (p :: l) y = getS l y := by simp [getS, e2]
          rw [q1, q2, ih]
mutual
theorem typ_bnd : ∀ (t : Tm) (env : List (Str × Ty)) (b : List Str) (k : Ty), (∀ x a, getS env x = some a → x ∈ b) → typ env t = some k → bnd b t = true
  | .name x, env, b, k, h, q => by
    rw [typ] at q
    rw [bnd, decide_eq_true_eq]
    exact h x k q
  | .fn x s t, env, b, k, h, q => by
    rw [typ] at q
    rw [bnd]
    split at q
    · rename_i k' hk
      refine typ_bnd t _ _ k' (fun y a hy => ?_) hk
      rw [getS_put] at hy
      split at hy
      · rename_i e
        rw [← e]
        exact List.mem_cons_self
      · exact List.mem_cons_of_mem _ (h y a hy)
    · cases q
  | .fx x s t, env, b, k, h, q => by
    rw [typ] at q
    rw [bnd]
    split at q
    · rename_i k' hk
      refine typ_bnd t _ _ k' (fun y a hy => ?_) hk
      rw [getS_put] at hy
      split at hy
      · rename_i e
        rw [← e]
        exact List.mem_cons_self
      · exact List.mem_cons_of_mem _ (h y a hy)
    · cases q
  | .ap t u, env, b, k, h, q => by
    rw [typ] at q
    rw [bnd, Bool.and_eq_true]
    split at q
    · rename_i k1 k2 h1 h2
      exact ⟨typ_bnd t env b k1 h h1, typ_bnd u env b k2 h h2⟩
    · cases q
  | .con _, _, _, _, _, _ => rfl
  | .no, _, _, _, _, _ => rfl
  | .cs t l, env, b, k, h, q => by
    rw [typ] at q
    rw [bnd, Bool.and_eq_true]
    split at q
    · rename_i k1 ks h1 h2
      exact ⟨typ_bnd t env b k1 h h1, typs_bnd l env b ks h h2⟩
    · cases q
  | .ei t u, env, b, k, h, q => by
    rw [typ] at q
    rw [bnd, Bool.and_eq_true]
    split at q
    · rename_i k1 k2 h1 h2
      exact ⟨typ_bnd t env b k1 h h1, typ_bnd u env b k2 h h2⟩
    · cases q
theorem typs_bnd : ∀ (l : List Tm) (env : List (Str × Ty)) (b : List Str) (ks : List Ty), (∀ x a, getS env x = some a → x ∈ b) → typs env l = some ks → bnds b l = true
  | [], _, _, _, _, _ => rfl
  | t :: l, env, b, ks, h, q => by
    rw [typs] at q
    rw [bnds, Bool.and_eq_true]
    split at q
    · rename_i k1 ks' h1 h2
      exact ⟨typ_bnd t env b k1 h h1, typs_bnd l env b ks' h h2⟩
    · cases q
end
theorem closed_bnd {t : Tm} {k : Ty} (h : typ [] t = some k) : bnd [] t = true := typ_bnd t [] [] k (fun x a q => by simp [getS] at q) h
/-! ### how deep a code is -/
theorem starts_int : ∀ (n : Nat) (l : List Tm), ∀ d ∈ starts n l, ∃ i, d = PyData.int i
  | _, [], d, h => by simp [starts] at h
  | n, t :: l, d, h => by
    rw [starts] at h
    rcases List.mem_cons.mp h with rfl | h
    · exact ⟨_, rfl⟩
    · exact starts_int _ l d h
theorem Lt.int (n : Nat) (i : Int) : Lt (n + 1) (.int i) := ⟨by simp [PyData.depth], rfl, rfl⟩
theorem Lt.int' {n : Nat} {d : PyData} (g : Lt n d) (i : Int) : Lt n (.int i) := by
  cases n with
  | zero => exact g.elim
  | succ n => exact Lt.int n i
theorem ins_lt {n : Nat} {t : Tm} (g : Lt n t.py) (b : List Str) (k : Nat) : Lt n (ins b k t) := by
  obtain ⟨m, rfl, hz, hall⟩ := Lt.row' g t.row
  have g0 := hall _ (List.mem_cons_self)
  have hall' : ∀ d ∈ t.tl, Lt m d := fun d hd => hall d (List.mem_cons_of_mem _ hd)
  cases t with
  | name x => exact Lt.mkT (by simp) (mem2 (g0.str _) (g0.int' _)) (by simp)
  | con c => exact g
  | no => exact g
  | fn x s u => exact Lt.mkT (by simp) (mem4 (g0.str _) (hall' _ (by simp [Tm.tl])) (hall' _ (by simp [Tm.tl])) (g0.int' _)) (by simp)
  | fx x s u => exact Lt.mkT (by simp) (mem4 (g0.str _) (hall' _ (by simp [Tm.tl])) (hall' _ (by simp [Tm.tl])) (g0.int' _)) (by simp)
  | ap t u => exact Lt.mkT (by simp) (mem3 (g0.str _) (g0.int' _) (g0.int' _)) (by simp)
  | ei t u => exact Lt.mkT (by simp) (mem3 (g0.str _) (g0.int' _) (g0.int' _)) (by simp)
  | cs t l =>
    have h2 := hall' (.tuple (Tm.pys l)) (by simp [Tm.tl])
    obtain ⟨m', rfl, h3, h4⟩ := Lt.row' h2 rfl
    refine Lt.mkT (by simp) (mem3 (g0.str _) (g0.int' _) ?_) (by simp)
    have hd := h2.dp
    rw [PyData.depth] at hd
    obtain ⟨m2, rfl⟩ : ∃ m2, m' = m2 + 1 := ⟨m' - 1, by omega⟩
    rw [pys_len] at h3
    exact Good.mkT (n := m2) (by rw [starts_len]; exact h3) fun d hd => by
      obtain ⟨i, rfl⟩ := starts_int _ l d hd
      exact Lt.int m2 i
mutual
theorem put_lt : ∀ (t : Tm) (n : Nat) (b : List Str) (k : Nat), Lt n t.py → ∀ e ∈ put b k t, Lt n e
  | .name x, n, b, k, g, e, h => by
    rw [put] at h
    rw [List.mem_singleton.mp h]
    exact ins_lt g b k
  | .con x, n, b, k, g, e, h => by
    rw [put] at h
    rw [List.mem_singleton.mp h]
    exact ins_lt g b k
  | .no, n, b, k, g, e, h => by
    rw [put] at h
    rw [List.mem_singleton.mp h]
    exact ins_lt g b k
  | .fn x s t, n, b, k, g, e, h => by
    obtain ⟨m, rfl, hp⟩ := g.parts
    rw [put] at h
    rcases List.mem_cons.mp h with rfl | h
    · exact ins_lt g b k
    · exact (put_lt t m _ _ (hp t (by simp [Tm.parts])) e h).mono (by omega)
  | .fx x s t, n, b, k, g, e, h => by
    obtain ⟨m, rfl, hp⟩ := g.parts
    rw [put] at h
    rcases List.mem_cons.mp h with rfl | h
    · exact ins_lt g b k
    · exact (put_lt t m _ _ (hp t (by simp [Tm.parts])) e h).mono (by omega)
  | .ap t u, n, b, k, g, e, h => by
    obtain ⟨m, rfl, hp⟩ := g.parts
    rw [put] at h
    rcases List.mem_cons.mp h with rfl | h
    · exact ins_lt g b k
    · rcases List.mem_append.mp h with h | h
      · exact (put_lt t m _ _ (hp t (by simp [Tm.parts])) e h).mono (by omega)
      · exact (put_lt u m _ _ (hp u (by simp [Tm.parts])) e h).mono (by omega)
  | .ei t u, n, b, k, g, e, h => by
    obtain ⟨m, rfl, hp⟩ := g.parts
    rw [put] at h
    rcases List.mem_cons.mp h with rfl | h
    · exact ins_lt g b k
    · rcases List.mem_append.mp h with h | h
      · exact (put_lt t m _ _ (hp t (by simp [Tm.parts])) e h).mono (by omega)
      · exact (put_lt u m _ _ (hp u (by simp [Tm.parts])) e h).mono (by omega)
  | .cs t l, n, b, k, g, e, h => by
    obtain ⟨m, rfl, hp⟩ := g.parts
    rw [put] at h
    rcases List.mem_cons.mp h with rfl | h
    · exact ins_lt g b k
    · rcases List.mem_append.mp h with h | h
      · exact (put_lt t m _ _ (hp t (by simp [Tm.parts])) e h).mono (by omega)
      · exact (puts_lt l m _ _ (fun u hu => hp u (by simp [Tm.parts, hu])) e h).mono (by omega)
theorem puts_lt : ∀ (l : List Tm) (n : Nat) (b : List Str) (k : Nat), (∀ u ∈ l, Lt n u.py) → ∀ e ∈ puts b k l, Lt n e
  | [], n, b, k, g, e, h => by simp [puts] at h
  | t :: l, n, b, k, g, e, h => by
    rw [puts] at h
    rcases List.mem_append.mp h with h | h
    · exact put_lt t n _ _ (g t (by simp)) e h
    · exact puts_lt l n _ _ (fun u hu => g u (by simp [hu])) e h
end
section
variable {P : Program} {w : World} {K : PySem.W.Frag} {mg : Str → Option Value} {base : Heap}
theorem eqOk_rows {n m : Nat} {a b : List PyData} (ha : ∀ d ∈ a, Lt n d) (hb : ∀ d ∈ b, Lt m d) (hn : n ≤ 62) (hm : m ≤ 62) : eqOk (.list a) (.list b) = true := by
  obtain ⟨a1, a2, _⟩ := shaped_row ha hn
  obtain ⟨b1, b2, _⟩ := shaped_row hb hm
  unfold eqOk
  rw [a2, b2, show noD (.list a) = noDs a from rfl, show noD (.list b) = noDs b from rfl, a1, b1]
  simp
theorem candD_ok {m : Int} {l : List PyData} {t : Tm} (hlen : l.length ≤ 50) (hent : ∀ e ∈ l, Lt 6 e ∧ cnt e ≤ 100) (ht : candD m l = some t) : Lt 60 t.py ∧ t.size < 90000 := by
  have hkl : ∀ e ∈ l.map toT, Lt 6 e := fun e he => by
    obtain ⟨x, hx, rfl⟩ := List.mem_map.mp he
    exact (hent x hx).1.toT
  have hkc : ∀ e ∈ l.map toT, cnt e ≤ 100 := fun e he => by
    obtain ⟨x, hx, rfl⟩ := List.mem_map.mp he
    rw [toT_cnt]
    exact (hent x hx).2
  cases hd : decD 51 (l.map toT) 0 [] with
  | none => simp [candD, hd] at ht
  | some p =>
    obtain ⟨t', b⟩ := p
    simp only [candD, hd] at ht
    split at ht
    · obtain ⟨a1, a2, a3⟩ := decD_ok hkl 51 0 [] t' b (by simp) hd
      obtain ⟨b1, b2⟩ := decD_cnt hkc 51 0 [] t' b (by simp) hd
      have hs := kTm_size m 60 t' t ht
      rw [List.length_map] at a2
      have hbl : b ≤ 50 := by omega
      refine ⟨kTm_good m 60 60 t' t (a3.mono (by omega)) ht, ?_⟩
      have : (b - 0) * (2 * 100 + 3) ≤ 50 * (2 * 100 + 3) := Nat.mul_le_mul_right _ (by omega)
      omega
    · cases ht
theorem readD_ok {m : Int} {code : PyData} {t : Tm} (hc : CodeOk code) (h : readD m code = some t) : ∃ l, rowOf code = some l ∧ candD m l = some t ∧ Lt 60 t.py ∧ t.size < 90000 ∧ typ [] t = some .nil ∧ PyData.eqvAll (put [] 0 t) (l.map toT) = true := by
  unfold readD at h
  cases hl : rowOf code with
  | none => rw [hl] at h; cases h
  | some l =>
    rw [hl] at h
    dsimp only at h
    cases hd : candD m l with
    | none => rw [hd] at h; cases h
    | some t' =>
      rw [hd] at h
      unfold passD at h
      dsimp only at h
      split at h
      · rename_i q
        cases h
        rw [Bool.and_eq_true, decide_eq_true_eq] at q
        obtain ⟨h1, h2⟩ := hc l hl
        obtain ⟨h3, h4⟩ := candD_ok h1 h2 hd
        exact ⟨l, rfl, hd, h3, h4, q.1, q.2⟩
      · cases h
theorem ok_read_code (T : Txt K mg) : FnOk P w K mg base CX0 185 T.read_code.f T.read_code.fd ["many", "code"] (sp2 K (mI fun m d => oTm (readD m d)) (aI CodeOk)) := by
  have g_is_list : FnOk P w K mg base CX0 1 _ _ _ _ := ok_is_list T
  have g_as_tuples : FnOk P w K mg base CX0 7 _ _ _ _ := ok_as_tuples T 6
  have g_decoded : FnOk P w K mg base CX0 55 _ _ _ _ := ok_decoded T 6 51
  have g_kept_term : FnOk P w K mg base CX0 184 _ _ _ _ := ok_kept_term T 60 (by omega)
  have g_own_type : FnOk P w K mg base CX0 63 _ _ _ _ := ok_own_type T 60 (by omega)
  have g_own_code : FnOk P w K mg base CX0 63 _ _ _ _ := ok_own_code T 60 (by omega)
  refine ok2 (k := 184) T.read_code sc_read_code fun cdv Ar outer s H Q E v u G m d hr e r r2 hA k => ?_
  obtain ⟨⟨m, rfl⟩, hc⟩ := hA
  refine ⟨_, (pss_cons (ps_if (pt_not (pt_val (pe_call g_is_list (hr.mono (by omega)) rfl T.is_list.m T.is_list.F.kp T.is_list.b .nil pass0 (pa_cons (pv 1) pa_nil)))) (pss_one (ps_ret pe_non)) pss_nil)
      (pss_cons (ps_setLc (i := 2) (own := [("thing", 5)]) (g := gName 5) (tt := tYes) rfl sc_read_code.nd rfl rfl (sw_true rfl rfl rfl (by decide +kernel)) (pi_row (pv 1)) (blkOk_by (N := ["many", "code", "kept", "found", "term", "thing"]) (sc := defScope s_read_code) (by decide +kernel)) (fun _ _ _ _ _ => (pg_name (i := 5) sc_read_code.nd rfl (Or.inl rfl))) (fun _ _ _ _ _ => pts_nil) (fun _ _ _ _ _ => (pe_call g_as_tuples (hr.mono (by omega)) rfl T.as_tuples.m T.as_tuples.F.kp T.as_tuples.b .nil pass0 (pa_cons (pv 5) pa_nil))))
      (pss_cons (ps_set (i := 3) sc_read_code.nd rfl (Or.inl rfl) (pe_call g_decoded (hr.mono (by omega)) rfl T.decoded.m T.decoded.F.kp T.decoded.b .nil pass0 (pa_cons (pv 2) (pa_cons pe_int (pa_cons (pe_lst pa_nil) pa_nil)))))
      (pss_cons (ps_set (i := 4) sc_read_code.nd rfl (Or.inl rfl) (pe_ifExp (PW.pt (pw_and (pt_cmpR op_notNX (pv 3) pe_non (nomark _)) (pw_and1 (pt_cmpR (op_eqX hr.units) (pe_ix ix_seq (pv 3) pe_int (fun _ _ => rfl)) (pe_callB call_lenX rfl T.z_len (by decide +kernel) (pa_cons (pv 2) pa_nil)) (nomark _))))) (pe_call g_kept_term (hr.mono (by omega)) rfl T.kept_term.m T.kept_term.F.kp T.kept_term.b .nil pass0 (pa_cons (pv 0) (pa_cons (pe_ix ix_seq (pv 3) pe_int (fun _ _ => rfl)) pa_nil))) pe_non))
      (pss_cons (ps_if (PW.pt (pw_or (pt_cmpR op_isNX (pv 4) pe_non (nomark _)) (pw_or (pt_cmpR (op_neX hr.units) (pe_call g_own_type (hr.mono (by omega)) rfl T.own_type.m T.own_type.F.kp T.own_type.b .nil pass0 (pa_cons pe_dnewK (pa_cons (pv 4) pa_nil))) (pe_tup pa_nil) (nomark _)) (pw_or1 (pt_cmpR (op_neX hr.units) (pe_call g_own_code (hr.mono (by omega)) rfl T.own_code.m T.own_code.F.kp T.own_code.b .nil pass0 (pa_cons (pv 4) pa_nil)) (pv 2) (nomark _)))))) (pss_one (ps_ret pe_non)) pss_nil)
      (pss_one (ps_ret (pv 4)))))))), ?_⟩
  have k : ∀ v G' H', Ext G H G' H' → Rp K G' v (oTm (readD m d)) → Q v H' := k
  refine ds_seq ?_
  refine ds_if e (dvt_not (dvt_B (dv_call1 (f := fun d => .bool (isL d)) (A := any1) (dv_var rfl r2) trivial))) (fun h G1 H1 e1 => ?_) fun h G1 H1 e1 => ?_
  · refine ds_ret e1.gh (dv_non (K := K)) fun v G2 H2 e2 q => k v G2 H2 (e1.trans e2) ?_
    have hrow : rowOf d = none := isL_none (by simpa using h)
    have hno : readD m d = none := by
      unfold readD
      rw [hrow]
    rw [hno]
    exact q
  obtain ⟨l, hl⟩ := isL_some (d := d) (by simpa using h)
  obtain ⟨hlen, hent⟩ := hc l hl
  refine ds_seq ?_
  refine ds_set (K := K) (d := .list (l.map toT)) e1.gh (dv_lcA (f := toT) (dvi_row (dv_var rfl (e1.rp r2)) hl) (by omega) fun x hx y G2 H2 e2 q => dv_call1 (f := toT) (dv_var rfl q) ((hent x hx).1)) fun vk G2 H2 e2 qk => ?_
  have e12 := e1.trans e2
  have hkl : ∀ e ∈ l.map toT, Lt 6 e := fun e he => by
    obtain ⟨x, hx, rfl⟩ := List.mem_map.mp he
    exact (hent x hx).1.toT
  have hkc : ∀ e ∈ l.map toT, cnt e ≤ 100 := fun e he => by
    obtain ⟨x, hx, rfl⟩ := List.mem_map.mp he
    rw [toT_cnt]
    exact (hent x hx).2
  refine ds_seq ?_
  refine ds_set (K := K) (d := oDec (decD 51 (l.map toT) 0 [])) e2.gh (dv_call (dva_cons (dv_var rfl qk) (dva_cons (dv_int (z := 0)) (dva_cons dv_lst0 dva_nil))) rfl ⟨l.map toT, 0, [], rfl, by rw [List.length_map]; omega, by rw [List.length_map]; omega, by simp, Nat.zero_le _, hkl, by simp, rfl⟩) fun vf G3 H3 e3 qf => ?_
  dsimp only
  have e13 := e12.trans e3
  let ot : Option Tm := candD m l
  have hot : ∀ t, ot = some t → Lt 60 t.py ∧ t.size < 90000 := fun t ht => candD_ok hlen hent ht
  have hrd : readD m d = passD l ot := by
    unfold readD
    rw [hl]
  rw [hrd] at k
  refine ds_seq ?_
  refine ds_set (K := K) (d := oTm ot) e3.gh ?_ fun vt G4 H4 e4 qt => ?_
  · cases hd : decD 51 (l.map toT) 0 [] with
    | none =>
      rw [hd] at qf
      refine dv_if (b := false) (DvT.is (dvt_and (c := false) (dvt_test (dv_notN (dv_var rfl qf))) fun h => by cases h) rfl) (fun h => by cases h) fun _ => Dv.is dv_non ?_
      simp [ot, candD, hd, oTm]
    | some p =>
      obtain ⟨t', b⟩ := p
      rw [hd] at qf
      have hfr : rowOf (oDec (some (t', b))) = some [t', .int b] := rfl
      obtain ⟨a1, a2, a3⟩ := decD_ok hkl 51 0 [] t' b (by simp) hd
      rw [List.length_map] at a2
      refine dv_if (b := decide (b = l.length)) (DvT.is (dvt_and (dvt_test (dv_notN (dv_var rfl qf))) fun _ => dvt_test (dv_eq (d := .int b) (dv_ix (dv_var rfl qf) dv_int hfr rfl) (dv_len (dv_var rfl (e3.rp qk)) rfl) rfl)) ?_) (fun h => ?_) fun h => ?_
      · rw [eqv_int, List.length_map]
        show (true && decide ((b : Int) = (l.length : Int))) = _
        rw [Bool.true_and, Bool.eq_iff_iff, decide_eq_true_eq, decide_eq_true_eq]
        omega
      · rw [decide_eq_true_eq] at h
        refine Dv.is (dv_call2 (f := mI fun m d => oTm (kTm m 60 d)) (dv_var rfl (e13.rp r)) (dv_ix (d := t') (dv_var rfl qf) dv_int hfr rfl) ⟨⟨m, rfl⟩, a3.mono (by omega)⟩) ?_
        simp [ot, candD, hd, h, mI]
      · rw [decide_eq_false_iff_not] at h
        refine Dv.is dv_non ?_
        simp [ot, candD, hd, h, oTm]
  dsimp only
  have e14 := e13.trans e4
  have qk4 := e4.rp (e3.rp qk)
  clear hrd
  generalize ot = oo at qt k hot
  refine ds_seq ?_
  cases oo with
  | none =>
    refine ds_if (b := true) e4.gh (DvT.is (dvt_or (c := false) (dvt_test (dv_isN (dv_var rfl qt))) fun h => by cases h) rfl) (fun _ G5 H5 e5 => ds_ret e5.gh (dv_non (K := K)) fun v G6 H6 e6 q => k v G6 H6 ((e14.trans e5).trans e6) q) fun h => by cases h
  | some tm =>
    obtain ⟨hg, hsz⟩ := hot tm rfl
    have qt : Rp K G4 vt tm.py := qt
    have hpd : passD l (some tm) = if (decide (typ [] tm = some .nil) && PyData.eqvAll (put [] 0 tm) (l.map toT)) = true then some tm else none := rfl
    rw [hpd] at k
    have hte : (!PyData.eqv (oTy (typ [] tm)) Ty.nil.py) = !decide (typ [] tm = some .nil) := by
      cases h : typ [] tm with
      | none => rfl
      | some kd =>
        show (!PyData.eqv kd.py Ty.nil.py) = _
        rw [Ty.eqv]
        simp
    have hto : eqOk (oTy (typ [] tm)) Ty.nil.py = true := by
      cases h : typ [] tm with
      | none => rfl
      | some kd => exact Ty.eqOk ((typ_ok (env := []) tm 60 0 [] kd hg (by omega) ⟨by simp, by simp⟩ h).1) (by simp [Ty.d])
    refine ds_if (b := !(decide (typ [] tm = some .nil) && PyData.eqvAll (put [] 0 tm) (l.map toT))) e4.gh (DvT.is (dvt_or (dvt_test (dv_isN (dv_var rfl qt))) fun _ => dvt_or (b := !decide (typ [] tm = some .nil)) (DvT.is (dvt_test (dv_ne (d := oTy (typ [] tm)) (d' := Ty.nil.py) (dv_call (dva_cons dv_newD (dva_cons (dv_var rfl qt) dva_nil)) rfl ⟨[], tm, rfl, hg, by omega, ⟨by simp, by simp⟩, hsz, rfl⟩) (dv_tup dva_nil (Nat.zero_le _)) hto)) hte) fun hh => dvt_test (dv_ne (d := .list (put [] 0 tm)) (dv_callT (f := fun t => .list (put [] 0 t)) (t := tm) (dv_var rfl qt) ⟨hg, by omega, ?_, by omega⟩) (dv_var rfl qk4) (eqOk_rows (n := 60) (m := 6) (put_lt tm 60 [] 0 hg) hkl (by omega) (by omega)))) ?_) (fun hh G5 H5 e5 => ?_) fun hh G5 H5 e5 => ?_
    · exact closed_bnd (k := .nil) (by simpa using hh)
    · rw [show isN tm.py = false from by cases tm <;> rfl, Bool.false_or, Bool.not_and]
      rfl
    · refine ds_ret e5.gh (dv_non (K := K)) fun v G6 H6 e6 q => k v G6 H6 ((e14.trans e5).trans e6) ?_
      rw [if_neg (by intro z; rw [z] at hh; cases hh)]
      exact q
    · rw [if_pos (by simpa using hh)] at k
      exact ⟨vt, rfl, k vt G5 H5 (e14.trans e5) (e5.rp qt)⟩
end
end K82

set_option Elab.async false
set_option linter.all false
set_option maxRecDepth 100000
set_option maxHeartbeats 4000000
/-! The errors; the defs that raise them. -/
namespace K82
open PySem L2 PyProof.Rows
def iniOf (i : Nat) : Stmt := match top i with
  | .ClassDef (body := b) .. => b.getD 0 (.Pass ⟨0, 0, 0, 0⟩)
  | _ => .Pass ⟨0, 0, 0, 0⟩
/-- an error class with a field, set by its own __init__ -/
structure Ec (K : PySem.W.Frag) (mg : Str → Option Value) (x q f : Str) (st : Stmt) where
  C : Addr
  fI : Addr
  fd : FuncData
  m : mg x = some (.ref C)
  T : OexC K C
  F : Fun K "__init__" q st fI fd
  iC : PySem.W.findIn K (.ref C) "__init__" = some (some (.ref fI))
  tI : PySem.W.typeIn K (.ref fI) = some (.type "function")
  b : Binds K fd ["self", f] []
  no : PySem.W.findIn K (.ref C) f = some none
  xf : XfC K C
structure Txe (K : PySem.W.Frag) (mg : Str → Option Value) where
  eM : Ec K mg "BadMany" "BadMany.__init__" "many" (iniOf 9)
  eT : Ec K mg "BadTerm" "BadTerm.__init__" "term" (iniOf 10)
  eC : Ec K mg "BadCode" "BadCode.__init__" "code" (iniOf 12)
  mm : PySem.W.exmOne K (.ref eM.C) (.ref eM.C) = some true
  tm : PySem.W.exmOne K (.ref eT.C) (.ref eM.C) = some false
  tt : PySem.W.exmOne K (.ref eT.C) (.ref eT.C) = some true
  cm : PySem.W.exmOne K (.ref eC.C) (.ref eM.C) = some false
  ct : PySem.W.exmOne K (.ref eC.C) (.ref eT.C) = some false
  cc : PySem.W.exmOne K (.ref eC.C) (.ref eC.C) = some true
abbrev spI (C : Addr) (f : Str) : Sp := fun vs H Q _ => ∃ a x, vs = [.ref a, x] ∧ H a = some (exo a C none) ∧ ∀ dx, H dx = none → dx ≠ a → Q .non (upd (upd H dx (exd dx [(f, x)])) a (exo a C (some dx)))
theorem sc_iM : FnScope ["self", "many"] ["self", "many"] (defScope (iniOf 9)) := ⟨rfl, rfl, rfl, by decide +kernel, rfl, by decide +kernel, by decide +kernel⟩
theorem sc_iT : FnScope ["self", "term"] ["self", "term"] (defScope (iniOf 10)) := ⟨rfl, rfl, rfl, by decide +kernel, rfl, by decide +kernel, by decide +kernel⟩
theorem sc_iC : FnScope ["self", "code"] ["self", "code"] (defScope (iniOf 12)) := ⟨rfl, rfl, rfl, by decide +kernel, rfl, by decide +kernel, by decide +kernel⟩
section
variable {P : Program} {w : World} {K : PySem.W.Frag} {mg : Str → Option Value} {base : Heap}
theorem ok_iM (Y : Txe K mg) : FnOk P w K mg base CX0 1 Y.eM.fI Y.eM.fd ["self", "many"] (spI Y.eM.C "many") := by
  refine Y.eM.F.ok sc_iM (fun vs H Q E z => by obtain ⟨a, x, rfl, _⟩ := z; rfl) (fun cdv Ar outer s H vs Q E hr z => ?_)
  obtain ⟨a, x, rfl, ha, k⟩ := z
  refine ⟨_, pss_one (ps_ost (pv 0) (pv 1)), ?_⟩
  exact ⟨x, rfl, .ref a, rfl, a, Y.eM.C, rfl, Y.eM.T, Y.eM.no, .inl ⟨ha, fun dx h1 h2 => k dx h1 h2⟩⟩
theorem ok_iT (Y : Txe K mg) : FnOk P w K mg base CX0 1 Y.eT.fI Y.eT.fd ["self", "term"] (spI Y.eT.C "term") := by
  refine Y.eT.F.ok sc_iT (fun vs H Q E z => by obtain ⟨a, x, rfl, _⟩ := z; rfl) (fun cdv Ar outer s H vs Q E hr z => ?_)
  obtain ⟨a, x, rfl, ha, k⟩ := z
  refine ⟨_, pss_one (ps_ost (pv 0) (pv 1)), ?_⟩
  exact ⟨x, rfl, .ref a, rfl, a, Y.eT.C, rfl, Y.eT.T, Y.eT.no, .inl ⟨ha, fun dx h1 h2 => k dx h1 h2⟩⟩
theorem ok_iC (Y : Txe K mg) : FnOk P w K mg base CX0 1 Y.eC.fI Y.eC.fd ["self", "code"] (spI Y.eC.C "code") := by
  refine Y.eC.F.ok sc_iC (fun vs H Q E z => by obtain ⟨a, x, rfl, _⟩ := z; rfl) (fun cdv Ar outer s H vs Q E hr z => ?_)
  obtain ⟨a, x, rfl, ha, k⟩ := z
  refine ⟨_, pss_one (ps_ost (pv 0) (pv 1)), ?_⟩
  exact ⟨x, rfl, .ref a, rfl, a, Y.eC.C, rfl, Y.eC.T, Y.eC.no, .inl ⟨ha, fun dx h1 h2 => k dx h1 h2⟩⟩
/-- what comes of a call: data, or an error of a class whose field is an argument -/
inductive Out | ok (d : PyData) | ex (C : Addr) (f : Str) (i : Nat)
/-- the promise of a def that may raise -/
def spX (K : PySem.W.Frag) (n : Nat) (R : List PyData → Out → Prop) : Sp := fun vs H Q E => vs.length = n ∧ ∃ G ds o, Same G H ∧ RpAll K G vs ds ∧ R ds o ∧ (match o with
  | .ok d => ∀ v G' H', Ext G H G' H' → Rp K G' v d → Q v H'
  | .ex C f i => ∀ v dd G' H', Ext G H G' H' → vs[i]? = some v → H' dd = some (.xd [(f, v)]) → G' dd = none → E (.ref C) (some dd) H')
/-- raise C(e), e standing in slot i -/
theorem ds_raise {C : Addr} {f : Str} {σ : L2.St} {G H : Hp} {W : XK} {i : Nat} {v : V} (e : Same G H) (hv : σ[i]? = some (some v)) (k : ∀ dd H', Ext G H G H' → H' dd = some (.xd [(f, v)]) → G dd = none → W (.ref C) (some dd) H') :
    tMkO C (spI C f) [] (tCons (tVar i) tNil) σ H W := by
  refine ⟨v, hv, by show 1 ≤ 1000; omega, fun a ha => ⟨a, v, rfl, upd_same, fun dx hdx hda => ⟨rfl, dx, [(f, v)], upd_same, by rw [upd_ne hda]; exact upd_same, ?_, ?_⟩⟩⟩
  · rw [upd_ne hda] at hdx
    exact hdx
  · have h0 : H dx = none := by
      rw [upd_ne hda] at hdx
      exact hdx
    have hfin : upd (del (upd (upd (upd H a (exo a C none)) dx (exd dx [(f, v)])) a (exo a C (some dx))) a) dx (.xd [(f, v)]) = upd H dx (.xd [(f, v)]) := by
      funext b
      by_cases hb : b = dx
      · subst hb
        rw [upd_same, upd_same]
      · rw [upd_ne hb, upd_ne hb]
        by_cases hba : b = a
        · subst hba
          rw [del_same]
          exact ha.symm
        · rw [del_ne hba, upd_ne hba, upd_ne hb, upd_ne hba]
    rw [hfin]
    exact k dx _ ((Ext.refl e).allocM h0 _) upd_same (Same.none e h0)
theorem ok_check_many (T : Txt K mg) (Y : Txe K mg) : FnOk P w K mg base (L2.CX P w) 3 T.check_many.f T.check_many.fd ["many"] (spX K 1 fun ds o => ∃ d, ds = [d] ∧ o = if isMa d = true then .ok .none else .ex Y.eM.C "many" 0) := by
  have g_is_many : FnOk P w K mg base CX0 2 _ _ _ _ := ok_is_many T
  have g_eM : FnOk P w K mg base CX0 1 _ _ _ _ := ok_iM Y
  refine T.check_many.F.okX sc_check_many (fun vs H Q E z => z.1) (fun cdv Ar outer s H vs Q E hr z => ?_)
  obtain ⟨hl, G, ds, o, e, r, ⟨d, rfl, ho⟩, k⟩ := z
  cases r with
  | @cons v1 _ _ _ r1 r =>
  cases r
  have tk := takes_of (X := cxOf (L2.CX P w) P w K mg base ["many"] "check_many" (defScope s_check_many) T.check_many.f cdv Ar outer s H E) rfl rfl rfl rfl
  refine ⟨_, (pss_one (ps_if (pt_not (pt_val (pe_call g_is_many (hr.mono (by omega)) rfl T.is_many.m T.is_many.F.kp T.is_many.b .nil pass0 (pa_cons (pv 0) pa_nil)))) (pss_one (ps_raise rfl tk (pmk_oex Y.eM.T Y.eM.iC Y.eM.tI g_eM (hr.mono (by omega)) Y.eM.b .nil pass0 rfl Y.eM.m (pa_cons (pv 0) pa_nil)))) pss_nil)), ?_⟩
  refine ds_if e (dvt_not (dvt_B (dv_call1 (f := fun d => .bool (isMa d)) (A := any1) (dv_var rfl r1) trivial))) (fun h G1 H1 e1 => ?_) fun h G1 H1 e1 => ?_
  · have h' : isMa d = false := by simpa using h
    rw [if_neg (by rw [h']; simp)] at ho
    subst ho
    exact ds_raise e1.gh rfl fun dd H' e2 hd gd => k _ dd G1 H' (e1.trans e2) rfl hd gd
  · have h' : isMa d = true := by simpa using h
    rw [if_pos h'] at ho
    subst ho
    exact k .non G1 H1 e1 .non
/-- a call that may raise -/
theorem dx_call {n : Nat} {R : List PyData → Out → Prop} {σ : L2.St} {G H : Hp} {ta : TA} {E : L2.St → XK} {Q : VK} {vs : List V} {ds : List PyData} {o : Out} (e : Same G H) (hv : ∀ Q', Q' vs H → ta σ H Q') (r : RpAll K G vs ds) (hn : ds.length = n) (hR : R ds o)
    (k1 : ∀ d, o = .ok d → ∀ v G' H', Ext G H G' H' → Rp K G' v d → Q v H') (k2 : ∀ C f i, o = .ex C f i → ∀ v dd G' H', Ext G H G' H' → vs[i]? = some v → H' dd = some (.xd [(f, v)]) → G' dd = none → E σ (.ref C) (some dd) H') : tCallS (spX K n R) E ta σ H Q := by
  refine hv _ ⟨by rw [r.length, hn], G, ds, o, e, r, hR, ?_⟩
  cases o with
  | ok d => exact k1 d rfl
  | ex C f i => exact k2 C f i rfl
/-- the closed term that a thing is -/
def baseD (m : Int) (d : PyData) : Option Tm := match kTm m 60 d with
  | some t => if typ [] t = some .nil then some t else none
  | none => none
theorem baseD_ok {m : Int} {d : PyData} {t : Tm} (hg : Lt 60 d) (hc : cnt d < 90000) (h : baseD m d = some t) : kTm m 60 d = some t ∧ Lt 60 t.py ∧ t.size < 90000 ∧ typ [] t = some .nil := by
  unfold baseD at h
  split at h
  · rename_i t' hk
    split at h
    · cases h
      have := kTm_size m 60 d t hk
      exact ⟨hk, kTm_good m 60 60 d t hg hk, by omega, by assumption⟩
    · cases h
  · cases h
abbrev spBT (K : PySem.W.Frag) (CT : Addr) : Sp := spX K 2 fun ds o => ∃ (m : Int) (d : PyData), ds = [.int m, d] ∧ Lt 60 d ∧ cnt d < 90000 ∧ o = match baseD m d with | some t => .ok t.py | none => .ex CT "term" 1
theorem ok_base_term (T : Txt K mg) (Y : Txe K mg) : FnOk P w K mg base (L2.CX P w) 185 T.base_term.f T.base_term.fd ["many", "thing"] (spBT K Y.eT.C) := by
  have g_kept_term : FnOk P w K mg base CX0 184 _ _ _ _ := ok_kept_term T 60 (by omega)
  have g_own_type : FnOk P w K mg base CX0 63 _ _ _ _ := ok_own_type T 60 (by omega)
  have g_eT : FnOk P w K mg base CX0 1 _ _ _ _ := ok_iT Y
  refine T.base_term.F.okX (k := 184) sc_base_term (fun vs H Q E z => z.1) (fun cdv Ar outer s H vs Q E hr z => ?_)
  obtain ⟨hl, G, ds, o, e, r, ⟨m, d, rfl, hg, hc, ho⟩, k⟩ := z
  cases r with
  | @cons v1 _ _ _ r1 r =>
  cases r with
  | @cons v2 _ _ _ r2 r =>
  cases r
  have tk := takes_of (X := cxOf (L2.CX P w) P w K mg base ["many", "thing", "kept"] "base_term" (defScope s_base_term) T.base_term.f cdv Ar outer s H E) rfl rfl rfl rfl
  refine ⟨_, (pss_cons (ps_set (i := 2) sc_base_term.nd rfl (Or.inl rfl) (pe_call g_kept_term (hr.mono (by omega)) rfl T.kept_term.m T.kept_term.F.kp T.kept_term.b .nil pass0 (pa_cons (pv 0) (pa_cons (pv 1) pa_nil))))
      (pss_cons (ps_if (PW.pt (pw_or (pt_cmpR op_isNX (pv 2) pe_non (nomark _)) (pw_or1 (pt_cmpR (op_neX hr.units) (pe_call g_own_type (hr.mono (by omega)) rfl T.own_type.m T.own_type.F.kp T.own_type.b .nil pass0 (pa_cons pe_dnewK (pa_cons (pv 2) pa_nil))) (pe_tup pa_nil) (nomark _))))) (pss_one (ps_raise rfl tk (pmk_oex Y.eT.T Y.eT.iC Y.eT.tI g_eT (hr.mono (by omega)) Y.eT.b .nil pass0 rfl Y.eT.m (pa_cons (pv 1) pa_nil)))) pss_nil)
      (pss_one (ps_ret (pv 2))))), ?_⟩
  refine ds_seq ?_
  refine ds_set (K := K) e (dv_call2 (f := mI fun m d => oTm (kTm m 60 d)) (dv_var rfl r1) (dv_var rfl r2) ⟨⟨m, rfl⟩, hg⟩) fun vk G1 H1 e1 qk => ?_
  dsimp only
  have qk : Rp K G1 vk (oTm (kTm m 60 d)) := qk
  refine ds_seq ?_
  cases hk : kTm m 60 d with
  | none =>
    rw [hk] at qk
    have hb : baseD m d = none := by unfold baseD; rw [hk]
    rw [hb] at ho
    subst ho
    refine ds_if (b := true) e1.gh (DvT.is (dvt_or (c := false) (dvt_test (dv_isN (dv_var rfl qk))) fun h => by cases h) rfl) (fun _ G2 H2 e2 => ?_) fun h => by cases h
    exact ds_raise e2.gh rfl fun dd H' e3 hd gd => k _ dd G2 H' ((e1.trans e2).trans e3) rfl hd gd
  | some t =>
    rw [hk] at qk
    have hgt := kTm_good m 60 60 d t hg hk
    have hs := kTm_size m 60 d t hk
    have hb : baseD m d = if typ [] t = some .nil then some t else none := by unfold baseD; rw [hk]
    rw [hb] at ho
    have hte : (!PyData.eqv (oTy (typ [] t)) Ty.nil.py) = !decide (typ [] t = some .nil) := by
      cases h : typ [] t with
      | none => rfl
      | some kd =>
        show (!PyData.eqv kd.py Ty.nil.py) = _
        rw [Ty.eqv]
        simp
    have hto : K82.eqOk (oTy (typ [] t)) Ty.nil.py = true := by
      cases h : typ [] t with
      | none => rfl
      | some kd => exact Ty.eqOk ((typ_ok (env := []) t 60 0 [] kd hgt (by omega) ⟨by simp, by simp⟩ h).1) (by simp [Ty.d])
    have qk : Rp K G1 vk t.py := qk
    refine ds_if (b := !decide (typ [] t = some .nil)) e1.gh (DvT.is (dvt_or (dvt_test (dv_isN (dv_var rfl qk))) fun _ => dvt_test (dv_ne (d := oTy (typ [] t)) (d' := Ty.nil.py) (dv_call (dva_cons dv_newD (dva_cons (dv_var rfl qk) dva_nil)) rfl ⟨[], t, rfl, hgt, by omega, ⟨by simp, by simp⟩, by omega, rfl⟩) (dv_tup dva_nil (Nat.zero_le _)) hto)) ?_) (fun h G2 H2 e2 => ?_) fun h G2 H2 e2 => ?_
    · rw [show isN t.py = false from by cases t <;> rfl, Bool.false_or, hte]
    · rw [if_neg (by simpa using h)] at ho
      subst ho
      exact ds_raise e2.gh rfl fun dd H' e3 hd gd => k _ dd G2 H' ((e1.trans e2).trans e3) rfl hd gd
    · rw [if_pos (by simpa using h)] at ho
      subst ho
      exact ⟨vk, rfl, k vk G2 H2 (e1.trans e2) (e2.rp qk)⟩
/-- the number of constants, if it is right -/
def manyD : PyData → Int
  | .int m => m
  | _ => 0
theorem isMa_int {d : PyData} (h : isMa d = true) : d = .int (manyD d) := by
  cases d <;> simp [isMa] at h
  rfl
abbrev spCO (K : PySem.W.Frag) (CM CT : Addr) : Sp := spX K 2 fun ds o => ∃ (d d2 : PyData), ds = [d, d2] ∧ Lt 60 d2 ∧ cnt d2 < 90000 ∧ o = if isMa d = true then (match baseD (manyD d) d2 with | some t => .ok (.list (put [] 0 t)) | none => .ex CT "term" 1) else .ex CM "many" 0
theorem ok_code_of (T : Txt K mg) (Y : Txe K mg) : FnOk P w K mg base (L2.CX P w) 186 T.code_of.f T.code_of.fd ["many", "term"] (spCO K Y.eM.C Y.eT.C) := by
  have g_check_many : FnOk P w K mg base (L2.CX P w) 3 _ _ _ _ := ok_check_many T Y
  have g_base_term : FnOk P w K mg base (L2.CX P w) 185 _ _ _ _ := ok_base_term T Y
  have g_own_code : FnOk P w K mg base CX0 63 _ _ _ _ := ok_own_code T 60 (by omega)
  refine T.code_of.F.okX (k := 185) sc_code_of (fun vs H Q E z => z.1) (fun cdv Ar outer s H vs Q E hr z => ?_)
  obtain ⟨hl, G, ds, o, e, r, ⟨d, d2, rfl, hg, hc, ho⟩, k⟩ := z
  cases r with
  | @cons v1 _ _ _ r1 r =>
  cases r with
  | @cons v2 _ _ _ r2 r =>
  cases r
  have tk := takes_of (X := cxOf (L2.CX P w) P w K mg base ["many", "term"] "code_of" (defScope s_code_of) T.code_of.f cdv Ar outer s H E) rfl rfl rfl rfl
  refine ⟨_, (pss_cons (ps_expr (pe_callS g_check_many (hr.mono (by omega)) rfl T.check_many.m T.check_many.F.kp T.check_many.b (fun σ => passAt tk σ) (pa_cons (pv 0) pa_nil)))
      (pss_one (ps_ret (pe_call g_own_code (hr.mono (by omega)) rfl T.own_code.m T.own_code.F.kp T.own_code.b .nil pass0 (pa_cons (pe_callS g_base_term (hr.mono (by omega)) rfl T.base_term.m T.base_term.F.kp T.base_term.b (fun σ => passAt tk σ) (pa_cons (pv 0) (pa_cons (pv 1) pa_nil))) pa_nil))))), ?_⟩
  refine ds_seq ?_
  show tCallS _ _ _ _ _ _
  refine dx_call (ds := [d]) (vs := [v1]) e (fun Q' q => ⟨v1, rfl, q⟩) (.cons r1 .nil) rfl ⟨d, rfl, rfl⟩ (fun d' hd' v G1 H1 e1 q1 => ?_) fun C f i hex v dd G1 H1 e1 hv hdd gdd => ?_
  · have hm : isMa d = true := by
      by_cases h : isMa d = true
      · exact h
      · rw [if_neg h] at hd'; cases hd'
    rw [if_pos hm] at ho
    have hdm := isMa_int hm
    have r1' : Rp K G1 v1 (.int (manyD d)) := by rw [← hdm]; exact e1.rp r1
    show tCallS (spBT K Y.eT.C) (WE fun cls d _ H => E cls d H) (tCons (tVar 0) (tCons (tVar 1) tNil)) (start ["many", "term"] [v1, v2]) H1 (fun x H2 => spOC K 60 ([x] ++ []) H2 Q E0)
    refine dx_call (ds := [.int (manyD d), d2]) (vs := [v1, v2]) e1.gh (fun Q' q => ⟨v1, rfl, v2, rfl, q⟩) (.cons r1' (.cons (e1.rp r2) .nil)) rfl ⟨manyD d, d2, rfl, hg, hc, rfl⟩ (fun d3 hd3 v3 G2 H2 e2 q2 => ?_) fun C f i hex v3 dd G2 H2 e2 hv hdd gdd => ?_
    · cases hb : baseD (manyD d) d2 with
      | none => rw [hb] at hd3; cases hd3
      | some t =>
        rw [hb] at hd3 ho
        cases hd3
        subst ho
        obtain ⟨_, b1, b2, b3⟩ := baseD_ok hg hc hb
        refine ⟨rfl, G2, [t.py], _, e2.gh, .cons q2 .nil, ⟨t, rfl, ⟨b1, by omega, closed_bnd b3, by omega⟩, rfl⟩, fun v4 G3 H3 e3 q3 => k v4 G3 H3 ((e1.trans e2).trans e3) q3⟩
    · cases hb : baseD (manyD d) d2 with
      | some t => rw [hb] at hex; cases hex
      | none =>
        rw [hb] at hex ho
        cases hex
        subst ho
        exact k v3 dd G2 H2 (e1.trans e2) hv hdd gdd
  · have hm : ¬ isMa d = true := by
      intro h
      rw [if_pos h] at hex
      cases hex
    rw [if_neg hm] at ho hex
    cases hex
    subst ho
    cases hv
    exact k _ dd G1 H1 e1 rfl hdd gdd
/-- need_code, term_of -/
def needO (CM CC : Addr) (f : Tm → PyData) (d d2 : PyData) : Out := if isMa d = true then (match readD (manyD d) d2 with | some t => .ok (f t) | none => .ex CC "code" 1) else .ex CM "many" 0
abbrev spNC (K : PySem.W.Frag) (CM CC : Addr) (f : Tm → PyData) : Sp := spX K 2 fun ds o => ∃ (d d2 : PyData), ds = [d, d2] ∧ CodeOk d2 ∧ o = needO CM CC f d d2
theorem ok_need_code (T : Txt K mg) (Y : Txe K mg) : FnOk P w K mg base (L2.CX P w) 186 T.need_code.f T.need_code.fd ["many", "code"] (spNC K Y.eM.C Y.eC.C fun t => .tuple [.list (put [] 0 t), t.py]) := by
  have g_check_many : FnOk P w K mg base (L2.CX P w) 3 _ _ _ _ := ok_check_many T Y
  have g_read_code : FnOk P w K mg base CX0 185 _ _ _ _ := ok_read_code T
  have g_own_code : FnOk P w K mg base CX0 63 _ _ _ _ := ok_own_code T 60 (by omega)
  have g_eC : FnOk P w K mg base CX0 1 _ _ _ _ := ok_iC Y
  refine T.need_code.F.okX (k := 185) sc_need_code (fun vs H Q E z => z.1) (fun cdv Ar outer s H vs Q E hr z => ?_)
  obtain ⟨hl, G, ds, o, e, r, ⟨d, d2, rfl, hc, ho⟩, k⟩ := z
  cases r with
  | @cons v1 _ _ _ r1 r =>
  cases r with
  | @cons v2 _ _ _ r2 r =>
  cases r
  have tk := takes_of (X := cxOf (L2.CX P w) P w K mg base ["many", "code", "term"] "need_code" (defScope s_need_code) T.need_code.f cdv Ar outer s H E) rfl rfl rfl rfl
  refine ⟨_, (pss_cons (ps_expr (pe_callS g_check_many (hr.mono (by omega)) rfl T.check_many.m T.check_many.F.kp T.check_many.b (fun σ => passAt tk σ) (pa_cons (pv 0) pa_nil)))
      (pss_cons (ps_set (i := 2) sc_need_code.nd rfl (Or.inl rfl) (pe_call g_read_code (hr.mono (by omega)) rfl T.read_code.m T.read_code.F.kp T.read_code.b .nil pass0 (pa_cons (pv 0) (pa_cons (pv 1) pa_nil))))
      (pss_cons (ps_if (pt_cmpR op_isNX (pv 2) pe_non (nomark _)) (pss_one (ps_raise rfl tk (pmk_oex Y.eC.T Y.eC.iC Y.eC.tI g_eC (hr.mono (by omega)) Y.eC.b .nil pass0 rfl Y.eC.m (pa_cons (pv 1) pa_nil)))) pss_nil)
      (pss_one (ps_ret (pe_tup (pa_cons (pe_call g_own_code (hr.mono (by omega)) rfl T.own_code.m T.own_code.F.kp T.own_code.b .nil pass0 (pa_cons (pv 2) pa_nil)) (pa_cons (pv 2) pa_nil)))))))), ?_⟩
  refine ds_seq ?_
  show tCallS _ _ _ _ _ _
  refine dx_call (ds := [d]) (vs := [v1]) e (fun Q' q => ⟨v1, rfl, q⟩) (.cons r1 .nil) rfl ⟨d, rfl, rfl⟩ (fun d' hd' v G1 H1 e1 q1 => ?_) fun C f i hex v dd G1 H1 e1 hv hdd gdd => ?_
  · have hm : isMa d = true := by
      by_cases h : isMa d = true
      · exact h
      · rw [if_neg h] at hd'; cases hd'
    unfold needO at ho
    rw [if_pos hm] at ho
    have hdm := isMa_int hm
    have r1' : Rp K G1 v1 (.int (manyD d)) := by rw [← hdm]; exact e1.rp r1
    dsimp only
    refine ds_seq ?_
    refine ds_set (K := K) e1.gh (dv_call2 (f := mI fun m d => oTm (readD m d)) (dv_var rfl r1') (dv_var rfl (e1.rp r2)) ⟨⟨manyD d, rfl⟩, hc⟩) fun vt G2 H2 e2 qt => ?_
    have qt : Rp K G2 vt (oTm (readD (manyD d) d2)) := qt
    dsimp only
    refine ds_seq ?_
    refine ds_if e2.gh (dvt_test (dv_isN (dv_var rfl qt))) (fun h G3 H3 e3 => ?_) fun h G3 H3 e3 => ?_
    · rw [isN_oTm] at h
      cases hb : readD (manyD d) d2 with
      | some t => rw [hb] at h; cases h
      | none =>
        rw [hb] at ho
        subst ho
        exact ds_raise e3.gh rfl fun dd H' e4 hd gd => k _ dd G3 H' (((e1.trans e2).trans e3).trans e4) rfl hd gd
    · rw [isN_oTm] at h
      cases hb : readD (manyD d) d2 with
      | none => rw [hb] at h; cases h
      | some t =>
        rw [hb] at ho qt
        subst ho
        obtain ⟨l, _, _, h1, h2, h3, _⟩ := readD_ok hc hb
        have qt : Rp K G2 vt t.py := qt
        refine ds_ret (K := K) e3.gh (dv_tup2 (dv_callT (f := fun t => .list (put [] 0 t)) (t := t) (dv_var rfl (e3.rp qt)) ⟨h1, by omega, closed_bnd h3, by omega⟩) (dv_var rfl (e3.rp qt))) fun v G4 H4 e4 q => k v G4 H4 (((e1.trans e2).trans e3).trans e4) q
  · have hm : ¬ isMa d = true := by
      intro h
      rw [if_pos h] at hex
      cases hex
    unfold needO at ho
    rw [if_neg hm] at ho hex
    cases hex
    subst ho
    cases hv
    exact k _ dd G1 H1 e1 rfl hdd gdd
theorem ok_term_of (T : Txt K mg) (Y : Txe K mg) : FnOk P w K mg base (L2.CX P w) 187 T.term_of.f T.term_of.fd ["many", "code"] (spNC K Y.eM.C Y.eC.C Tm.py) := by
  have g_need_code : FnOk P w K mg base (L2.CX P w) 186 _ _ _ _ := ok_need_code T Y
  refine T.term_of.F.okX (k := 186) sc_term_of (fun vs H Q E z => z.1) (fun cdv Ar outer s H vs Q E hr z => ?_)
  obtain ⟨hl, G, ds, o, e, r, ⟨d, d2, rfl, hc, ho⟩, k⟩ := z
  cases r with
  | @cons v1 _ _ _ r1 r =>
  cases r with
  | @cons v2 _ _ _ r2 r =>
  cases r
  have tk := takes_of (X := cxOf (L2.CX P w) P w K mg base ["many", "code"] "term_of" (defScope s_term_of) T.term_of.f cdv Ar outer s H E) rfl rfl rfl rfl
  refine ⟨_, (pss_one (ps_ret (pe_ix ix_seq (pe_callS g_need_code (hr.mono (by omega)) rfl T.need_code.m T.need_code.F.kp T.need_code.b (fun σ => passAt tk σ) (pa_cons (pv 0) (pa_cons (pv 1) pa_nil))) pe_int (fun _ _ => rfl)))), ?_⟩
  show tCallS (spNC K Y.eM.C Y.eC.C fun t => .tuple [.list (put [] 0 t), t.py]) (WE fun cls d _ H => E cls d H) (tCons (tVar 0) (tCons (tVar 1) tNil)) (start ["many", "code"] [v1, v2]) H (fun x H1 => rIx K x (.int 1) H1 Q)
  refine dx_call (ds := [d, d2]) (vs := [v1, v2]) e (fun Q' q => ⟨v1, rfl, v2, rfl, q⟩) (.cons r1 (.cons r2 .nil)) rfl ⟨d, d2, rfl, hc, rfl⟩ (fun d' hd' v G1 H1 e1 q1 => ?_) fun C f i hex v dd G1 H1 e1 hv hdd gdd => ?_
  · unfold needO at hd' ho
    split at hd'
    · rename_i hm
      rw [if_pos hm] at ho
      cases hb : readD (manyD d) d2 with
      | none => rw [hb] at hd'; cases hd'
      | some t =>
        rw [hb] at hd' ho
        cases hd'
        subst ho
        cases q1 with
        | tup h1 h2 =>
          cases h2 with
          | cons a1 h2 =>
          cases h2 with
          | cons a2 h2 =>
          cases h2
          exact .inr (.inl ⟨_, _, 1, _, rfl, rfl, Same.sqt e1.gh h1, rfl, k _ G1 H1 e1 a2⟩)
    · cases hd'
  · unfold needO at hex ho
    split at hex
    · rename_i hm
      rw [if_pos hm] at ho
      cases hb : readD (manyD d) d2 with
      | some t => rw [hb] at hex; cases hex
      | none =>
        rw [hb] at hex ho
        cases hex
        subst ho
        exact k v dd G1 H1 e1 hv hdd gdd
    · rename_i hm
      rw [if_neg hm] at ho
      cases hex
      subst ho
      exact k v dd G1 H1 e1 hv hdd gdd
end
end K82

set_option Elab.async false
set_option linter.all false
set_option maxRecDepth 100000
set_option maxHeartbeats 4000000
/-! law: same. -/
namespace K82
open PySem L2 PyProof.Rows
open Classical in
theorem Ext.bulk {G H G1 H1 H2 : Hp} (a : Ext G H G1 H1) (hs : Same H1 H2) (S : Addr → Prop) (hn : ∀ b, S b → H1 b = none) : Ext G H (fun b => if S b then H2 b else G1 b) H2 := by
  refine ⟨a.hh.trans hs, fun b u q => ?_, fun b u q => ?_, fun b q => ?_⟩
  · by_cases h : S b
    · have := a.gh _ _ (a.gg _ _ q)
      rw [hn b h] at this
      cases this
    · simp only [h, if_false]
      exact a.gg _ _ q
  · by_cases h : S b
    · simpa only [h, if_true] using q
    · simp only [h, if_false] at q
      exact hs _ _ (a.gh _ _ q)
  · by_cases h : S b
    · exact .inr (a.fresh (hn b h))
    · simp only [h, if_false] at q
      exact a.new b q
section
variable {K : PySem.W.Frag} {σ : L2.St} {G H : Hp} {te : TE}
theorem rp_key {k : Key} : Rp K G (kV k) (keyD k) := by
  cases k with
  | inl i => exact .int i
  | inr x => exact .str x
theorem items_rp {G H' : Hp} (e : Same G H') : ∀ {kvs : List (Key × V)} {ds : List (PyData × PyData)} {ts : List Addr}, RpKv K G kvs ds → Paired (fun (t : Addr) (q : Key × V) => H' t = some (.tup [kV q.1, q.2])) ts kvs → (∀ t ∈ ts, G t = H' t) →
    RpAll K G (ts.map V.ref) (ds.map fun p => .tuple [p.1, p.2])
  | _, _, _, .nil, h, _ => by
    cases h
    exact .nil
  | _, _, _, .cons (k := k) (v := v) (vs := vs) (d := d) (ds := ds) h1 h2, h, hg => by
    cases h with
    | cons a b =>
      refine .cons (.tup (.inl (.inl ((hg _ List.mem_cons_self).trans a))) (.cons rp_key (.cons h1 .nil))) ?_
      exact items_rp e h2 b fun t ht => hg t (List.mem_cons_of_mem _ ht)
open Classical in
theorem dv_listItems {ds : List (PyData × PyData)} (h : Dv K te σ G H (.dict ds)) : Dv K (LiI.tListItems te) σ G H (.list (ds.map fun p => .tuple [p.1, p.2])) := fun G1 H1 e Q k => h G1 H1 e _ fun v G2 H2 e2 q => by
  cases q with
  | @dic a kvs _ h1 h2 =>
    refine ⟨a, kvs, rfl, e2.gh _ _ h1, fun H' p ts hs hp hts hpt hlp hpr => ?_⟩
    have eb := e2.bulk (H2 := H') hs (fun b => b = p ∨ b ∈ ts) (fun b hb => by
      rcases hb with rfl | hb
      · exact hp
      · exact hts b hb)
    have esub := ((Ext.refl e2.gh).bulk (H2 := H') hs (fun b => b = p ∨ b ∈ ts) (fun b hb => by
      rcases hb with rfl | hb
      · exact hp
      · exact hts b hb)).gg
    refine k _ _ H' eb (.lst (xs := ts.map V.ref) ?_ (items_rp eb.gh (RpKv.mono esub _ _ h2) hpr fun t ht => ?_))
    · rw [if_pos (.inl rfl)]
      exact hlp
    · exact if_pos (.inr ht)
end
/-- small data, with no dicts but empty ones -/
def SB : Nat → PyData → Prop
  | 0, _ => False
  | n + 1, d => match d with
    | .list l => l.length < 1000 ∧ ∀ e ∈ l, SB n e
    | .tuple l => l.length < 1000 ∧ ∀ e ∈ l, SB n e
    | .dict l => l = [] ∧ n ≠ 0
    | _ => True
theorem SB.mono : ∀ {n m : Nat} {d : PyData}, SB n d → n ≤ m → SB m d
  | 0, _, _, h, _ => h.elim
  | n + 1, 0, _, _, h => by omega
  | n + 1, m + 1, d, h, k => by
    cases d with
    | list l => exact ⟨h.1, fun e he => (h.2 e he).mono (by omega)⟩
    | tuple l => exact ⟨h.1, fun e he => (h.2 e he).mono (by omega)⟩
    | dict l => exact ⟨h.1, by have := h.2; omega⟩
    | _ => trivial
theorem SB.row {n : Nat} {d : PyData} {l : List PyData} (h : SB (n + 1) d) (hr : rowOf d = some l) : l.length < 1000 ∧ ∀ e ∈ l, SB n e := by
  rcases rowOf_cases hr with q | q <;> subst q <;> exact h
theorem Lt.sb : ∀ {n : Nat} {d : PyData}, Lt n d → SB n d
  | 0, _, h => h.elim
  | n + 1, d, h => by
    cases d with
    | list l =>
      obtain ⟨h1, h2⟩ := Lt.row h rfl
      exact ⟨h1, fun e he => (h2 e he).sb⟩
    | tuple l =>
      obtain ⟨h1, h2⟩ := Lt.row h rfl
      exact ⟨h1, fun e he => (h2 e he).sb⟩
    | dict l =>
      have := h.lay
      simp [PyData.canLay0] at this
    | _ => trivial
mutual
def sameD : PyData → PyData → Bool
  | .list a, .list b => sameDs a b
  | .tuple a, .tuple b => sameDs a b
  | .dict a, .dict b => a.isEmpty && b.isEmpty
  | .bool a, .bool b => a == b
  | .none, .none => true
  | .int a, .int b => decide (a = b)
  | .str a, .str b => decide (a = b)
  | _, _ => false
def sameDs : List PyData → List PyData → Bool
  | [], [] => true
  | a :: l, b :: r => sameD a b && sameDs l r
  | _, _ => false
end
theorem sameDs_len : ∀ {a b : List PyData}, sameDs a b = (decide (a.length = b.length) && ((a.zip b).map fun p => sameD p.1 p.2).all id)
  | [], [] => rfl
  | [], _ :: _ => by simp [sameDs]
  | _ :: _, [] => by simp [sameDs]
  | a :: l, b :: r => by
    rw [sameDs, sameDs_len (a := l) (b := r), List.zip_cons_cons, List.map_cons, List.all_cons, Bool.eq_iff_iff]
    simp
    constructor
    · rintro ⟨h1, h2, h3⟩
      exact ⟨h2, h1, h3⟩
    · rintro ⟨h1, h2, h3⟩
      exact ⟨h2, h1, h3⟩
mutual
theorem sameD_refl : ∀ {n : Nat} (d : PyData), SB n d → sameD d d = true
  | 0, _, h => h.elim
  | n + 1, .list l, h => by rw [sameD]; exact sameDs_refl l h.2
  | n + 1, .tuple l, h => by rw [sameD]; exact sameDs_refl l h.2
  | n + 1, .dict l, h => by rw [sameD, h.1]; rfl
  | n + 1, .none, _ => rfl
  | n + 1, .bool b, _ => by simp [sameD]
  | n + 1, .int b, _ => by simp [sameD]
  | n + 1, .str b, _ => by simp [sameD]
theorem sameDs_refl : ∀ {n : Nat} (l : List PyData), (∀ e ∈ l, SB n e) → sameDs l l = true
  | n, [], _ => rfl
  | n, d :: l, h => by
    rw [sameDs, sameD_refl d (h d (by simp)), sameDs_refl l fun e he => h e (by simp [he])]
    rfl
end
section
variable {P : Program} {w : World} {K : PySem.W.Frag} {mg : Str → Option Value} {base : Heap}
theorem ok_law_same (T : Txt K mg) : ∀ n, FnOk P w K mg base CX0 (n + 1) T.law_same.f T.law_same.fd ["found", "due"] (sp2 K (fun a b => .bool (sameD a b)) fun a b => SB n a ∧ SB n b)
  | 0 => fn_no (by
    rintro vs H Q E ⟨_, _, _, _, _, _, ⟨x, y, _, h, _⟩, _⟩
    exact h.1)
  | n + 1 => by
    have g_law_same : FnOk P w K mg base CX0 (n + 1) _ _ _ _ := ok_law_same T n
    refine ok2 T.law_same sc_law_same fun cdv Ar outer s H Q E v u G a b hr e r r2 hA k => ?_
    obtain ⟨ha, hb⟩ := hA
    refine ⟨_, (pss_cons (ps_if (pt_val (pe_callB call_isiX rfl T.z_isinstance (by decide +kernel) (pa_cons (pv 1) (pa_cons (pe_tup (pa_cons (pe_bltn (v := .ty "list") rfl T.z_list (by decide +kernel) rfl) (pa_cons (pe_bltn (v := .ty "tuple") rfl T.z_tuple (by decide +kernel) rfl) pa_nil))) pa_nil)))) (pss_cons (ps_if (PW.pt (pw_or (pt_cmpR (op_neX hr.units) (pe_callB call_isiX rfl T.z_isinstance (by decide +kernel) (pa_cons (pv 0) (pa_cons (pe_bltn (v := .ty "list") rfl T.z_list (by decide +kernel) rfl) pa_nil))) (pe_callB call_isiX rfl T.z_isinstance (by decide +kernel) (pa_cons (pv 1) (pa_cons (pe_bltn (v := .ty "list") rfl T.z_list (by decide +kernel) rfl) pa_nil))) (nomark _)) (pw_or1 (pt_cmpR (op_neX hr.units) (pe_callB call_isiX rfl T.z_isinstance (by decide +kernel) (pa_cons (pv 0) (pa_cons (pe_bltn (v := .ty "tuple") rfl T.z_tuple (by decide +kernel) rfl) pa_nil))) (pe_callB call_isiX rfl T.z_isinstance (by decide +kernel) (pa_cons (pv 1) (pa_cons (pe_bltn (v := .ty "tuple") rfl T.z_tuple (by decide +kernel) rfl) pa_nil))) (nomark _))))) (pss_one (ps_ret pe_bl)) pss_nil)
      (pss_one (ps_ret (pe_and (pe_cmpR (op_eqX hr.units) (pe_callB call_lenX rfl T.z_len (by decide +kernel) (pa_cons (pv 0) pa_nil)) (pe_callB call_lenX rfl T.z_len (by decide +kernel) (pa_cons (pv 1) pa_nil)) (nomark _)) (pe_one (pe_callB (cr_all rfl) rfl T.z_all (by decide +kernel) (pa_cons (pe_lc (own := [("mine", 2), ("theirs", 3)]) (g := _) (tt := tYes) rfl sc_law_same.nd (RZ.pi_zipA (by rfl) T.z_zip (pa_cons (pv 0) (pa_cons (pv 1) pa_nil))) (blkOk_by (N := ["found", "due", "mine", "theirs"]) (sc := defScope s_law_same) (by decide +kernel)) (fun _ _ _ _ _ => (pg_tupK (n := 2) K rfl rfl (pgs_cons (pg_name (i := 2) sc_law_same.nd rfl (Or.inl rfl)) (pgs_cons (pg_name (i := 3) sc_law_same.nd rfl (Or.inl rfl)) pgs_nil)))) (fun _ _ _ _ _ => pts_nil) (fun _ _ _ _ _ => (pe_call g_law_same (hr.mono (by omega)) rfl T.law_same.m T.law_same.F.kp T.law_same.b .nil pass0 (pa_cons (pv 2) (pa_cons (pv 3) pa_nil))))) pa_nil))))))) pss_nil)
      (pss_cons (ps_if (pt_val (pe_callB call_isiX rfl T.z_isinstance (by decide +kernel) (pa_cons (pv 1) (pa_cons (pe_bltn (v := .ty "dict") rfl T.z_dict (by decide +kernel) rfl) pa_nil)))) (pss_one (ps_ret (pe_and (pe_callB call_isiX rfl T.z_isinstance (by decide +kernel) (pa_cons (pv 0) (pa_cons (pe_bltn (v := .ty "dict") rfl T.z_dict (by decide +kernel) rfl) pa_nil))) (pe_one (pe_call g_law_same (hr.mono (by omega)) rfl T.law_same.m T.law_same.F.kp T.law_same.b .nil pass0 (pa_cons (LiI.pe_listItems rfl (pv 0) rfl T.z_list (by decide +kernel)) (pa_cons (LiI.pe_listItems rfl (pv 1) rfl T.z_list (by decide +kernel)) pa_nil))))))) pss_nil)
      (pss_cons (ps_if (PW.pt (pw_or (pt_val (pe_callB call_isiX rfl T.z_isinstance (by decide +kernel) (pa_cons (pv 1) (pa_cons (pe_bltn (v := .ty "bool") rfl T.z_bool (by decide +kernel) rfl) pa_nil)))) (pw_or1 (pt_val (pe_callB call_isiX rfl T.z_isinstance (by decide +kernel) (pa_cons (pv 0) (pa_cons (pe_bltn (v := .ty "bool") rfl T.z_bool (by decide +kernel) rfl) pa_nil))))))) (pss_one (ps_ret (pe_and (pe_callB call_isiX rfl T.z_isinstance (by decide +kernel) (pa_cons (pv 1) (pa_cons (pe_bltn (v := .ty "bool") rfl T.z_bool (by decide +kernel) rfl) pa_nil))) (pe_and (pe_callB call_isiX rfl T.z_isinstance (by decide +kernel) (pa_cons (pv 0) (pa_cons (pe_bltn (v := .ty "bool") rfl T.z_bool (by decide +kernel) rfl) pa_nil))) (pe_one (pe_cmpR (op_eqX hr.units) (pv 0) (pv 1) (nomark _))))))) pss_nil)
      (pss_cons (ps_if (PW.pt (pw_or (pt_cmpR op_isNX (pv 1) pe_non (nomark _)) (pw_or1 (pt_cmpR op_isNX (pv 0) pe_non (nomark _))))) (pss_one (ps_ret (pe_and (pe_cmpR op_isNX (pv 1) pe_non (nomark _)) (pe_one (pe_cmpR op_isNX (pv 0) pe_non (nomark _)))))) pss_nil)
      (pss_cons (ps_if (PW.pt (pw_or (pt_cmpR (op_neX hr.units) (pe_callB call_isiX rfl T.z_isinstance (by decide +kernel) (pa_cons (pv 1) (pa_cons (pe_bltn (v := .ty "int") rfl T.z_int (by decide +kernel) rfl) pa_nil))) (pe_callB call_isiX rfl T.z_isinstance (by decide +kernel) (pa_cons (pv 0) (pa_cons (pe_bltn (v := .ty "int") rfl T.z_int (by decide +kernel) rfl) pa_nil))) (nomark _)) (pw_or1 (pt_cmpR (op_neX hr.units) (pe_callB call_isiX rfl T.z_isinstance (by decide +kernel) (pa_cons (pv 1) (pa_cons (pe_bltn (v := .ty "str") rfl T.z_str (by decide +kernel) rfl) pa_nil))) (pe_callB call_isiX rfl T.z_isinstance (by decide +kernel) (pa_cons (pv 0) (pa_cons (pe_bltn (v := .ty "str") rfl T.z_str (by decide +kernel) rfl) pa_nil))) (nomark _))))) (pss_one (ps_ret pe_bl)) pss_nil)
      (pss_one (ps_ret (pe_and (pe_not (pe_callB call_isiX rfl T.z_isinstance (by decide +kernel) (pa_cons (pv 0) (pa_cons (pe_tup (pa_cons (pe_bltn (v := .ty "list") rfl T.z_list (by decide +kernel) rfl) (pa_cons (pe_bltn (v := .ty "tuple") rfl T.z_tuple (by decide +kernel) rfl) (pa_cons (pe_bltn (v := .ty "dict") rfl T.z_dict (by decide +kernel) rfl) pa_nil)))) pa_nil)))) (pe_one (pe_cmpR (op_eqX hr.units) (pv 0) (pv 1) (nomark _))))))))))), ?_⟩
    refine ds_seq ?_
    refine ds_if e (dvt_B (dv_isi2 .list .tuple (dv_var rfl r2))) (fun h G1 H1 e1 => ?_) fun h0 G1 H1 e1 => ?_
    · obtain ⟨bs, hbs⟩ := isL_some (d := b) h
      refine ds_seq ?_
      refine ds_if (b := (isD a .list != isD b .list) || (isD a .tuple != isD b .tuple)) e1.gh (DvT.is (dvt_or (dvt_test (dv_ne (dv_isi .list (dv_var rfl (e1.rp r))) (dv_isi .list (dv_var rfl (e1.rp r2))) rfl)) fun _ => dvt_test (dv_ne (dv_isi .tuple (dv_var rfl (e1.rp r))) (dv_isi .tuple (dv_var rfl (e1.rp r2))) rfl)) ?_) (fun h G2 H2 e2 => ?_) fun h G2 H2 e2 => ?_
      · simp [PyData.eqv, bne]
      · refine ds_ret e2.gh (d := .bool (sameD a b)) (Dv.is dv_bl ?_) fun v G3 H3 e3 q => k v G3 H3 ((e1.trans e2).trans e3) q
        cases a <;> cases b <;> simp_all [isD, kd, isK, sameD, rowOf]
      · rw [Bool.or_eq_false_iff] at h
        obtain ⟨as, hk⟩ : ∃ as, (a = .list as ∧ b = .list bs) ∨ (a = .tuple as ∧ b = .tuple bs) := by
          rcases rowOf_cases hbs with q | q <;> subst q
          · cases a <;> simp [isD, kd, isK] at h
            exact ⟨_, .inl ⟨rfl, rfl⟩⟩
          · cases a <;> simp [isD, kd, isK] at h
            exact ⟨_, .inr ⟨rfl, rfl⟩⟩
        have har : rowOf a = some as := by rcases hk with ⟨rfl, _⟩ | ⟨rfl, _⟩ <;> rfl
        obtain ⟨la, ea⟩ := SB.row ha har
        obtain ⟨lb, eb⟩ := SB.row hb hbs
        have hs : sameD a b = sameDs as bs := by rcases hk with ⟨rfl, rfl⟩ | ⟨rfl, rfl⟩ <;> rw [sameD]
        have e12 := e1.trans e2
        refine ds_ret (K := K) e2.gh (d := .bool (sameD a b)) (Dv.is (dv_and (b := decide (as.length = bs.length)) (c := ((as.zip bs).map fun p => sameD p.1 p.2).all id) (Dv.is (dv_eq (dv_len (dv_var rfl (e12.rp r)) har) (dv_len (dv_var rfl (e12.rp r2)) hbs) rfl) ?_) fun hl => ?_) ?_) fun v G3 H3 e3 q => k v G3 H3 (e12.trans e3) q
        · rw [eqv_int]
          congr 1
          rw [Bool.eq_iff_iff, decide_eq_true_eq, decide_eq_true_eq]
          omega
        · rw [decide_eq_true_eq] at hl
          refine dv_all (Dv.is (dv_lcP (n := 0) (f := fun d => match d with | .tuple [x, y] => .bool (sameD x y) | _ => .none) (by decide) (dvi_zip (dv_var rfl (e12.rp r)) (dv_var rfl (e12.rp r2)) hk hl) (by simp [zips]; omega) (fun d hd => ?_) fun x y hxy vx vy G3 H3 e3 qx qy => ?_) ?_)
          · unfold zips at hd
            obtain ⟨p, _, rfl⟩ := List.mem_map.mp hd
            exact ⟨_, _, rfl⟩
          · unfold zips at hxy
            obtain ⟨p, hp, he⟩ := List.mem_map.mp hxy
            cases he
            have hp' := List.of_mem_zip (a := p.1) (b := p.2) hp
            exact dv_call2 (f := fun a b => .bool (sameD a b)) (dv_var rfl qx) (dv_var rfl qy) ⟨ea _ hp'.1, eb _ hp'.2⟩
          · unfold zips
            rw [List.map_map, List.map_map]
            rfl
        · rw [hs, sameDs_len]
    have hbn : rowOf b = none := isL_none h0
    refine ds_seq ?_
    refine ds_if e1.gh (dvt_B (dv_isi .dict (dv_var rfl (e1.rp r2)))) (fun h G2 H2 e2 => ?_) fun h1 G2 H2 e2 => ?_
    · obtain ⟨l, rfl⟩ : ∃ l, b = .dict l := by cases b <;> simp [isD, kd, isK] at h; exact ⟨_, rfl⟩
      obtain ⟨rfl, hn0⟩ := hb
      have e12 := e1.trans e2
      obtain ⟨m, rfl⟩ : ∃ m, n = m + 1 := ⟨n - 1, by omega⟩
      refine ds_ret (K := K) e2.gh (d := .bool (sameD a (.dict []))) (Dv.is (dv_and (b := isD a .dict) (c := isD a .dict) (dv_isi .dict (dv_var rfl (e12.rp r))) fun hd => ?_) ?_) fun v G3 H3 e3 q => k v G3 H3 (e12.trans e3) q
      · obtain ⟨l, rfl⟩ : ∃ l, a = .dict l := by cases a <;> simp [isD, kd, isK] at hd; exact ⟨_, rfl⟩
        obtain ⟨rfl, _⟩ := ha
        have hsb : SB (m + 1) (.list []) := ⟨by simp, by simp⟩
        exact dv_call2 (f := fun a b => .bool (sameD a b)) (dv_listItems (ds := []) (dv_var rfl (e12.rp r))) (dv_listItems (ds := []) (dv_var rfl (e12.rp r2))) ⟨hsb, hsb⟩
      · cases a with
        | dict l => obtain ⟨rfl, _⟩ := ha; rfl
        | _ => rfl
    have e12 := e1.trans e2
    refine ds_seq ?_
    refine ds_if e2.gh (dvt_or (dvt_B (dv_isi .bool (dv_var rfl (e12.rp r2)))) fun _ => dvt_B (dv_isi .bool (dv_var rfl (e12.rp r)))) (fun h G3 H3 e3 => ?_) fun h2 G3 H3 e3 => ?_
    · have e13 := e12.trans e3
      refine ds_ret (K := K) e3.gh (d := .bool (sameD a b)) (Dv.is (dv_and (b := isD b .bool) (c := isD a .bool && PyData.eqv a b) (dv_isi .bool (dv_var rfl (e13.rp r2))) fun h3 => dv_and (dv_isi .bool (dv_var rfl (e13.rp r))) fun h4 => dv_eq (dv_var rfl (e13.rp r)) (dv_var rfl (e13.rp r2)) ?_) ?_) fun v G4 H4 e4 q => k v G4 H4 (e13.trans e4) q
      · cases a <;> simp [isD, kd, isK] at h4
        cases b <;> simp [isD, kd, isK] at h3
        rfl
      · cases a <;> cases b <;> simp_all [isD, kd, isK, sameD, PyData.eqv]
    refine ds_seq ?_
    have e13 := e12.trans e3
    refine ds_if e3.gh (dvt_or (dvt_test (dv_isN (dv_var rfl (e13.rp r2)))) fun _ => dvt_test (dv_isN (dv_var rfl (e13.rp r)))) (fun h G4 H4 e4 => ?_) fun h3 G4 H4 e4 => ?_
    · have e14 := e13.trans e4
      refine ds_ret (K := K) e4.gh (d := .bool (sameD a b)) (Dv.is (dv_and (b := isN b) (c := isN a) (dv_isN (dv_var rfl (e14.rp r2))) fun h3 => dv_isN (dv_var rfl (e14.rp r))) ?_) fun v G5 H5 e5 q => k v G5 H5 (e14.trans e5) q
      cases a <;> cases b <;> simp_all [isN, sameD]
    refine ds_seq ?_
    have e14 := e13.trans e4
    refine ds_if (b := (isD b .int != isD a .int) || (isD b .str != isD a .str)) e4.gh (DvT.is (dvt_or (dvt_test (dv_ne (dv_isi .int (dv_var rfl (e14.rp r2))) (dv_isi .int (dv_var rfl (e14.rp r))) rfl)) fun _ => dvt_test (dv_ne (dv_isi .str (dv_var rfl (e14.rp r2))) (dv_isi .str (dv_var rfl (e14.rp r))) rfl)) ?_) (fun h G5 H5 e5 => ?_) fun h4 G5 H5 e5 => ?_
    · simp [PyData.eqv, bne]
    · refine ds_ret (K := K) e5.gh (d := .bool (sameD a b)) (Dv.is dv_bl ?_) fun v G6 H6 e6 q => k v G6 H6 ((e14.trans e5).trans e6) q
      cases a <;> cases b <;> simp_all [isD, kd, isK, sameD]
    have e15 := e14.trans e5
    have hlast : (∃ i j, a = .int i ∧ b = .int j) ∨ (∃ i j, a = .str i ∧ b = .str j) := by
      cases b <;> cases a <;> simp_all [isD, kd, isK, isN, rowOf]
    unfold tNext
    dsimp only
    refine ds_ret (K := K) e5.gh (d := .bool (sameD a b)) (Dv.is (dv_and (b := !isAny a [.list, .tuple, .dict]) (dv_not (dv_isi3 .list .tuple .dict (dv_var rfl (e15.rp r)))) fun _ => dv_eq (dv_var rfl (e15.rp r)) (dv_var rfl (e15.rp r2)) ?_) ?_) fun v G6 H6 e6 q => k v G6 H6 (e15.trans e6) q
    · rcases hlast with ⟨i, j, rfl, rfl⟩ | ⟨i, j, rfl, rfl⟩ <;> rfl
    · rcases hlast with ⟨i, j, rfl, rfl⟩ | ⟨i, j, rfl, rfl⟩
      · rw [eqv_int]
        rfl
      · rw [eqv_str]
        rfl
end
end K82

set_option Elab.async false
set_option linter.all false
set_option maxRecDepth 100000
set_option maxHeartbeats 4000000
/-! law: copied, tupled, parts, size, code. -/
namespace K82
open PySem L2 PyProof.Rows
theorem isD_dict_lay {n : Nat} {d : PyData} (g : Lt n d) : isD d .dict = false := by
  have := g.lay
  cases d <;> first | rfl | (simp [PyData.canLay0] at this)
section
variable {P : Program} {w : World} {K : PySem.W.Frag} {mg : Str → Option Value} {base : Heap}
theorem ok_law_tupled (T : Txt K mg) : ∀ n, FnOk P w K mg base CX0 (n + 1) T.law_tupled.f T.law_tupled.fd ["thing"] (sp1 K toT (Lt n))
  | 0 => fn_no no1
  | n + 1 => by
    have g_law_tupled : FnOk P w K mg base CX0 (n + 1) _ _ _ _ := ok_law_tupled T n
    refine ok1 T.law_tupled sc_law_tupled fun cdv Ar outer s H Q E v G d hr e r hA k => ?_
    refine ⟨_, (pss_one (ps_ret (pe_ifExp (pt_val (pe_callB call_isiX rfl T.z_isinstance (by decide +kernel) (pa_cons (pv 0) (pa_cons (pe_tup (pa_cons (pe_bltn (v := .ty "list") rfl T.z_list (by decide +kernel) rfl) (pa_cons (pe_bltn (v := .ty "tuple") rfl T.z_tuple (by decide +kernel) rfl) pa_nil))) pa_nil)))) (pe_callTy call_tupX rfl T.z_tuple (by decide +kernel) (pa_cons (pe_lc (own := [("part", 1)]) (g := gName 1) (tt := tYes) rfl sc_law_tupled.nd (pi_row (pv 0)) (blkOk_by (N := ["thing", "part"]) (sc := defScope s_law_tupled) (by decide +kernel)) (fun _ _ _ _ _ => (pg_name (i := 1) sc_law_tupled.nd rfl (Or.inl rfl))) (fun _ _ _ _ _ => pts_nil) (fun _ _ _ _ _ => (pe_call g_law_tupled (hr.mono (by omega)) rfl T.law_tupled.m T.law_tupled.F.kp T.law_tupled.b .nil pass0 (pa_cons (pv 1) pa_nil)))) pa_nil)) (pv 0)))), ?_⟩
    refine ds_ret e (dv_if (dvt_B (dv_isi2 .list .tuple (dv_var rfl r))) (fun h => ?_) fun h => ?_) k
    · obtain ⟨ds, hds⟩ := isL_some (d := d) h
      obtain ⟨hz, hall⟩ := Lt.row hA hds
      exact Dv.is (dv_tupOf (dv_lcA (dvi_row (dv_var rfl r) hds) (k1 hz) fun d hd x G1 H1 e1 q => dv_call1 (dv_var rfl q) (hall d hd)) rfl) (toT_row hds).symm
    · exact Dv.is (dv_var rfl r) (toT_no (isL_none (d := d) h)).symm
theorem ok_law_copied (T : Txt K mg) : ∀ n, FnOk P w K mg base CX0 (n + 1) T.law_copied.f T.law_copied.fd ["thing"] (sp1 K id (Lt n))
  | 0 => fn_no no1
  | n + 1 => by
    have g_law_copied : FnOk P w K mg base CX0 (n + 1) _ _ _ _ := ok_law_copied T n
    refine ok1 T.law_copied sc_law_copied fun cdv Ar outer s H Q E v G d hr e r hA k => ?_
    refine ⟨_, (pss_cons (ps_if (pt_val (pe_callB call_isiX rfl T.z_isinstance (by decide +kernel) (pa_cons (pv 0) (pa_cons (pe_bltn (v := .ty "dict") rfl T.z_dict (by decide +kernel) rfl) pa_nil)))) (pss_one (ps_ret (pe_callTy (call_dictP rfl) rfl T.z_dict (by decide +kernel) (pa_cons (pe_lc (own := [("key", 2)]) (g := gName 2) (tt := tYes) rfl sc_law_copied.nd (pi_row (pv 0)) (blkOk_by (N := ["thing", "some", "key", "one"]) (sc := defScope s_law_copied) (by decide +kernel)) (fun _ _ _ _ _ => (pg_name (i := 2) sc_law_copied.nd rfl (Or.inl rfl))) (fun _ _ _ _ _ => pts_nil) (fun _ _ _ _ _ => (pe_tup (pa_cons (pv 2) (pa_cons (pe_call g_law_copied (hr.mono (by omega)) rfl T.law_copied.m T.law_copied.F.kp T.law_copied.b .nil pass0 (pa_cons (pe_ix (ix_K K rfl) (pv 0) (pv 2) (fun _ _ => rfl)) pa_nil)) pa_nil))))) pa_nil)))) pss_nil)
      (pss_cons (ps_set (i := 1) sc_law_copied.nd rfl (Or.inl rfl) (pe_ifExp (pt_val (pe_callB call_isiX rfl T.z_isinstance (by decide +kernel) (pa_cons (pv 0) (pa_cons (pe_tup (pa_cons (pe_bltn (v := .ty "list") rfl T.z_list (by decide +kernel) rfl) (pa_cons (pe_bltn (v := .ty "tuple") rfl T.z_tuple (by decide +kernel) rfl) pa_nil))) pa_nil)))) (pe_lc (own := [("one", 3)]) (g := gName 3) (tt := tYes) rfl sc_law_copied.nd (pi_row (pv 0)) (blkOk_by (N := ["thing", "some", "key", "one"]) (sc := defScope s_law_copied) (by decide +kernel)) (fun _ _ _ _ _ => (pg_name (i := 3) sc_law_copied.nd rfl (Or.inl rfl))) (fun _ _ _ _ _ => pts_nil) (fun _ _ _ _ _ => (pe_call g_law_copied (hr.mono (by omega)) rfl T.law_copied.m T.law_copied.F.kp T.law_copied.b .nil pass0 (pa_cons (pv 3) pa_nil)))) (pv 0)))
      (pss_one (ps_ret (pe_ifExp (pt_val (pe_callB call_isiX rfl T.z_isinstance (by decide +kernel) (pa_cons (pv 0) (pa_cons (pe_bltn (v := .ty "tuple") rfl T.z_tuple (by decide +kernel) rfl) pa_nil)))) (pe_callTy call_tupX rfl T.z_tuple (by decide +kernel) (pa_cons (pv 1) pa_nil)) (pv 1)))))), ?_⟩
    refine ds_seq ?_
    refine ds_if (b := false) e (DvT.is (dvt_B (dv_isi .dict (dv_var rfl r))) (isD_dict_lay (n := n + 1) hA)) (fun h => by cases h) fun _ G1 H1 e1 => ?_
    refine ds_seq ?_
    cases hrow : rowOf d with
    | none =>
      refine ds_set (K := K) (d := d) e1.gh (dv_if (b := false) (DvT.is (dvt_B (dv_isi2 .list .tuple (dv_var rfl (e1.rp r)))) (by show isL d = false; rw [isL_row, hrow]; rfl)) (fun h => by cases h) fun _ => dv_var rfl (e1.rp r)) fun vs G2 H2 e2 q2 => ?_
      refine ds_ret (K := K) (d := d) e2.gh (dv_if (b := false) (DvT.is (dvt_B (dv_isi .tuple (dv_var rfl (e2.rp (e1.rp r))))) (by cases d <;> first | rfl | (cases hrow))) (fun h => by cases h) fun _ => dv_var rfl q2) fun v G3 H3 e3 q => k v G3 H3 ((e1.trans e2).trans e3) q
    | some ds =>
      obtain ⟨hz, hall⟩ := Lt.row hA hrow
      refine ds_set (K := K) (d := .list ds) e1.gh (dv_if (b := true) (DvT.is (dvt_B (dv_isi2 .list .tuple (dv_var rfl (e1.rp r)))) (by show isL d = true; rw [isL_row, hrow]; rfl)) (fun _ => Dv.is (dv_lcA (f := id) (dvi_row (dv_var rfl (e1.rp r)) hrow) (k1 hz) fun d hd x G1 H1 e1 q => dv_call1 (dv_var rfl q) (hall d hd)) (by simp)) fun h => by cases h) fun vs G2 H2 e2 q2 => ?_
      refine ds_ret (K := K) (d := d) e2.gh (dv_if (dvt_B (dv_isi .tuple (dv_var rfl (e2.rp (e1.rp r))))) (fun h => Dv.is (dv_tupOf (dv_var rfl q2) rfl) ?_) fun h => Dv.is (dv_var rfl q2) ?_) fun v G3 H3 e3 q => k v G3 H3 ((e1.trans e2).trans e3) q
      · rcases rowOf_cases hrow with z | z <;> subst z
        · cases h
        · rfl
      · rcases rowOf_cases hrow with z | z <;> subst z
        · rfl
        · cases h
theorem ok_law_parts (T : Txt K mg) : FnOk P w K mg base CX0 1 T.law_parts.f T.law_parts.fd ["term"] (spT K (fun t => shr t.py = true) fun t => .list (Tm.pys t.parts)) := by
  refine okT T.law_parts sc_law_parts fun cdv Ar outer s H Q E v G t hr e r hA k => ?_
  refine ⟨_, (pss_cons (ps_if (pt_cmpR (op_inL (hu65 hr)) (pe_ix ix_seq (pv 0) pe_int (fun _ _ => rfl)) (pe_tup (pa_cons pe_str (pa_cons pe_str pa_nil))) rfl) (pss_one (ps_ret (pe_lst (pa_cons (pe_ix ix_seq (pv 0) (pe_un un_neg pe_int) (fun _ _ => rfl)) pa_nil)))) pss_nil)
      (pss_cons (ps_if (pt_cmpR (op_inL (hu65 hr)) (pe_ix ix_seq (pv 0) pe_int (fun _ _ => rfl)) (pe_tup (pa_cons pe_str (pa_cons pe_str pa_nil))) rfl) (pss_one (ps_ret (pe_lst (pa_cons (pe_ix ix_seq (pv 0) pe_int (fun _ _ => rfl)) (pa_cons (pe_ix ix_seq (pv 0) pe_int (fun _ _ => rfl)) pa_nil))))) pss_nil)
      (pss_one (ps_ret (pe_ifExp (pt_cmpR (op_eqX hr.units) (pe_ix ix_seq (pv 0) pe_int (fun _ _ => rfl)) pe_str (nomark _)) (pe_op op_addX (pe_lst (pa_cons (pe_ix ix_seq (pv 0) pe_int (fun _ _ => rfl)) pa_nil)) (pe_callTy call_lstX rfl T.z_list (by decide +kernel) (pa_cons (pe_ix ix_seq (pv 0) pe_int (fun _ _ => rfl)) pa_nil))) (pe_lst pa_nil)))))), ?_⟩
  have hrow := t.row
  refine ds_seq ?_
  refine ds_if e (dvt_test (dv_inT (xs := ["fun", "fix"]) (dv_ix (d := .str t.wo.s) (dv_var rfl r) dv_int hrow at0) (dv_tup2 dv_str dv_str) rfl)) (fun h G2 H2 e2 => ?_) fun h1 G2 H2 e2 => ?_
  · rw [wo_bind] at h
    refine ds_ret e2.gh (d := .list (Tm.pys t.parts)) ?_ fun v G3 H3 e3 q => k v G3 H3 (e2.trans e3) q
    refine Dv.is (dv_lst1 (a := match t with | .fn _ _ t => t.py | .fx _ _ t => t.py | _ => .none) (dv_ix (dv_var rfl (e2.rp r)) (dv_neg dv_int) hrow ?_)) ?_
    · cases t <;> first | rfl | exact Bool.noConfusion h
    · cases t <;> first | rfl | exact Bool.noConfusion h
  rw [wo_bind] at h1
  refine ds_seq ?_
  refine ds_if e2.gh (dvt_test (dv_inT (xs := ["call", "either"]) (dv_ix (d := .str t.wo.s) (dv_var rfl (e2.rp r)) dv_int hrow at0) (dv_tup2 dv_str dv_str) rfl)) (fun h G3 H3 e3 => ?_) fun h2 G3 H3 e3 => ?_
  · rw [wo_two] at h
    refine ds_ret e3.gh (d := .list (Tm.pys t.parts)) ?_ fun v G4 H4 e4 q => k v G4 H4 ((e2.trans e3).trans e4) q
    refine Dv.is (dv_lst2 (a := match t with | .ap t _ => t.py | .ei t _ => t.py | _ => .none) (b := match t with | .ap _ t => t.py | .ei _ t => t.py | _ => .none) (dv_ix (dv_var rfl ((e2.trans e3).rp r)) dv_int hrow ?_) (dv_ix (dv_var rfl ((e2.trans e3).rp r)) dv_int hrow ?_)) ?_
    · cases t <;> first | rfl | exact Bool.noConfusion h
    · cases t <;> first | rfl | exact Bool.noConfusion h
    · cases t <;> first | rfl | exact Bool.noConfusion h
  rw [wo_two] at h2
  have e23 := e2.trans e3
  unfold tNext
  dsimp only
  refine ds_ret (K := K) e3.gh (d := .list (Tm.pys t.parts)) (dv_if (b := t.wo.is .cs) (DvT.is (dvt_test (dv_eq (dv_ix (d := .str t.wo.s) (dv_var rfl (e23.rp r)) dv_int hrow at0) (dv_str (x := "case")) rfl)) (wo_is t.wo .cs)) (fun h => ?_) fun h => ?_) fun v G4 H4 e4 q => k v G4 H4 (e23.trans e4) q
  · cases t with
    | cs u l =>
      have hl : l.length < 1000 := by
        have z : shr (Tm.py (.cs u l)) = true := hA
        simp [Tm.py, shr, shrs] at z
        rw [← pys_len]
        exact z.2.2.1
      refine Dv.is (dv_addL (dv_lst1 (a := u.py) (dv_ix (dv_var rfl (e23.rp r)) dv_int hrow rfl)) (dv_lstOf (dv_ix (d := .tuple (Tm.pys l)) (dv_var rfl (e23.rp r)) dv_int hrow rfl) rfl) ?_) rfl
      rw [pys_len]
      simp
      omega
    | _ => cases h
  · refine Dv.is dv_lst0 ?_
    cases t <;> first | rfl | exact Bool.noConfusion h1 | exact Bool.noConfusion h2 | exact Bool.noConfusion h
end
end K82

set_option Elab.async false
set_option linter.all false
set_option maxRecDepth 100000
set_option maxHeartbeats 4000000
/-! law: size, what is a term. -/
namespace K82
open PySem L2 PyProof.Rows
theorem RpAll.ints {K : PySem.W.Frag} {G : Hp} : ∀ {ns : List Int} {vs : List V}, RpAll K G vs (ns.map .int) → vs = ns.map .int
  | [], _, h => by
    cases h
    rfl
  | b :: bs, _, h => by
    cases h with
    | cons h1 h2 =>
      cases h1
      rw [RpAll.ints h2]
      rfl
theorem dv_sum {K : PySem.W.Frag} {σ : L2.St} {G H : Hp} {ta : TE} {ns : List Int} (ha : Dv K ta σ G H (.list (ns.map .int))) : Dv K (tCB (rSum K) (tCons ta tNil)) σ G H (.int ns.sum) := fun G1 H1 e Q k =>
  ha G1 H1 e _ fun x G2 H2 e2 qx => by
    cases qx with
    | lst h1 h2 =>
      have z := h2.ints
      subst z
      exact ⟨_, ns, rfl, SqL.of (e2.gh _ _ h1), k _ G2 H2 e2 (.int _)⟩
theorem sizes_sum : ∀ l : List Tm, ((l.map fun t => ((t.size : Nat) : Int)).sum) = ((Tm.sizes l : Nat) : Int)
  | [] => rfl
  | t :: l => by
    rw [List.map_cons, List.sum_cons, sizes_sum l, Tm.sizes]
    omega
/-- the world where nothing changes -/
def D0 : Wd where
  M := Unit
  W := fun _ => False
  J := fun _ _ _ => True
  mono := fun _ _ _ _ => trivial
  alive := fun _ _ w => w.elim
  free := fun _ _ w => w.elim
theorem dv_of_mv {K : PySem.W.Frag} {σ : L2.St} {G H : Hp} {te : TE} {d : PyData} (h : Mv K D0 te σ G () (fun d' _ => d' = d)) : Dv K te σ G H d := fun G1 H1 e Q k => h G1 H1 e trivial Q fun v d' m' G2 H2 e2 _ r hd => k v G2 H2 (e2.ext (fun b w => (show False from w).elim)) (hd ▸ r)
theorem take_snoc {α : Type} {l : List α} {k : Nat} {x : α} (h : l[k]? = some x) : l.take (k + 1) = l.take k ++ [x] := by
  obtain ⟨h1, h2⟩ := List.getElem?_eq_some_iff.mp h
  rw [← h2, List.take_append_getElem]
/-- a comprehension over data of things -/
theorem dv_lcM {K : PySem.W.Frag} {σ : L2.St} {G H : Hp} {te : TE} {wi : TI} {i : Nat} {α : Type} {xs : List α} {g f : α → PyData} (hw : DvI K wi σ G H (xs.map g)) (hz : xs.length < 100000) (he : ∀ x ∈ xs, ∀ v G1 H1, Up G G1 H1 → Rp K G1 v (g x) → Dv K te (σ.set i (some v)) G1 H1 (f x)) :
    Dv K (tLc wi (gName i) tYes te [i]) σ G H (.list (xs.map f)) := dv_of_mv (mv_lc (D := D0) (ds := xs.map g) (fun k acc _ => acc = (xs.take k).map f) hw (by rw [List.length_map]; exact hz) (by simp) (fun k d acc m1 hd hk hI v G1 H1 e r => by
      rw [List.getElem?_map] at hd
      obtain ⟨x, hx, rfl⟩ := Option.map_eq_some_iff.mp hd
      refine mv_dv (he x (List.mem_of_getElem? hx) v G1 H1 e r) ?_
      rw [hI, take_snoc hx, List.map_append]
      rfl) (fun acc m1 _ hI => by
      rw [hI, List.length_map, List.take_length]))
mutual
/-- right names, right constants, cases of m parts -/
def val (m : Int) : Tm → Bool
  | .name x => nmOk x
  | .fn x _ t => nmOk x && val m t
  | .ap t u => val m t && val m u
  | .con c => isBe (.int c) m
  | .no => true
  | .cs t l => val m t && (decide ((l.length : Int) = m) && vals m l)
  | .fx x _ t => nmOk x && val m t
  | .ei t u => val m t && val m u
def vals (m : Int) : List Tm → Bool
  | [] => true
  | t :: l => val m t && vals m l
end
theorem vals_iff {m : Int} : ∀ {l : List Tm}, vals m l = true ↔ ∀ t ∈ l, val m t = true
  | [] => by simp [vals]
  | t :: l => by rw [vals, Bool.and_eq_true, vals_iff (l := l)]; simp
theorem kTm_val {m : Int} : ∀ (n : Nat) (d : PyData) (t : Tm), kTm m n d = some t → val m t = true
  | 0, _, _, h => by cases h
  | n + 1, d, t, h => by
    have hall : ∀ (l : List PyData) (ts : List Tm), allS (l.map (kTm m n)) = some ts → vals m ts = true := by
      intro l
      induction l with
      | nil =>
        intro ts h
        cases h
        rfl
      | cons d l ih =>
        intro ts h
        obtain ⟨t, us, h1, h2, rfl⟩ := allS_cons h
        rw [vals, kTm_val n d t h1, ih us h2]
        rfl
    unfold kTm at h
    split at h
    · split at h
      · cases h
        rfl
      · cases h
    · split at h
      · unfold nameT at h
        split at h
        · split at h
          · cases h
            rename_i q
            simpa [val] using q
          · cases h
        · cases h
      · split at h
        · unfold conT at h
          split at h
          · split at h
            · cases h
              rename_i q
              simpa [val] using q
            · cases h
          · cases h
        · cases h
    · split at h
      · obtain ⟨t', l', h1, h2, rfl⟩ := caseT_some h
        split at h2
        · rename_i l hl
          split at h2
          · rename_i hlm
            have h3 := hall l l' h2
            have h4 := (allS_mem h2).1
            rw [List.length_map] at h4
            rw [val, kTm_val n _ t' h1, h3, h4, decide_eq_true hlm]
            rfl
          · cases h2
        · cases h2
      · split at h
        · obtain ⟨t', u', h1, h2, rfl⟩ := twoT_some h
          rw [val, kTm_val n _ t' h1, kTm_val n _ u' h2]
          rfl
        · split at h
          · obtain ⟨t', u', h1, h2, rfl⟩ := twoT_some h
            rw [val, kTm_val n _ t' h1, kTm_val n _ u' h2]
            rfl
          · cases h
    · split at h
      · obtain ⟨y, s', t', rfl, h1, h2, h3, rfl⟩ := bindT_some h
        rw [val, kTm_val n _ t' h2, h3]
        rfl
      · split at h
        · obtain ⟨y, s', t', rfl, h1, h2, h3, rfl⟩ := bindT_some h
          rw [val, kTm_val n _ t' h2, h3]
          rfl
        · cases h
    · cases h
theorem Ty.isTyl : ∀ t : Ty, isTys t.l = true
  | .nil => rfl
  | .cons a r => by rw [Ty.l, isTys, isTy, Ty.isTyl a, Ty.isTyl r]; rfl
section
variable {P : Program} {w : World} {K : PySem.W.Frag} {mg : Str → Option Value} {base : Heap}
theorem ok_law_size (T : Txt K mg) : ∀ n, FnOk P w K mg base CX0 (n + 2) T.law_size.f T.law_size.fd ["term"] (spT K (fun t => Lt n t.py) fun t => .int t.size)
  | 0 => fn_no (by
    rintro vs H Q E ⟨_, _, _, _, _, _, ⟨x, _, h, _⟩, _⟩
    exact h)
  | n + 1 => by
    have g_law_size : FnOk P w K mg base CX0 (n + 2) _ _ _ _ := ok_law_size T n
    have g_law_parts : FnOk P w K mg base CX0 1 _ _ _ _ := ok_law_parts T
    refine okT (k := n + 2) T.law_size sc_law_size fun cdv Ar outer s H Q E v G t hr e r hA k => ?_
    refine ⟨_, (pss_one (ps_ret (pe_op op_addX pe_int (pe_callB (cr_sum rfl) rfl T.z_sum (by decide +kernel) (pa_cons (pe_lc (own := [("part", 1)]) (g := gName 1) (tt := tYes) rfl sc_law_size.nd (pi_row (pe_call g_law_parts (hr.mono (by omega)) rfl T.law_parts.m T.law_parts.F.kp T.law_parts.b .nil pass0 (pa_cons (pv 0) pa_nil))) (blkOk_by (N := ["term", "part"]) (sc := defScope s_law_size) (by decide +kernel)) (fun _ _ _ _ _ => (pg_name (i := 1) sc_law_size.nd rfl (Or.inl rfl))) (fun _ _ _ _ _ => pts_nil) (fun _ _ _ _ _ => (pe_call g_law_size (hr.mono (by omega)) rfl T.law_size.m T.law_size.F.kp T.law_size.b .nil pass0 (pa_cons (pv 1) pa_nil)))) pa_nil))))), ?_⟩
    obtain ⟨n', hn', hparts⟩ := hA.parts
    cases hn'
    have hpr : rowOf (.list (Tm.pys t.parts)) = some (t.parts.map Tm.py) := by rw [Tm.pys_map]; rfl
    refine ds_ret (K := K) e (Dv.is (dv_addI dv_int (dv_sum (ns := t.parts.map fun u => ((u.size : Nat) : Int)) (Dv.is (dv_lcM (xs := t.parts) (g := Tm.py) (f := fun u => .int u.size) (dvi_row (dv_callT (f := fun t => .list (Tm.pys t.parts)) (t := t) (dv_var rfl r) hA.shr) hpr) (by have := parts_len hA; omega) fun u hu x G1 H1 e1 q => dv_callT (f := fun t => .int t.size) (t := u) (dv_var rfl q) (hparts u hu)) ?_))) ?_) k
    · rw [List.map_map]
      rfl
    · rw [sizes_sum, size_parts]
      congr 1
      omega
theorem ok_law_s_is_kind (T : Txt K mg) : ∀ n, FnOk P w K mg base CX0 (n + 1) T.law_s_is_kind.f T.law_s_is_kind.fd ["thing"] (spD K 1 fun ds d => ∃ t : Ty, ds = [t.py] ∧ Lt n t.py ∧ d = .bool true)
  | 0 => fn_no (by
    rintro vs H Q E ⟨_, _, _, _, _, _, ⟨x, _, h, _⟩, _⟩
    exact h)
  | n + 1 => by
    have g_law_s_is_kind : FnOk P w K mg base CX0 (n + 1) _ _ _ _ := ok_law_s_is_kind T n
    refine T.law_s_is_kind.F.ok (k := n + 1) sc_law_s_is_kind (fun vs H Q E z => z.1) (fun cdv Ar outer s H vs Q E hr z => ?_)
    obtain ⟨hl, G, ds, d, e, r, ⟨t, rfl, hg, rfl⟩, k⟩ := z
    cases r with
    | @cons v1 _ _ _ r1 r =>
    cases r
    refine ⟨_, (pss_one (ps_ret (pe_and (pe_callB call_isiX rfl T.z_isinstance (by decide +kernel) (pa_cons (pv 0) (pa_cons (pe_bltn (v := .ty "tuple") rfl T.z_tuple (by decide +kernel) rfl) pa_nil))) (pe_one (pe_callB (cr_all rfl) rfl T.z_all (by decide +kernel) (pa_cons (pe_lc (own := [("part", 1)]) (g := gName 1) (tt := tYes) rfl sc_law_s_is_kind.nd (pi_row (pv 0)) (blkOk_by (N := ["thing", "part"]) (sc := defScope s_law_s_is_kind) (by decide +kernel)) (fun _ _ _ _ _ => (pg_name (i := 1) sc_law_s_is_kind.nd rfl (Or.inl rfl))) (fun _ _ _ _ _ => pts_nil) (fun _ _ _ _ _ => (pe_call g_law_s_is_kind (hr.mono (by omega)) rfl T.law_s_is_kind.m T.law_s_is_kind.F.kp T.law_s_is_kind.b .nil pass0 (pa_cons (pv 1) pa_nil)))) pa_nil)))))), ?_⟩
    obtain ⟨hz, hall⟩ := Lt.row hg rfl
    have hx : ∀ l : List PyData, (∀ d ∈ l, ∃ a : Ty, d = a.py) → ∃ as : List Ty, l = as.map Ty.py := by
      intro l
      induction l with
      | nil => exact fun _ => ⟨[], rfl⟩
      | cons d l ih =>
        intro h
        obtain ⟨a, rfl⟩ := h d (by simp)
        obtain ⟨as, rfl⟩ := ih fun d hd => h d (by simp [hd])
        exact ⟨a :: as, rfl⟩
    have hy : ∀ t : Ty, ∀ d ∈ t.l, ∃ a : Ty, d = a.py := by
      intro t
      induction t with
      | nil => simp [Ty.l]
      | cons a r _ ih =>
        intro d hd
        rw [Ty.l] at hd
        rcases List.mem_cons.mp hd with rfl | hd
        · exact ⟨a, rfl⟩
        · exact ih d hd
    obtain ⟨as, has⟩ := hx _ (hy t)
    have hrow : rowOf t.py = some (as.map Ty.py) := by rw [← has]; rfl
    refine ds_ret (K := K) (d := .bool true) e (Dv.is (dv_and (b := true) (c := (as.map fun _ => true).all id) (dv_isi .tuple (dv_var rfl r1)) fun _ => dv_all (Dv.is (dv_lcM (xs := as) (g := Ty.py) (f := fun _ => .bool true) (dvi_row (dv_var rfl r1) hrow) ?_ fun a ha x G1 H1 e1 q => dv_call (dva_cons (dv_var rfl q) dva_nil) rfl ⟨a, rfl, ?_, rfl⟩) (by rw [List.map_map]; rfl))) (by simp)) k
    · have : (as.map Ty.py).length < 1000 := by rw [← has]; exact hz
      rw [List.length_map] at this
      omega
    · exact hall _ (by rw [has]; exact List.mem_map.mpr ⟨a, ha, rfl⟩)
theorem ok_law_s_is_name (T : Txt K mg) : FnOk P w K mg base CX0 1 T.law_s_is_name.f T.law_s_is_name.fd ["thing"] (spD K 1 fun ds d => ∃ x : Str, ds = [.str x] ∧ nmOk x = true ∧ d = .bool true) := by
  refine T.law_s_is_name.F.ok (k := 0) sc_law_s_is_name (fun vs H Q E z => z.1) (fun cdv Ar outer s H vs Q E hr z => ?_)
  obtain ⟨hl, G, ds, d, e, r, ⟨x, rfl, hx, rfl⟩, k⟩ := z
  cases r with
  | @cons v1 _ _ _ r1 r =>
  cases r
  refine ⟨_, (pss_one (ps_ret (pe_and (pe_callB call_isiX rfl T.z_isinstance (by decide +kernel) (pa_cons (pv 0) (pa_cons (pe_bltn (v := .ty "str") rfl T.z_str (by decide +kernel) rfl) pa_nil))) (pe_and (pe_chain op_lt op_lt pe_int (pe_callB call_lenX rfl T.z_len (by decide +kernel) (pa_cons (pv 0) pa_nil)) pe_int) (pe_one (pe_callB (cr_all rfl) rfl T.z_all (by decide +kernel) (pa_cons (pe_lc (own := [("sign", 1)]) (g := gName 1) (tt := tYes) rfl sc_law_s_is_name.nd (pi_str (pv 0)) (blkOk_by (N := ["thing", "sign"]) (sc := defScope s_law_s_is_name) (by decide +kernel)) (fun _ _ _ _ _ => (pg_name (i := 1) sc_law_s_is_name.nd rfl (Or.inl rfl))) (fun _ _ _ _ _ => pts_nil) (fun _ _ _ _ _ => (pe_cmpR op_inSg (pv 1) pe_str rfl))) pa_nil))))))), ?_⟩
  unfold nmOk at hx
  rw [Bool.and_eq_true, Bool.and_eq_true, decide_eq_true_eq, decide_eq_true_eq] at hx
  obtain ⟨⟨h1, h2⟩, h3⟩ := hx
  refine ds_ret (K := K) (d := .bool true) e (Dv.is (dv_and (b := true) (c := true) (dv_isi .str (dv_var rfl r1)) fun _ => Dv.is (dv_and (b := true) (c := true) (Dv.is (dv_chain dv_int (dv_lenS (dv_var rfl r1) (by omega)) dv_int) ?_) fun _ => Dv.is (dv_all (bs := x.cps.toList.map fun c => decide (c ∈ smalls.cps.toList)) (Dv.is (dv_lcA (f := fun d => match d with | .str y => .bool (decide (y.cps.toList.headD 0 ∈ smalls.cps.toList)) | _ => .none) (dvi_str (dv_var rfl r1)) ?_ fun d hd y G1 H1 e1 q => ?_) ?_)) ?_) rfl) rfl) k
  · rw [decide_eq_true (by omega), decide_eq_true (by omega)]
    rfl
  · simp only [sgs, List.length_map, Array.length_toList]
    show x.length < 100000
    omega
  · obtain ⟨c, _, rfl⟩ := List.mem_map.mp hd
    exact dv_inSg (dv_var rfl q) dv_str
  · unfold sgs
    rw [List.map_map, List.map_map]
    rfl
  · rw [h3]
end
end K82

set_option Elab.async false
set_option linter.all false
set_option maxRecDepth 100000
set_option maxHeartbeats 4000000
/-! law: what is a term; code. -/
namespace K82
open PySem L2 PyProof.Rows
theorem Tm.tl_len (t : Tm) : (PyData.str t.wo.s :: t.tl).length = t.tl.length + 1 := rfl
theorem eqv_len {x : PyData} {r : List PyData} {z : Int} : PyData.eqv (.int ((x :: r).length : Int)) (.int z) = decide (((r.length + 1 : Nat) : Int) = z) := by
  rw [eqv_int]
  rfl
theorem val_parts {m : Int} {t : Tm} (h : val m t = true) : ∀ u ∈ t.parts, val m u = true := by
  cases t <;> simp [val, Tm.parts, vals_iff] at h ⊢ <;> simp_all
section
variable {P : Program} {w : World} {K : PySem.W.Frag} {mg : Str → Option Value} {base : Heap}
abbrev spIT (K : PySem.W.Frag) (n : Nat) : Sp := spD K 2 fun ds d => ∃ (m : Int) (t : Tm), ds = [.int m, t.py] ∧ Lt n t.py ∧ val m t = true ∧ d = .bool true
theorem ok_law_s_is_term (T : Txt K mg) : ∀ n, FnOk P w K mg base CX0 (n + 2) T.law_s_is_term.f T.law_s_is_term.fd ["many", "thing"] (spIT K n)
  | 0 => fn_no (by
    rintro vs H Q E ⟨_, _, _, _, _, _, ⟨m, t, _, h, _⟩, _⟩
    exact h)
  | n + 1 => by
    have g_law_s_is_term : FnOk P w K mg base CX0 (n + 2) _ _ _ _ := ok_law_s_is_term T n
    have g_law_s_is_kind : FnOk P w K mg base CX0 (n + 1) _ _ _ _ := ok_law_s_is_kind T n
    have g_law_s_is_name : FnOk P w K mg base CX0 1 _ _ _ _ := ok_law_s_is_name T
    refine T.law_s_is_term.F.ok (k := n + 2) sc_law_s_is_term (fun vs H Q E z => z.1) (fun cdv Ar outer s H vs Q E hr z => ?_)
    obtain ⟨hl, G, ds, d, e, r, ⟨m, t, rfl, hg, hv, rfl⟩, k⟩ := z
    cases r with
    | @cons v1 _ _ _ r1 r =>
    cases r with
    | @cons v2 _ _ _ r2 r =>
    cases r
    refine ⟨_, (pss_cons (ps_if (PW.pt (pw_or (pt_not (pt_val (pe_callB call_isiX rfl T.z_isinstance (by decide +kernel) (pa_cons (pv 1) (pa_cons (pe_bltn (v := .ty "tuple") rfl T.z_tuple (by decide +kernel) rfl) pa_nil))))) (pw_or (pt_cmpR (op_eqX hr.units) (pe_callB call_lenX rfl T.z_len (by decide +kernel) (pa_cons (pv 1) pa_nil)) pe_int (nomark _)) (pw_or1 (pt_not (pt_val (pe_callB call_isiX rfl T.z_isinstance (by decide +kernel) (pa_cons (pe_ix ix_seq (pv 1) pe_int (fun _ _ => rfl)) (pa_cons (pe_bltn (v := .ty "str") rfl T.z_str (by decide +kernel) rfl) pa_nil))))))))) (pss_one (ps_ret pe_bl)) pss_nil)
      (pss_cons (ps_par (i := 2) (j := 3) rfl sc_law_s_is_term.nd rfl rfl (by decide) rfl rfl (pa_cons (pe_ix ix_seq (pv 1) pe_int (fun _ _ => rfl)) (pa_cons (pe_callB call_lenX rfl T.z_len (by decide +kernel) (pa_cons (pv 1) pa_nil)) pa_nil)) rfl)
      (pss_cons (ps_if (pt_cmpR (op_eqX hr.units) (pv 2) pe_str (nomark _)) (pss_one (ps_ret (pe_cmpR (op_eqX hr.units) (pv 3) pe_int (nomark _)))) pss_nil)
      (pss_cons (ps_if (pt_cmpR (op_eqX hr.units) (pv 2) pe_str (nomark _)) (pss_one (ps_ret (pe_and (pe_cmpR (op_eqX hr.units) (pv 3) pe_int (nomark _)) (pe_one (pe_call g_law_s_is_name (hr.mono (by omega)) rfl T.law_s_is_name.m T.law_s_is_name.F.kp T.law_s_is_name.b .nil pass0 (pa_cons (pe_ix ix_seq (pv 1) pe_int (fun _ _ => rfl)) pa_nil)))))) pss_nil)
      (pss_cons (ps_if (pt_cmpR (op_eqX hr.units) (pv 2) pe_str (nomark _)) (pss_one (ps_ret (pe_and (pe_cmpR (op_eqX hr.units) (pv 3) pe_int (nomark _)) (pe_and (pe_callB call_isiX rfl T.z_isinstance (by decide +kernel) (pa_cons (pe_ix ix_seq (pv 1) pe_int (fun _ _ => rfl)) (pa_cons (pe_bltn (v := .ty "int") rfl T.z_int (by decide +kernel) rfl) pa_nil))) (pe_and (pe_not (pe_callB call_isiX rfl T.z_isinstance (by decide +kernel) (pa_cons (pe_ix ix_seq (pv 1) pe_int (fun _ _ => rfl)) (pa_cons (pe_bltn (v := .ty "bool") rfl T.z_bool (by decide +kernel) rfl) pa_nil)))) (pe_one (pe_chain op_le op_lt pe_int (pe_ix ix_seq (pv 1) pe_int (fun _ _ => rfl)) (pv 0)))))))) pss_nil)
      (pss_cons (ps_if (pt_cmpR (op_inL (hu65 hr)) (pv 2) (pe_tup (pa_cons pe_str (pa_cons pe_str pa_nil))) rfl) (pss_one (ps_ret (pe_and (pe_cmpR (op_eqX hr.units) (pv 3) pe_int (nomark _)) (pe_and (pe_call g_law_s_is_name (hr.mono (by omega)) rfl T.law_s_is_name.m T.law_s_is_name.F.kp T.law_s_is_name.b .nil pass0 (pa_cons (pe_ix ix_seq (pv 1) pe_int (fun _ _ => rfl)) pa_nil)) (pe_and (pe_call g_law_s_is_kind (hr.mono (by omega)) rfl T.law_s_is_kind.m T.law_s_is_kind.F.kp T.law_s_is_kind.b .nil pass0 (pa_cons (pe_ix ix_seq (pv 1) pe_int (fun _ _ => rfl)) pa_nil)) (pe_one (pe_call g_law_s_is_term (hr.mono (by omega)) rfl T.law_s_is_term.m T.law_s_is_term.F.kp T.law_s_is_term.b .nil pass0 (pa_cons (pv 0) (pa_cons (pe_ix ix_seq (pv 1) pe_int (fun _ _ => rfl)) pa_nil))))))))) pss_nil)
      (pss_cons (ps_if (pt_cmpR (op_eqX hr.units) (pv 2) pe_str (nomark _)) (pss_cons (ps_if (PW.pt (pw_or (pt_cmpR (op_neX hr.units) (pv 3) pe_int (nomark _)) (pw_or (pt_not (pt_val (pe_callB call_isiX rfl T.z_isinstance (by decide +kernel) (pa_cons (pe_ix ix_seq (pv 1) pe_int (fun _ _ => rfl)) (pa_cons (pe_bltn (v := .ty "tuple") rfl T.z_tuple (by decide +kernel) rfl) pa_nil))))) (pw_or1 (pt_cmpR (op_neX hr.units) (pe_callB call_lenX rfl T.z_len (by decide +kernel) (pa_cons (pe_ix ix_seq (pv 1) pe_int (fun _ _ => rfl)) pa_nil)) (pv 0) (nomark _)))))) (pss_one (ps_ret pe_bl)) pss_nil)
      (pss_one (ps_ret (pe_and (pe_call g_law_s_is_term (hr.mono (by omega)) rfl T.law_s_is_term.m T.law_s_is_term.F.kp T.law_s_is_term.b .nil pass0 (pa_cons (pv 0) (pa_cons (pe_ix ix_seq (pv 1) pe_int (fun _ _ => rfl)) pa_nil))) (pe_one (pe_callB (cr_all rfl) rfl T.z_all (by decide +kernel) (pa_cons (pe_lc (own := [("part", 4)]) (g := gName 4) (tt := tYes) rfl sc_law_s_is_term.nd (pi_row (pe_ix ix_seq (pv 1) pe_int (fun _ _ => rfl))) (blkOk_by (N := ["many", "thing", "word", "size", "part"]) (sc := defScope s_law_s_is_term) (by decide +kernel)) (fun _ _ _ _ _ => (pg_name (i := 4) sc_law_s_is_term.nd rfl (Or.inl rfl))) (fun _ _ _ _ _ => pts_nil) (fun _ _ _ _ _ => (pe_call g_law_s_is_term (hr.mono (by omega)) rfl T.law_s_is_term.m T.law_s_is_term.F.kp T.law_s_is_term.b .nil pass0 (pa_cons (pv 0) (pa_cons (pv 4) pa_nil))))) pa_nil))))))) pss_nil)
      (pss_one (ps_ret (pe_and (pe_cmpR (op_inL (hu65 hr)) (pv 2) (pe_tup (pa_cons pe_str (pa_cons pe_str pa_nil))) rfl) (pe_and (pe_cmpR (op_eqX hr.units) (pv 3) pe_int (nomark _)) (pe_and (pe_call g_law_s_is_term (hr.mono (by omega)) rfl T.law_s_is_term.m T.law_s_is_term.F.kp T.law_s_is_term.b .nil pass0 (pa_cons (pv 0) (pa_cons (pe_ix ix_seq (pv 1) pe_int (fun _ _ => rfl)) pa_nil))) (pe_one (pe_call g_law_s_is_term (hr.mono (by omega)) rfl T.law_s_is_term.m T.law_s_is_term.F.kp T.law_s_is_term.b .nil pass0 (pa_cons (pv 0) (pa_cons (pe_ix ix_seq (pv 1) pe_int (fun _ _ => rfl)) pa_nil)))))))))))))))), ?_⟩
    have hrow := t.row
    obtain ⟨n', hn', hz, hall⟩ := Lt.row' hg hrow
    cases hn'
    obtain ⟨n'', hn'', hparts⟩ := hg.parts
    cases hn''
    have hpv := val_parts hv
    have htt : isD t.py .tuple = true := by cases t <;> rfl
    refine ds_seq ?_
    refine ds_if (b := false) e (DvT.is (dvt_or (b := false) (c := false) (DvT.is (dvt_not (dvt_B (dv_isi .tuple (dv_var rfl r2)))) (by rw [htt]; rfl)) fun _ => DvT.is (dvt_or (b := false) (c := false) (DvT.is (dvt_test (dv_eq (dv_len (dv_var rfl r2) hrow) dv_int rfl)) (by rw [eqv_len, decide_eq_false_iff_not]; omega)) fun _ => DvT.is (dvt_not (dvt_B (dv_isi .str (dv_ix (d := .str t.wo.s) (dv_var rfl r2) dv_int hrow at0)))) rfl) rfl) rfl) (fun h => by cases h) fun _ G1 H1 e1 => ?_
    refine ds_seq ?_
    refine ds_par e1.gh (dva_cons (d := .str t.wo.s) (dv_ix (dv_var rfl (e1.rp r2)) dv_int hrow at0) (dva_cons (dv_len (dv_var rfl (e1.rp r2)) hrow) dva_nil)) fun vw vs G2 H2 e2 qw qs => ?_
    dsimp only
    have e12 := e1.trans e2
    have kk : ∀ {G3 H3 : Hp}, Ext G2 H2 G3 H3 → ∀ {te : TE} {σ : L2.St}, Dv K te σ G3 H3 (.bool true) → te σ H3 Q := fun {G3 H3} e3 {te} {σ} h => h G3 H3 (Up.refl e3.gh) Q fun v G4 H4 e4 q => k v G4 H4 ((e12.trans e3).trans e4) q
    have hlen : ∀ z : Int, ∀ {σ : L2.St} {i : Nat} {G3 H3 : Hp}, Ext G2 H2 G3 H3 → σ[i]? = some (some vs) → Dv K (tOp (rEqX K) (tVar i) (tC (.int z))) σ G3 H3 (.bool (decide (((t.tl.length + 1 : Nat) : Int) = z))) := fun z {σ i G3 H3} e3 hs => Dv.is (dv_eq (dv_var hs (e3.rp qs)) dv_int rfl) (by rw [eqv_len])
    -- nothing
    refine ds_seq ?_
    refine ds_if (b := t.wo.is .no) e2.gh (DvT.is (dvt_test (dv_eq (dv_var rfl qw) (dv_str (x := "nothing")) rfl)) (wo_is t.wo .no)) (fun h G3 H3 e3 => ?_) fun h1 G3 H3 e3 => ?_
    · cases t with
      | no => exact kk e3 (hlen 1 e3 rfl)
      | _ => cases h
    refine ds_seq ?_
    refine ds_if (b := t.wo.is .name) e3.gh (DvT.is (dvt_test (dv_eq (dv_var rfl (e3.rp qw)) (dv_str (x := "name")) rfl)) (wo_is t.wo .name)) (fun h G4 H4 e4 => ?_) fun h2 G4 H4 e4 => ?_
    · cases t with
      | name x =>
        have hx : nmOk x = true := hv
        exact kk (e3.trans e4) (Dv.is (dv_and (b := true) (c := true) (hlen 2 (e3.trans e4) rfl) fun _ => dv_call (dva_cons (dv_ix (d := .str x) (dv_var rfl ((e3.trans e4).rp (e12.rp r2))) dv_int hrow rfl) dva_nil) rfl ⟨x, rfl, hx, rfl⟩) rfl)
      | _ => cases h
    have e24 := e3.trans e4
    refine ds_seq ?_
    refine ds_if (b := t.wo.is .con) e4.gh (DvT.is (dvt_test (dv_eq (dv_var rfl (e24.rp qw)) (dv_str (x := "constant")) rfl)) (wo_is t.wo .con)) (fun h G5 H5 e5 => ?_) fun h3 G5 H5 e5 => ?_
    · cases t with
      | con c =>
        have hx : (decide (0 ≤ c) && decide (c < m)) = true := hv
        rw [Bool.and_eq_true, decide_eq_true_eq, decide_eq_true_eq] at hx
        have e25 := e24.trans e5
        exact kk e25 (Dv.is (dv_and (b := true) (c := true) (hlen 2 e25 rfl) fun _ => Dv.is (dv_and (b := true) (c := true) (dv_isi .int (dv_ix (d := .int c) (dv_var rfl (e25.rp (e12.rp r2))) dv_int hrow rfl)) fun _ => Dv.is (dv_and (b := true) (c := true) (dv_not (dv_isi .bool (dv_ix (d := .int c) (dv_var rfl (e25.rp (e12.rp r2))) dv_int hrow rfl))) fun _ => Dv.is (dv_chain dv_int (dv_ix (d := .int c) (dv_var rfl (e25.rp (e12.rp r2))) dv_int hrow rfl) (dv_var rfl (e25.rp (e12.rp r1)))) (by rw [decide_eq_true hx.1, decide_eq_true hx.2]; rfl)) rfl) rfl) rfl)
      | _ => cases h
    have e25 := e24.trans e5
    refine ds_seq ?_
    refine ds_if (b := t.wo.bind) e5.gh (DvT.is (dvt_test (dv_inT (xs := ["fun", "fix"]) (dv_var rfl (e25.rp qw)) (dv_tup2 dv_str dv_str) rfl)) (wo_bind t.wo)) (fun h G6 H6 e6 => ?_) fun h4 G6 H6 e6 => ?_
    · have e26 := e25.trans e6
      have rr := e26.rp (e12.rp r2)
      have rm := e26.rp (e12.rp r1)
      cases t with
      | fn x s u =>
        have hx : nmOk x = true := by simp [val] at hv; exact hv.1
        exact kk e26 (Dv.is (dv_and (b := true) (c := true) (hlen 4 e26 rfl) fun _ => Dv.is (dv_and (b := true) (c := true) (dv_call (dva_cons (dv_ix (d := .str x) (dv_var rfl rr) dv_int hrow rfl) dva_nil) rfl ⟨x, rfl, hx, rfl⟩) fun _ => Dv.is (dv_and (b := true) (c := true) (dv_call (dva_cons (dv_ix (d := s.py) (dv_var rfl rr) dv_int hrow rfl) dva_nil) rfl ⟨s, rfl, hall _ (by simp [Tm.tl]), rfl⟩) fun _ => dv_call (dva_cons (dv_var rfl rm) (dva_cons (dv_ix (d := u.py) (dv_var rfl rr) dv_int hrow rfl) dva_nil)) rfl ⟨m, u, rfl, hparts u (by simp [Tm.parts]), hpv u (by simp [Tm.parts]), rfl⟩) rfl) rfl) rfl)
      | fx x s u =>
        have hx : nmOk x = true := by simp [val] at hv; exact hv.1
        exact kk e26 (Dv.is (dv_and (b := true) (c := true) (hlen 4 e26 rfl) fun _ => Dv.is (dv_and (b := true) (c := true) (dv_call (dva_cons (dv_ix (d := .str x) (dv_var rfl rr) dv_int hrow rfl) dva_nil) rfl ⟨x, rfl, hx, rfl⟩) fun _ => Dv.is (dv_and (b := true) (c := true) (dv_call (dva_cons (dv_ix (d := s.py) (dv_var rfl rr) dv_int hrow rfl) dva_nil) rfl ⟨s, rfl, hall _ (by simp [Tm.tl]), rfl⟩) fun _ => dv_call (dva_cons (dv_var rfl rm) (dva_cons (dv_ix (d := u.py) (dv_var rfl rr) dv_int hrow rfl) dva_nil)) rfl ⟨m, u, rfl, hparts u (by simp [Tm.parts]), hpv u (by simp [Tm.parts]), rfl⟩) rfl) rfl) rfl)
      | _ => cases h
    have e26 := e25.trans e6
    refine ds_seq ?_
    refine ds_if (b := t.wo.is .cs) e6.gh (DvT.is (dvt_test (dv_eq (dv_var rfl (e26.rp qw)) (dv_str (x := "case")) rfl)) (wo_is t.wo .cs)) (fun h G7 H7 e7 => ?_) fun h5 G7 H7 e7 => ?_
    · have e27 := e26.trans e7
      have rr := e27.rp (e12.rp r2)
      have rm := e27.rp (e12.rp r1)
      cases t with
      | cs u l =>
        have hlm : (l.length : Int) = m := by simp [val] at hv; exact hv.2.1
        have hlr : rowOf (.tuple (Tm.pys l)) = some (l.map Tm.py) := by rw [Tm.pys_map]; rfl
        refine ds_seq ?_
        refine ds_if (b := false) e7.gh (DvT.is (dvt_or (b := false) (c := false) (dvt_test (Dv.is (dv_ne (dv_var rfl (e27.rp qs)) dv_int rfl) (by rw [eqv_len]; rfl))) fun _ => DvT.is (dvt_or (b := false) (c := false) (dvt_not (dvt_B (dv_isi .tuple (dv_ix (d := .tuple (Tm.pys l)) (dv_var rfl rr) dv_int hrow rfl)))) fun _ => DvT.is (dvt_test (dv_ne (dv_len (dv_ix (d := .tuple (Tm.pys l)) (dv_var rfl rr) dv_int hrow rfl) hlr) (dv_var rfl rm) rfl)) ?_) rfl) rfl) (fun h => by cases h) fun _ G8 H8 e8 => ?_
        · rw [eqv_int, List.length_map, decide_eq_true hlm]
          rfl
        · have e28 := e27.trans e8
          refine kk e28 (Dv.is (dv_and (b := true) (c := (l.map fun _ => true).all id) (dv_call (dva_cons (dv_var rfl (e8.rp rm)) (dva_cons (dv_ix (d := u.py) (dv_var rfl (e8.rp rr)) dv_int hrow rfl) dva_nil)) rfl ⟨m, u, rfl, hparts u (by simp [Tm.parts]), hpv u (by simp [Tm.parts]), rfl⟩) fun _ => dv_all (Dv.is (dv_lcM (xs := l) (g := Tm.py) (f := fun _ => .bool true) (dvi_row (dv_ix (d := .tuple (Tm.pys l)) (dv_var rfl (e8.rp rr)) dv_int hrow rfl) hlr) ?_ fun a ha x G9 H9 e9 q => dv_call (dva_cons (dv_var rfl (e9.rp (e8.rp rm))) (dva_cons (dv_var rfl q) dva_nil)) rfl ⟨m, a, rfl, hparts a (by simp [Tm.parts, ha]), hpv a (by simp [Tm.parts, ha]), rfl⟩) (by rw [List.map_map]; rfl))) (by simp))
          have := parts_len hg
          simp [Tm.parts] at this
          omega
      | _ => cases h
    have e27 := e26.trans e7
    have rr := e27.rp (e12.rp r2)
    have rm := e27.rp (e12.rp r1)
    unfold tNext
    dsimp only
    cases t with
    | ap u x => exact kk e27 (Dv.is (dv_and (b := true) (c := true) (dv_inT (xs := ["call", "either"]) (dv_var rfl (e27.rp qw)) (dv_tup2 dv_str dv_str) rfl) fun _ => Dv.is (dv_and (b := true) (c := true) (hlen 3 e27 rfl) fun _ => Dv.is (dv_and (b := true) (c := true) (dv_call (dva_cons (dv_var rfl rm) (dva_cons (dv_ix (d := u.py) (dv_var rfl rr) dv_int hrow rfl) dva_nil)) rfl ⟨m, u, rfl, hparts u (by simp [Tm.parts]), hpv u (by simp [Tm.parts]), rfl⟩) fun _ => dv_call (dva_cons (dv_var rfl rm) (dva_cons (dv_ix (d := x.py) (dv_var rfl rr) dv_int hrow rfl) dva_nil)) rfl ⟨m, x, rfl, hparts x (by simp [Tm.parts]), hpv x (by simp [Tm.parts]), rfl⟩) rfl) rfl) rfl)
    | ei u x => exact kk e27 (Dv.is (dv_and (b := true) (c := true) (dv_inT (xs := ["call", "either"]) (dv_var rfl (e27.rp qw)) (dv_tup2 dv_str dv_str) rfl) fun _ => Dv.is (dv_and (b := true) (c := true) (hlen 3 e27 rfl) fun _ => Dv.is (dv_and (b := true) (c := true) (dv_call (dva_cons (dv_var rfl rm) (dva_cons (dv_ix (d := u.py) (dv_var rfl rr) dv_int hrow rfl) dva_nil)) rfl ⟨m, u, rfl, hparts u (by simp [Tm.parts]), hpv u (by simp [Tm.parts]), rfl⟩) fun _ => dv_call (dva_cons (dv_var rfl rm) (dva_cons (dv_ix (d := x.py) (dv_var rfl rr) dv_int hrow rfl) dva_nil)) rfl ⟨m, x, rfl, hparts x (by simp [Tm.parts]), hpv x (by simp [Tm.parts]), rfl⟩) rfl) rfl) rfl)
    | _ => first | exact Bool.noConfusion h1 | exact Bool.noConfusion h2 | exact Bool.noConfusion h3 | exact Bool.noConfusion h4 | exact Bool.noConfusion h5
end
end K82

set_option Elab.async false
set_option linter.all false
set_option maxRecDepth 100000
set_option maxHeartbeats 4000000
/-! law: put_code, code. -/
namespace K82
open PySem L2 PyProof.Rows
theorem starts_lt (n : Nat) (l : List Tm) : ∀ d ∈ starts n l, Lt 1 d := fun d hd => by
  obtain ⟨i, rfl⟩ := starts_int n l d hd
  exact Lt.int 0 i
section
variable {P : Program} {w : World} {K : PySem.W.Frag} {mg : Str → Option Value} {base : Heap}
theorem ok_law_put_code (T : Txt K mg) : ∀ n, n ≤ 60 → FnOk P w K mg base CX0 (n + 2) T.law_put_code.f T.law_put_code.fd ["term", "bound", "code"] (spPC K n)
  | 0, _ => fn_no (by
    rintro vs H Q E ⟨_, ca, G, as, xs, R, _, _, _, ⟨t, b, _, h, _⟩, _⟩
    exact h)
  | n + 1, hn => by
    have g_law_put_code : FnOk P w K mg base CX0 (n + 2) _ _ _ _ := ok_law_put_code T n (by omega)
    have g_law_parts : FnOk P w K mg base CX0 1 _ _ _ _ := ok_law_parts T
    refine T.law_put_code.F.ok sc_law_put_code (fun vs H Q E z => z.1) (fun cdv Ar outer s H vs Q E hr z => ?_)
    obtain ⟨_, ca, G, as, (xs : List PyData), R, e, j, r, ⟨t, b, rfl, hg, hb, hbn, hsz, hR⟩, k⟩ := z
    cases r with
    | @cons vt _ _ _ rt r =>
    cases r with
    | @cons vb _ _ _ rb r =>
    cases r with
    | @cons vc _ _ _ rc r =>
    cases r
    cases (show vc = .ref ca from rc)
    have rt : Rp K G vt t.py := rt
    have rb : Rp K G vb (.list (b.map .str)) := rb
    refine ⟨_, (pss_cons (ps_asg (pe_tup (pa_cons (pe_callB call_lenX rfl T.z_len (by decide +kernel) (pa_cons (pv 2) pa_nil)) (pa_cons (pe_ifExp (pt_cmpR (op_inL (hu65 hr)) (pe_ix ix_seq (pv 0) pe_int (fun _ _ => rfl)) (pe_tup (pa_cons pe_str (pa_cons pe_str pa_nil))) rfl) (pe_op op_addX (pe_lst (pa_cons (pe_ix ix_seq (pv 0) pe_int (fun _ _ => rfl)) pa_nil)) (pv 1)) (pv 1)) pa_nil))) (pg_tup rfl (pgs_cons (pg_name (i := 3) sc_law_put_code.nd rfl (Or.inl rfl)) (pgs_cons (pg_name (i := 4) sc_law_put_code.nd rfl (Or.inr rfl)) pgs_nil))))
      (pss_cons (ps_expr (pe_bm PySem.F.plainAttrs_list PySem.F.slot_list_append PySem.F.type_list_append mt_append (pv 2) (pa_cons pe_non pa_nil)))
      (pss_cons (ps_setLc (i := 5) (own := [("part", 6)]) (g := gName 6) (tt := tYes) rfl sc_law_put_code.nd rfl rfl (sw_true rfl rfl rfl (by decide +kernel)) (pi_row (pe_call g_law_parts (hr.mono (by omega)) rfl T.law_parts.m T.law_parts.F.kp T.law_parts.b .nil pass0 (pa_cons (pv 0) pa_nil))) (blkOk_by (N := ["term", "bound", "code", "number", "inner", "numbers", "part"]) (sc := defScope s_law_put_code) (by decide +kernel)) (fun _ _ _ _ _ => (pg_name (i := 6) sc_law_put_code.nd rfl (Or.inl rfl))) (fun _ _ _ _ _ => pts_nil) (fun _ _ _ _ _ => (pe_call g_law_put_code (hr.mono (by omega)) rfl T.law_put_code.m T.law_put_code.F.kp T.law_put_code.b .nil pass0 (pa_cons (pv 6) (pa_cons (pv 4) (pa_cons (pv 2) pa_nil))))))
      (pss_cons (ps_if (pt_cmpR (op_eqX hr.units) (pe_ix ix_seq (pv 0) pe_int (fun _ _ => rfl)) pe_str (nomark _)) (pss_one (ps_asg (pe_tup (pa_cons pe_str (pa_cons (pe_bm PySem.F.plainAttrs_list PySem.F.slot_list_index PySem.F.type_list_index mt_index (pv 1) (pa_cons (pe_ix ix_seq (pv 0) pe_int (fun _ _ => rfl)) pa_nil)) pa_nil))) (pg_sub (pv 2) (pv 3) set_list))) (pss_one (ps_if (pt_cmpR (op_inL (hu65 hr)) (pe_ix ix_seq (pv 0) pe_int (fun _ _ => rfl)) (pe_tup (pa_cons pe_str (pa_cons pe_str pa_nil))) rfl) (pss_one (ps_asg (pe_tup (pa_cons (pe_ifExp (pt_cmpR (op_eqX hr.units) (pe_ix ix_seq (pv 0) pe_int (fun _ _ => rfl)) pe_str (nomark _)) pe_str pe_str) (pa_cons (pe_ix ix_seq (pv 0) pe_int (fun _ _ => rfl)) (pa_cons (pe_ix ix_seq (pv 0) pe_int (fun _ _ => rfl)) (pa_cons (pe_ix ix_seq (pv 5) pe_int (fun _ _ => rfl)) pa_nil))))) (pg_sub (pv 2) (pv 3) set_list))) (pss_one (ps_if (pt_cmpR (op_eqX hr.units) (pe_ix ix_seq (pv 0) pe_int (fun _ _ => rfl)) pe_str (nomark _)) (pss_one (ps_asg (pe_tup (pa_cons pe_str (pa_cons (pe_ix ix_seq (pv 5) pe_int (fun _ _ => rfl)) (pa_cons (pe_callTy call_tupX rfl T.z_tuple (by decide +kernel) (pa_cons (pe_slice sl_X (pv 5) (po_some pe_int) po_none) pa_nil)) pa_nil)))) (pg_sub (pv 2) (pv 3) set_list))) (pss_one (ps_asg (pe_ifExp (pt_cmpR (op_neX hr.units) (pv 5) (pe_lst pa_nil) (nomark _)) (pe_tup (pa_cons (pe_ix ix_seq (pv 0) pe_int (fun _ _ => rfl)) (pa_cons (pe_ix ix_seq (pv 5) pe_int (fun _ _ => rfl)) (pa_cons (pe_ix ix_seq (pv 5) pe_int (fun _ _ => rfl)) pa_nil)))) (pv 0)) (pg_sub (pv 2) (pv 3) set_list))))))))
      (pss_one (ps_ret (pv 3))))))), ?_⟩
    have hrow := t.row
    obtain ⟨n', hn', hparts⟩ := hg.parts
    cases hn'
    refine ds_seq ?_
    have hin : ∀ σ : L2.St, σ[0]? = some (some vt) → σ[1]? = some (some vb) → Dv K (tIf (tTest (tOp (rInL K false) (tOp (rIx K) (tVar 0) (tC (.int 0))) (tTup (tCons (tC (.str "fun")) (tCons (tC (.str "fix")) tNil))))) (tOp (rAddX K) (tLst (tCons (tOp (rIx K) (tVar 0) (tC (.int 1))) tNil)) (tVar 1)) (tVar 1)) σ G H (.list ((innB b t).map .str)) := fun σ h0 h1 => by
      refine dv_if (dvt_test (dv_inT (xs := ["fun", "fix"]) (dv_ix (d := .str t.wo.s) (dv_var h0 rt) dv_int hrow at0) (dv_tup2 dv_str dv_str) rfl)) (fun h => ?_) fun h => ?_
      · rw [wo_bind] at h
        cases t with
        | fn x s u => exact Dv.is (dv_addL (dv_lst1 (a := .str x) (dv_ix (dv_var h0 rt) dv_int hrow rfl)) (dv_var h1 rb) (by simp; omega)) (by simp [innB])
        | fx x s u => exact Dv.is (dv_addL (dv_lst1 (a := .str x) (dv_ix (dv_var h0 rt) dv_int hrow rfl)) (dv_var h1 rb) (by simp; omega)) (by simp [innB])
        | _ => cases h
      · rw [wo_bind] at h
        refine Dv.is (dv_var h1 rb) ?_
        cases t <;> first | rfl | exact Bool.noConfusion h
    refine dc_len j rfl (hin _ rfl rfl G H (Up.refl e) _ fun vi G1 H1 e1 qi => ⟨by show 2 ≤ sizeLine; decide, fun p hp => ⟨p, _, rfl, .inl (.inl upd_same), rfl, _, _, rfl, _, _, rfl, rfl, ?_⟩⟩)
    dsimp only
    have e1p := e1.allocM hp (.tup [.int xs.length, vi])
    have j1 := Wd.ext j e1p
    refine ds_seq ?_
    refine dc_app e1p.gh j1 rfl (by omega) (dv_non (K := K)) fun G2 H2 e2 j2 => ?_
    have e02 := e1p.w.trans e2
    have hib : (innB b t).length + n ≤ 1000 := by
      have : (innB b t).length ≤ b.length + 1 := by cases t <;> simp [innB]
      omega
    have hst := size_parts t
    refine ds_seq ?_
    refine ms_set (D := DC K ca) (R := fun d (m : List PyData) => d = .list (starts (xs.length + 1) t.parts) ∧ (xs ++ [PyData.none] ++ puts (innB b t) (xs.length + 1) t.parts : List PyData) = m) e2.gh j2 (mv_lc (ds := Tm.pys t.parts)
      (fun k acc (m : List PyData) => acc = starts (xs.length + 1) (t.parts.take k) ∧ (xs ++ [PyData.none] ++ puts (innB b t) (xs.length + 1) (t.parts.take k) : List PyData) = m) (dvi_row (dv_callT (f := fun t => .list (Tm.pys t.parts)) (t := t) (dv_var rfl (e02.rp rt)) hg.shr) rfl) ?_ ?_ ?_ ?_) fun vn d m4 G4 H4 e4 j4 qn hm4 => ?_
    · rw [pys_len]
      have := parts_len hg
      omega
    · exact ⟨rfl, by simp [puts]⟩
    · rintro i d acc m1 hd hacc ⟨rfl, rfl⟩ x G4 H4 u4 rx
      rw [Tm.pys_map, List.getElem?_map] at hd
      obtain ⟨u, hu, rfl⟩ := Option.map_eq_some_iff.mp hd
      have hmu : u ∈ t.parts := List.mem_of_getElem? hu
      have q3 := sizes_take_le t.parts (i + 1)
      have q2 := sizes_take hu
      have hlen : (xs ++ [PyData.none] ++ puts (innB b t) (xs.length + 1) (t.parts.take i)).length = xs.length + 1 + Tm.sizes (t.parts.take i) := by
        rw [List.length_append, List.length_append, puts_len]
        rfl
      refine mv_call (mva_cons (mv_dv (dv_var rfl rx) (mva_cons (mv_dv (d := .list ((innB b t).map .str)) (dv_var rfl (u4.rp (e2.rp qi))) (mva_raw rfl (mva_nil ⟨rfl, u, innB b t, rfl, hparts u hmu, hib, bnd_parts hbn u hmu, ?_, ?_⟩))))))
      · rw [hlen]
        omega
      · rw [hlen, starts_take hu, puts_take hu]
        exact ⟨rfl, by simp⟩
    · rintro acc m1 hacc ⟨rfl, rfl⟩
      rw [pys_len, List.take_length]
      exact ⟨rfl, rfl⟩
    obtain ⟨rfl, rfl⟩ := hm4
    have e04 := e02.trans e4
    have fin : ∀ G5 H5, ExtW (DC K ca).W G4 H4 G5 H5 → (DC K ca).J ((xs ++ [PyData.none] ++ puts (innB b t) (xs.length + 1) t.parts).set xs.length (ins b xs.length t)) G5 H5 → Q (.int xs.length) H5 := fun G5 H5 e5 j5 => by
      refine k _ _ _ G5 H5 (e04.trans e5) j5 (.int _) ?_
      have z : (xs ++ [PyData.none] ++ puts (innB b t) (xs.length + 1) t.parts).set xs.length (ins b xs.length t) = xs ++ put b xs.length t := by
        rw [put_parts]
        simp
      rw [z]
      exact hR
    have hlt : xs.length < (xs ++ [PyData.none] ++ puts (innB b t) (xs.length + 1) t.parts).length := by
      rw [List.length_append, List.length_append]
      simp
      omega
    have rt4 := e04.rp rt
    have rb4 := e04.rp rb
    have hw : ∀ {σ : L2.St} {G5 H5 : Hp}, Ext G4 H4 G5 H5 → σ[0]? = some (some vt) → Dv K (tOp (rIx K) (tVar 0) (tC (.int 0))) σ G5 H5 (.str t.wo.s) := fun e5 hs => dv_ix (dv_var hs (e5.rp rt4)) dv_int hrow at0
    refine ds_seq ?_
    refine ds_if e4.gh (dvt_test (dv_eq (hw (Ext.refl e4.gh) rfl) dv_str rfl)) (fun h G5 H5 e5 => ?_) fun h1 G5 H5 e5 => ?_
    · rw [show PyData.eqv (.str t.wo.s) (.str "name") = t.wo.is .name from wo_is t.wo .name] at h
      cases t with
      | name x =>
        have hx : x ∈ b := by simpa [bnd] using hbn
        refine dc_put (d := ins b xs.length (.name x)) e5.gh (Wd.ext j4 e5) rfl rfl hlt (dv_tup2 dv_str (dv_index hx (dv_var rfl (e5.rp rb4)) (dv_ix (d := .str x) (dv_var rfl (e5.rp rt4)) dv_int hrow rfl))) fun G6 H6 e6 j6 => ?_
        exact ⟨_, rfl, fin G6 H6 (e5.w.trans e6) j6⟩
      | _ => cases h
    rw [show PyData.eqv (.str t.wo.s) (.str "name") = t.wo.is .name from wo_is t.wo .name] at h1
    refine ds_if e5.gh (dvt_test (dv_inT (xs := ["fun", "fix"]) (hw e5 rfl) (dv_tup2 dv_str dv_str) rfl)) (fun h G6 H6 e6 => ?_) fun h2 G6 H6 e6 => ?_
    · rw [wo_bind] at h
      have e56 := e5.trans e6
      have hn0 : rowOf (.list (starts (xs.length + 1) t.parts)) = some (starts (xs.length + 1) t.parts) := rfl
      cases t with
      | fn x s u =>
        refine dc_put (d := ins b xs.length (.fn x s u)) e6.gh (Wd.ext j4 e56) rfl rfl hlt (dv_tup4 (dv_if (dvt_test (dv_eq (hw e56 rfl) dv_str rfl)) (fun _ => dv_str) fun h => ?_) (dv_ix (d := .str x) (dv_var rfl (e56.rp rt4)) dv_int hrow rfl) (dv_ix (d := s.py) (dv_var rfl (e56.rp rt4)) dv_int hrow rfl) (dv_ix (d := .int (xs.length + 1 : Nat)) (dv_var rfl (e56.rp qn)) dv_int hn0 rfl)) fun G7 H7 e7 j7 => ?_
        · exact Bool.noConfusion ((wo_is .fn .fn).symm.trans h)
        · exact ⟨_, rfl, fin G7 H7 (e56.w.trans e7) j7⟩
      | fx x s u =>
        refine dc_put (d := ins b xs.length (.fx x s u)) e6.gh (Wd.ext j4 e56) rfl rfl hlt (dv_tup4 (dv_if (dvt_test (dv_eq (hw e56 rfl) dv_str rfl)) (fun h => ?_) fun _ => dv_str) (dv_ix (d := .str x) (dv_var rfl (e56.rp rt4)) dv_int hrow rfl) (dv_ix (d := s.py) (dv_var rfl (e56.rp rt4)) dv_int hrow rfl) (dv_ix (d := .int (xs.length + 1 : Nat)) (dv_var rfl (e56.rp qn)) dv_int hn0 rfl)) fun G7 H7 e7 j7 => ?_
        · exact Bool.noConfusion ((wo_is .fx .fn).symm.trans h)
        · exact ⟨_, rfl, fin G7 H7 (e56.w.trans e7) j7⟩
      | _ => cases h
    rw [wo_bind] at h2
    have e56 := e5.trans e6
    refine ds_if e6.gh (dvt_test (dv_eq (hw e56 rfl) dv_str rfl)) (fun h G7 H7 e7 => ?_) fun h3 G7 H7 e7 => ?_
    · rw [show PyData.eqv (.str t.wo.s) (.str "case") = t.wo.is .cs from wo_is t.wo .cs] at h
      have e57 := e56.trans e7
      cases t with
      | cs u l =>
        have hn0 : rowOf (.list (starts (xs.length + 1) (u :: l))) = some (starts (xs.length + 1) (u :: l)) := rfl
        have hcut : rowOf (cutR (.list (starts (xs.length + 1) (u :: l))) (some 1) none) = some (starts (xs.length + 1 + u.size) l) := by
          rw [cutR_row hn0]
          exact congrArg some cutL_tl
        refine dc_put (d := ins b xs.length (.cs u l)) e7.gh (Wd.ext j4 e57) rfl rfl hlt (dv_tup3 dv_str (dv_ix (d := .int (xs.length + 1 : Nat)) (dv_var rfl (e57.rp qn)) dv_int hn0 at0) (dv_tupOf (dv_sl (dv_var rfl (e57.rp qn)) hn0 (dvo_some (K := K) dv_int) dvo_none) hcut)) fun G8 H8 e8 j8 => ?_
        exact ⟨_, rfl, fin G8 H8 (e57.w.trans e8) j8⟩
      | _ => cases h
    rw [show PyData.eqv (.str t.wo.s) (.str "case") = t.wo.is .cs from wo_is t.wo .cs] at h3
    have e57 := e56.trans e7
    have hok : eqOk (.list (starts (xs.length + 1) t.parts)) (.list []) = true := eqOk_rows (n := 1) (m := 1) (starts_lt _ _) (by simp) (by omega) (by omega)
    refine dc_put (d := ins b xs.length t) e7.gh (Wd.ext j4 e57) rfl rfl hlt (dv_if (b := !t.parts.isEmpty) (DvT.is (dvt_test (dv_ne (dv_var rfl (e57.rp qn)) dv_lst0 hok)) ?_) (fun h => ?_) fun h => ?_) fun G8 H8 e8 j8 => ⟨_, rfl, fin G8 H8 (e57.w.trans e8) j8⟩
    · cases t.parts <;> rfl
    · cases t with
      | ap u v => exact dv_tup3 (hw e57 rfl) (dv_ix (d := .int (xs.length + 1 : Nat)) (dv_var rfl (e57.rp qn)) dv_int rfl rfl) (dv_ix (d := .int (xs.length + 1 + u.size : Nat)) (dv_var rfl (e57.rp qn)) dv_int rfl rfl)
      | ei u v => exact dv_tup3 (hw e57 rfl) (dv_ix (d := .int (xs.length + 1 : Nat)) (dv_var rfl (e57.rp qn)) dv_int rfl rfl) (dv_ix (d := .int (xs.length + 1 + u.size : Nat)) (dv_var rfl (e57.rp qn)) dv_int rfl rfl)
      | _ => first | exact Bool.noConfusion h | exact Bool.noConfusion h1 | exact Bool.noConfusion h2 | exact Bool.noConfusion h3
    · refine Dv.is (dv_var rfl (e57.rp rt4)) ?_
      cases t <;> first | rfl | exact Bool.noConfusion h | exact Bool.noConfusion h1
theorem ok_law_code (T : Txt K mg) (n : Nat) (hn : n ≤ 60) : FnOk P w K mg base CX0 (n + 3) T.law_code.f T.law_code.fd ["term"] (spOC K n) := by
  have g_law_put_code : FnOk P w K mg base CX0 (n + 2) _ _ _ _ := ok_law_put_code T n hn
  refine okT T.law_code sc_law_code fun cdv Ar outer s H Q E v G t hr e r hA k => ?_
  obtain ⟨hg, _, hb, hsz⟩ := hA
  refine ⟨_, (pss_cons (ps_set (i := 1) sc_law_code.nd rfl (Or.inl rfl) (pe_lst pa_nil))
      (pss_cons (ps_expr (pe_call g_law_put_code (hr.mono (by omega)) rfl T.law_put_code.m T.law_put_code.F.kp T.law_put_code.b .nil pass0 (pa_cons (pv 0) (pa_cons (pe_lst pa_nil) (pa_cons (pv 1) pa_nil)))))
      (pss_one (ps_ret (pv 1))))), ?_⟩
  refine ds_seq ?_
  refine ds_new fun ca hca => ?_
  have gca : G ca = none := Same.none e hca
  have e1 := (Ext.refl e).allocM hca (.lst [])
  have j1 : (DC K ca).J [] G (upd H ca (.lst [])) := ⟨gca, [], upd_same, .nil⟩
  refine ds_seq ?_
  refine ms_drop (D := DC K ca) (R := fun _ (m : List PyData) => put [] 0 t = m) e1.gh j1 (mv_call (mva_cons (mv_dv (dv_var rfl r) (mva_cons (mv_dv (d := .list []) (dv_lst dva_nil (by simp)) (mva_raw rfl (mva_nil ⟨rfl, t, [], rfl, hg, by simp; omega, hb, by simpa using hsz, rfl⟩))))))) fun d m G2 H2 e2 j2 hm => ?_
  subst hm
  obtain ⟨g2, vs, hp, hr2⟩ := j2
  refine ⟨.ref ca, rfl, k _ _ H2 ?_ (.lst upd_same (RpAll.mono (same_upd g2 (.lst vs)) _ _ hr2))⟩
  refine Ext.still (G := G) (H := H) (G1 := G2) ⟨fun b u q => e2.hh b u (fun z => ?_) (e1.hh b u q), e2.gg, e2.gh, fun b q => ?_⟩ hca g2 hp
  · cases (show b = ca from z)
    rw [hca] at q
    cases q
  · rcases e2.new b q with z | z
    · exact .inl z
    · exact .inr (e1.fresh z)
end
end K82

set_option Elab.async false
set_option linter.all false
set_option maxRecDepth 100000
set_option maxHeartbeats 4000000
/-! law: type_in. -/
namespace K82
open PySem L2 PyProof.Rows
def rDictP (K : PySem.W.Frag) : List V → Hp → VK → Prop := fun xs H Q => ∃ (a : Addr) (ps : List Addr) (kvs : List (Key × V)), xs = [.ref a] ∧ SqL K H a (ps.map V.ref) ∧ Paired (fun p kv => SqT K H p [kV kv.1, kv.2]) ps kvs ∧ ∀ p, H p = none → Q (.ref p) (upd H p (.dK (mergeK [] kvs)))
theorem call_dictPX {X : Cx} (hc : X.calm = true) : CallR X (.type "dict") (rDictP X.K) := call_dictP hc
def mrg {α : Type} (acc l : List (Str × α)) : List (Str × α) := l.foldl (fun acc p => putS acc p.1 p.2) acc
theorem putS_new {α : Type} {l : List (Str × α)} {x : Str} {a : α} (h : x ∉ l.map (·.1)) : putS l x a = l ++ [(x, a)] := by
  unfold putS
  rw [if_neg]
  intro z
  obtain ⟨p, hp, e⟩ := List.any_eq_true.mp z
  exact h (List.mem_map.mpr ⟨p, hp, of_decide_eq_true e⟩)
theorem mrg_new {α : Type} : ∀ (l acc : List (Str × α)), ((acc ++ l).map (·.1)).Nodup → mrg acc l = acc ++ l
  | [], acc, _ => by simp [mrg]
  | p :: l, acc, h => by
    have h1 : p.1 ∉ acc.map (·.1) := by
      rw [List.map_append, List.nodup_append] at h
      intro z
      exact h.2.2 _ z p.1 (by simp) rfl
    show mrg (putS acc p.1 p.2) l = _
    rw [putS_new h1, mrg_new l (acc ++ [(p.1, p.2)]) (by simpa using h)]
    simp
theorem mrg_last {α : Type} {l : List (Str × α)} {x : Str} {a : α} (h : (l.map (·.1)).Nodup) : mrg [] (l ++ [(x, a)]) = putS l x a := by
  unfold mrg
  rw [List.foldl_append]
  show putS (mrg [] l) x a = _
  rw [mrg_new l [] (by simpa using h)]
  rfl
theorem putS_keys {α : Type} {l : List (Str × α)} {x : Str} {a : α} (h : (l.map (·.1)).Nodup) : ((putS l x a).map (·.1)).Nodup := by
  by_cases hx : x ∈ l.map (·.1)
  · have : putS l x a = l.map (fun p => if p.1 = x then (p.1, a) else p) := by
      unfold putS
      rw [if_pos]
      obtain ⟨p, hp, e⟩ := List.mem_map.mp hx
      exact List.any_eq_true.mpr ⟨p, hp, decide_eq_true e⟩
    rw [this, List.map_map]
    have e : l.map ((fun x => x.1) ∘ fun p => if p.1 = x then (p.1, a) else p) = l.map (·.1) := List.map_congr_left fun p hp => by
      show (if p.1 = x then (p.1, a) else p).1 = p.1
      split <;> rfl
    rw [e]
    exact h
  · rw [putS_new hx, List.map_append, List.nodup_append]
    refine ⟨h, by simp, fun b hb c hc e => ?_⟩
    simp at hc
    subst hc
    subst e
    exact hx hb
section
variable {K : PySem.W.Frag} {σ : L2.St} {G H : Hp} {ta : TE} {α : Type} {f : α → PyData}
theorem rpkv_mrg : ∀ {l acc : List (Str × α)} {kvs kacc : List (Key × V)}, RpKv K G kacc (acc.map fun p => (.str p.1, f p.2)) → RpKv K G kvs (l.map fun p => (.str p.1, f p.2)) → RpKv K G (mergeK kacc kvs) ((mrg acc l).map fun p => (.str p.1, f p.2))
  | [], acc, kvs, kacc, h, h2 => by
    rw [rpkv_nil h2]
    exact h
  | p :: l, acc, kvs, kacc, h, h2 => by
    obtain ⟨v, r, rfl, h3, h4⟩ := rpkv_cons h2
    exact rpkv_mrg (acc := putS acc p.1 p.2) (kacc := putK kacc (.inr p.1) v) (rpkv_put h3 h) h4
theorem pairs_rp : ∀ {l : List (Str × α)} {vs : List V}, RpAll K G vs (l.map fun p => .tuple [.str p.1, f p.2]) → ∃ (ps : List Addr) (kvs : List (Key × V)), vs = ps.map V.ref ∧ Paired (fun p (kv : Key × V) => SqT K G p [kV kv.1, kv.2]) ps kvs ∧ RpKv K G kvs (l.map fun p => (.str p.1, f p.2))
  | [], vs, h => by
    cases h
    exact ⟨[], [], rfl, .nil, .nil⟩
  | p :: l, vs, h => by
    cases h with
    | cons h1 h2 =>
      obtain ⟨ps, kvs, rfl, q1, q2⟩ := pairs_rp h2
      cases h1 with
      | @tup a xs _ t1 t2 =>
        cases t2 with
        | cons u1 t2 =>
        cases t2 with
        | @cons v _ _ _ u2 t2 =>
        cases t2
        cases u1
        exact ⟨a :: ps, (.inr p.1, v) :: kvs, rfl, .cons t1 q1, .cons (k := .inr p.1) u2 q2⟩
theorem dv_dictP {l : List (Str × α)} (h : Dv K ta σ G H (.list (l.map fun p => .tuple [.str p.1, f p.2]))) : Dv K (tCB (rDictP K) (tCons ta tNil)) σ G H (envG f (mrg [] l)) := fun G1 H1 e Q k => h G1 H1 e _ fun v G2 H2 e2 q => by
  cases q with
  | @lst a xs _ h1 h2 =>
    obtain ⟨ps, kvs, rfl, q1, q2⟩ := pairs_rp h2
    refine ⟨a, ps, kvs, rfl, SqL.of (e2.gh _ _ h1), Paired.mapP q1 fun p kv z => Same.sqt e2.gh z, fun p hp => k _ _ _ (e2.alloc hp _) (.dic upd_same ?_)⟩
    exact RpKv.mono (same_upd (Same.none e2.gh hp) _) _ _ (rpkv_mrg (acc := []) (kacc := []) .nil q2)
end
theorem allS_typs {env : List (Str × Ty)} : ∀ l : List Tm, ((l.map fun u => oTy (typ env u)).any fun z => PyData.eqv z .none) = (typs env l).isNone
  | [] => rfl
  | t :: l => by
    rw [List.map_cons, List.any_cons, allS_typs l, typs]
    cases h : typ env t with
    | none => rfl
    | some k =>
      cases h2 : typs env l <;> rfl
theorem typs_map {env : List (Str × Ty)} : ∀ {l : List Tm} {ks : List Ty}, typs env l = some ks → (l.map fun u => oTy (typ env u)) = ks.map Ty.py
  | [], ks, h => by
    simp [typs] at h
    subst h
    rfl
  | t :: l, ks, h => by
    rw [typs] at h
    split at h
    · cases h
      rename_i h1 h2
      rw [List.map_cons, List.map_cons, h1, typs_map h2]
      rfl
    · cases h
end K82

set_option Elab.async false
set_option linter.all false
set_option maxRecDepth 100000
set_option maxHeartbeats 4000000
/-! law: type_in, is_closed, is_of. -/
namespace K82
open PySem L2 PyProof.Rows
theorem oTy_lay {o : Option Ty} (h : ∀ k, o = some k → k.d ≤ 60) : (oTy o).canLay0 = true ∧ (oTy o).depth ≤ 61 := by
  cases o with
  | none => exact ⟨rfl, by simp [oTy, PyData.depth]⟩
  | some k =>
    refine ⟨k.lay, ?_⟩
    show k.py.depth ≤ 61
    rw [k.dep]
    have := h k rfl
    omega
theorem shaped_tys {l : List PyData} (h : ∀ d ∈ l, d.canLay0 = true ∧ d.depth ≤ 61) : noDs l = true ∧ SeqAt.shaped (.list l) = true := by
  have h1 : PyData.canLayAll0 l = true := canLayAll_iff.mpr fun d hd => (h d hd).1
  have h2 : PyData.depthAll l ≤ 61 := depthAll_le.mpr fun d hd => (h d hd).2
  refine ⟨noDs_lay l h1, ?_⟩
  unfold SeqAt.shaped
  rw [PyData.canLay0, PyData.depth, h1, decide_eq_true (by omega)]
  rfl
section
variable {P : Program} {w : World} {K : PySem.W.Frag} {mg : Str → Option Value} {base : Heap}
abbrev spLT (K : PySem.W.Frag) (n : Nat) : Sp := spD K 2 fun ds d => ∃ env t, ds = [envG Ty.py env, Tm.py t] ∧ Lt n t.py ∧ EnvOk (1000 - n) env ∧ (env.map (·.1)).Nodup ∧ d = oTy (typ env t)
theorem ok_law_type_in (T : Txt K mg) : ∀ n, n ≤ 60 → FnOk P w K mg base CX0 (n + 2) T.law_type_in.f T.law_type_in.fd ["names", "term"] (spLT K n)
  | 0, _ => fn_no (by
    rintro vs H Q E ⟨_, _, _, _, _, _, ⟨env, t, _, h, _⟩, _⟩
    exact h)
  | n + 1, hn => by
    have g_law_type_in : FnOk P w K mg base CX0 (n + 2) _ _ _ _ := ok_law_type_in T n (by omega)
    have g_law_parts : FnOk P w K mg base CX0 1 _ _ _ _ := ok_law_parts T
    refine T.law_type_in.F.ok (k := n + 2) sc_law_type_in (fun vs H Q E z => z.1) (fun cdv Ar outer s H vs Q E hr z => ?_)
    obtain ⟨hl, G, ds, d, e, r, ⟨env, t, rfl, hg, henv, hnd, rfl⟩, k⟩ := z
    cases r with
    | @cons v1 _ _ _ r1 r =>
    cases r with
    | @cons v2 _ _ _ r2 r =>
    cases r
    refine ⟨_, (pss_cons (ps_if (pt_cmpR (op_eqX hr.units) (pe_ix ix_seq (pv 1) pe_int (fun _ _ => rfl)) pe_str (nomark _)) (pss_one (ps_ret (pe_dget1 (hu1 hr) (pv 0) (pe_ix ix_seq (pv 1) pe_int (fun _ _ => rfl)) ⟨rfl, rfl, rfl, rfl⟩))) pss_nil)
      (pss_cons (ps_set (i := 2) sc_law_type_in.nd rfl (Or.inr rfl) (pe_ifExp (pt_cmpR (op_inL (hu65 hr)) (pe_ix ix_seq (pv 1) pe_int (fun _ _ => rfl)) (pe_tup (pa_cons pe_str (pa_cons pe_str pa_nil))) rfl) (pe_callTy (call_dictPX rfl) rfl T.z_dict (by decide +kernel) (pa_cons (pe_op op_addX (LiI.pe_listItems rfl (pv 0) rfl T.z_list (by decide +kernel)) (pe_lst (pa_cons (pe_tup (pa_cons (pe_ix ix_seq (pv 1) pe_int (fun _ _ => rfl)) (pa_cons (pe_ix ix_seq (pv 1) pe_int (fun _ _ => rfl)) pa_nil))) pa_nil))) pa_nil)) (pv 0)))
      (pss_cons (ps_setLc (i := 3) (own := [("part", 4)]) (g := gName 4) (tt := tYes) rfl sc_law_type_in.nd rfl rfl (sw_true rfl rfl rfl (by decide +kernel)) (pi_row (pe_call g_law_parts (hr.mono (by omega)) rfl T.law_parts.m T.law_parts.F.kp T.law_parts.b .nil pass0 (pa_cons (pv 1) pa_nil))) (blkOk_by (N := ["names", "term", "inner", "kinds", "part", "kind"]) (sc := defScope s_law_type_in) (by decide +kernel)) (fun _ _ _ _ _ => (pg_name (i := 4) sc_law_type_in.nd rfl (Or.inl rfl))) (fun _ _ _ _ _ => pts_nil) (fun _ _ _ _ _ => (pe_call g_law_type_in (hr.mono (by omega)) rfl T.law_type_in.m T.law_type_in.F.kp T.law_type_in.b .nil pass0 (pa_cons (pv 2) (pa_cons (pv 4) pa_nil)))))
      (pss_cons (ps_if (pt_cmpR (op_inL (hu65 hr)) pe_non (pv 3) rfl) (pss_one (ps_ret pe_non)) pss_nil)
      (pss_cons (ps_if (pt_cmpR (op_eqX hr.units) (pe_ix ix_seq (pv 1) pe_int (fun _ _ => rfl)) pe_str (nomark _)) (pss_one (ps_ret (pe_callTy call_tupX rfl T.z_tuple (by decide +kernel) (pa_cons (pe_op op_addX (pe_lst (pa_cons (pe_ix ix_seq (pv 1) pe_int (fun _ _ => rfl)) pa_nil)) (pe_callTy call_lstX rfl T.z_list (by decide +kernel) (pa_cons (pe_ix ix_seq (pv 3) pe_int (fun _ _ => rfl)) pa_nil))) pa_nil)))) pss_nil)
      (pss_cons (ps_if (pt_cmpR (op_eqX hr.units) (pe_ix ix_seq (pv 1) pe_int (fun _ _ => rfl)) pe_str (nomark _)) (pss_one (ps_ret (pe_ifExp (pt_cmpR (op_eqX hr.units) (pe_ix ix_seq (pv 3) pe_int (fun _ _ => rfl)) (pe_ix ix_seq (pv 1) pe_int (fun _ _ => rfl)) (nomark _)) (pe_ix ix_seq (pv 3) pe_int (fun _ _ => rfl)) pe_non))) pss_nil)
      (pss_cons (ps_if (pt_cmpR (op_eqX hr.units) (pe_ix ix_seq (pv 1) pe_int (fun _ _ => rfl)) pe_str (nomark _)) (pss_one (ps_ret (pe_ifExp (PW.pt (pw_and (pt_cmpR (op_neX hr.units) (pe_ix ix_seq (pv 3) pe_int (fun _ _ => rfl)) (pe_tup pa_nil) (nomark _)) (pw_and1 (pt_cmpR (op_eqX hr.units) (pe_ix ix_seq (pe_ix ix_seq (pv 3) pe_int (fun _ _ => rfl)) pe_int (fun _ _ => rfl)) (pe_ix ix_seq (pv 3) pe_int (fun _ _ => rfl)) (nomark _))))) (pe_slice sl_X (pe_ix ix_seq (pv 3) pe_int (fun _ _ => rfl)) (po_some pe_int) po_none) pe_non))) pss_nil)
      (pss_one (ps_ret (pe_ifExp (pt_val (pe_callB (cr_all rfl) rfl T.z_all (by decide +kernel) (pa_cons (pe_lc (own := [("kind", 5)]) (g := gName 5) (tt := tYes) rfl sc_law_type_in.nd (pi_row (pv 3)) (blkOk_by (N := ["names", "term", "inner", "kinds", "part", "kind"]) (sc := defScope s_law_type_in) (by decide +kernel)) (fun _ _ _ _ _ => (pg_name (i := 5) sc_law_type_in.nd rfl (Or.inl rfl))) (fun _ _ _ _ _ => pts_nil) (fun _ _ _ _ _ => (pe_cmpR (op_eqK K rfl hr.units) (pv 5) (pe_tup pa_nil) (nomark _)))) pa_nil))) (pe_tup pa_nil) pe_non)))))))))), ?_⟩
    have hrow := t.row
    obtain ⟨n', hn', hparts⟩ := hg.parts
    cases hn'
    have hi : EnvOk (1000 - n) (inn env t) := by
      have := inn_ok hg hn henv
      rwa [show 1000 - (n + 1) + 1 = 1000 - n by omega] at this
    have hni : ((inn env t).map (·.1)).Nodup := by
      cases t <;> first | exact hnd | exact putS_keys hnd
    have hw : ∀ {σ : L2.St} {G5 H5 : Hp}, Ext G H G5 H5 → σ[1]? = some (some v2) → Dv K (tOp (rIx K) (tVar 1) (tC (.int 0))) σ G5 H5 (.str t.wo.s) := fun e5 hs => dv_ix (dv_var hs (e5.rp r2)) dv_int hrow at0
    refine ds_seq ?_
    refine ds_if (b := t.wo.is .name) e (DvT.is (dvt_test (dv_eq (hw (Ext.refl e) rfl) (dv_str (x := "name")) rfl)) (wo_is t.wo .name)) (fun h G1 H1 e1 => ?_) fun h1 G1 H1 e1 => ?_
    · cases t with
      | name x =>
        refine ds_ret (K := K) e1.gh (dv_get (f := Ty.py) (l := env) (dv_var rfl (e1.rp r1)) (dv_ix (d := .str x) (dv_var rfl (e1.rp r2)) dv_int hrow rfl)) fun v G2 H2 e2 q => k v G2 H2 (e1.trans e2) ?_
        rw [typ]
        cases hg : getS env x with
        | none => rw [hg] at q; exact q
        | some a => rw [hg] at q; exact q
      | _ => cases h
    refine ds_seq ?_
    refine ds_set (K := K) (d := envG Ty.py (inn env t)) e1.gh (dv_if (b := t.wo.bind) (DvT.is (dvt_test (dv_inT (xs := ["fun", "fix"]) (hw e1 rfl) (dv_tup2 dv_str dv_str) rfl)) (wo_bind t.wo)) (fun h => ?_) fun h => ?_) fun vi G2 H2 e2 qi => ?_
    · have hel : env.length ≤ 1000 := by have := henv.1; omega
      have key : ∀ (x : Str) (s : Ty), ((env ++ [(x, s)]).map fun p => PyData.tuple [.str p.1, p.2.py]) = (env.map fun p => PyData.tuple [.str p.1, p.2.py]) ++ [.tuple [.str x, s.py]] := fun x s => by rw [List.map_append]; rfl
      have key2 : ((env.map fun p => (PyData.str p.1, p.2.py)).map fun p => PyData.tuple [p.1, p.2]) = env.map fun p => PyData.tuple [.str p.1, p.2.py] := by rw [List.map_map]; rfl
      cases t with
      | fn x s u => exact Dv.is (dv_dictP (f := Ty.py) (l := env ++ [(x, s)]) (Dv.is (dv_addL (dv_listItems (ds := env.map fun p => (PyData.str p.1, Ty.py p.2)) (dv_var rfl (show Rp K G1 v1 (.dict (env.map fun p => (PyData.str p.1, Ty.py p.2))) from e1.rp r1))) (dv_lst1 (dv_tup2 (dv_ix (d := .str x) (dv_var rfl (e1.rp r2)) dv_int hrow rfl) (dv_ix (d := s.py) (dv_var rfl (e1.rp r2)) dv_int hrow rfl))) (by simp; omega)) (by rw [key, key2]))) (by rw [mrg_last hnd]; rfl)
      | fx x s u => exact Dv.is (dv_dictP (f := Ty.py) (l := env ++ [(x, s)]) (Dv.is (dv_addL (dv_listItems (ds := env.map fun p => (PyData.str p.1, Ty.py p.2)) (dv_var rfl (show Rp K G1 v1 (.dict (env.map fun p => (PyData.str p.1, Ty.py p.2))) from e1.rp r1))) (dv_lst1 (dv_tup2 (dv_ix (d := .str x) (dv_var rfl (e1.rp r2)) dv_int hrow rfl) (dv_ix (d := s.py) (dv_var rfl (e1.rp r2)) dv_int hrow rfl))) (by simp; omega)) (by rw [key, key2]))) (by rw [mrg_last hnd]; rfl)
      | _ => cases h
    · have hii : inn env t = env := by
        cases t <;> first | exact Bool.noConfusion h | rfl
      rw [hii]
      exact dv_var rfl (e1.rp r1)
    have e02 := e1.trans e2
    dsimp only
    refine ds_seq ?_
    have hpr : rowOf (.list (Tm.pys t.parts)) = some (t.parts.map Tm.py) := by rw [Tm.pys_map]; rfl
    refine ds_set (K := K) (d := .list (t.parts.map fun u => oTy (typ (inn env t) u))) e2.gh (dv_lcM (xs := t.parts) (g := Tm.py) (f := fun u => oTy (typ (inn env t) u)) (dvi_row (dv_callT (f := fun t => .list (Tm.pys t.parts)) (t := t) (dv_var rfl (e02.rp r2)) hg.shr) hpr) (by have := parts_len hg; omega) fun u hu x G3 H3 u3 q => dv_call (dva_cons (dv_var rfl (u3.rp qi)) (dva_cons (dv_var rfl q) dva_nil)) rfl ⟨inn env t, u, rfl, hparts u hu, hi, hni, rfl⟩) fun vk G3 H3 e3 qk => ?_
    have e03 := e02.trans e3
    have hoy : ∀ d ∈ (t.parts.map fun u => oTy (typ (inn env t) u)), d.canLay0 = true ∧ d.depth ≤ 61 := fun d hd => by
      obtain ⟨u, hu, rfl⟩ := List.mem_map.mp hd
      exact oTy_lay fun k hk => (typ_ok (env := inn env t) u n (1000 - n) _ k (hparts u hu) (by omega) hi hk).1
    obtain ⟨s1, s2⟩ := shaped_tys hoy
    dsimp only
    refine ds_seq ?_
    refine ds_if e3.gh (dvt_test (dv_inD dv_non (dv_var rfl qk) rfl s1 rfl s2)) (fun h G4 H4 e4 => ?_) fun h2 G4 H4 e4 => ?_
    · rw [allS_typs] at h
      refine ds_ret (K := K) e4.gh (dv_non (K := K)) fun v G5 H5 e5 q => k v G5 H5 ((e03.trans e4).trans e5) ?_
      have : typ env t = none := by
        rw [typ_join]
        cases hs : typs (inn env t) t.parts with
        | none => rfl
        | some ks => rw [hs] at h; cases h
      rw [this]
      exact q
    rw [allS_typs] at h2
    cases hs : typs (inn env t) t.parts with
    | none => rw [hs] at h2; cases h2
    | some ks =>
      rw [typs_map hs] at qk
      have htj : typ env t = joinT env t ks := by rw [typ_join, hs]
      rw [htj] at k
      have hlen := typs_len hs
      have hks : ∀ k ∈ ks, k.Ok 50000 := fun k hk => (typs_ok (by omega) hi hparts hs k hk).mono (by omega)
      have hkr : rowOf (.list (ks.map Ty.py)) = some (ks.map Ty.py) := rfl
      have e04 := e03.trans e4
      have qk4 := e4.rp qk
      dsimp only
      have rt4 := e04.rp r2
      refine ds_seq ?_
      refine ds_if (b := t.wo.is .fn) e4.gh (DvT.is (dvt_test (dv_eq (hw e04 rfl) (dv_str (x := "fun")) rfl)) (wo_is t.wo .fn)) (fun h G5 H5 e5 => ?_) fun h3 G5 H5 e5 => ?_
      · cases t with
        | fn x s u =>
          obtain ⟨k0, rfl⟩ : ∃ k0, ks = [k0] := List.length_eq_one_iff.mp hlen
          have hk0 := hks k0 (by simp)
          refine ds_ret (K := K) e5.gh (Dv.is (dv_tupOf (dv_addL (dv_lst1 (a := s.py) (dv_ix (dv_var rfl (e5.rp rt4)) dv_int hrow rfl)) (dv_lstOf (ds := k0.l) (dv_ix (d := .tuple k0.l) (dv_var rfl (e5.rp qk4)) dv_int hkr rfl) rfl) ?_) rfl) rfl) fun v G6 H6 e6 q => k v G6 H6 ((e04.trans e5).trans e6) q
          rw [Ty.len]
          have := hk0.2
          simp
          omega
        | _ => cases h
      dsimp only
      refine ds_seq ?_
      refine ds_if (b := t.wo.is .fx) e5.gh (DvT.is (dvt_test (dv_eq (hw (e04.trans e5) rfl) (dv_str (x := "fix")) rfl)) (wo_is t.wo .fx)) (fun h G6 H6 e6 => ?_) fun h4 G6 H6 e6 => ?_
      · have e56 := e5.trans e6
        cases t with
        | fx x s u =>
          obtain ⟨k0, rfl⟩ : ∃ k0, ks = [k0] := List.length_eq_one_iff.mp hlen
          have hk0 := hks k0 (by simp)
          have hs2 := (hg.an hn (t := .fx x s u) rfl).2
          refine ds_ret (K := K) e6.gh (d := oTy (joinT env (.fx x s u) [k0])) (dv_if (dvt_test (dv_eq (d := k0.py) (d' := s.py) (dv_ix (dv_var rfl (e56.rp qk4)) dv_int hkr rfl) (dv_ix (dv_var rfl (e56.rp rt4)) dv_int hrow rfl) (Ty.eqOk hk0.1 hs2.1))) (fun h => ?_) fun h => ?_) fun v G7 H7 e7 q => k v G7 H7 ((e04.trans e56).trans e7) q
          · rw [Ty.eqv, decide_eq_true_eq] at h
            refine Dv.is (dv_ix (d := k0.py) (dv_var rfl (e56.rp qk4)) dv_int hkr rfl) ?_
            simp [joinT, h, oTy]
          · rw [Ty.eqv, decide_eq_false_iff_not] at h
            refine Dv.is dv_non ?_
            simp [joinT, h, oTy]
        | _ => cases h
      dsimp only
      refine ds_seq ?_
      refine ds_if (b := t.wo.is .ap) e6.gh (DvT.is (dvt_test (dv_eq (hw ((e04.trans e5).trans e6) rfl) (dv_str (x := "call")) rfl)) (wo_is t.wo .ap)) (fun h G7 H7 e7 => ?_) fun h5 G7 H7 e7 => ?_
      · have e07 := ((e04.trans e5).trans e6).trans e7
        have qk7 := e7.rp (e6.rp (e5.rp qk4))
        cases t with
        | ap u1 u2 =>
          obtain ⟨k0, k1, rfl⟩ : ∃ k0 k1, ks = [k0, k1] := by
            rcases ks with _ | ⟨k0, _ | ⟨k1, _ | ⟨k2, ks⟩⟩⟩ <;> first | exact ⟨_, _, rfl⟩ | (simp [Tm.parts] at hlen)
          have hk0 := hks k0 (by simp)
          have hk1 := hks k1 (by simp)
          refine ds_ret e7.gh (d := oTy (joinT env (.ap u1 u2) [k0, k1])) ?_ fun v G8 H8 e8 q => k v G8 H8 (e07.trans e8) q
          have vt : ∀ σ, Dv K (tTup tNil) σ G7 H7 Ty.nil.py := fun σ => dv_tup dva_nil (Nat.zero_le _)
          cases k0 with
          | nil =>
            refine dv_if (b := false) ?_ (fun h => by cases h) fun _ => dv_non
            refine DvT.is (dvt_and (c := false) (dvt_test (dv_ne (d := Ty.nil.py) (d' := Ty.nil.py) (dv_ix (dv_var rfl (qk7)) dv_int hkr rfl) (vt _) (Ty.eqOk (by simp [Ty.d]) (by simp [Ty.d])))) fun h => ?_) ?_
            · rw [Ty.eqv] at h
              simp at h
            · rw [Ty.eqv]
              simp
          | cons a r =>
            refine dv_if (b := decide (a = k1)) ?_ (fun h => ?_) fun h => ?_
            · refine DvT.is (dvt_and (dvt_test (dv_ne (d := (Ty.cons a r).py) (d' := Ty.nil.py) (dv_ix (dv_var rfl (qk7)) dv_int hkr rfl) (vt _) (Ty.eqOk hk0.1 (by simp [Ty.d])))) fun _ => dvt_test (dv_eq (d := a.py) (d' := k1.py) (dv_ix (dv_ix (d := (Ty.cons a r).py) (dv_var rfl (qk7)) dv_int hkr rfl) dv_int rfl at0) (dv_ix (dv_var rfl (qk7)) dv_int hkr rfl) (Ty.eqOk ?_ hk1.1))) ?_
              · have := hk0.1
                rw [Ty.d] at this
                omega
              · rw [Ty.eqv, Ty.eqv]
                simp
            · refine Dv.is (dv_sl (r := (Ty.cons a r).py) (dv_ix (dv_var rfl (qk7)) dv_int hkr rfl) rfl (dvo_some (K := K) dv_int) dvo_none) ?_
              rw [decide_eq_true_eq] at h
              have z : joinT env (.ap u1 u2) [.cons a r, k1] = some r := by simp [joinT, h]
              rw [z]
              show PyData.tuple (cutL (Ty.cons a r).l (some 1) none) = .tuple r.l
              congr 1
              show cutL (PyData.tuple a.l :: r.l) (some 1) none = r.l
              exact cutL_tl
            · rw [decide_eq_false_iff_not] at h
              refine Dv.is dv_non ?_
              have z : joinT env (.ap u1 u2) [.cons a r, k1] = none := by simp [joinT, h]
              rw [z]
              rfl
        | _ => cases h
      have e07 := ((e04.trans e5).trans e6).trans e7
      have qk7 := e7.rp (e6.rp (e5.rp qk4))
      have hj : joinT env t ks = if allNil ks = true then some .nil else none := by
        cases t <;> first | exact Bool.noConfusion h1 | exact Bool.noConfusion h3 | exact Bool.noConfusion h4 | exact Bool.noConfusion h5 | rfl
      unfold tNext
      dsimp only
      refine ds_ret (K := K) e7.gh (d := oTy (joinT env t ks)) ?_ fun v G8 H8 e8 q => k v G8 H8 (e07.trans e8) q
      refine dv_if (b := allNil ks) (DvT.is (dvt_B (dv_all (bs := (ks.map Ty.py).map fun k => PyData.eqv k (.tuple [])) ?_)) ?_) (fun h => ?_) fun h => ?_
      · refine Dv.is (dv_lcA (f := fun d => .bool (PyData.eqv d (.tuple []))) (dvi_row (dv_var rfl qk7) hkr) (by rw [List.length_map, hlen]; have := parts_len hg; omega) fun d hd x G8 H8 e8 q => ?_) (by rw [List.map_map, List.map_map, List.map_map]; rfl)
        obtain ⟨k0, hk0, rfl⟩ := List.mem_map.mp hd
        exact dv_eq (dv_var rfl q) (dv_tup dva_nil (Nat.zero_le _)) (Ty.eqOk (b := .nil) (hks k0 hk0).1 (by simp [Ty.d]))
      · rw [← allNil_eq, List.map_map]
        rfl
      · refine Dv.is (dv_tup dva_nil (Nat.zero_le _)) ?_
        rw [hj, if_pos h]
        rfl
      · refine Dv.is dv_non ?_
        rw [hj, if_neg (by rw [h]; simp)]
        rfl
end
end K82

set_option Elab.async false
set_option linter.all false
set_option maxRecDepth 100000
set_option maxHeartbeats 4000000
/-! law: is_closed. -/
namespace K82
open PySem L2 PyProof.Rows
section
variable {P : Program} {w : World} {K : PySem.W.Frag} {mg : Str → Option Value} {base : Heap}
abbrev spCl (K : PySem.W.Frag) : Sp := spD K 3 fun ds d => ∃ (m : Int) (t : Tm), ds = [.int m, Ty.nil.py, t.py] ∧ Lt 60 t.py ∧ val m t = true ∧ typ [] t = some .nil ∧ d = .bool true
theorem ok_law_s_is_closed (T : Txt K mg) : FnOk P w K mg base CX0 63 T.law_s_is_closed.f T.law_s_is_closed.fd ["many", "kind", "thing"] (spCl K) := by
  have g_law_s_is_term : FnOk P w K mg base CX0 62 _ _ _ _ := ok_law_s_is_term T 60
  have g_law_type_in : FnOk P w K mg base CX0 62 _ _ _ _ := ok_law_type_in T 60 (by omega)
  refine T.law_s_is_closed.F.ok (k := 62) sc_law_s_is_closed (fun vs H Q E z => z.1) (fun cdv Ar outer s H vs Q E hr z => ?_)
  obtain ⟨hl, G, ds, d, e, r, ⟨m, t, rfl, hg, hv, hty, rfl⟩, k⟩ := z
  cases r with
  | @cons v1 _ _ _ r1 r =>
  cases r with
  | @cons v2 _ _ _ r2 r =>
  cases r with
  | @cons v3 _ _ _ r3 r =>
  cases r
  refine ⟨_, (pss_one (ps_ret (pe_and (pe_call g_law_s_is_term (hr.mono (by omega)) rfl T.law_s_is_term.m T.law_s_is_term.F.kp T.law_s_is_term.b .nil pass0 (pa_cons (pv 0) (pa_cons (pv 2) pa_nil))) (pe_one (pe_cmpR (op_eqX hr.units) (pe_call g_law_type_in (hr.mono (by omega)) rfl T.law_type_in.m T.law_type_in.F.kp T.law_type_in.b .nil pass0 (pa_cons pe_dnewK (pa_cons (pv 2) pa_nil))) (pv 1) (nomark _)))))), ?_⟩
  refine ds_ret (K := K) (d := .bool true) e (Dv.is (dv_and (b := true) (c := true) (dv_call (dva_cons (dv_var rfl r1) (dva_cons (dv_var rfl r3) dva_nil)) rfl ⟨m, t, rfl, hg, hv, rfl⟩) fun _ => Dv.is (dv_eq (d := Ty.nil.py) (d' := Ty.nil.py) (Dv.is (dv_call (dva_cons dv_newD (dva_cons (dv_var rfl r3) dva_nil)) rfl ⟨[], t, rfl, hg, ⟨by simp, by simp⟩, by simp, rfl⟩) (by rw [hty]; rfl)) (dv_var rfl r2) (Ty.eqOk (by simp [Ty.d]) (by simp [Ty.d]))) (by rw [Ty.eqv]; simp)) rfl) k
end
end K82

set_option Elab.async false
set_option linter.all false
set_option maxRecDepth 100000
set_option maxHeartbeats 4000000
/-! law: is_of. -/
namespace K82
open PySem L2 PyProof.Rows
mutual
theorem eqv_symm : ∀ a b : PyData, PyData.eqv a b = true → PyData.eqv b a = true
  | .list l, .list r, h => by
    rw [PyData.eqv] at h ⊢
    exact eqvAll_symm l r h
  | .tuple l, .tuple r, h => by
    rw [PyData.eqv] at h ⊢
    exact eqvAll_symm l r h
  | .none, b, h => by cases b <;> simp_all [PyData.eqv]
  | .bool x, b, h => by cases b <;> simp_all [PyData.eqv]
  | .int x, b, h => by cases b <;> simp_all [PyData.eqv]
  | .str x, b, h => by cases b <;> simp_all [PyData.eqv]
  | .dict x, b, h => by cases b <;> simp_all [PyData.eqv]
  | .list l, .none, h => by simp [PyData.eqv] at h
  | .list l, .bool _, h => by simp [PyData.eqv] at h
  | .list l, .int _, h => by simp [PyData.eqv] at h
  | .list l, .str _, h => by simp [PyData.eqv] at h
  | .list l, .tuple _, h => by simp [PyData.eqv] at h
  | .list l, .dict _, h => by simp [PyData.eqv] at h
  | .tuple l, .none, h => by simp [PyData.eqv] at h
  | .tuple l, .bool _, h => by simp [PyData.eqv] at h
  | .tuple l, .int _, h => by simp [PyData.eqv] at h
  | .tuple l, .str _, h => by simp [PyData.eqv] at h
  | .tuple l, .list _, h => by simp [PyData.eqv] at h
  | .tuple l, .dict _, h => by simp [PyData.eqv] at h
theorem eqvAll_symm : ∀ a b : List PyData, PyData.eqvAll a b = true → PyData.eqvAll b a = true
  | [], [], _ => rfl
  | [], _ :: _, h => by simp [PyData.eqvAll] at h
  | _ :: _, [], h => by simp [PyData.eqvAll] at h
  | x :: l, y :: r, h => by
    rw [PyData.eqvAll, Bool.and_eq_true] at h ⊢
    exact ⟨eqv_symm x y h.1, eqvAll_symm l r h.2⟩
end
section
variable {P : Program} {w : World} {K : PySem.W.Frag} {mg : Str → Option Value} {base : Heap}
abbrev spIO (K : PySem.W.Frag) : Sp := spD K 3 fun ds d => ∃ (m : Int) (t : Tm) (o : PyData) (l : List PyData), ds = [.int m, .tuple [.str "told", t.py], o] ∧ Lt 60 t.py ∧ t.size < 90000 ∧ val m t = true ∧ typ [] t = some .nil ∧ rowOf o = some l ∧ Lt 7 o ∧ PyData.eqvAll (put [] 0 t) (l.map toT) = true ∧ d = .bool true
theorem ok_law_is_of (T : Txt K mg) : FnOk P w K mg base CX0 64 T.law_is_of.f T.law_is_of.fd ["many", "thing", "others"] (spIO K) := by
  have g_law_s_is_closed : FnOk P w K mg base CX0 63 _ _ _ _ := ok_law_s_is_closed T
  have g_law_tupled : FnOk P w K mg base CX0 8 _ _ _ _ := ok_law_tupled T 7
  have g_law_code : FnOk P w K mg base CX0 63 _ _ _ _ := ok_law_code T 60 (by omega)
  refine T.law_is_of.F.ok (k := 63) sc_law_is_of (fun vs H Q E z => z.1) (fun cdv Ar outer s H vs Q E hr z => ?_)
  obtain ⟨hl, G, ds, d, e, r, ⟨m, t, o, l, rfl, hg, hsz, hv, hty, ho, hgo, heq, rfl⟩, k⟩ := z
  cases r with
  | @cons v1 _ _ _ r1 r =>
  cases r with
  | @cons v2 _ _ _ r2 r =>
  cases r with
  | @cons v3 _ _ _ r3 r =>
  cases r
  refine ⟨_, (pss_one (ps_ret (pe_and (pe_cmpR (op_eqX hr.units) (pe_ix ix_seq (pv 1) pe_int (fun _ _ => rfl)) pe_str (nomark _)) (pe_and (pe_call g_law_s_is_closed (hr.mono (by omega)) rfl T.law_s_is_closed.m T.law_s_is_closed.F.kp T.law_s_is_closed.b .nil pass0 (pa_cons (pv 0) (pa_cons (pe_tup pa_nil) (pa_cons (pe_ix ix_seq (pv 1) pe_int (fun _ _ => rfl)) pa_nil)))) (pe_one (pe_cmpR (op_eqX hr.units) (pe_call g_law_tupled (hr.mono (by omega)) rfl T.law_tupled.m T.law_tupled.F.kp T.law_tupled.b .nil pass0 (pa_cons (pv 2) pa_nil)) (pe_callTy call_tupX rfl T.z_tuple (by decide +kernel) (pa_cons (pe_call g_law_code (hr.mono (by omega)) rfl T.law_code.m T.law_code.F.kp T.law_code.b .nil pass0 (pa_cons (pe_ix ix_seq (pv 1) pe_int (fun _ _ => rfl)) pa_nil)) pa_nil)) (nomark _))))))), ?_⟩
  have hr2 : rowOf (.tuple [.str "told", t.py]) = some [.str "told", t.py] := rfl
  have hto : toT o = .tuple (l.map toT) := toT_row ho
  have hgl : ∀ d ∈ l.map toT, Lt 7 d := fun d hd => by
    obtain ⟨x, hx, rfl⟩ := List.mem_map.mp hd
    obtain ⟨n', hn', _, h⟩ := Lt.row' hgo ho
    exact ((h x hx).mono (by omega)).toT
  have hok : eqOk (.tuple (l.map toT)) (.tuple (put [] 0 t)) = true := by
    obtain ⟨a1, _, a2⟩ := shaped_row hgl (by omega)
    obtain ⟨b1, _, b2⟩ := shaped_row (put_lt t 60 [] 0 hg) (by omega)
    unfold eqOk
    rw [a2, b2, show noD (.tuple (l.map toT)) = noDs (l.map toT) from rfl, show noD (.tuple (put [] 0 t)) = noDs (put [] 0 t) from rfl, a1, b1]
    simp
  refine ds_ret (K := K) (d := .bool true) e (Dv.is (dv_and (b := true) (c := true) (Dv.is (dv_eq (d := .str "told") (dv_ix (dv_var rfl r2) dv_int hr2 rfl) (dv_str (x := "told")) rfl) (by rw [eqv_str]; simp)) fun _ => Dv.is (dv_and (b := true) (c := true) (dv_call (dva_cons (dv_var rfl r1) (dva_cons (d := Ty.nil.py) (dv_tup dva_nil (Nat.zero_le _)) (dva_cons (d := t.py) (dv_ix (dv_var rfl r2) dv_int hr2 rfl) dva_nil))) rfl ⟨m, t, rfl, hg, hv, hty, rfl⟩) fun _ => Dv.is (dv_eq (d := .tuple (l.map toT)) (Dv.is (dv_call1 (f := toT) (dv_var rfl r3) hgo) hto) (dv_tupOf (ds := put [] 0 t) (dv_callT (f := fun t => .list (put [] 0 t)) (t := t) (dv_ix (d := t.py) (dv_var rfl r2) dv_int hr2 rfl) ⟨hg, by omega, closed_bnd hty, by omega⟩) rfl) hok) (by rw [PyData.eqv, eqvAll_symm _ _ heq])) rfl) rfl) k
end
end K82

set_option Elab.async false
set_option linter.all false
set_option maxRecDepth 100000
set_option maxHeartbeats 4000000
/-! law: the stream of draws. -/
namespace K82
open PySem L2 PyProof.Rows
/-- the stream at p.1, its cells at p.2 -/
def SJ (H : Hp) (p : Addr × Addr) (cells : List Int) (a b c : Int) : Prop := H p.1 = some (.lst [.ref p.2, .int a, .int b, .int c]) ∧ H p.2 = some (.lst (cells.map V.int))
theorem SJ.alloc {H : Hp} {p : Addr × Addr} {cells : List Int} {a b c : Int} {q : Addr} {o : HO} (h : SJ H p cells a b c) (hq : H q = none) : SJ (upd H q o) p cells a b c :=
  ⟨by rw [upd_ne (ne_of_none h.1 hq)]; exact h.1, by rw [upd_ne (ne_of_none h.2 hq)]; exact h.2⟩
theorem SJ.setS {H : Hp} {p : Addr × Addr} {cells : List Int} {a b c a' b' c' : Int} (h : SJ H p cells a b c) (hn : p.1 ≠ p.2) : SJ (upd H p.1 (.lst [.ref p.2, .int a', .int b', .int c'])) p cells a' b' c' :=
  ⟨upd_same, by rw [upd_ne (Ne.symm hn)]; exact h.2⟩
theorem SJ.setC {H : Hp} {p : Addr × Addr} {cells cells' : List Int} {a b c : Int} (h : SJ H p cells a b c) (hn : p.1 ≠ p.2) : SJ (upd H p.2 (.lst (cells'.map V.int))) p cells' a b c :=
  ⟨by rw [upd_ne hn]; exact h.1, upd_same⟩
def maxD : Nat := 10 ^ 14
/-- the stream: m, how many draws are left -/
def SW (p : Addr × Addr) : Wd where
  M := Nat
  W := fun b => b = p.1 ∨ b = p.2
  J := fun m G H => p.1 ≠ p.2 ∧ G p.1 = none ∧ G p.2 = none ∧ ∃ (cells : List Int) (a b c : Int), SJ H p cells a b c ∧ 0 ≤ a ∧ 0 ≤ b ∧ b + m ≤ maxD ∧ 0 ≤ c ∧ c < 2147483647
  mono := fun {m G H G' H'} j g w f => by
    obtain ⟨h1, h2, h3, cells, a, b, c, hs, r⟩ := j
    exact ⟨h1, f _ (.inl rfl) h2 (by rw [hs.1]; simp), f _ (.inr rfl) h3 (by rw [hs.2]; simp), cells, a, b, c, ⟨w _ _ (.inl rfl) hs.1, w _ _ (.inr rfl) hs.2⟩, r⟩
  alive := fun {m G H} j b e => by
    obtain ⟨h1, h2, h3, cells, a, b, c, hs, r⟩ := j
    rcases e with e | e <;> subst e
    · rw [hs.1]; simp
    · rw [hs.2]; simp
  free := fun {m G H} j b e => by
    rcases e with e | e <;> subst e
    · exact j.2.1
    · exact j.2.2.1
theorem fmod_nat {i : Int} {n : Nat} (hn : 0 < n) : ∃ r : Nat, r < n ∧ i.fmod (n : Int) = r := by
  have h0 : (0 : Int) < n := by omega
  have h1 := Int.fmod_nonneg_of_pos i h0
  have h2 := Int.fmod_lt_of_pos i h0
  exact ⟨(i.fmod n).toNat, by omega, by omega⟩
section
variable {P : Program} {w : World} {K : PySem.W.Frag} {mg : Str → Option Value} {base : Heap} {σ : L2.St} {G H : Hp} {Q : VK}
theorem ix_at {sa : Addr} {xs : List V} {i : Nat} {z : Int} {v : V} (hs : σ[i]? = some (some (.ref sa))) (h : H sa = some (.lst xs)) (hx : atI xs z = some v) (k : Q v H) : tOp (rIx K) (tVar i) (tC (.int z)) σ H Q := ⟨.ref sa, hs, .inl ⟨sa, xs, z, v, rfl, rfl, SqL.of h, hx, k⟩⟩
theorem set_at {sa : Addr} {xs : List V} {i j : Nat} {z : Int} {v : V} {Q : L2.St → Hp → Prop} (hs : σ[i]? = some (some (.ref sa))) (h : H sa = some (.lst xs)) (hx : ixN xs.length z = some j) (k : Q σ (upd H sa (.lst (xs.set j v)))) : gSub (tVar i) (tC (.int z)) rSetL v σ H Q := ⟨.ref sa, hs, sa, xs, z, j, rfl, rfl, h, hx, k⟩
theorem dp_ints : ∀ l : List Int, DpAll K H (l.map V.int) (l.map PyData.int)
  | [] => .nil
  | i :: l => .cons (.int i) (dp_ints l)
theorem shaped_ints (l : List Int) : SeqAt.shaped (.list (l.map PyData.int)) = true := by
  unfold SeqAt.shaped
  have h1 : (PyData.list (l.map PyData.int)).canLay0 = true := by
    rw [PyData.canLay0]
    exact canLayAll_iff.mpr fun d hd => by
      obtain ⟨i, _, rfl⟩ := List.mem_map.mp hd
      rfl
  have h2 : (PyData.list (l.map PyData.int)).depth ≤ 64 := by
    rw [PyData.depth]
    have : PyData.depthAll (l.map PyData.int) ≤ 0 := depthAll_le.mpr fun d hd => by
      obtain ⟨i, _, rfl⟩ := List.mem_map.mp hd
      exact Nat.le_of_eq rfl
    omega
  rw [h1, decide_eq_true h2]
  rfl
abbrev spDr (K : PySem.W.Frag) : Sp := spM K 2 SW fun p as (m : Nat) R => ∃ n : Nat, as = [.raw (.ref p.1), .pd (.int n)] ∧ 0 < n ∧ n < 1000 ∧ ∃ m', m = m' + 1 ∧ ∀ r : Nat, r < n → R (.int r) m'
theorem ok_law_draw (T : Txt K mg) : FnOk P w K mg base CX0 1 T.law_draw.f T.law_draw.fd ["stream", "many"] (spDr K) := by
  refine T.law_draw.F.ok sc_law_draw (fun vs H Q E z => z.1) (fun cdv Ar outer s H vs Q E hr z => ?_)
  obtain ⟨_, p, G, as, (m : Nat), R, e, j, r, ⟨n, rfl, hn0, hn1, m', rfl, hR⟩, k⟩ := z
  cases r with
  | @cons v1 _ _ _ r1 r =>
  cases r with
  | @cons v2 _ _ _ r2 r =>
  cases r
  cases (show v1 = .ref p.1 from r1)
  cases (show Rp K G v2 (.int n) from r2)
  refine ⟨_, (pss_cons (ps_asg (pe_op op_addX (pe_ix ix_seq (pv 0) pe_int (fun _ _ => rfl)) pe_int) (pg_sub (pv 0) pe_int set_list))
      (pss_cons (ps_while PassesOwn.never (PW.pt (pw_and (pt_cmpR (op_eqX hr.units) (pe_ix ix_seq (pv 0) pe_int (fun _ _ => rfl)) pe_int (nomark _)) (pw_and1 (pt_cmpR (op_neX hr.units) (pe_ix ix_seq (pv 0) pe_int (fun _ _ => rfl)) (pe_lst pa_nil) (nomark _))))) (pss_cons (ps_set (i := 2) sc_law_draw.nd rfl (Or.inl rfl) (pe_callB call_abs rfl T.z_abs (by decide +kernel) (pa_cons (pe_bm PySem.F.plainAttrs_list PySem.F.slot_list_pop PySem.F.type_list_pop mt_popAt (pe_ix ix_seq (pv 0) pe_int (fun _ _ => rfl)) (pa_cons pe_int pa_nil)) pa_nil)))
      (pss_cons (ps_asg (pe_op op_modN (pe_callTy call_intX rfl T.z_int (by decide +kernel) (pa_cons (pe_op op_addX (pe_op op_addX (pe_op op_mulX (pe_ix ix_seq (pv 0) pe_int (fun _ _ => rfl)) pe_int) (pv 2)) pe_int) pa_nil)) pe_int) (pg_sub (pv 0) pe_int set_list))
      (pss_one (ps_asg (pe_ifExp (pt_cmpR op_ge (pv 2) (pe_op op_pow pe_int pe_int) (nomark _)) (pv 2) pe_int) (pg_sub (pv 0) pe_int set_list))))))
      (pss_cons (ps_if (pt_cmpR op_gt (pe_ix ix_seq (pv 0) pe_int (fun _ _ => rfl)) pe_int (nomark _)) (pss_cons (ps_set (i := 3) sc_law_draw.nd rfl (Or.inl rfl) (pe_op op_modN (pe_callTy call_intX rfl T.z_int (by decide +kernel) (pa_cons (pe_ix ix_seq (pv 0) pe_int (fun _ _ => rfl)) pa_nil)) (pv 1)))
      (pss_cons (ps_asg (pe_op op_fdivN (pe_ix ix_seq (pv 0) pe_int (fun _ _ => rfl)) (pv 1)) (pg_sub (pv 0) pe_int set_list))
      (pss_one (ps_ret (pv 3))))) pss_nil)
      (pss_cons (ps_set (i := 4) sc_law_draw.nd rfl (Or.inl rfl) (pe_op op_modN (pe_callTy call_intX rfl T.z_int (by decide +kernel) (pa_cons (pe_op op_pow (pe_op op_addX (pe_op op_addX (pe_ix ix_seq (pv 0) pe_int (fun _ _ => rfl)) (pe_op op_mulX pe_int (pe_ix ix_seq (pv 0) pe_int (fun _ _ => rfl)))) pe_int) pe_int) pa_nil)) pe_int))
      (pss_one (ps_ret (pe_op op_modN (pe_op op_modN (pe_callTy call_intX rfl T.z_int (by decide +kernel) (pa_cons (pe_op op_pow (pe_op op_addX (pe_op op_addX (pe_op op_mulX (pv 4) pe_int) (pe_op op_mulX pe_int (pe_ix ix_seq (pv 0) pe_int (fun _ _ => rfl)))) pe_int) pe_int) pa_nil)) pe_int) (pv 1)))))))), ?_⟩
  obtain ⟨hne, g1, g2, cells, a, b, c, hs, ha, hb, hbm, hc0, hc1⟩ := j
  have hpS : (SW p).W p.1 := .inl rfl
  have hpC : (SW p).W p.2 := .inr rfl
  refine ds_seq ?_
  refine ix_at rfl hs.1 rfl (.inl ⟨b, 1, rfl, rfl, set_at (j := 2) rfl hs.1 rfl ?_⟩)
  dsimp only
  have hs1 : SJ (upd H p.1 (.lst [.ref p.2, .int a, .int (b + 1), .int c])) p cells a (b + 1) c := hs.setS hne
  have x1 : ExtW (SW p).W G H G (upd H p.1 (.lst [.ref p.2, .int a, .int (b + 1), .int c])) := (ExtW.refl e).put hpS g1 _
  refine ds_seq ?_
  refine ⟨fun k σ' H' => ∃ (cells : List Int) (a c : Int), k = cells.length ∧ σ'[0]? = some (some (.ref p.1)) ∧ σ'[1]? = some (some (.int n)) ∧ σ'.length = 5 ∧ ExtW (SW p).W G H G H' ∧ SJ H' p cells a (b + 1) c ∧ 0 ≤ a ∧ 0 ≤ c ∧ c < 2147483647, ⟨_, cells, a, c, rfl, rfl, rfl, rfl, x1, hs1, ha, hc0, hc1⟩, ?_⟩
  clear hs1 x1 hs ha hc0 hc1
  rintro k' σ1 H1 ⟨cells, a, c, rfl, z0, z1, zl, x1, hs, ha, hc0, hc1⟩
  have fin : ∀ σ2 H2, σ2[0]? = some (some (.ref p.1)) → σ2[1]? = some (some (.int n)) → σ2.length = 5 → ExtW (SW p).W G H G H2 → SJ H2 p cells a (b + 1) c → ∀ D : Ends, D.rt = Q → (tSeq (tIfS (tTest (tOp (rI0 fun i j => .bl (decide (j < i))) (tOp (rIx K) (tVar 0) (tC (.int 1))) (tC (.int 0)))) (tSeq (tAsg (tOp (rI (fun _ j => j ≠ 0) fun i j => .int (i.fmod j)) (tCB rIntX (tCons (tOp (rIx K) (tVar 0) (tC (.int 1))) tNil)) (tVar 1)) (gName 3)) (tSeq (tAsg (tOp (rI CDivN fun i j => .int (i.fdiv j)) (tOp (rIx K) (tVar 0) (tC (.int 1))) (tVar 1)) (gSub (tVar 0) (tC (.int 1)) rSetL)) (tRet (tVar 3)))) tNext) (tSeq (tAsg (tOp (rI (fun _ j => j ≠ 0) fun i j => .int (i.fmod j)) (tCB rIntX (tCons (tOp (rI CPow fun i j => .int (i ^ j.toNat)) (tOp (rAddX K) (tOp (rAddX K) (tOp (rIx K) (tVar 0) (tC (.int 3))) (tOp rMulX (tC (.int 7919)) (tOp (rIx K) (tVar 0) (tC (.int 2))))) (tC (.int 104729))) (tC (.int 5))) tNil)) (tC (.int 2147483629))) (gName 4)) (tRet (tOp (rI (fun _ j => j ≠ 0) fun i j => .int (i.fmod j)) (tOp (rI (fun _ j => j ≠ 0) fun i j => .int (i.fmod j)) (tCB rIntX (tCons (tOp (rI CPow fun i j => .int (i ^ j.toNat)) (tOp (rAddX K) (tOp (rAddX K) (tOp rMulX (tVar 4) (tC (.int 48271))) (tOp rMulX (tC (.int 30011)) (tOp (rIx K) (tVar 0) (tC (.int 2))))) (tC (.int 29))) (tC (.int 3))) tNil)) (tC (.int 1000000007))) (tVar 1))))) D σ2 H2 := by
    intro σ2 H2 z0 z1 zl x2 hs D hD
    refine ds_seq ?_
    refine ix_at z0 hs.1 rfl ⟨a, 0, rfl, rfl, _, rfl, ?_⟩
    dsimp only
    by_cases h : 0 < a
    · rw [if_pos (by simpa using h)]
      refine ds_seq ?_
      refine ix_at z0 hs.1 rfl (.inl ⟨a, rfl, .int n, z1, a, n, rfl, rfl, by omega, ?_⟩)
      refine ds_seq ?_
      have z0' : (σ2.set 3 (some (V.int (a.fmod n))))[0]? = some (some (.ref p.1)) := by rw [List.getElem?_set_ne (by omega)]; exact z0
      have z1' : (σ2.set 3 (some (V.int (a.fmod n))))[1]? = some (some (.int n)) := by rw [List.getElem?_set_ne (by omega)]; exact z1
      refine ix_at z0' hs.1 rfl ⟨.int n, z1', a, n, rfl, rfl, ⟨by omega, by omega⟩, set_at (j := 1) z0' hs.1 rfl ?_⟩
      obtain ⟨r, hr, er⟩ := fmod_nat (i := a) hn0
      refine ⟨.int (a.fmod n), by rw [List.getElem?_set_self (by omega)], ?_⟩
      show D.rt _ _
      rw [hD, er]
      refine k _ _ m' G _ (x2.put hpS g1 _) ⟨hne, g1, g2, cells, a.fdiv n, b + 1, c, hs.setS hne, ?_, by omega, by push_cast at hbm; omega, hc0, hc1⟩ (.int _) (hR r hr)
      exact Int.fdiv_nonneg (by omega) (by omega)
    · rw [if_neg (by simpa using h)]
      show (tSeq _ _) _ _ _
      refine ds_seq ?_
      refine ix_at z0 hs.1 rfl (ix_at z0 hs.1 rfl (.inl ⟨7919, b + 1, rfl, rfl, .inl (by decide), .inl ⟨c, 7919 * (b + 1), rfl, rfl, .inl ⟨c + 7919 * (b + 1), 104729, rfl, rfl, _, 5, rfl, rfl, ⟨by decide, by decide, ?_⟩, .inl ⟨_, rfl, _, 2147483629, rfl, rfl, (show (2147483629 : Int) ≠ 0 by decide), ?_⟩⟩⟩⟩))
      · unfold maxD at hbm
        omega
      obtain ⟨r, hr, er⟩ := fmod_nat (i := (c + 7919 * (b + 1) + 104729) ^ (5 : Int).toNat) (n := 2147483629) (by decide)
      have er' : ((c + 7919 * (b + 1) + 104729) ^ (5 : Int).toNat).fmod 2147483629 = r := er
      dsimp only
      rw [er']
      have z0' : (σ2.set 4 (some (V.int r)))[0]? = some (some (.ref p.1)) := by rw [List.getElem?_set_ne (by omega)]; exact z0
      have z1' : (σ2.set 4 (some (V.int r)))[1]? = some (some (.int n)) := by rw [List.getElem?_set_ne (by omega)]; exact z1
      have z4' : (σ2.set 4 (some (V.int r)))[4]? = some (some (.int r)) := by rw [List.getElem?_set_self (by omega)]
      refine ⟨.int r, z4', .inl ⟨r, 48271, rfl, rfl, .inr (by decide), ix_at z0' hs.1 rfl (.inl ⟨30011, b + 1, rfl, rfl, .inl (by decide), .inl ⟨_, _, rfl, rfl, .inl ⟨_, 29, rfl, rfl, _, 3, rfl, rfl, ⟨by decide, by decide, ?_⟩, .inl ⟨_, rfl, _, 1000000007, rfl, rfl, (show (1000000007 : Int) ≠ 0 by decide), .int n, z1', _, n, rfl, rfl, by omega, ?_⟩⟩⟩⟩)⟩⟩
      · unfold maxD at hbm
        omega
      obtain ⟨r2, hr2, er2⟩ := fmod_nat (i := (((r : Int) * 48271 + 30011 * (b + 1) + 29) ^ (3 : Int).toNat).fmod 1000000007) hn0
      show D.rt (.int (Int.fmod (Int.fmod _ _) _)) _
      rw [er2]
      rw [hD]
      exact k _ _ m' G _ x2 ⟨hne, g1, g2, cells, a, b + 1, c, hs, ha, by omega, by push_cast at hbm; omega, hc0, hc1⟩ (.int _) (hR r2 hr2)
  refine ix_at z0 hs.1 rfl (.inl ⟨rfl, _, rfl, ?_⟩)
  by_cases h0 : a = 0
  · subst h0
    rw [decide_eq_true rfl, if_pos rfl]
    refine ix_at z0 hs.1 rfl ⟨Nat.zero_le _, fun q hq => .inr ⟨.list (cells.map .int), .list [], .lst (SqL.of (hs.alloc hq).2) (dp_ints _), .lst (SqL.of upd_same) .nil, shaped_ints _, rfl, _, rfl, ?_⟩⟩
    have x2 : ExtW (SW p).W G H G (upd H1 q (.lst [])) := x1.trans ((Ext.refl x1.gh).allocM hq _).w
    have hs2 : SJ (upd H1 q (.lst [])) p cells 0 (b + 1) c := hs.alloc hq
    cases cells with
    | nil =>
      exact fin σ1 _ z0 z1 zl x2 hs2 _ rfl
    | cons z cells =>
      show if true = true then _ else _
      rw [if_pos rfl]
      refine ⟨fun σ' H' => ∃ (a c : Int), σ'[0]? = some (some (.ref p.1)) ∧ σ'[1]? = some (some (.int n)) ∧ σ'.length = 5 ∧ ExtW (SW p).W G H G H' ∧ SJ H' p cells a (b + 1) c ∧ 0 ≤ a ∧ 0 ≤ c ∧ c < 2147483647, fun σ' H' ⟨a, c, h⟩ => ⟨cells.length, by simp, cells, a, c, rfl, h⟩, ?_⟩
      refine ds_seq ?_
      refine ix_at z0 hs2.1 rfl ⟨.inl ⟨rfl, _, SqL.of hs2.2⟩, p.2, _, 0, 0, .int z, rfl, rfl, hs2.2, by decide, by decide, (ixN_seq (by simp [ixN] : ixN (List.map V.int (z :: cells)).length 0 = some 0)).1, rfl, z, rfl, ?_⟩
      generalize hcell : (if z < 0 then -z else z) = cell
      have hcell0 : 0 ≤ cell := by rw [← hcell]; split <;> omega
      have x3 := x2.put hpC g2 (.lst (cells.map V.int))
      have hs3 : SJ (upd (upd H1 q (.lst [])) p.2 (.lst (cells.map V.int))) p cells 0 (b + 1) c := hs2.setC hne
      have y0 : (σ1.set 2 (some (V.int cell)))[0]? = some (some (.ref p.1)) := by rw [List.getElem?_set_ne (by omega)]; exact z0
      have y1 : (σ1.set 2 (some (V.int cell)))[1]? = some (some (.int n)) := by rw [List.getElem?_set_ne (by omega)]; exact z1
      have y2 : (σ1.set 2 (some (V.int cell)))[2]? = some (some (.int cell)) := by rw [List.getElem?_set_self (by omega)]
      have yl : (σ1.set 2 (some (V.int cell))).length = 5 := by simpa using zl
      refine ds_seq ?_
      refine ix_at y0 hs3.1 rfl (.inl ⟨c, 8191, rfl, rfl, .inr (by decide), .int cell, y2, .inl ⟨_, cell, rfl, rfl, .inl ⟨_, 3, rfl, rfl, .inl ⟨_, rfl, _, 2147483647, rfl, rfl, (show (2147483647 : Int) ≠ 0 by decide), set_at (j := 3) y0 hs3.1 rfl ?_⟩⟩⟩⟩)
      obtain ⟨r, hr, er⟩ := fmod_nat (i := c * 8191 + cell + 3) (n := 2147483647) (by decide)
      have er' : (c * 8191 + cell + 3).fmod 2147483647 = r := er
      dsimp only
      rw [er']
      have x4 := x3.put hpS g1 (.lst [.ref p.2, .int 0, .int (b + 1), .int r])
      have hs4 : SJ (upd (upd (upd H1 q (.lst [])) p.2 (.lst (cells.map V.int))) p.1 (.lst [.ref p.2, .int 0, .int (b + 1), .int r])) p cells 0 (b + 1) r := hs3.setS hne
      refine ⟨.int cell, y2, 10, 18, rfl, rfl, ⟨by decide, by decide, by decide⟩, cell, _, rfl, rfl, _, rfl, ?_⟩
      by_cases hbig : ((10 : Int) ^ (18 : Int).toNat) ≤ cell
      · rw [decide_eq_true hbig]
        refine iteT ⟨.int cell, y2, set_at (j := 1) y0 hs4.1 rfl ?_⟩
        exact ⟨cell, r, y0, y1, yl, x4.put hpS g1 _, hs4.setS hne, hcell0, by omega, by omega⟩
      · rw [decide_eq_false hbig]
        refine iteF (set_at (j := 1) y0 hs4.1 rfl ?_)
        exact ⟨0, r, y0, y1, yl, x4.put hpS g1 _, hs4.setS hne, by omega, by omega, by omega⟩
  · rw [decide_eq_false (by intro z; exact h0 (by injection z))]
    exact iteF (iteF (fin σ1 H1 z0 z1 zl x1 hs _ rfl))
end
end K82

set_option Elab.async false
set_option linter.all false
set_option maxRecDepth 100000
set_option maxHeartbeats 4000000
/-! law: stream, pick, loose; readings of what is drawn. -/
namespace K82
open PySem L2 PyProof.Rows
/-- the promise of a def that makes some data of data, R holds of it -/
def spQ (K : PySem.W.Frag) (n : Nat) (P : List PyData → (PyData → Prop) → Prop) : Sp := fun vs H Q _ => vs.length = n ∧ ∃ (G : Hp) (ds : List PyData) (R : PyData → Prop), Same G H ∧ RpAll K G vs ds ∧ P ds R ∧ ∀ v d G' H', Ext G H G' H' → Rp K G' v d → R d → Q v H'
section
variable {K : PySem.W.Frag} {D : Wd} {σ : L2.St} {G H G1 H1 : Hp} {te ta tb : TE} {tt : TT} {m : D.M} {d : PyData} {v : V} {i j : Nat} {E : Ends}
theorem mv_callQ {n : Nat} {P : List PyData → (PyData → Prop) → Prop} {X : XK} {ta : TA} {R : PyData → D.M → Prop} (h : MvA K D ta σ G m fun as m' => ∃ ds, as = ds.map .pd ∧ ds.length = n ∧ P ds fun d => R d m') : Mv K D (tCall (spQ K n P) [] X ta) σ G m R := fun G1 H1 e j Q q =>
  h G1 H1 e j _ fun vs as m' G2 H2 e2 j2 r z => by
    obtain ⟨ds, rfl, hn, hP⟩ := z
    show spQ K n P (vs ++ []) H2 Q X
    rw [List.append_nil]
    have r := r.data
    exact ⟨by rw [r.length, hn], G2, ds, _, e2.gh, r, hP, fun v d G3 H3 e3 r3 z => q v d m' G3 H3 (e2.trans e3.w) (Wd.ext j2 e3) r3 z⟩
theorem mv_lt {R : PyData → D.M → Prop} (h : Mv K D ta σ G m fun d m1 => ∃ i, d = .int i ∧ Mv K D tb σ G m1 fun d' m2 => ∃ j, d' = .int j ∧ R (.bool (decide (i < j))) m2) : Mv K D (tOp (rI0 fun i j => .bl (decide (i < j))) ta tb) σ G m R := mv_I0 (f := fun i j => .bool (decide (i < j))) (fun _ _ _ => .bl _) h
theorem mvt_yes {R : Bool → D.M → Prop} (h : R true m) : MvT D tYes σ G m R := fun G1 H1 e j Q q => q true m G1 H1 (ExtW.refl e.gh) j h
theorem ms_if {tu tw : TS} {R : Bool → D.M → Prop} (e : Same G H) (j : D.J m G H) (h : MvT D tt σ G m R) (h1 : ∀ m' G1 H1, ExtW D.W G H G1 H1 → D.J m' G1 H1 → R true m' → tu E σ H1) (h2 : ∀ m' G1 H1, ExtW D.W G H G1 H1 → D.J m' G1 H1 → R false m' → tw E σ H1) : tIfS tt tu tw E σ H := h G H (Up.refl e) j _ fun b m' G1 H1 e1 j1 z => by
  cases b with
  | true => exact iteT (h1 m' G1 H1 e1 j1 z)
  | false => exact iteF (h2 m' G1 H1 e1 j1 z)
/-- x, y = e, f -/
theorem ms_par {R : PyData → PyData → D.M → Prop} (e : Same G H) (jj : D.J m G H) (h : Mv K D ta σ G m fun d m1 => Mv K D tb σ G m1 fun d' m2 => R d d' m2) (k : ∀ v w d d' m' G1 H1, ExtW D.W G H G1 H1 → D.J m' G1 H1 → Rp K G1 v d → Rp K G1 w d' → R d d' m' → E.nx ((σ.set i (some v)).set j (some w)) H1) : tPar i j (tCons ta (tCons tb tNil)) E σ H :=
  h G H (Up.refl e) jj _ fun v d m1 G1 H1 e1 j1 r1 z => z G1 H1 e1.up j1 _ fun w d' m2 G2 H2 e2 j2 r2 z2 => ⟨v, w, rfl, k v w d d' m2 G2 H2 (e1.trans e2) j2 (e2.rp r1) r2 z2⟩
/-- x, y = e, a row of two -/
theorem ms_two {R : PyData → D.M → Prop} (e : Same G H) (jj : D.J m G H) (h : Mv K D te σ G m R) (hR : ∀ d m', R d m' → ∃ a b, d = .tuple [a, b]) (k : ∀ v w a b m' G1 H1, ExtW D.W G H G1 H1 → D.J m' G1 H1 → Rp K G1 v a → Rp K G1 w b → R (.tuple [a, b]) m' → E.nx ((σ.set i (some v)).set j (some w)) H1) :
    tAsg te (gTup K 2 (gCons (gName i) (gCons (gName j) gNil))) E σ H := h G H (Up.refl e) jj _ fun v d m1 G1 H1 e1 j1 r1 z => by
  obtain ⟨a, b, rfl⟩ := hR d m1 z
  cases r1 with
  | tup h1 h2 =>
    cases h2 with
    | cons r1 h2 =>
      cases h2 with
      | cons r2 h2 =>
        cases h2
        exact ⟨_, _, rfl, Same.sqt e1.gh h1, rfl, _, _, rfl, _, _, rfl, rfl, k _ _ a b m1 G1 H1 e1 j1 r1 r2 z⟩
theorem mv_tup1 {R : PyData → D.M → Prop} (h : Mv K D ta σ G m fun a m1 => R (.tuple [a]) m1) : Mv K D (tTup (tCons ta tNil)) σ G m R := mv_tup (mva_cons (h.imp fun a m1 z => mva_nil ⟨[a], rfl, by simp, z⟩))
theorem mv_tup2 {R : PyData → D.M → Prop} (h : Mv K D ta σ G m fun a m1 => Mv K D tb σ G m1 fun b m2 => R (.tuple [a, b]) m2) : Mv K D (tTup (tCons ta (tCons tb tNil))) σ G m R := mv_tup (mva_cons (h.imp fun a m1 z => mva_cons (z.imp fun b m2 z => mva_nil ⟨[a, b], rfl, by simp, z⟩)))
theorem mv_tup3 {tc : TE} {R : PyData → D.M → Prop} (h : Mv K D ta σ G m fun a m1 => Mv K D tb σ G m1 fun b m2 => Mv K D tc σ G m2 fun c m3 => R (.tuple [a, b, c]) m3) : Mv K D (tTup (tCons ta (tCons tb (tCons tc tNil)))) σ G m R := mv_tup (mva_cons (h.imp fun a m1 z => mva_cons (z.imp fun b m2 z => mva_cons (z.imp fun c m3 z => mva_nil ⟨[a, b, c], rfl, by simp, z⟩))))
theorem mv_tup4 {tc td : TE} {R : PyData → D.M → Prop} (h : Mv K D ta σ G m fun a m1 => Mv K D tb σ G m1 fun b m2 => Mv K D tc σ G m2 fun c m3 => Mv K D td σ G m3 fun d m4 => R (.tuple [a, b, c, d]) m4) : Mv K D (tTup (tCons ta (tCons tb (tCons tc (tCons td tNil))))) σ G m R := mv_tup (mva_cons (h.imp fun a m1 z => mva_cons (z.imp fun b m2 z => mva_cons (z.imp fun c m3 z => mva_cons (z.imp fun d m4 z => mva_nil ⟨[a, b, c, d], rfl, by simp, z⟩)))))
end
section
variable {P : Program} {w : World} {K : PySem.W.Frag} {mg : Str → Option Value} {base : Heap}
abbrev spStr (K : PySem.W.Frag) : Sp := fun vs H Q _ => vs.length = 1 ∧ ∃ (q : Addr) (cells : List Int), vs = [.ref q] ∧ SqL K H q (cells.map V.int) ∧ ∀ H' p, Same H H' → H p.1 = none → H p.2 = none → p.1 ≠ p.2 → SJ H' p cells 0 0 17 → Q (.ref p.1) H'
theorem ok_law_stream (T : Txt K mg) : FnOk P w K mg base CX0 1 T.law_stream.f T.law_stream.fd ["script"] (spStr K) := by
  refine T.law_stream.F.ok sc_law_stream (fun vs H Q E z => z.1) (fun cdv Ar outer s H vs Q E hr z => ?_)
  obtain ⟨_, q, cells, rfl, hq, k⟩ := z
  refine ⟨_, (pss_one (ps_ret (pe_lst (pa_cons (pe_callTy call_lstX rfl T.z_list (by decide +kernel) (pa_cons (pv 0) pa_nil)) (pa_cons pe_int (pa_cons pe_int (pa_cons pe_int pa_nil))))))), ?_⟩
  refine ⟨.ref q, rfl, q, _, rfl, .inl hq, fun c hc => ⟨by show 4 ≤ sizeLine; decide, fun p hp => ?_⟩⟩
  have hpc : p ≠ c := fun z => by rw [z, upd_same] at hp; cases hp
  have hp0 : H p = none := by rw [upd_ne hpc] at hp; exact hp
  exact k _ (p, c) ((same_upd hc _).trans (same_upd hp _)) hp0 hc hpc ⟨upd_same, by rw [upd_ne (Ne.symm hpc)]; exact upd_same⟩
abbrev spPk (K : PySem.W.Frag) : Sp := spM K 2 SW fun p as (m : Nat) R => ∃ r ds, as = [.raw (.ref p.1), .pd r] ∧ rowOf r = some ds ∧ 0 < ds.length ∧ ds.length < 1000 ∧ ∃ m', m = m' + 1 ∧ ∀ d ∈ ds, R d m'
theorem ok_law_pick (T : Txt K mg) : FnOk P w K mg base CX0 2 T.law_pick.f T.law_pick.fd ["stream", "things"] (spPk K) := by
  have g_law_draw : FnOk P w K mg base CX0 1 _ _ _ _ := ok_law_draw T
  refine T.law_pick.F.ok sc_law_pick (fun vs H Q E z => z.1) (fun cdv Ar outer s H vs Q E hr z => ?_)
  obtain ⟨_, p, G, as, (m : Nat), R, e, j, r, ⟨rr, ds, rfl, hrow, h0, h1, m', rfl, hR⟩, k⟩ := z
  cases r with
  | @cons v1 _ _ _ r1 r =>
  cases r with
  | @cons v2 _ _ _ r2 r =>
  cases r
  cases (show v1 = .ref p.1 from r1)
  have r2 : Rp K G v2 rr := r2
  refine ⟨_, (pss_one (ps_ret (pe_ix ix_seq (pv 1) (pe_call g_law_draw (hr.mono (by omega)) rfl T.law_draw.m T.law_draw.F.kp T.law_draw.b .nil pass0 (pa_cons (pv 0) (pa_cons (pe_callB call_lenX rfl T.z_len (by decide +kernel) (pa_cons (pv 1) pa_nil)) pa_nil))) (fun _ _ => rfl)))), ?_⟩
  refine ms_ret (D := SW p) (R := R) e j (mv_ix hrow (mv_dv (dv_var rfl r2) ⟨rfl, mv_call (mva_raw rfl (mva_cons (mv_dv (dv_len (dv_var rfl r2) hrow) (mva_nil ⟨rfl, ds.length, rfl, h0, h1, m', rfl, fun i hi => ⟨i, ds[i], rfl, ?_, hR _ (List.getElem_mem hi)⟩⟩))))⟩)) k
  unfold atI ixN
  rw [if_pos (by omega), if_pos (by omega)]
  simp [List.getElem?_eq_getElem hi]
theorem toT_of_rows {ds : List PyData} {l : List PyData} {r r' : PyData} (h : rowOf r = some ds) (h' : rowOf r' = some l) (q : l.map toT = ds.map toT) : toT r' = toT r := by rw [toT_row h, toT_row h', q]
abbrev spLo (K : PySem.W.Frag) (n : Nat) : Sp := spM K 2 SW fun p as (m : Nat) R => ∃ d, as = [.raw (.ref p.1), .pd d] ∧ Lt n d ∧ cnt d ≤ m ∧ ∀ e m', toT e = toT d → m ≤ m' + cnt d → R e m'
theorem ok_law_loose (T : Txt K mg) : ∀ n, FnOk P w K mg base CX0 (n + 2) T.law_loose.f T.law_loose.fd ["stream", "thing"] (spLo K n)
  | 0 => fn_no (by
    rintro vs H Q E ⟨_, p, G, as, m, R, _, _, _, ⟨d, _, h, _⟩, _⟩
    exact h)
  | n + 1 => by
    have g_law_loose : FnOk P w K mg base CX0 (n + 2) _ _ _ _ := ok_law_loose T n
    have g_law_draw : FnOk P w K mg base CX0 1 _ _ _ _ := ok_law_draw T
    refine T.law_loose.F.ok sc_law_loose (fun vs H Q E z => z.1) (fun cdv Ar outer s H vs Q E hr z => ?_)
    obtain ⟨_, p, G, as, (m : Nat), R, e, j, r, ⟨d, rfl, hg, hc, hR⟩, k⟩ := z
    cases r with
    | @cons v1 _ _ _ r1 r =>
    cases r with
    | @cons v2 _ _ _ r2 r =>
    cases r
    cases (show v1 = .ref p.1 from r1)
    have r2 : Rp K G v2 d := r2
    refine ⟨_, (pss_cons (ps_if (pt_not (pt_val (pe_callB call_isiX rfl T.z_isinstance (by decide +kernel) (pa_cons (pv 1) (pa_cons (pe_tup (pa_cons (pe_bltn (v := .ty "list") rfl T.z_list (by decide +kernel) rfl) (pa_cons (pe_bltn (v := .ty "tuple") rfl T.z_tuple (by decide +kernel) rfl) pa_nil))) pa_nil))))) (pss_one (ps_ret (pv 1))) pss_nil)
      (pss_cons (ps_setLc (i := 2) (own := [("part", 3)]) (g := gName 3) (tt := tYes) rfl sc_law_loose.nd rfl rfl (sw_true rfl rfl rfl (by decide +kernel)) (pi_row (pv 1)) (blkOk_by (N := ["stream", "thing", "some", "part"]) (sc := defScope s_law_loose) (by decide +kernel)) (fun _ _ _ _ _ => (pg_name (i := 3) sc_law_loose.nd rfl (Or.inl rfl))) (fun _ _ _ _ _ => pts_nil) (fun _ _ _ _ _ => (pe_call g_law_loose (hr.mono (by omega)) rfl T.law_loose.m T.law_loose.F.kp T.law_loose.b .nil pass0 (pa_cons (pv 0) (pa_cons (pv 3) pa_nil)))))
      (pss_one (ps_ret (pe_ifExp (pt_cmpR (op_eqX hr.units) (pe_call g_law_draw (hr.mono (by omega)) rfl T.law_draw.m T.law_draw.F.kp T.law_draw.b .nil pass0 (pa_cons (pv 0) (pa_cons pe_int pa_nil))) pe_int (nomark _)) (pe_callTy call_tupX rfl T.z_tuple (by decide +kernel) (pa_cons (pv 2) pa_nil)) (pv 2)))))), ?_⟩
    refine ds_seq ?_
    refine ds_if e (dvt_not (dvt_B (dv_isi2 .list .tuple (dv_var rfl r2)))) (fun h G1 H1 e1 => ?_) fun h G1 H1 e1 => ?_
    · exact ⟨v2, rfl, k _ _ m G1 H1 e1.w (Wd.ext j e1) (e1.rp r2) (hR d m rfl (by omega))⟩
    have h' : isAny d [.list, .tuple] = true := by simpa using h
    obtain ⟨ds, hrow⟩ := isL_some (d := d) h'
    obtain ⟨hz, hall⟩ := Lt.row hg hrow
    have hcr := cnt_row hrow
    have j1 := Wd.ext j e1
    refine ds_seq ?_
    refine ms_set (D := SW p) (R := fun d' (m1 : Nat) => ∃ l, d' = .list l ∧ l.map toT = ds.map toT ∧ m ≤ m1 + cnts ds) e1.gh j1 (mv_lc (ds := ds) (fun i acc (m1 : Nat) => acc.map toT = (ds.take i).map toT ∧ m ≤ m1 + cnts (ds.take i)) (dvi_row (dv_var rfl (e1.rp r2)) hrow) (k1 hz) ⟨rfl, by simp⟩ ?_ ?_) fun vs d' (m1 : Nat) G2 H2 e2 j2 q2 hd' => ?_
    · rintro i x acc (m1 : Nat) hx hl ⟨ha, hm⟩ xv G2 H2 u2 rx
      have hmem : x ∈ ds := List.mem_of_getElem? hx
      have hct : cnts (ds.take (i + 1)) = cnts (ds.take i) + cnt x := by
        obtain ⟨h1, h2⟩ := List.getElem?_eq_some_iff.mp hx
        rw [← List.take_append_getElem h1, h2, cnts_app]
        simp [cnts]
      have hle : cnts (ds.take (i + 1)) ≤ cnts ds := by
        conv => rhs; rw [← List.take_append_drop (i + 1) ds]
        rw [cnts_app]
        omega
      refine mv_call (mva_raw rfl (mva_cons (mv_dv (dv_var rfl rx) (mva_nil ⟨rfl, x, rfl, hall x hmem, by omega, fun y m2 hy hm2 => ⟨?_, by omega⟩⟩))))
      obtain ⟨h1, h2⟩ := List.getElem?_eq_some_iff.mp hx
      rw [List.map_append, ha, ← List.take_append_getElem h1, h2, List.map_append]
      simp [hy]
    · rintro acc (m1 : Nat) hl ⟨ha, hm⟩
      rw [List.take_length] at ha hm
      exact ⟨acc, rfl, ha, hm⟩
    obtain ⟨l, rfl, hl, hm⟩ := hd'
    dsimp only
    refine ms_ret (D := SW p) (R := R) e2.gh j2 (mv_if (mvt_test (mv_eqI (mv_call (mva_raw rfl (mva_cons (mv_dv dv_int (mva_nil ⟨rfl, 2, rfl, by omega, by omega, m1 - 1, by omega, fun i hi => ⟨i, rfl, mv_dv dv_int ⟨0, rfl, _, rfl, ?_⟩⟩⟩)))))))) fun v d' m2 G3 H3 e3 j3 q3 z => k v d' m2 G3 H3 ((e1.w.trans e2).trans e3) j3 q3 z
    by_cases hi0 : ((i : Nat) : Int) = 0
    · rw [if_pos (by rw [decide_eq_true hi0])]
      exact mv_dv (dv_tupOf (ds := l) (dv_var rfl q2) rfl) (hR _ _ (toT_of_rows (ds := ds) hrow (l := l) rfl hl) (by omega))
    · rw [if_neg (by rw [decide_eq_false hi0]; simp)]
      exact mv_dv (d := .list l) (dv_var rfl q2) (hR _ _ (toT_of_rows (ds := ds) hrow (l := l) rfl hl) (by omega))
end
end K82

set_option Elab.async false
set_option linter.all false
set_option maxRecDepth 100000
set_option maxHeartbeats 4000000
/-! What is drawn: terms of few names and types. -/
namespace K82
open PySem L2 PyProof.Rows
def K1 : Ty := .cons .nil .nil
def NS : List Str := ["a", "b", "x", "f", "ab"]
def TS : List Ty := [.nil, K1, .cons .nil K1, .cons K1 .nil, .cons K1 K1]
def k01 (k : Ty) : Prop := k = .nil ∨ k = K1
theorem k01.ts {k : Ty} (h : k01 k) : k ∈ TS := by
  rcases h with rfl | rfl <;> decide
theorem k01.cons {a r : Ty} (h : k01 a) (h' : k01 r) : Ty.cons a r ∈ TS := by
  rcases h with rfl | rfl <;> rcases h' with rfl | rfl <;> decide
theorem k01.lt {k : Ty} (h : k01 k) : Lt 3 k.py := by
  rcases h with rfl | rfl <;> exact ⟨by decide, by decide, by decide⟩
theorem ns_ok {x : Str} (h : x ∈ NS) : nmOk x = true ∧ Lt 1 (.str x) := by
  simp only [NS, List.mem_cons, List.not_mem_nil, or_false] at h
  rcases h with rfl | rfl | rfl | rfl | rfl <;> exact ⟨by decide +kernel, ⟨by decide, by decide +kernel, by decide +kernel⟩⟩
/-- the name that is bound at the head -/
def Tm.bn : Tm → Option Str
  | .fn x _ _ => some x
  | .fx x _ _ => some x
  | _ => none
inductive OkT : List (Str × Ty) → Tm → Prop
  | mk {env : List (Str × Ty)} {t : Tm} (k : Ty) (h : typ env t = some k) (hk : k ∈ TS) (ha : ∀ s, t.an = some s → k01 s) (hb : ∀ x, t.bn = some x → x ∈ NS) (hp : ∀ u ∈ t.parts, OkT (inn env t) u) : OkT env t
theorem joinT_congr {e e' : List (Str × Ty)} (h : ∀ y, getS e y = getS e' y) (t : Tm) (ks : List Ty) : joinT e t ks = joinT e' t ks := by
  cases t <;> first | exact h _ | rfl | (rcases ks with _ | ⟨_ | ⟨a, r⟩, _ | ⟨k, _ | ⟨k2, l⟩⟩⟩ <;> rfl)
theorem inn_congr {e e' : List (Str × Ty)} (h : ∀ y, getS e y = getS e' y) (t : Tm) : ∀ y, getS (inn e t) y = getS (inn e' t) y := fun y => by
  cases t <;> simp only [inn, getS_put, h y]
mutual
theorem typ_congr : ∀ (t : Tm) (e e' : List (Str × Ty)), (∀ y, getS e y = getS e' y) → typ e t = typ e' t
  | .name x, e, e', h => by rw [typ, typ, h]
  | .con _, _, _, _ => rfl
  | .no, _, _, _ => rfl
  | .fn x s t, e, e', h => by
    rw [typ, typ, typ_congr t (putS e x s) (putS e' x s) (fun y => by rw [getS_put, getS_put, h y])]
    simp only [joinT_congr h]
  | .fx x s t, e, e', h => by
    rw [typ, typ, typ_congr t (putS e x s) (putS e' x s) (fun y => by rw [getS_put, getS_put, h y])]
    simp only [joinT_congr h]
  | .ap t u, e, e', h => by
    rw [typ, typ, typ_congr t e e' h, typ_congr u e e' h]
    simp only [joinT_congr h]
  | .ei t u, e, e', h => by
    rw [typ, typ, typ_congr t e e' h, typ_congr u e e' h]
    simp only [joinT_congr h]
  | .cs t l, e, e', h => by
    rw [typ, typ, typ_congr t e e' h, typs_congr l e e' h]
    simp only [joinT_congr h]
theorem typs_congr : ∀ (l : List Tm) (e e' : List (Str × Ty)), (∀ y, getS e y = getS e' y) → typs e l = typs e' l
  | [], _, _, _ => rfl
  | t :: l, e, e', h => by rw [typs, typs, typ_congr t e e' h, typs_congr l e e' h]
end
theorem OkT.congr {e : List (Str × Ty)} {t : Tm} (o : OkT e t) : ∀ e', (∀ y, getS e y = getS e' y) → OkT e' t := by
  induction o with
  | mk k h hk ha hb hp ih =>
    intro e' q
    exact .mk k (by rw [← typ_congr _ _ _ q]; exact h) hk ha hb fun u hu => ih u hu _ (inn_congr q _)
structure GenT (m : Int) (env : List (Str × Ty)) (k : Ty) (n : Nat) (t : Tm) : Prop where
  ty : typ env t = some k
  va : val m t = true
  ok : OkT env t
  lt : Lt n t.py
section
variable {m : Int} {env env' : List (Str × Ty)} {k a r s : Ty} {n : Nat} {t u : Tm} {x : Str}
theorem GenT.congr (g : GenT m env k n t) (h : ∀ y, getS env y = getS env' y) : GenT m env' k n t := ⟨by rw [← typ_congr t _ _ h]; exact g.ty, g.va, g.ok.congr _ h, g.lt⟩
theorem GenT.mono {n' : Nat} (g : GenT m env k n t) (h : n ≤ n') : GenT m env k n' t := ⟨g.ty, g.va, g.ok, g.lt.mono h⟩
theorem lt_str (n : Nat) (x : Str) (h : ((PyData.str x).canLay0 && decide (x.length < 1000)) = true := by decide +kernel) : Lt (n + 1) (.str x) := Lt.str (Lt.int n 0) x h
theorem gen_name (hx : x ∈ NS) (hk : k01 k) (h : getS env x = some k) : GenT m env k 2 (.name x) :=
  ⟨h, (ns_ok hx).1, .mk k h hk.ts (by simp [Tm.an]) (by simp [Tm.bn]) (by simp [Tm.parts]), Lt.mkT (by simp) (mem2 (lt_str 0 _) (ns_ok hx).2) (by simp)⟩
theorem gen_con {c : Int} (h : 0 ≤ c) (h' : c < m) : GenT m env .nil 2 (.con c) :=
  ⟨rfl, by simp [val, isBe, h, h'], .mk .nil rfl (by decide) (by simp [Tm.an]) (by simp [Tm.bn]) (by simp [Tm.parts]), Lt.mkT (by simp) (mem2 (lt_str 0 _) (Lt.int 0 c)) (by simp)⟩
theorem gen_no : GenT m env .nil 2 .no :=
  ⟨rfl, rfl, .mk .nil rfl (by decide) (by simp [Tm.an]) (by simp [Tm.bn]) (by simp [Tm.parts]), Lt.mkT (by simp) (mem1 (lt_str 0 _)) (by simp)⟩
theorem gen_fn (hx : x ∈ NS) (hs : k01 s) (hk : k01 k) (h : GenT m (putS env x s) k n t) (hn : 3 ≤ n) : GenT m env (.cons s k) (n + 1) (.fn x s t) := by
  have e : typ env (.fn x s t) = some (.cons s k) := by rw [typ, h.ty]; rfl
  obtain ⟨n, rfl⟩ : ∃ q, n = q + 1 := ⟨n - 1, by omega⟩
  refine ⟨e, by simp [val, (ns_ok hx).1, h.va], .mk _ e (hs.cons hk) ?_ ?_ ?_, Lt.mkT (by simp) (mem4 (lt_str _ _) ((ns_ok hx).2.mono (by omega)) (hs.lt.mono hn) h.lt) (by simp)⟩
  · simpa [Tm.an] using hs
  · simpa [Tm.bn] using hx
  · simpa [Tm.parts, inn] using h.ok
theorem gen_fx (hx : x ∈ NS) (hk : k01 k) (h : GenT m (putS env x k) k n t) (hn : 3 ≤ n) : GenT m env k (n + 1) (.fx x k t) := by
  have e : typ env (.fx x k t) = some k := by rw [typ, h.ty]; simp [joinT]
  obtain ⟨n, rfl⟩ : ∃ q, n = q + 1 := ⟨n - 1, by omega⟩
  refine ⟨e, by simp [val, (ns_ok hx).1, h.va], .mk _ e hk.ts ?_ ?_ ?_, Lt.mkT (by simp) (mem4 (lt_str _ _) ((ns_ok hx).2.mono (by omega)) (hk.lt.mono hn) h.lt) (by simp)⟩
  · simpa [Tm.an] using hk
  · simpa [Tm.bn] using hx
  · simpa [Tm.parts, inn] using h.ok
theorem gen_ap (hk : k01 r) (h : GenT m env (.cons a r) n t) (h' : GenT m env a n u) : GenT m env r (n + 1) (.ap t u) := by
  have e : typ env (.ap t u) = some r := by rw [typ, h.ty, h'.ty]; simp [joinT]
  have hn : n ≠ 0 := h.lt.d0
  obtain ⟨n, rfl⟩ : ∃ q, n = q + 1 := ⟨n - 1, by omega⟩
  refine ⟨e, by simp [val, h.va, h'.va], .mk _ e hk.ts (by simp [Tm.an]) (by simp [Tm.bn]) ?_, Lt.mkT (by simp) (mem3 (lt_str _ _) h.lt h'.lt) (by simp)⟩
  simp only [Tm.parts, inn, List.mem_cons, List.not_mem_nil, or_false]
  rintro v (rfl | rfl)
  · exact h.ok
  · exact h'.ok
theorem gen_ei (h : GenT m env .nil n t) (h' : GenT m env .nil n u) : GenT m env .nil (n + 1) (.ei t u) := by
  have e : typ env (.ei t u) = some .nil := by rw [typ, h.ty, h'.ty]; rfl
  have hn : n ≠ 0 := h.lt.d0
  obtain ⟨n, rfl⟩ : ∃ q, n = q + 1 := ⟨n - 1, by omega⟩
  refine ⟨e, by simp [val, h.va, h'.va], .mk _ e (by decide) (by simp [Tm.an]) (by simp [Tm.bn]) ?_, Lt.mkT (by simp) (mem3 (lt_str _ _) h.lt h'.lt) (by simp)⟩
  simp only [Tm.parts, inn, List.mem_cons, List.not_mem_nil, or_false]
  rintro v (rfl | rfl)
  · exact h.ok
  · exact h'.ok
theorem typs_nil : ∀ {l : List Tm}, (∀ u ∈ l, typ env u = some .nil) → ∃ ks, typs env l = some ks ∧ allNil ks = true
  | [], _ => ⟨[], rfl, rfl⟩
  | t :: l, h => by
    obtain ⟨ks, h1, h2⟩ := typs_nil (l := l) fun u hu => h u (by simp [hu])
    exact ⟨.nil :: ks, by rw [typs, h t (by simp), h1], h2⟩
theorem gen_cs {l : List Tm} (hm : (l.length : Int) = m) (hl : l.length ≤ 3) (h : GenT m env .nil n t) (h' : ∀ u ∈ l, GenT m env .nil n u) : GenT m env .nil (n + 2) (.cs t l) := by
  obtain ⟨ks, h1, h2⟩ := typs_nil (l := l) fun u hu => (h' u hu).ty
  have e : typ env (.cs t l) = some .nil := by
    rw [typ, h.ty, h1]
    show (if allNil ks = true then some Ty.nil else none) = some .nil
    rw [if_pos h2]
  have hn : n ≠ 0 := h.lt.d0
  obtain ⟨n, rfl⟩ : ∃ q, n = q + 1 := ⟨n - 1, by omega⟩
  have hlt : Lt (n + 2) (.tuple (Tm.pys l)) := by
    rw [Tm.pys_map]
    exact Good.mkT (n := n) (by simp; omega) fun d hd => by
      obtain ⟨u, hu, rfl⟩ := List.mem_map.mp hd
      exact (h' u hu).lt
  refine ⟨e, ?_, .mk _ e (by decide) (by simp [Tm.an]) (by simp [Tm.bn]) ?_, Lt.mkT (by simp) (mem3 (lt_str _ _) (h.lt.mono (by omega)) hlt) (by simp)⟩
  · rw [val, h.va, decide_eq_true hm, vals_iff.mpr fun u hu => (h' u hu).va]
    rfl
  · simp only [Tm.parts, inn, List.mem_cons]
    rintro v (rfl | hv)
    · exact h.ok
    · exact (h' v hv).ok
end
/-! ### rows of names and types -/
def namesD (env : List (Str × Ty)) : PyData := .list (env.map fun p => .tuple [.str p.1, p.2.py])
structure NmOk (env : List (Str × Ty)) : Prop where
  nd : (env.map (·.1)).Nodup
  ns : ∀ p ∈ env, p.1 ∈ NS ∧ k01 p.2
theorem nodup_sub {α : Type} [DecidableEq α] : ∀ (l D : List α), l.Nodup → (∀ x ∈ l, x ∈ D) → l.length ≤ D.length
  | [], _, _, _ => Nat.zero_le _
  | x :: l, D, hn, hs => by
    obtain ⟨h1, h2⟩ := List.nodup_cons.mp hn
    have hx : x ∈ D := hs x List.mem_cons_self
    have ih := nodup_sub l (D.erase x) h2 fun y hy => by
      have hne : y ≠ x := fun e => h1 (e ▸ hy)
      exact (List.mem_erase_of_ne hne).2 (hs y (List.mem_cons_of_mem _ hy))
    have e := List.length_erase_of_mem hx
    have hp : 0 < D.length := List.length_pos_of_mem hx
    rw [List.length_cons]
    omega
theorem NmOk.len {env : List (Str × Ty)} (h : NmOk env) : env.length ≤ 5 := by
  have := nodup_sub (env.map (·.1)) NS h.nd fun x hx => by
    obtain ⟨p, hp, rfl⟩ := List.mem_map.mp hx
    exact (h.ns p hp).1
  simpa [NS] using this
def withE (env : List (Str × Ty)) (x : Str) (k : Ty) : List (Str × Ty) := env.filter (fun p => !decide (p.1 = x)) ++ [(x, k)]
theorem NmOk.withE {env : List (Str × Ty)} (h : NmOk env) {x : Str} {k : Ty} (hx : x ∈ NS) (hk : k01 k) : NmOk (withE env x k) := by
  unfold K82.withE
  refine ⟨?_, fun p hp => ?_⟩
  · rw [List.map_append, List.nodup_append]
    refine ⟨?_, by simp, ?_⟩
    · exact List.Nodup.sublist (List.Sublist.map _ (List.filter_sublist)) h.nd
    · rintro y hy z hz rfl
      simp at hz
      subst hz
      obtain ⟨p, hp, e⟩ := List.mem_map.mp hy
      have := (List.mem_filter.mp hp).2
      simp [e] at this
  · rcases List.mem_append.mp hp with hp | hp
    · exact h.ns p (List.mem_filter.mp hp).1
    · simp at hp
      subst hp
      exact ⟨hx, hk⟩
theorem getS_with {env : List (Str × Ty)} {x y : Str} {k : Ty} : getS (withE env x k) y = getS (putS env x k) y := by
  rw [getS_put]
  unfold withE getS
  rw [List.find?_append]
  by_cases e : x = y
  · subst e
    rw [if_pos rfl]
    have : (env.filter (fun p => !decide (p.1 = x))).find? (fun p => decide (p.1 = x)) = none := by
      rw [List.find?_eq_none]
      intro p hp
      have := (List.mem_filter.mp hp).2
      simpa using this
    rw [this]
    simp
  · rw [if_neg e]
    have h2 : [(x, k)].find? (fun p => decide (p.1 = y)) = none := by simp [e]
    rw [h2]
    have h3 : (env.filter (fun p => !decide (p.1 = x))).find? (fun p => decide (p.1 = y)) = env.find? (fun p => decide (p.1 = y)) := by
      rw [List.find?_filter]
      congr 1
      funext p
      by_cases q : p.1 = y
      · have : ¬ p.1 = x := fun z => e (z.symm.trans q)
        simp [q, this, Ne.symm e]
      · simp [q]
    rw [h3]
    simp
/-- names whose type ends in k, with the arguments ahead -/
def headE (k : Ty) (p : Str × Ty) : List (Str × Ty) := if p.2 = k then [(p.1, .nil)] else if k = .nil then [p] else []
def headsE (k : Ty) (env : List (Str × Ty)) : List (Str × Ty) := env.flatMap (headE k)
theorem getS_of_mem {env : List (Str × Ty)} (h : (env.map (·.1)).Nodup) : ∀ {p : Str × Ty}, p ∈ env → getS env p.1 = some p.2 := by
  induction env with
  | nil => intro p hp; cases hp
  | cons q env ih =>
    intro p hp
    rw [List.map_cons, List.nodup_cons] at h
    rcases List.mem_cons.mp hp with rfl | hp
    · simp [getS]
    · have hne : q.1 ≠ p.1 := fun e => h.1 (List.mem_map.mpr ⟨p, hp, e.symm⟩)
      have := ih h.2 hp
      unfold getS at this ⊢
      rw [List.find?_cons_of_neg (by simpa using hne)]
      exact this
theorem heads_mem {k : Ty} {env : List (Str × Ty)} (h : NmOk env) (hk : k01 k) {q : Str × Ty} (hq : q ∈ headsE k env) : q.1 ∈ NS ∧ ((q.2 = .nil ∧ getS env q.1 = some k) ∨ (q.2 = K1 ∧ k = .nil ∧ getS env q.1 = some K1)) := by
  unfold headsE at hq
  obtain ⟨p, hp, hq⟩ := List.mem_flatMap.mp hq
  have hg := getS_of_mem h.nd hp
  obtain ⟨hn, h01⟩ := h.ns p hp
  unfold headE at hq
  split at hq
  · rename_i e
    simp at hq
    subst hq
    exact ⟨hn, .inl ⟨rfl, by rw [hg, e]⟩⟩
  · rename_i e
    split at hq
    · rename_i e2
      simp at hq
      subst hq
      refine ⟨hn, .inr ?_⟩
      rcases h01 with z | z
      · exact absurd (z.trans e2.symm) e
      · exact ⟨z, e2, by rw [hg, z]⟩
    · cases hq
theorem heads_len {k : Ty} : ∀ {env : List (Str × Ty)}, (headsE k env).length ≤ env.length
  | [] => Nat.le_refl _
  | p :: env => by
    have := heads_len (k := k) (env := env)
    unfold headsE at this ⊢
    rw [List.flatMap_cons, List.length_append, List.length_cons]
    have : (headE k p).length ≤ 1 := by
      unfold headE
      split
      · simp
      · split <;> simp
    omega
end K82

set_option Elab.async false
set_option linter.all false
set_option maxRecDepth 100000
set_option maxHeartbeats 4000000
/-! law: with, bound_name, heads, small. -/
namespace K82
open PySem L2 PyProof.Rows
def prD (p : Str × Ty) : PyData := .tuple [.str p.1, p.2.py]
theorem prD_lt {p : Str × Ty} (hx : p.1 ∈ NS) (hk : k01 p.2) : Lt 4 (prD p) := Lt.mkT (by simp) (mem2 ((ns_ok hx).2.mono (by omega)) hk.lt) (by simp)
theorem k01.eqOk {a b : Ty} (h : k01 a) (h' : k01 b) : eqOk a.py b.py = true := by
  rcases h with rfl | rfl <;> rcases h' with rfl | rfl <;> decide
section
variable {K : PySem.W.Frag} {D : Wd} {σ : L2.St} {G H G1 H1 : Hp} {te ta tb : TE} {tt : TT} {m : D.M} {d : PyData} {v : V} {i j : Nat} {E : Ends}
theorem mv_ixQ {R : PyData → D.M → Prop} (h : Mv K D ta σ G m fun r m1 => ∃ ds, rowOf r = some ds ∧ Mv K D tb σ G m1 fun d' m2 => ∃ z d2, d' = .int z ∧ atI ds z = some d2 ∧ R d2 m2) : Mv K D (tOp (rIx K) ta tb) σ G m R := fun G1 H1 e j Q q =>
  h G1 H1 e j _ fun v d m1 G2 H2 e2 j2 rp z => by
    obtain ⟨ds, hr, z⟩ := z
    refine z G2 H2 (e.up e2.up) j2 _ fun y d m2 G3 H3 e3 j3 ry z => ?_
    obtain ⟨k, d2, rfl, hat, z⟩ := z
    cases ry
    obtain ⟨a, xs, rfl, ra, qq⟩ := (e3.rp rp).row e3.gh hr
    obtain ⟨v, h1, h2⟩ := ra.at hat
    rcases qq with ⟨_, qq, _⟩ | ⟨_, qq⟩
    · exact .inl ⟨a, xs, k, v, rfl, rfl, qq, h1, q v _ m2 G3 H3 (e2.trans e3) j3 h2 z⟩
    · exact .inr (.inl ⟨a, xs, k, v, rfl, rfl, qq, h1, q v _ m2 G3 H3 (e2.trans e3) j3 h2 z⟩)
theorem mv_gt0 {R : PyData → D.M → Prop} {z : Int} (h : Mv K D ta σ G m fun d m1 => ∃ i, d = .int i ∧ R (.bool (decide (z < i))) m1) : Mv K D (tOp (rI0 fun i j => .bl (decide (j < i))) ta (tC (.int z))) σ G m R := mv_gt (h.imp fun d m1 ⟨i, h1, h2⟩ => ⟨i, h1, mv_dv dv_int ⟨z, rfl, h2⟩⟩)
end
section
variable {P : Program} {w : World} {K : PySem.W.Frag} {mg : Str → Option Value} {base : Heap}
abbrev spWi (K : PySem.W.Frag) : Sp := spD K 3 fun ds d => ∃ env x k, ds = [namesD env, .str x, Ty.py k] ∧ env.length < 1000 ∧ d = namesD (withE env x k)
theorem ok_law_with (T : Txt K mg) : FnOk P w K mg base CX0 1 T.law_with.f T.law_with.fd ["names", "name", "kind"] (spWi K) := by
  refine T.law_with.F.ok sc_law_with (fun vs H Q E z => z.1) (fun cdv Ar outer s H vs Q E hr z => ?_)
  obtain ⟨_, G, ds, d, e, r, ⟨env, x, kd, rfl, hz, rfl⟩, k⟩ := z
  cases r with
  | @cons v1 _ _ _ r1 r =>
  cases r with
  | @cons v2 _ _ _ r2 r =>
  cases r with
  | @cons v3 _ _ _ r3 r =>
  cases r
  refine ⟨_, (pss_one (ps_ret (pe_op op_addX (pe_lc (own := [("pair", 3)]) (g := gName 3) rfl sc_law_with.nd (pi_row (pv 0)) (blkOk_by (N := ["names", "name", "kind", "pair"]) (sc := defScope s_law_with) (by decide +kernel)) (fun _ _ _ _ _ => (pg_name (i := 3) sc_law_with.nd rfl (Or.inl rfl))) (fun _ _ _ _ _ => pts_one (pt_cmpR (op_neK K rfl hr.units) (pe_ix (ix_K K rfl) (pv 3) pe_int (fun _ _ => rfl)) (pv 1) (nomark _))) (fun _ _ _ _ _ => (pv 3))) (pe_lst (pa_cons (pe_tup (pa_cons (pv 1) (pa_cons (pv 2) pa_nil))) pa_nil))))), ?_⟩
  have hl : ∀ l : List (Str × Ty), ((l.map prD).filter fun d => match d with | .tuple (.str y :: _) => !decide (y = x) | _ => true).map id = (l.filter fun p => !decide (p.1 = x)).map prD := fun l => by
    rw [List.map_id, List.filter_map]
    rfl
  refine ds_ret (K := K) e (Dv.is (dv_addL (dv_lc (ds := env.map prD) (p := fun d => match d with | .tuple (.str y :: _) => !decide (y = x) | _ => true) (f := id) (dvi_row (dv_var rfl r1) rfl) (by simp; omega) (fun d hd y G1 H1 e1 q => ?_) (fun d hd _ y G1 H1 e1 q => dv_var rfl q)) (dv_lst1 (dv_tup2 (dv_var rfl r2) (dv_var rfl r3))) ?_) ?_) k
  · obtain ⟨p, _, rfl⟩ := List.mem_map.mp hd
    refine DvT.is (dvt_test (dv_ne (d := .str p.1) (dv_ix (dv_var rfl q) dv_int rfl rfl) (dv_var rfl (e1.rp r2)) rfl)) ?_
    rw [eqv_str]
    rfl
  · rw [hl, List.length_map]
    have := List.length_filter_le (fun p : Str × Ty => !decide (p.1 = x)) env
    simp
    omega
  · rw [hl]
    unfold namesD withE
    rw [List.map_append]
    rfl
abbrev spBn (K : PySem.W.Frag) : Sp := spM K 2 SW fun p as (b : Nat) R => ∃ env, as = [.raw (.ref p.1), .pd (namesD env)] ∧ NmOk env ∧ ∃ b', b = b' + 1 ∧ ∀ x ∈ NS, R (.str x) b'
theorem ok_law_bound_name (T : Txt K mg) : FnOk P w K mg base CX0 3 T.law_bound_name.f T.law_bound_name.fd ["stream", "names"] (spBn K) := by
  have g_law_pick : FnOk P w K mg base CX0 2 _ _ _ _ := ok_law_pick T
  refine T.law_bound_name.F.ok sc_law_bound_name (fun vs H Q E z => z.1) (fun cdv Ar outer s H vs Q E hr z => ?_)
  obtain ⟨_, p, G, as, (b : Nat), R, e, j, r, ⟨env, rfl, hok, b', rfl, hR⟩, k⟩ := z
  cases r with
  | @cons v1 _ _ _ r1 r =>
  cases r with
  | @cons v2 _ _ _ r2 r =>
  cases r
  cases (show v1 = .ref p.1 from r1)
  have r2 : Rp K G v2 (namesD env) := r2
  refine ⟨_, (pss_cons (ps_set (i := 2) sc_law_bound_name.nd rfl (Or.inl rfl) (pe_op op_addX (pe_lst (pa_cons pe_str (pa_cons pe_str (pa_cons pe_str (pa_cons pe_str (pa_cons pe_str pa_nil)))))) (pe_lc (own := [("name", 3), ("kind", 4)]) (g := _) (tt := tYes) rfl sc_law_bound_name.nd (pi_row (pv 1)) (blkOk_by (N := ["stream", "names", "some", "name", "kind"]) (sc := defScope s_law_bound_name) (by decide +kernel)) (fun _ _ _ _ _ => (pg_tupK (n := 2) K rfl rfl (pgs_cons (pg_name (i := 3) sc_law_bound_name.nd rfl (Or.inl rfl)) (pgs_cons (pg_name (i := 4) sc_law_bound_name.nd rfl (Or.inl rfl)) pgs_nil)))) (fun _ _ _ _ _ => pts_nil) (fun _ _ _ _ _ => (pv 3)))))
      (pss_one (ps_ret (pe_call g_law_pick (hr.mono (by omega)) rfl T.law_pick.m T.law_pick.F.kp T.law_pick.b .nil pass0 (pa_cons (pv 0) (pa_cons (pv 2) pa_nil)))))), ?_⟩
  have hlen := hok.len
  refine ds_seq ?_
  refine ds_set (K := K) (d := .list ((NS ++ env.map (·.1)).map .str)) e (Dv.is (dv_addL (ds := NS.map .str) (es := env.map fun p => .str p.1) (dv_lst (dva_cons dv_str (dva_cons dv_str (dva_cons dv_str (dva_cons dv_str (dva_cons dv_str dva_nil))))) (by simp [NS])) (Dv.is (dv_lcP (n := 2) (f := fun d => match d with | .tuple [a, _] => a | _ => .none) (by decide) (dvi_row (ds := env.map prD) (dv_var rfl r2) rfl) (by simp; omega) (fun d hd => ?_) (fun a b hab x y G1 H1 e1 qx qy => dv_var rfl qx)) ?_) (by simp [NS]; omega)) ?_) fun vs G1 H1 e1 qs => ?_
  · obtain ⟨q, _, rfl⟩ := List.mem_map.mp hd
    exact ⟨_, _, rfl⟩
  · rw [List.map_map]
    rfl
  · rw [List.map_append, List.map_map]
    rfl
  dsimp only
  refine ms_ret (D := SW p) (R := R) e1.gh (Wd.ext j e1) (mv_call (mva_raw rfl (mva_cons (mv_dv (dv_var rfl qs) (mva_nil ⟨rfl, _, (NS ++ env.map (·.1)).map .str, rfl, rfl, by simp [NS], by simp [NS]; omega, b', rfl, fun d hd => ?_⟩))))) fun v d m' G2 H2 e2 => k v d m' G2 H2 (e1.w.trans e2)
  obtain ⟨x, hx, rfl⟩ := List.mem_map.mp hd
  refine hR x ?_
  rcases List.mem_append.mp hx with h | h
  · exact h
  · obtain ⟨q, hq, rfl⟩ := List.mem_map.mp h
    exact (hok.ns q hq).1
abbrev spHe (K : PySem.W.Frag) : Sp := spD K 2 fun ds d => ∃ env k, ds = [namesD env, Ty.py k] ∧ NmOk env ∧ k01 k ∧ d = .list ((headsE k env).map prD)
theorem ok_law_heads (T : Txt K mg) : FnOk P w K mg base CX0 1 T.law_heads.f T.law_heads.fd ["names", "kind"] (spHe K) := by
  refine T.law_heads.F.ok sc_law_heads (fun vs H Q E z => z.1) (fun cdv Ar outer s H vs Q E hr z => ?_)
  obtain ⟨_, G, ds, d, e, r, ⟨env, kd, rfl, hok, hkd, rfl⟩, k⟩ := z
  cases r with
  | @cons v1 _ _ _ r1 r =>
  cases r with
  | @cons v2 _ _ _ r2 r =>
  cases r
  refine ⟨_, (pss_cons (ps_set (i := 2) sc_law_heads.nd rfl (Or.inl rfl) (pe_lst pa_nil))
      (pss_cons (ps_for PassesOwn.never rfl (pi_row (pv 0)) (pg_tup rfl (pgs_cons (pg_name (i := 3) sc_law_heads.nd rfl (Or.inl rfl)) (pgs_cons (pg_name (i := 4) sc_law_heads.nd rfl (Or.inl rfl)) pgs_nil))) (pss_cons (ps_set (i := 5) sc_law_heads.nd rfl (Or.inl rfl) (pe_op op_sub (pe_callB call_lenX rfl T.z_len (by decide +kernel) (pa_cons (pv 4) pa_nil)) (pe_callB call_lenX rfl T.z_len (by decide +kernel) (pa_cons (pv 1) pa_nil))))
      (pss_one (ps_expr (pe_bm PySem.F.plainAttrs_list PySem.F.slot_list_extend PySem.F.type_list_extend mt_extend (pv 2) (pa_cons (pe_ifExp (PW.pt (pw_and (pt_cmpR op_ge (pv 5) pe_int (nomark _)) (pw_and1 (pt_cmpR (op_eqX hr.units) (pe_slice sl_X (pv 4) (po_some (pv 5)) po_none) (pv 1) (nomark _))))) (pe_lst (pa_cons (pe_tup (pa_cons (pv 3) (pa_cons (pe_slice sl_X (pv 4) po_none (po_some (pv 5))) pa_nil))) pa_nil)) (pe_lst pa_nil)) pa_nil))))))
      (pss_one (ps_ret (pv 2))))), ?_⟩
  have hlen := hok.len
  refine ds_seq ?_
  refine ds_new fun p hp => ?_
  have gp : G p = none := Same.none e hp
  have e1 : Ext G H G (upd H p (.lst [])) := (Ext.refl e).allocM hp _
  refine ds_seq ?_
  refine ds_for e1.gh (dvi_row (ds := env.map prD) (dv_var rfl r1) rfl) fun G1 H1 e2 => ?_
  have e12 := e1.trans e2
  refine ⟨fun i σ' Gc Hc => σ'[1]? = some (some v2) ∧ σ'[2]? = some (some (.ref p)) ∧ σ'.length = 6 ∧ Ext G H Gc Hc ∧ Gc p = none ∧ ∃ acc, Hc p = some (.lst acc) ∧ RpAll K Gc acc ((headsE kd (env.take i)).map prD) ∧ Same G1 Gc, fun i σ' Gc Hc ⟨_, _, _, a, _, _, _, _, b⟩ => ⟨b, a.gh⟩, ⟨rfl, rfl, rfl, e12, ?_, [], ?_, .nil, Same.refl _⟩, ?_, ?_⟩
  · exact e2.loose gp (by rw [upd_same]; simp)
  · exact e2.hh _ _ upd_same
  · rintro i d σ1 Gc Hc hd ⟨s1, s2, sl, ec, gc, acc, hc, rc, sg⟩ x G2 H2 ex rx
    rw [List.getElem?_map] at hd
    obtain ⟨q, hq, rfl⟩ := Option.map_eq_some_iff.mp hd
    have hq01 := (hok.ns q (List.mem_of_getElem? hq)).2
    have ecx := ec.trans ex
    cases rx with
    | tup h1 h2 =>
    cases h2 with
    | @cons va _ _ _ ra h2 =>
    cases h2 with
    | @cons vb _ _ _ rb h2 =>
    cases h2
    refine ⟨_, _, rfl, Same.sqt ex.gh h1, rfl, _, _, rfl, _, _, rfl, rfl, ?_⟩
    have t1 : ((σ1.set 3 (some va)).set 4 (some vb))[1]? = some (some v2) := by rw [List.getElem?_set_ne (by omega), List.getElem?_set_ne (by omega)]; exact s1
    have t4 : ((σ1.set 3 (some va)).set 4 (some vb))[4]? = some (some vb) := by rw [List.getElem?_set_self (by simp; omega)]
    have t3 : ((σ1.set 3 (some va)).set 4 (some vb))[3]? = some (some va) := by rw [List.getElem?_set_ne (by omega), List.getElem?_set_self (by omega)]
    have t2 : ((σ1.set 3 (some va)).set 4 (some vb))[2]? = some (some (.ref p)) := by rw [List.getElem?_set_ne (by omega), List.getElem?_set_ne (by omega)]; exact s2
    generalize hσ : (σ1.set 3 (some va)).set 4 (some vb) = σ2 at t1 t2 t3 t4
    have tl : σ2.length = 6 := by rw [← hσ]; simpa using sl
    refine ds_seq ?_
    have r2x := ecx.rp r2
    refine ds_set (K := K) (d := .int ((q.2.l.length : Int) - (kd.l.length : Int))) ex.gh (dv_sub (dv_len (ds := q.2.l) (dv_var t4 rb) rfl) (dv_len (ds := kd.l) (dv_var t1 r2x) rfl)) fun va' G3 H3 e3 qa => ?_
    cases qa
    have u1 : (σ2.set 5 (some (V.int ((q.2.l.length : Int) - (kd.l.length : Int)))))[1]? = some (some v2) := by rw [List.getElem?_set_ne (by omega)]; exact t1
    have u2 : (σ2.set 5 (some (V.int ((q.2.l.length : Int) - (kd.l.length : Int)))))[2]? = some (some (.ref p)) := by rw [List.getElem?_set_ne (by omega)]; exact t2
    have u3 : (σ2.set 5 (some (V.int ((q.2.l.length : Int) - (kd.l.length : Int)))))[3]? = some (some va) := by rw [List.getElem?_set_ne (by omega)]; exact t3
    have u4 : (σ2.set 5 (some (V.int ((q.2.l.length : Int) - (kd.l.length : Int)))))[4]? = some (some vb) := by rw [List.getElem?_set_ne (by omega)]; exact t4
    have u5 : (σ2.set 5 (some (V.int ((q.2.l.length : Int) - (kd.l.length : Int)))))[5]? = some (some (.int ((q.2.l.length : Int) - (kd.l.length : Int)))) := by rw [List.getElem?_set_self (by omega)]
    have ul : (σ2.set 5 (some (V.int ((q.2.l.length : Int) - (kd.l.length : Int))))).length = 6 := by simpa using tl
    generalize hσ3 : σ2.set 5 (some (V.int ((q.2.l.length : Int) - (kd.l.length : Int)))) = σ3 at u1 u2 u3 u4 u5 ul
    have ec3 := ex.trans e3
    have ecc3 := ec.trans ec3
    have hp3 : H3 p = some (.lst acc) := ec3.hh _ _ hc
    have gp3 : G3 p = none := ec3.loose gc (by rw [hc]; simp)
    have hal : acc.length ≤ 5 := by
      rw [rc.length, List.length_map]
      have h1 := heads_len (k := kd) (env := env.take i)
      have h2 := List.length_take_le i env
      have h3 := List.length_take_le' i env
      omega
    have hhl : (headE kd q).length ≤ 1 := by
      unfold headE
      split
      · simp
      · split <;> simp
    have va3 := e3.rp ra
    have vb3 := e3.rp rb
    have v23 := ecc3.rp r2
    refine ds_ext (ds := (headE kd q).map prD) e3.gh u2 hp3 (by rw [List.length_map]; omega) ?_ fun ys G4 H4 e4 q4 => ?_
    · have mk : ∀ {b : Bool} {l : List PyData} {ah : Int}, (q.2.l.length : Int) - (kd.l.length : Int) = ah → (decide (0 ≤ ah) && (PyData.eqv (.tuple (cutL q.2.l (some ah) none)) kd.py)) = b → (0 ≤ ah → eqOk (.tuple (cutL q.2.l (some ah) none)) kd.py = true) → (if b = true then [PyData.tuple [.str q.1, .tuple (cutL q.2.l none (some ah))]] else []) = l → Dv K (tIf (tAnd (tTest (tOp (rI0 fun i j => .bl (decide (j ≤ i))) (tVar 5) (tC (.int 0)))) (tTest (tOp (rEqX K) (tSl (rSlX K) (tVar 4) (tPart (tVar 5)) tNoPart) (tVar 1)))) (tLst (tCons (tTup (tCons (tVar 3) (tCons (tSl (rSlX K) (tVar 4) tNoPart (tPart (tVar 5))) tNil))) tNil)) (tLst tNil)) σ3 G3 H3 (.list l) := fun {b l ah} e1 e2 e3 e4 => by
        rw [e1] at u5
        refine dv_if (DvT.is (dvt_and (b := decide (0 ≤ ah)) (dvt_test (dv_ge (K := K) (dv_var u5 (.int _)) dv_int)) fun h => dvt_test (dv_eq (d := .tuple (cutL q.2.l (some ah) none)) (dv_sl (ds := q.2.l) (r := q.2.py) (dv_var u4 vb3) rfl (dvo_some (dv_var (K := K) u5 (.int _))) dvo_none) (dv_var u1 v23) (e3 (by simpa using h)))) e2) (fun h => Dv.is (dv_lst1 (dv_tup2 (dv_var u3 va3) (dv_sl (ds := q.2.l) (r := q.2.py) (dv_var u4 vb3) rfl dvo_none (dvo_some (dv_var (K := K) u5 (.int _)))))) ?_) fun h => Dv.is dv_lst0 ?_
        · rw [h, if_pos rfl] at e4
          rw [← e4]
          rfl
        · rw [h, if_neg (by simp)] at e4
          rw [← e4]
      obtain ⟨qx, qk⟩ := q
      rcases hq01 with h | h <;> rcases hkd with h' | h' <;> cases h <;> cases h'
      · exact mk (ah := 0) (b := true) rfl rfl (fun _ => by dsimp only; decide) rfl
      · exact mk (ah := -1) (b := false) rfl (by dsimp only; decide) (fun h => by omega) rfl
      · exact mk (ah := 1) (b := true) rfl rfl (fun _ => by dsimp only; decide) rfl
      · exact mk (ah := 0) (b := true) rfl rfl (fun _ => by dsimp only; decide) rfl
    · have gp4 : G4 p = none := e4.loose gp3 (by rw [hp3]; simp)
      have ec4 := ecc3.trans e4
      refine ⟨G4, u1, u2, ul, ec4.set hp gp4 _, gp4, _, upd_same, ?_, sg.trans (ec3.gg.trans e4.gg)⟩
      have e5 : headsE kd (env.take (i + 1)) = headsE kd (env.take i) ++ headE kd q := by
        obtain ⟨h1, h2⟩ := List.getElem?_eq_some_iff.mp hq
        unfold headsE
        rw [← List.take_append_getElem h1, h2, List.flatMap_append]
        simp
      rw [e5, List.map_append]
      exact RpAll.app (RpAll.mono (ec3.gg.trans e4.gg) _ _ rc) q4
  · rintro σ1 Gc Hc ⟨s1, s2, sl, ec, gc, acc, hc, rc, sg⟩
    rw [List.length_map, List.take_length] at rc
    exact ⟨.ref p, s2, k _ _ Hc (ec.still hp gc hc) (.lst upd_same (RpAll.mono (same_upd gc _) _ _ rc))⟩
end
end K82

set_option Elab.async false
set_option linter.all false
set_option maxRecDepth 100000
set_option maxHeartbeats 4000000
/-! law: small. -/
namespace K82
open PySem L2 PyProof.Rows
theorem getS_ofhead {m : Int} {k : Ty} {env : List (Str × Ty)} (h : NmOk env) (hk : k01 k) {q : Str × Ty} (hq : q ∈ headsE k env) (h0 : q.2 = .nil) : GenT m env k 2 (.name q.1) := by
  obtain ⟨h1, h2⟩ := heads_mem h hk hq
  rcases h2 with ⟨_, h2⟩ | ⟨h2, _⟩
  · exact gen_name h1 hk h2
  · rw [h0] at h2
    cases h2
section
variable {P : Program} {w : World} {K : PySem.W.Frag} {mg : Str → Option Value} {base : Heap}
abbrev spSm (K : PySem.W.Frag) (n : Nat) : Sp := spM K 4 SW fun p as (b : Nat) R => ∃ (m : Nat) (env : List (Str × Ty)) (k : Ty), as = [.raw (.ref p.1), .pd (.int m), .pd (namesD env), .pd k.py] ∧ 1 ≤ m ∧ m ≤ 3 ∧ NmOk env ∧ k01 k ∧ k.l.length < n ∧ 3 + 3 * k.l.length ≤ b ∧ ∀ t b', GenT m env k (3 + k.l.length) t → b ≤ b' + (3 + 3 * k.l.length) → R t.py b'
theorem prD_row (p : Str × Ty) : rowOf (prD p) = some [.str p.1, p.2.py] := rfl
theorem heads_data {k : Ty} {env : List (Str × Ty)} (h : NmOk env) (hk : k01 k) : ∀ d ∈ (headsE k env).map prD, Lt 4 d := fun d hd => by
  obtain ⟨q, hq, rfl⟩ := List.mem_map.mp hd
  obtain ⟨h1, h2⟩ := heads_mem h hk hq
  refine prD_lt h1 ?_
  rcases h2 with ⟨h2, _⟩ | ⟨h2, _⟩
  · exact .inl h2
  · exact .inr h2
theorem ok_law_small (T : Txt K mg) : ∀ n, FnOk P w K mg base CX0 (n + 4) T.law_small.f T.law_small.fd ["stream", "many", "names", "kind"] (spSm K n)
  | 0 => fn_no (by
    rintro vs H Q E ⟨_, p, G, as, b, R, _, _, _, ⟨m, env, k, _, _, _, _, _, h, _⟩, _⟩
    omega)
  | n + 1 => by
    have g_law_small : FnOk P w K mg base CX0 (n + 4) _ _ _ _ := ok_law_small T n
    have g_law_heads : FnOk P w K mg base CX0 1 _ _ _ _ := ok_law_heads T
    have g_law_draw : FnOk P w K mg base CX0 1 _ _ _ _ := ok_law_draw T
    have g_law_pick : FnOk P w K mg base CX0 2 _ _ _ _ := ok_law_pick T
    have g_law_bound_name : FnOk P w K mg base CX0 3 _ _ _ _ := ok_law_bound_name T
    have g_law_with : FnOk P w K mg base CX0 1 _ _ _ _ := ok_law_with T
    refine T.law_small.F.ok sc_law_small (fun vs H Q E z => z.1) (fun cdv Ar outer s H vs Q E hr z => ?_)
    obtain ⟨_, p, G, as, (b : Nat), R, e, j, r, ⟨m, env, kd, rfl, hm1, hm3, hok, hk, hkn, hb, hR⟩, k⟩ := z
    cases r with
    | @cons v1 _ _ _ r1 r =>
    cases r with
    | @cons v2 _ _ _ r2 r =>
    cases r with
    | @cons v3 _ _ _ r3 r =>
    cases r with
    | @cons v4 _ _ _ r4 r =>
    cases r
    cases (show v1 = .ref p.1 from r1)
    have r2 : Rp K G v2 (.int m) := r2
    have r3 : Rp K G v3 (namesD env) := r3
    have r4 : Rp K G v4 kd.py := r4
    refine ⟨_, (pss_cons (ps_setLc (i := 4) (own := [("pair", 6)]) (g := gName 6) rfl sc_law_small.nd rfl rfl (sw_true rfl rfl rfl (by decide +kernel)) (pi_row (pe_call g_law_heads (hr.mono (by omega)) rfl T.law_heads.m T.law_heads.F.kp T.law_heads.b .nil pass0 (pa_cons (pv 2) (pa_cons (pv 3) pa_nil)))) (blkOk_by (N := ["stream", "many", "names", "kind", "heads", "name", "pair"]) (sc := defScope s_law_small) (by decide +kernel)) (fun _ _ _ _ _ => (pg_name (i := 6) sc_law_small.nd rfl (Or.inl rfl))) (fun _ _ _ _ _ => pts_one (pt_cmpR (op_eqK K rfl hr.units) (pe_ix (ix_K K rfl) (pv 6) pe_int (fun _ _ => rfl)) (pe_tup pa_nil) (nomark _))) (fun _ _ _ _ _ => (pv 6)))
      (pss_cons (ps_if (PW.pt (pw_and (pt_cmpR (op_neX hr.units) (pv 4) (pe_lst pa_nil) (nomark _)) (pw_and1 (pt_cmpR op_gt (pe_call g_law_draw (hr.mono (by omega)) rfl T.law_draw.m T.law_draw.F.kp T.law_draw.b .nil pass0 (pa_cons (pv 0) (pa_cons pe_int pa_nil))) pe_int (nomark _))))) (pss_one (ps_ret (pe_tup (pa_cons pe_str (pa_cons (pe_ix ix_seq (pe_call g_law_pick (hr.mono (by omega)) rfl T.law_pick.m T.law_pick.F.kp T.law_pick.b .nil pass0 (pa_cons (pv 0) (pa_cons (pv 4) pa_nil))) pe_int (fun _ _ => rfl)) pa_nil))))) pss_nil)
      (pss_cons (ps_if (pt_cmpR (op_eqX hr.units) (pv 3) (pe_tup pa_nil) (nomark _)) (pss_one (ps_ret (pe_ifExp (pt_cmpR op_gt (pe_call g_law_draw (hr.mono (by omega)) rfl T.law_draw.m T.law_draw.F.kp T.law_draw.b .nil pass0 (pa_cons (pv 0) (pa_cons pe_int pa_nil))) pe_int (nomark _)) (pe_tup (pa_cons pe_str (pa_cons (pe_call g_law_draw (hr.mono (by omega)) rfl T.law_draw.m T.law_draw.F.kp T.law_draw.b .nil pass0 (pa_cons (pv 0) (pa_cons (pv 1) pa_nil))) pa_nil))) (pe_tup (pa_cons pe_str pa_nil))))) pss_nil)
      (pss_cons (ps_set (i := 5) sc_law_small.nd rfl (Or.inl rfl) (pe_call g_law_bound_name (hr.mono (by omega)) rfl T.law_bound_name.m T.law_bound_name.F.kp T.law_bound_name.b .nil pass0 (pa_cons (pv 0) (pa_cons (pv 2) pa_nil))))
      (pss_one (ps_ret (pe_tup (pa_cons pe_str (pa_cons (pv 5) (pa_cons (pe_ix ix_seq (pv 3) pe_int (fun _ _ => rfl)) (pa_cons (pe_call g_law_small (hr.mono (by omega)) rfl T.law_small.m T.law_small.F.kp T.law_small.b .nil pass0 (pa_cons (pv 0) (pa_cons (pv 1) (pa_cons (pe_call g_law_with (hr.mono (by omega)) rfl T.law_with.m T.law_with.F.kp T.law_with.b .nil pass0 (pa_cons (pv 2) (pa_cons (pv 5) (pa_cons (pe_ix ix_seq (pv 3) pe_int (fun _ _ => rfl)) pa_nil)))) (pa_cons (pe_slice sl_X (pv 3) (po_some pe_int) po_none) pa_nil))))) pa_nil))))))))))), ?_⟩
    have hlen := hok.len
    have hhl := heads_len (k := kd) (env := env)
    let hs : List (Str × Ty) := (headsE kd env).filter fun q => decide (q.2 = .nil)
    have hhs : ∀ q ∈ hs, q ∈ headsE kd env ∧ q.2 = .nil := fun q hq => by
      obtain ⟨a, b⟩ := List.mem_filter.mp hq
      exact ⟨a, by simpa using b⟩
    have hsl : hs.length ≤ 5 := by
      have := List.length_filter_le (fun q : Str × Ty => decide (q.2 = .nil)) (headsE kd env)
      show ((headsE kd env).filter fun q => decide (q.2 = .nil)).length ≤ 5
      omega
    refine ds_seq ?_
    refine ds_set (K := K) (d := .list (hs.map prD)) e (Dv.is (dv_lc (ds := (headsE kd env).map prD) (p := fun d => match d with | .tuple [_, k] => PyData.eqv k (.tuple []) | _ => false) (f := id) (dvi_row (dv_call (dva_cons (dv_var rfl r3) (dva_cons (dv_var rfl r4) dva_nil)) rfl ⟨env, kd, rfl, hok, hk, rfl⟩) rfl) (by simp; omega) (fun d hd y G1 H1 e1 q => ?_) (fun d hd _ y G1 H1 e1 q => dv_var rfl q)) ?_) fun vh G1 H1 e1 qh => ?_
    · obtain ⟨q0, hq0, rfl⟩ := List.mem_map.mp hd
      obtain ⟨_, h2⟩ := heads_mem hok hk hq0
      refine dvt_test (dv_eq (d := q0.2.py) (dv_ix (dv_var rfl q) dv_int rfl rfl) (dv_tup dva_nil (Nat.zero_le _)) ?_)
      rcases h2 with ⟨h2, _⟩ | ⟨h2, _⟩ <;> rw [h2] <;> decide
    · rw [List.map_id, List.filter_map]
      congr 2
      refine List.filter_congr fun q hq => ?_
      exact nil_eqv q.2
    dsimp only
    have j1 := Wd.ext j e1
    have q2 := e1.rp r2
    have q3 := e1.rp r3
    have q4 := e1.rp r4
    have hdl : ∀ d ∈ hs.map prD, Lt 4 d := fun d hd => by
      obtain ⟨q, hq, rfl⟩ := List.mem_map.mp hd
      exact heads_data hok hk _ (List.mem_map_of_mem (hhs q hq).1)
    refine ds_seq ?_
    refine ms_if (D := SW p) (R := fun bb (b1 : Nat) => b ≤ b1 + 1 ∧ (bb = true → hs ≠ [])) e1.gh j1 (mvt_and (mvt_dv (dvt_test (dv_ne (dv_var rfl qh) dv_lst0 (eqOk_rows (n := 4) (m := 1) hdl (by simp) (by omega) (by omega)))) ?_)) (fun (b1 : Nat) G2 H2 e2 j2 hb1 => ?_) fun (b1 : Nat) G2 H2 e2 j2 hb1 => ?_
    · cases hc : hs with
      | nil => exact ⟨by omega, by simp⟩
      | cons q0 qs =>
        rw [if_pos (show (!PyData.eqv (.list ((q0 :: qs).map prD)) (.list [])) = true from rfl)]
        refine mvt_test (mv_gt0 (mv_call (mva_raw rfl (mva_cons (mv_dv dv_int (mva_nil ⟨rfl, 4, rfl, by omega, by omega, b - 1, by omega, fun i hi => ⟨i, rfl, _, rfl, by omega, by simp⟩⟩))))))
    · obtain ⟨hb1, hne⟩ := hb1
      have hne := hne rfl
      refine ms_ret (D := SW p) (R := R) e2.gh j2 (mv_tup2 (mv_dv dv_str (mv_ixQ (mv_call (mva_raw rfl (mva_cons (mv_dv (dv_var rfl (e2.rp qh)) (mva_nil ⟨rfl, _, hs.map prD, rfl, rfl, by rw [List.length_map]; exact List.length_pos_iff.mpr hne, by rw [List.length_map]; omega, b1 - 1, by omega, fun d hd => ?_⟩)))))))) fun v d m' G3 H3 e3 => k v d m' G3 H3 ((e1.w.trans e2).trans e3)
      obtain ⟨q, hq, rfl⟩ := List.mem_map.mp hd
      refine ⟨_, prD_row q, mv_dv dv_int ⟨0, .str q.1, rfl, rfl, hR (.name q.1) _ ((getS_ofhead hok hk (hhs q hq).1 (hhs q hq).2).mono (by omega)) (by omega)⟩⟩
    obtain ⟨hb1, _⟩ := hb1
    have e12 := e1.w.trans e2
    have q2 := e2.rp q2
    have q3 := e2.rp q3
    have q4 := e2.rp q4
    refine ds_seq ?_
    refine ds_if (b := decide (kd = .nil)) e2.gh (DvT.is (dvt_test (dv_eq (d' := Ty.nil.py) (dv_var rfl q4) (dv_tup dva_nil (Nat.zero_le _)) (hk.eqOk (.inl rfl)))) (nil_eqv kd)) (fun hnil G3 H3 e3 => ?_) fun hnil G3 H3 e3 => ?_
    · have hnil : kd = .nil := by simpa using hnil
      subst hnil
      have hkl : (Ty.nil.l).length = 0 := rfl
      rw [hkl] at hR hb
      refine ms_ret (D := SW p) (R := R) e3.gh (Wd.ext j2 e3) (mv_if (mvt_test (mv_gt0 (mv_call (mva_raw rfl (mva_cons (mv_dv dv_int (mva_nil ⟨rfl, 4, rfl, by omega, by omega, b1 - 1, by omega, fun i hi => ⟨i, rfl, _, rfl, ?_⟩⟩)))))))) fun v d m' G4 H4 e4 => k v d m' G4 H4 ((e12.trans e3.w).trans e4)
      by_cases hi0 : (0 : Int) < i
      · rw [if_pos (by rw [decide_eq_true hi0])]
        exact mv_tup2 (mv_dv dv_str (mv_call (mva_raw rfl (mva_cons (mv_dv (dv_var rfl (e3.rp q2)) (mva_nil ⟨rfl, m, rfl, by omega, by omega, b1 - 2, by omega, fun c hc => hR (.con c) _ (gen_con (by omega) (by omega) |>.mono (by omega)) (by omega)⟩))))))
      · rw [if_neg (by rw [decide_eq_false hi0]; simp)]
        exact mv_tup1 (mv_dv dv_str (hR .no _ (gen_no.mono (by omega)) (by omega)))
    have hk1 : kd = K1 := by
      rcases hk with h | h
      · exact absurd h (by simpa using hnil)
      · exact h
    subst hk1
    have hkl : (K1.l).length = 1 := rfl
    rw [hkl] at hkn hR hb
    have q2 := e3.rp q2
    have q3 := e3.rp q3
    have q4 := e3.rp q4
    have j3 := Wd.ext j2 e3
    refine ds_seq ?_
    refine ms_set (D := SW p) (R := fun d (b2 : Nat) => b1 = b2 + 1 ∧ ∃ x ∈ NS, d = .str x) e3.gh j3 (mv_call (mva_raw rfl (mva_cons (mv_dv (dv_var rfl q3) (mva_nil ⟨rfl, env, rfl, hok, b1 - 1, by omega, fun x hx => ⟨by omega, x, hx, rfl⟩⟩))))) fun vn d (b2 : Nat) G4 H4 e4 j4 qn hd => ?_
    obtain ⟨rfl, x, hx, rfl⟩ := hd
    dsimp only
    have q2 := e4.rp q2
    have q3 := e4.rp q3
    have q4 := e4.rp q4
    refine ms_ret (D := SW p) (R := R) e4.gh j4 (mv_tup4 (mv_dv dv_str (mv_dv (dv_var rfl qn) (mv_dv (d := Ty.nil.py) (dv_ix (dv_var rfl q4) dv_int (ds := K1.l) rfl rfl) (mv_call (mva_raw rfl (mva_cons (mv_dv (dv_var rfl q2) (mva_cons (mv_dv (dv_call (dva_cons (dv_var rfl q3) (dva_cons (dv_var rfl qn) (dva_cons (d := Ty.nil.py) (dv_ix (dv_var rfl q4) dv_int (ds := K1.l) rfl rfl) dva_nil))) rfl ⟨env, x, .nil, rfl, by omega, rfl⟩) (mva_cons (mv_dv (d := Ty.nil.py) (Dv.is (dv_sl (ds := K1.l) (dv_var rfl q4) rfl (dvo_some (K := K) dv_int) dvo_none) rfl) (mva_nil ⟨rfl, m, withE env x .nil, .nil, rfl, hm1, hm3, hok.withE hx (.inl rfl), .inl rfl, ?_, by simp [Ty.l]; omega, fun t b' hg hb' => ?_⟩))))))))))))) fun v d m' G5 H5 e5 => k v d m' G5 H5 (((e12.trans e3.w).trans e4).trans e5)
    · show 0 < n
      omega
    · have hg' : GenT m (putS env x .nil) .nil 3 t := hg.congr fun y => getS_with
      exact hR _ _ (gen_fn hx (.inl rfl) (.inl rfl) hg' (by simp [Ty.l])) (by simp [Ty.l] at hb'; omega)
end
end K82

set_option Elab.async false
set_option linter.all false
set_option maxRecDepth 100000
set_option maxHeartbeats 4000000
/-! law: called, term. -/
namespace K82
open PySem L2 PyProof.Rows
/-- how many draws a term of size s takes at most -/
def cst (s : Nat) : Nat := 10 * 5 ^ s
theorem cst_succ (s : Nat) : cst (s + 1) = 5 * cst s := by
  unfold cst
  rw [Nat.pow_succ]
  omega
theorem cst_pos (s : Nat) : 10 ≤ cst s := by
  induction s with
  | zero => decide
  | succ n ih => rw [cst_succ]; omega
theorem cst_mono {a b : Nat} (h : a ≤ b) : cst a ≤ cst b := by
  unfold cst
  exact Nat.mul_le_mul_left _ (Nat.pow_le_pow_right (by omega) h)
theorem fdiv_nat (a b : Nat) : (a : Int).fdiv (b : Int) = ((a / b : Nat) : Int) := (Int.ofNat_fdiv a b).symm
section
variable {K : PySem.W.Frag} {σ : L2.St} {G H : Hp} {ta tb : TE}
theorem dv_fdiv {m n : Nat} (hn : 0 < n) (hn' : n < 1073741824) (ha : Dv K ta σ G H (.int m)) (hb : Dv K tb σ G H (.int n)) : Dv K (tOp (rI CDivN fun i j => .int (i.fdiv j)) ta tb) σ G H (.int (m / n : Nat)) :=
  Dv.is (dv_I (f := fun i j => .int (i.fdiv j)) (fun _ => .int _) ⟨by omega, by omega⟩ ha hb) (by rw [fdiv_nat])
theorem dv_max1 {n : Nat} (hb : Dv K tb σ G H (.int n)) : Dv K (tCB (fun xs H Q => ∃ i j, xs = [.int i, .int j] ∧ Q (.int (if j > i then j else i)) H) (tCons (tC (.int 1)) (tCons tb tNil))) σ G H (.int (max 1 n : Nat)) := fun G1 H1 e Q k =>
  hb G1 H1 e _ fun v G2 H2 e2 q => by
    cases q
    refine ⟨1, n, rfl, ?_⟩
    have z : (if (n : Int) > 1 then (n : Int) else 1) = ((max 1 n : Nat) : Int) := by
      by_cases h : (n : Int) > 1
      · rw [if_pos h]; omega
      · rw [if_neg h]; omega
    rw [z]
    exact k _ G2 H2 e2 (.int _)
end
section
variable {P : Program} {w : World} {K : PySem.W.Frag} {mg : Str → Option Value} {base : Heap}
abbrev spTm (K : PySem.W.Frag) (n : Nat) : Sp := spM K 5 SW fun p as (b : Nat) R => ∃ (m : Nat) (env : List (Str × Ty)) (k : Ty) (s : Nat), as = [.raw (.ref p.1), .pd (.int m), .pd (namesD env), .pd k.py, .pd (.int s)] ∧ 1 ≤ m ∧ m ≤ 3 ∧ NmOk env ∧ k01 k ∧ 1 ≤ s ∧ s ≤ n ∧ cst s ≤ b ∧ ∀ t b', GenT m env k (2 * s + 3) t → b ≤ b' + cst s → R t.py b'
abbrev spCa (K : PySem.W.Frag) (n : Nat) : Sp := spM K 6 SW fun p as (b : Nat) R => ∃ (m : Nat) (env : List (Str × Ty)) (hd : Tm) (ks : Ty) (s : Nat), as = [.raw (.ref p.1), .pd (.int m), .pd (namesD env), .pd hd.py, .pd ks.py, .pd (.int s)] ∧ 1 ≤ m ∧ m ≤ 3 ∧ NmOk env ∧ 1 ≤ s ∧ s ≤ n ∧
  ((ks = .nil ∧ R hd.py b) ∨ (ks = K1 ∧ cst s ≤ b ∧ ∀ t b', GenT m env .nil (2 * s + 3) t → b ≤ b' + cst s → R (Tm.ap hd t).py b'))
theorem ok_law_called (T : Txt K mg) (n : Nat) (g_law_term : FnOk P w K mg base CX0 (2 * n + 6) T.law_term.f T.law_term.fd ["stream", "many", "names", "kind", "size"] (spTm K n)) : FnOk P w K mg base CX0 (2 * n + 7) T.law_called.f T.law_called.fd ["stream", "many", "names", "head", "kinds", "size"] (spCa K n) := by
  refine T.law_called.F.ok sc_law_called (fun vs H Q E z => z.1) (fun cdv Ar outer s H vs Q E hr z => ?_)
  obtain ⟨_, p, G, as, (b : Nat), R, e, j, r, ⟨m, env, hd, ks, sz, rfl, hm1, hm3, hok, hs1, hsn, hR⟩, k⟩ := z
  cases r with
  | @cons v1 _ _ _ r1 r =>
  cases r with
  | @cons v2 _ _ _ r2 r =>
  cases r with
  | @cons v3 _ _ _ r3 r =>
  cases r with
  | @cons v4 _ _ _ r4 r =>
  cases r with
  | @cons v5 _ _ _ r5 r =>
  cases r with
  | @cons v6 _ _ _ r6 r =>
  cases r
  cases (show v1 = .ref p.1 from r1)
  have r2 : Rp K G v2 (.int m) := r2
  have r3 : Rp K G v3 (namesD env) := r3
  have r4 : Rp K G v4 hd.py := r4
  have r5 : Rp K G v5 ks.py := r5
  have r6 : Rp K G v6 (.int sz) := r6
  refine ⟨_, (pss_cons (ps_set (i := 6) sc_law_called.nd rfl (Or.inl rfl) (pv 3))
      (pss_cons (ps_for PassesOwn.never rfl (pi_row (pv 4)) (pg_name (i := 7) sc_law_called.nd rfl (Or.inl rfl)) (pss_one (ps_set (i := 6) sc_law_called.nd rfl (Or.inl rfl) (pe_tup (pa_cons pe_str (pa_cons (pv 6) (pa_cons (pe_call g_law_term (hr.mono (by omega)) rfl T.law_term.m T.law_term.F.kp T.law_term.b .nil pass0 (pa_cons (pv 0) (pa_cons (pv 1) (pa_cons (pv 2) (pa_cons (pv 7) (pa_cons (pe_callB (call_max2 rfl) rfl T.z_max (by decide +kernel) (pa_cons pe_int (pa_cons (pe_op op_fdivN (pv 5) (pe_op op_addX (pe_callB call_lenX rfl T.z_len (by decide +kernel) (pa_cons (pv 4) pa_nil)) pe_int)) pa_nil))) pa_nil)))))) pa_nil)))))))
      (pss_one (ps_ret (pv 6))))), ?_⟩
  refine ds_seq ?_
  refine ⟨v4, rfl, ?_⟩
  refine ds_seq ?_
  refine ds_for e (dvi_row (ds := ks.l) (dv_var rfl r5) rfl) fun G1 H1 e1 => ?_
  refine ⟨fun i σ' Gc Hc => σ'[0]? = some (some (.ref p.1)) ∧ σ'[1]? = some (some v2) ∧ σ'[2]? = some (some v3) ∧ σ'[4]? = some (some v5) ∧ σ'[5]? = some (some v6) ∧ σ'.length = 8 ∧ Same G1 Gc ∧ ExtW (SW p).W G H Gc Hc ∧ ∃ (b' : Nat) (v : V) (t : Tm), (SW p).J b' Gc Hc ∧ σ'[6]? = some (some v) ∧ Rp K Gc v t.py ∧ (i = 0 → t = hd ∧ b' = b) ∧ (i = ks.l.length → R t.py b'),
    fun i σ' Gc Hc ⟨_, _, _, _, _, _, h1, h2, _⟩ => ⟨h1, h2.gh⟩, ⟨rfl, rfl, rfl, rfl, rfl, rfl, Same.refl _, e1.w, b, v4, hd, Wd.ext j e1, rfl, e1.rp r4, fun _ => ⟨rfl, rfl⟩, fun h => ?_⟩, ?_, ?_⟩
  · rcases hR with ⟨rfl, hq⟩ | ⟨rfl, _⟩
    · exact hq
    · cases h
  · rintro i d σ1 Gc Hc hdi ⟨s0, s1, s2, s4, s5, sl, sg, ec, b', v, t, jc, s6, rt, h0, _⟩ x G2 H2 ex rx
    rcases hR with ⟨rfl, h⟩ | ⟨rfl, hcb, hR⟩
    · cases hdi
    cases i with
    | succ i => simp [K1, Ty.l] at hdi
    | zero =>
    have hd0 : d = Ty.nil.py := by
      simp [K1, Ty.l] at hdi
      rw [← hdi]
      rfl
    subst hd0
    obtain ⟨rfl, rfl⟩ := h0 rfl
    have ecx := ec.trans ex.w
    have jx := Wd.ext jc ex
    have t0 : (σ1.set 7 (some x))[0]? = some (some (.ref p.1)) := by rw [List.getElem?_set_ne (by omega)]; exact s0
    have t1 : (σ1.set 7 (some x))[1]? = some (some v2) := by rw [List.getElem?_set_ne (by omega)]; exact s1
    have t2 : (σ1.set 7 (some x))[2]? = some (some v3) := by rw [List.getElem?_set_ne (by omega)]; exact s2
    have t4 : (σ1.set 7 (some x))[4]? = some (some v5) := by rw [List.getElem?_set_ne (by omega)]; exact s4
    have t5 : (σ1.set 7 (some x))[5]? = some (some v6) := by rw [List.getElem?_set_ne (by omega)]; exact s5
    have t6 : (σ1.set 7 (some x))[6]? = some (some v) := by rw [List.getElem?_set_ne (by omega)]; exact s6
    have t7 : (σ1.set 7 (some x))[7]? = some (some x) := by rw [List.getElem?_set_self (by omega)]
    have hle : max 1 (sz / 2) ≤ sz := by omega
    have hcm := cst_mono hle
    refine ms_set (D := SW p) (R := fun d b2 => ∃ t', d = Tm.py t' ∧ R t'.py b2) ex.gh jx (mv_tup3 (mv_dv dv_str (mv_dv (dv_var t6 (ex.rp rt)) (mv_call (mva_raw t0 (mva_cons (mv_dv (dv_var t1 (ecx.rp r2)) (mva_cons (mv_dv (dv_var t2 (ecx.rp r3)) (mva_cons (mv_dv (dv_var t7 rx) (mva_cons (mv_dv (dv_max1 (dv_fdiv (n := 2) (by omega) (by omega) (dv_var t5 (ecx.rp r6)) (Dv.is (dv_addI (dv_len (ds := K1.l) (dv_var t4 (ecx.rp r5)) rfl) dv_int) rfl))) (mva_nil ⟨rfl, m, env, .nil, max 1 (sz / 2), rfl, hm1, hm3, hok, .inl rfl, by omega, by omega, by omega, fun t2 b2 hg hb2 => ⟨.ap t t2, rfl, hR t2 b2 (hg.mono (by omega)) (by omega)⟩⟩)))))))))))))) fun v' d' b2 G3 H3 e3 j3 q3 hd' => ?_
    obtain ⟨t', rfl, hRt⟩ := hd'
    refine ⟨G3, ?_, ?_, ?_, ?_, ?_, by simpa using sl, sg.trans (ex.gg.trans e3.gg), ecx.trans e3, b2, v', t', j3, ?_, q3, fun h => by omega, fun _ => hRt⟩
    · rw [List.getElem?_set_ne (by omega)]; exact t0
    · rw [List.getElem?_set_ne (by omega)]; exact t1
    · rw [List.getElem?_set_ne (by omega)]; exact t2
    · rw [List.getElem?_set_ne (by omega)]; exact t4
    · rw [List.getElem?_set_ne (by omega)]; exact t5
    · rw [List.getElem?_set_self (by simp; omega)]
  · rintro σ1 Gc Hc ⟨s0, s1, s2, s4, s5, sl, sg, ec, b', v, t, jc, s6, rt, _, h1⟩
    exact ⟨v, s6, k v t.py b' Gc Hc ec jc rt (h1 rfl)⟩
theorem ok_law_term (T : Txt K mg) : ∀ n, FnOk P w K mg base CX0 (2 * n + 6) T.law_term.f T.law_term.fd ["stream", "many", "names", "kind", "size"] (spTm K n)
  | 0 => fn_no (by
    rintro vs H Q E ⟨_, p, G, as, b, R, _, _, _, ⟨m, env, k, s, _, _, _, _, _, h1, h2, _⟩, _⟩
    omega)
  | n + 1 => by
    have g_law_term : FnOk P w K mg base CX0 (2 * n + 6) _ _ _ _ := ok_law_term T n
    have g_law_called : FnOk P w K mg base CX0 (2 * n + 7) _ _ _ _ := ok_law_called T n g_law_term
    have g_law_small : FnOk P w K mg base CX0 6 _ _ _ _ := ok_law_small T 2
    have g_law_heads : FnOk P w K mg base CX0 1 _ _ _ _ := ok_law_heads T
    have g_law_draw : FnOk P w K mg base CX0 1 _ _ _ _ := ok_law_draw T
    have g_law_pick : FnOk P w K mg base CX0 2 _ _ _ _ := ok_law_pick T
    have g_law_bound_name : FnOk P w K mg base CX0 3 _ _ _ _ := ok_law_bound_name T
    have g_law_with : FnOk P w K mg base CX0 1 _ _ _ _ := ok_law_with T
    refine T.law_term.F.ok (k := 2 * n + 7) sc_law_term (fun vs H Q E z => z.1) (fun cdv Ar outer s H vs Q E hr z => ?_)
    obtain ⟨_, p, G, as, (b : Nat), R, e, j, r, ⟨m, env, kd, sz, rfl, hm1, hm3, hok, hk, hs1, hsn, hb, hR⟩, k⟩ := z
    cases r with
    | @cons v1 _ _ _ r1 r =>
    cases r with
    | @cons v2 _ _ _ r2 r =>
    cases r with
    | @cons v3 _ _ _ r3 r =>
    cases r with
    | @cons v4 _ _ _ r4 r =>
    cases r with
    | @cons v5 _ _ _ r5 r =>
    cases r
    cases (show v1 = .ref p.1 from r1)
    have r2 : Rp K G v2 (.int m) := r2
    have r3 : Rp K G v3 (namesD env) := r3
    have r4 : Rp K G v4 kd.py := r4
    have r5 : Rp K G v5 (.int sz) := r5
    refine ⟨_, (pss_cons (ps_par (i := 5) (j := 6) rfl sc_law_term.nd rfl rfl (by decide) rfl rfl (pa_cons (pe_call g_law_heads (hr.mono (by omega)) rfl T.law_heads.m T.law_heads.F.kp T.law_heads.b .nil pass0 (pa_cons (pv 2) (pa_cons (pv 3) pa_nil))) (pa_cons (pe_call g_law_draw (hr.mono (by omega)) rfl T.law_draw.m T.law_draw.F.kp T.law_draw.b .nil pass0 (pa_cons (pv 0) (pa_cons pe_int pa_nil))) pa_nil)) rfl)
      (pss_cons (ps_if (pt_cmpR op_lt (pv 4) pe_int (nomark _)) (pss_one (ps_ret (pe_call g_law_small (hr.mono (by omega)) rfl T.law_small.m T.law_small.F.kp T.law_small.b .nil pass0 (pa_cons (pv 0) (pa_cons (pv 1) (pa_cons (pv 2) (pa_cons (pv 3) pa_nil))))))) pss_nil)
      (pss_cons (ps_if (PW.pt (pw_and (pt_cmpR (op_neX hr.units) (pv 5) (pe_lst pa_nil) (nomark _)) (pw_and1 (pt_cmpR op_lt (pv 6) pe_int (nomark _))))) (pss_cons (ps_asg (pe_call g_law_pick (hr.mono (by omega)) rfl T.law_pick.m T.law_pick.F.kp T.law_pick.b .nil pass0 (pa_cons (pv 0) (pa_cons (pv 5) pa_nil))) (pg_tup rfl (pgs_cons (pg_name (i := 7) sc_law_term.nd rfl (Or.inl rfl)) (pgs_cons (pg_name (i := 8) sc_law_term.nd rfl (Or.inl rfl)) pgs_nil))))
      (pss_one (ps_ret (pe_call g_law_called (hr.mono (by omega)) rfl T.law_called.m T.law_called.F.kp T.law_called.b .nil pass0 (pa_cons (pv 0) (pa_cons (pv 1) (pa_cons (pv 2) (pa_cons (pe_tup (pa_cons pe_str (pa_cons (pv 7) pa_nil))) (pa_cons (pv 8) (pa_cons (pe_op op_sub (pv 4) pe_int) pa_nil)))))))))) pss_nil)
      (pss_cons (ps_if (pt_cmpR (op_eqX hr.units) (pv 6) pe_int (nomark _)) (pss_cons (ps_set (i := 9) sc_law_term.nd rfl (Or.inl rfl) (pe_call g_law_pick (hr.mono (by omega)) rfl T.law_pick.m T.law_pick.F.kp T.law_pick.b .nil pass0 (pa_cons (pv 0) (pa_cons (pe_lst (pa_cons (pe_tup pa_nil) (pa_cons (pe_tup pa_nil) (pa_cons (pe_tup (pa_cons (pe_tup pa_nil) pa_nil)) (pa_cons (pv 3) pa_nil))))) pa_nil))))
      (pss_cons (ps_set (i := 7) sc_law_term.nd rfl (Or.inl rfl) (pe_call g_law_bound_name (hr.mono (by omega)) rfl T.law_bound_name.m T.law_bound_name.F.kp T.law_bound_name.b .nil pass0 (pa_cons (pv 0) (pa_cons (pv 2) pa_nil))))
      (pss_cons (ps_set (i := 10) sc_law_term.nd rfl (Or.inl rfl) (pe_call g_law_term (hr.mono (by omega)) rfl T.law_term.m T.law_term.F.kp T.law_term.b .nil pass0 (pa_cons (pv 0) (pa_cons (pv 1) (pa_cons (pe_call g_law_with (hr.mono (by omega)) rfl T.law_with.m T.law_with.F.kp T.law_with.b .nil pass0 (pa_cons (pv 2) (pa_cons (pv 7) (pa_cons (pv 9) pa_nil)))) (pa_cons (pv 3) (pa_cons (pe_op op_fdivN (pv 4) pe_int) pa_nil)))))))
      (pss_one (ps_ret (pe_tup (pa_cons pe_str (pa_cons (pe_tup (pa_cons pe_str (pa_cons (pv 7) (pa_cons (pv 9) (pa_cons (pv 10) pa_nil))))) (pa_cons (pe_call g_law_term (hr.mono (by omega)) rfl T.law_term.m T.law_term.F.kp T.law_term.b .nil pass0 (pa_cons (pv 0) (pa_cons (pv 1) (pa_cons (pv 2) (pa_cons (pv 9) (pa_cons (pe_op op_fdivN (pv 4) pe_int) pa_nil)))))) pa_nil))))))))) pss_nil)
      (pss_cons (ps_if (pt_cmpR (op_eqX hr.units) (pv 6) pe_int (nomark _)) (pss_cons (ps_set (i := 7) sc_law_term.nd rfl (Or.inl rfl) (pe_call g_law_bound_name (hr.mono (by omega)) rfl T.law_bound_name.m T.law_bound_name.F.kp T.law_bound_name.b .nil pass0 (pa_cons (pv 0) (pa_cons (pv 2) pa_nil))))
      (pss_one (ps_ret (pe_tup (pa_cons pe_str (pa_cons (pv 7) (pa_cons (pv 3) (pa_cons (pe_call g_law_term (hr.mono (by omega)) rfl T.law_term.m T.law_term.F.kp T.law_term.b .nil pass0 (pa_cons (pv 0) (pa_cons (pv 1) (pa_cons (pe_call g_law_with (hr.mono (by omega)) rfl T.law_with.m T.law_with.F.kp T.law_with.b .nil pass0 (pa_cons (pv 2) (pa_cons (pv 7) (pa_cons (pv 3) pa_nil)))) (pa_cons (pv 3) (pa_cons (pe_op op_sub (pv 4) pe_int) pa_nil)))))) pa_nil)))))))) pss_nil)
      (pss_cons (ps_if (pt_cmpR (op_neX hr.units) (pv 3) (pe_tup pa_nil) (nomark _)) (pss_cons (ps_set (i := 7) sc_law_term.nd rfl (Or.inl rfl) (pe_call g_law_bound_name (hr.mono (by omega)) rfl T.law_bound_name.m T.law_bound_name.F.kp T.law_bound_name.b .nil pass0 (pa_cons (pv 0) (pa_cons (pv 2) pa_nil))))
      (pss_one (ps_ret (pe_tup (pa_cons pe_str (pa_cons (pv 7) (pa_cons (pe_ix ix_seq (pv 3) pe_int (fun _ _ => rfl)) (pa_cons (pe_call g_law_term (hr.mono (by omega)) rfl T.law_term.m T.law_term.F.kp T.law_term.b .nil pass0 (pa_cons (pv 0) (pa_cons (pv 1) (pa_cons (pe_call g_law_with (hr.mono (by omega)) rfl T.law_with.m T.law_with.F.kp T.law_with.b .nil pass0 (pa_cons (pv 2) (pa_cons (pv 7) (pa_cons (pe_ix ix_seq (pv 3) pe_int (fun _ _ => rfl)) pa_nil)))) (pa_cons (pe_slice sl_X (pv 3) (po_some pe_int) po_none) (pa_cons (pe_op op_sub (pv 4) pe_int) pa_nil)))))) pa_nil)))))))) pss_nil)
      (pss_cons (ps_if (pt_cmpR op_lt (pv 6) pe_int (nomark _)) (pss_cons (ps_setLc (i := 11) (own := [("k", 12)]) (g := gName 12) (tt := tYes) rfl sc_law_term.nd rfl rfl (sw_true rfl rfl rfl (by decide +kernel)) (pi_range1 rfl T.z_range (pa_cons (pe_op op_addX (pv 1) pe_int) pa_nil)) (blkOk_by (N := ["stream", "many", "names", "kind", "size", "heads", "way", "name", "kinds", "other", "inner", "rows", "k"]) (sc := defScope s_law_term) (by decide +kernel)) (fun _ _ _ _ _ => (pg_name (i := 12) sc_law_term.nd rfl (Or.inl rfl))) (fun _ _ _ _ _ => pts_nil) (fun _ _ _ _ _ => (pe_call g_law_term (hr.mono (by omega)) rfl T.law_term.m T.law_term.F.kp T.law_term.b .nil pass0 (pa_cons (pv 0) (pa_cons (pv 1) (pa_cons (pv 2) (pa_cons (pe_tup pa_nil) (pa_cons (pe_callB (call_max2 rfl) rfl T.z_max (by decide +kernel) (pa_cons pe_int (pa_cons (pe_op op_fdivN (pv 4) (pe_op (op_addK K rfl) (pv 1) pe_int)) pa_nil))) pa_nil))))))))
      (pss_one (ps_ret (pe_tup (pa_cons pe_str (pa_cons (pe_ix ix_seq (pv 11) pe_int (fun _ _ => rfl)) (pa_cons (pe_callTy call_tupX rfl T.z_tuple (by decide +kernel) (pa_cons (pe_slice sl_X (pv 11) (po_some pe_int) po_none) pa_nil)) pa_nil))))))) pss_nil)
      (pss_one (ps_ret (pe_tup (pa_cons pe_str (pa_cons (pe_call g_law_term (hr.mono (by omega)) rfl T.law_term.m T.law_term.F.kp T.law_term.b .nil pass0 (pa_cons (pv 0) (pa_cons (pv 1) (pa_cons (pv 2) (pa_cons (pe_tup pa_nil) (pa_cons (pe_op op_fdivN (pv 4) pe_int) pa_nil)))))) (pa_cons (pe_call g_law_term (hr.mono (by omega)) rfl T.law_term.m T.law_term.F.kp T.law_term.b .nil pass0 (pa_cons (pv 0) (pa_cons (pv 1) (pa_cons (pv 2) (pa_cons (pe_tup pa_nil) (pa_cons (pe_op op_fdivN (pv 4) pe_int) pa_nil)))))) pa_nil))))))))))))), ?_⟩
    have hlen := hok.len
    have hhl := heads_len (k := kd) (env := env)
    obtain ⟨s0, rfl⟩ : ∃ s0, sz = s0 + 1 := ⟨sz - 1, by omega⟩
    have hcs := cst_succ s0
    have hcp := cst_pos s0
    have hkl : kd.l.length ≤ 1 := by rcases hk with rfl | rfl <;> decide
    have hsub : ∀ {σ : L2.St} {G1 H1 : Hp}, 1 ≤ s0 → Dv K (tVar 4) σ G1 H1 (.int ((s0 + 1 : Nat) : Int)) → Dv K (tOp (rI0 fun i j => .int (i - j)) (tVar 4) (tC (.int 1))) σ G1 H1 (.int (s0 : Nat)) := fun h q => Dv.is (dv_sub q dv_int) (by congr 1; omega)
    have hhalf : ∀ {σ : L2.St} {G1 H1 : Hp}, Dv K (tVar 4) σ G1 H1 (.int ((s0 + 1 : Nat) : Int)) → Dv K (tOp (rI CDivN fun i j => .int (i.fdiv j)) (tVar 4) (tC (.int 2))) σ G1 H1 (.int (((s0 + 1) / 2 : Nat) : Int)) := fun q => dv_fdiv (n := 2) (by omega) (by omega) q dv_int
    refine ds_seq ?_
    refine ms_par (D := SW p) (R := fun d d' (b1 : Nat) => d = .list ((headsE kd env).map prD) ∧ b = b1 + 1 ∧ ∃ wy : Nat, d' = .int wy) e j (mv_dv (d := .list ((headsE kd env).map prD)) (dv_call (dva_cons (dv_var rfl r3) (dva_cons (dv_var rfl r4) dva_nil)) rfl ⟨env, kd, rfl, hok, hk, rfl⟩) (mv_call (mva_raw rfl (mva_cons (mv_dv dv_int (mva_nil ⟨rfl, 10, rfl, by omega, by omega, b - 1, by omega, fun i hi => ⟨rfl, by omega, i, rfl⟩⟩)))))) fun vh vw d d' (b1 : Nat) G1 H1 e1 j1 qh qw hd => ?_
    obtain ⟨rfl, rfl, wy, rfl⟩ := hd
    dsimp only
    have q2 := e1.rp r2
    have q3 := e1.rp r3
    have q4 := e1.rp r4
    have q5 := e1.rp r5
    refine ds_seq ?_
    refine ds_if e1.gh (dvt_test (dv_lt (dv_var rfl q5) dv_int)) (fun hs G2 H2 e2 => ?_) fun hs G2 H2 e2 => ?_
    · refine ms_ret (D := SW p) (R := R) e2.gh (Wd.ext j1 e2) (mv_call (mva_raw rfl (mva_cons (mv_dv (dv_var rfl (e2.rp q2)) (mva_cons (mv_dv (dv_var rfl (e2.rp q3)) (mva_cons (mv_dv (dv_var rfl (e2.rp q4)) (mva_nil ⟨rfl, m, env, kd, rfl, hm1, hm3, hok, hk, by omega, by omega, fun t b' hg hb' => hR t b' (hg.mono (by omega)) (by omega)⟩))))))))) fun v d m' G3 H3 e3 => k v d m' G3 H3 ((e1.trans e2.w).trans e3)
    have hs2 : 1 ≤ s0 := by
      have : ¬ ((s0 + 1 : Nat) : Int) < 2 := by simpa using hs
      omega
    obtain ⟨s1, rfl⟩ : ∃ s1, s0 = s1 + 1 := ⟨s0 - 1, by omega⟩
    have hcs1 := cst_succ s1
    have hcp1 := cst_pos s1
    have hch := cst_mono (show (s1 + 1 + 1) / 2 ≤ s1 + 1 by omega)
    have e12 := e1.trans e2.w
    have j2 := Wd.ext j1 e2
    have q2 := e2.rp q2
    have q3 := e2.rp q3
    have q4 := e2.rp q4
    have q5 := e2.rp q5
    have qh := e2.rp qh
    have qw := e2.rp qw
    refine ds_seq ?_
    refine ds_if (b := !(headsE kd env).isEmpty && decide ((wy : Int) < 3)) e2.gh (DvT.is (dvt_and (dvt_test (dv_ne (dv_var rfl qh) dv_lst0 (eqOk_rows (n := 4) (m := 1) (heads_data hok hk) (by simp) (by omega) (by omega)))) fun _ => dvt_test (dv_lt (dv_var rfl qw) dv_int)) (by cases headsE kd env <;> rfl)) (fun hne G3 H3 e3 => ?_) fun hne G3 H3 e3 => ?_
    · have hne : 0 < (headsE kd env).length := by
        cases hh : headsE kd env with
        | nil => rw [hh] at hne; simp at hne
        | cons _ _ => simp
      refine ds_seq ?_
      refine ms_two (D := SW p) (R := fun d (b2 : Nat) => b1 = b2 + 1 ∧ ∃ q ∈ headsE kd env, d = prD q) e3.gh (Wd.ext j2 e3) (mv_call (mva_raw rfl (mva_cons (mv_dv (dv_var rfl (e3.rp qh)) (mva_nil ⟨rfl, _, (headsE kd env).map prD, rfl, rfl, by rw [List.length_map]; exact hne, by rw [List.length_map]; omega, b1 - 1, by omega, fun d hd => ⟨by omega, ?_⟩⟩))))) (fun d b2 ⟨_, q, _, h⟩ => ⟨_, _, h⟩) fun vn vk a c (b2 : Nat) G4 H4 e4 j4 qn qk hd => ?_
      · obtain ⟨q, hq, rfl⟩ := List.mem_map.mp hd
        exact ⟨q, hq, rfl⟩
      obtain ⟨rfl, q, hq, hd⟩ := hd
      cases hd
      obtain ⟨hqn, hqk⟩ := heads_mem hok hk hq
      have e34 := e3.w.trans e4
      refine ms_ret (D := SW p) (R := R) e4.gh j4 (mv_call (mva_raw rfl (mva_cons (mv_dv (dv_var rfl (e34.rp q2)) (mva_cons (mv_dv (dv_var rfl (e34.rp q3)) (mva_cons (mv_dv (d := (Tm.name q.1).py) (dv_tup2 dv_str (dv_var rfl qn)) (mva_cons (mv_dv (dv_var rfl qk) (mva_cons (mv_dv (hsub hs2 (dv_var rfl (e34.rp q5))) (mva_nil ⟨rfl, m, env, .name q.1, q.2, s1 + 1, rfl, hm1, hm3, hok, by omega, by omega, ?_⟩))))))))))))) fun v d m' G5 H5 e5 => k v d m' G5 H5 (((e12.trans e3.w).trans e4).trans e5)
      rcases hqk with ⟨h1, h2⟩ | ⟨h1, h2, h3⟩
      · exact .inl ⟨h1, hR (.name q.1) _ ((gen_name hqn hk h2).mono (by omega)) (by omega)⟩
      · subst h2
        exact .inr ⟨h1, by omega, fun t b' hg hb' => hR (.ap (.name q.1) t) _ ((gen_ap (n := 2 * (s1 + 1) + 3) (.inl rfl) ((gen_name hqn (.inr rfl) h3).mono (by omega)) hg).mono (by omega)) (by omega)⟩
    have e13 := e12.trans e3.w
    have j3 := Wd.ext j2 e3
    have q2 := e3.rp q2
    have q3 := e3.rp q3
    have q4 := e3.rp q4
    have q5 := e3.rp q5
    have qw := e3.rp qw
    refine ds_seq ?_
    refine ds_if e3.gh (dvt_test (dv_eq (dv_var rfl qw) dv_int rfl)) (fun h3 G4 H4 e4 => ?_) fun h3 G4 H4 e4 => ?_
    · refine ds_seq ?_
      refine ms_set (D := SW p) (R := fun d (b2 : Nat) => b1 = b2 + 1 ∧ ∃ o, k01 o ∧ d = Ty.py o) e4.gh (Wd.ext j3 e4) (mv_call (mva_raw rfl (mva_cons (mv_dv (d := .list [Ty.nil.py, Ty.nil.py, K1.py, kd.py]) (dv_lst (dva_cons (dv_tup dva_nil (Nat.zero_le _)) (dva_cons (dv_tup dva_nil (Nat.zero_le _)) (dva_cons (dv_tup1 (dv_tup dva_nil (Nat.zero_le _))) (dva_cons (dv_var rfl (e4.rp q4)) dva_nil)))) (by simp)) (mva_nil ⟨rfl, _, [Ty.nil.py, Ty.nil.py, K1.py, kd.py], rfl, rfl, by simp, by simp, b1 - 1, by omega, fun d hd => ⟨by omega, ?_⟩⟩))))) fun vo d (b2 : Nat) G5 H5 e5 j5 qo hd => ?_
      · simp only [List.mem_cons, List.not_mem_nil, or_false] at hd
        rcases hd with rfl | rfl | rfl | rfl
        · exact ⟨.nil, .inl rfl, rfl⟩
        · exact ⟨.nil, .inl rfl, rfl⟩
        · exact ⟨K1, .inr rfl, rfl⟩
        · exact ⟨kd, hk, rfl⟩
      obtain ⟨rfl, o, ho, rfl⟩ := hd
      dsimp only
      refine ds_seq ?_
      have e45 := e4.w.trans e5
      refine ms_set (D := SW p) (R := fun d (b3 : Nat) => b2 = b3 + 1 ∧ ∃ x ∈ NS, d = .str x) e5.gh j5 (mv_call (mva_raw rfl (mva_cons (mv_dv (dv_var rfl (e45.rp q3)) (mva_nil ⟨rfl, env, rfl, hok, b2 - 1, by omega, fun x hx => ⟨by omega, x, hx, rfl⟩⟩))))) fun vn d (b3 : Nat) G6 H6 e6 j6 qn hd => ?_
      obtain ⟨rfl, x, hx, rfl⟩ := hd
      dsimp only
      refine ds_seq ?_
      have e46 := e45.trans e6
      refine ms_set (D := SW p) (R := fun d (b4 : Nat) => ∃ t, d = Tm.py t ∧ GenT m (withE env x o) kd (2 * ((s1 + 1 + 1) / 2) + 3) t ∧ b3 ≤ b4 + cst ((s1 + 1 + 1) / 2)) e6.gh j6 (mv_call (mva_raw rfl (mva_cons (mv_dv (dv_var rfl (e46.rp q2)) (mva_cons (mv_dv (dv_call (dva_cons (dv_var rfl (e46.rp q3)) (dva_cons (dv_var rfl qn) (dva_cons (dv_var rfl (e6.rp qo)) dva_nil))) rfl ⟨env, x, o, rfl, by omega, rfl⟩) (mva_cons (mv_dv (dv_var rfl (e46.rp q4)) (mva_cons (mv_dv (hhalf (dv_var rfl (e46.rp q5))) (mva_nil ⟨rfl, m, withE env x o, kd, (s1 + 1 + 1) / 2, rfl, hm1, hm3, hok.withE hx ho, hk, by omega, by omega, by omega, fun t b' hg hb' => ⟨t, rfl, hg, hb'⟩⟩))))))))))) fun vi d (b4 : Nat) G7 H7 e7 j7 qi hd => ?_
      obtain ⟨ti, rfl, hgi, hb4⟩ := hd
      dsimp only
      have e47 := e46.trans e7
      have e57 := e6.trans e7
      refine ms_ret (D := SW p) (R := R) e7.gh j7 (mv_tup3 (mv_dv dv_str (mv_dv (d := (Tm.fn x o ti).py) (dv_tup4 dv_str (dv_var rfl (e7.rp qn)) (dv_var rfl (e57.rp qo)) (dv_var rfl qi)) (mv_call (mva_raw rfl (mva_cons (mv_dv (dv_var rfl (e47.rp q2)) (mva_cons (mv_dv (dv_var rfl (e47.rp q3)) (mva_cons (mv_dv (dv_var rfl (e57.rp qo)) (mva_cons (mv_dv (hhalf (dv_var rfl (e47.rp q5))) (mva_nil ⟨rfl, m, env, o, (s1 + 1 + 1) / 2, rfl, hm1, hm3, hok, ho, by omega, by omega, by omega, fun t b' hg hb' => ?_⟩)))))))))))))) fun v d m' G8 H8 e8 => k v d m' G8 H8 ((e13.trans e47).trans e8)
      have hfn := gen_fn hx ho hk (hgi.congr fun y => getS_with) (by omega)
      exact hR (.ap (.fn x o ti) t) _ ((gen_ap hk hfn (hg.mono (by omega))).mono (by omega)) (by omega)
    have e14 := e13.trans e4.w
    have j4 := Wd.ext j3 e4
    have q2 := e4.rp q2
    have q3 := e4.rp q3
    have q4 := e4.rp q4
    have q5 := e4.rp q5
    have qw := e4.rp qw
    refine ds_seq ?_
    refine ds_if e4.gh (dvt_test (dv_eq (dv_var rfl qw) dv_int rfl)) (fun h4 G5 H5 e5 => ?_) fun h4 G5 H5 e5 => ?_
    · refine ds_seq ?_
      refine ms_set (D := SW p) (R := fun d (b3 : Nat) => b1 = b3 + 1 ∧ ∃ x ∈ NS, d = .str x) e5.gh (Wd.ext j4 e5) (mv_call (mva_raw rfl (mva_cons (mv_dv (dv_var rfl (e5.rp q3)) (mva_nil ⟨rfl, env, rfl, hok, b1 - 1, by omega, fun x hx => ⟨by omega, x, hx, rfl⟩⟩))))) fun vn d (b3 : Nat) G6 H6 e6 j6 qn hd => ?_
      obtain ⟨rfl, x, hx, rfl⟩ := hd
      dsimp only
      have e56 := e5.w.trans e6
      refine ms_ret (D := SW p) (R := R) e6.gh j6 (mv_tup4 (mv_dv dv_str (mv_dv (dv_var rfl qn) (mv_dv (dv_var rfl (e56.rp q4)) (mv_call (mva_raw rfl (mva_cons (mv_dv (dv_var rfl (e56.rp q2)) (mva_cons (mv_dv (dv_call (dva_cons (dv_var rfl (e56.rp q3)) (dva_cons (dv_var rfl qn) (dva_cons (dv_var rfl (e56.rp q4)) dva_nil))) rfl ⟨env, x, kd, rfl, by omega, rfl⟩) (mva_cons (mv_dv (dv_var rfl (e56.rp q4)) (mva_cons (mv_dv (hsub hs2 (dv_var rfl (e56.rp q5))) (mva_nil ⟨rfl, m, withE env x kd, kd, s1 + 1, rfl, hm1, hm3, hok.withE hx hk, hk, by omega, by omega, by omega, fun t b' hg hb' => ?_⟩))))))))))))))) fun v d m' G8 H8 e8 => k v d m' G8 H8 ((e14.trans e56).trans e8)
      exact hR (.fx x kd t) _ ((gen_fx hx hk (hg.congr fun y => getS_with) (by omega)).mono (by omega)) (by omega)
    have e15 := e14.trans e5.w
    have j5 := Wd.ext j4 e5
    have q2 := e5.rp q2
    have q3 := e5.rp q3
    have q4 := e5.rp q4
    have q5 := e5.rp q5
    have qw := e5.rp qw
    refine ds_seq ?_
    refine ds_if (b := !decide (kd = .nil)) e5.gh (DvT.is (dvt_test (dv_ne (d' := Ty.nil.py) (dv_var rfl q4) (dv_tup dva_nil (Nat.zero_le _)) (hk.eqOk (.inl rfl)))) (by rw [Ty.eqv])) (fun hn G6 H6 e6 => ?_) fun hn G6 H6 e6 => ?_
    · have hk1 : kd = K1 := by
        rcases hk with h | h
        · exact absurd h (by simpa using hn)
        · exact h
      subst hk1
      refine ds_seq ?_
      refine ms_set (D := SW p) (R := fun d (b3 : Nat) => b1 = b3 + 1 ∧ ∃ x ∈ NS, d = .str x) e6.gh (Wd.ext j5 e6) (mv_call (mva_raw rfl (mva_cons (mv_dv (dv_var rfl (e6.rp q3)) (mva_nil ⟨rfl, env, rfl, hok, b1 - 1, by omega, fun x hx => ⟨by omega, x, hx, rfl⟩⟩))))) fun vn d (b3 : Nat) G7 H7 e7 j7 qn hd => ?_
      obtain ⟨rfl, x, hx, rfl⟩ := hd
      dsimp only
      have e67 := e6.w.trans e7
      refine ms_ret (D := SW p) (R := R) e7.gh j7 (mv_tup4 (mv_dv dv_str (mv_dv (dv_var rfl qn) (mv_dv (d := Ty.nil.py) (dv_ix (dv_var rfl (e67.rp q4)) dv_int (ds := K1.l) rfl rfl) (mv_call (mva_raw rfl (mva_cons (mv_dv (dv_var rfl (e67.rp q2)) (mva_cons (mv_dv (dv_call (dva_cons (dv_var rfl (e67.rp q3)) (dva_cons (dv_var rfl qn) (dva_cons (d := Ty.nil.py) (dv_ix (dv_var rfl (e67.rp q4)) dv_int (ds := K1.l) rfl rfl) dva_nil))) rfl ⟨env, x, .nil, rfl, by omega, rfl⟩) (mva_cons (mv_dv (d := Ty.nil.py) (Dv.is (dv_sl (ds := K1.l) (dv_var rfl (e67.rp q4)) rfl (dvo_some (K := K) dv_int) dvo_none) rfl) (mva_cons (mv_dv (hsub hs2 (dv_var rfl (e67.rp q5))) (mva_nil ⟨rfl, m, withE env x .nil, .nil, s1 + 1, rfl, hm1, hm3, hok.withE hx (.inl rfl), .inl rfl, by omega, by omega, by omega, fun t b' hg hb' => ?_⟩))))))))))))))) fun v d m' G8 H8 e8 => k v d m' G8 H8 ((e15.trans e67).trans e8)
      exact hR (.fn x .nil t) _ ((gen_fn hx (.inl rfl) (.inl rfl) (hg.congr fun y => getS_with) (by omega)).mono (by omega)) (by omega)
    have hk0 : kd = .nil := by simpa using hn
    subst hk0
    have e16 := e15.trans e6.w
    have j6 := Wd.ext j5 e6
    have q2 := e6.rp q2
    have q3 := e6.rp q3
    have q5 := e6.rp q5
    have qw := e6.rp qw
    refine ds_seq ?_
    refine ds_if e6.gh (dvt_test (dv_lt (dv_var rfl qw) dv_int)) (fun h5 G7 H7 e7 => ?_) fun h5 G7 H7 e7 => ?_
    · have q2 := e7.rp q2
      have q3 := e7.rp q3
      have q5 := e7.rp q5
      have hrl : (rints 0 (m + 1)).length = m + 1 := by simp [rints]
      have hs' : max 1 ((s1 + 1 + 1) / (m + 1)) ≤ s1 + 1 := by
        have h1 : (s1 + 1 + 1) / (m + 1) ≤ (s1 + 1 + 1) / 2 := Nat.div_le_div_left (by omega) (by omega)
        omega
      have hcs' := cst_mono hs'
      refine ds_seq ?_
      refine ms_set (D := SW p) (R := fun d (b3 : Nat) => ∃ ts : List Tm, d = .list (Tm.pys ts) ∧ ts.length = m + 1 ∧ (∀ u ∈ ts, GenT m env .nil (2 * (s1 + 1) + 3) u) ∧ b1 ≤ b3 + (m + 1) * cst (s1 + 1)) e7.gh (Wd.ext j6 e7) (mv_lc (ds := rints 0 (m + 1)) (fun i acc (b3 : Nat) => ∃ ts : List Tm, acc = Tm.pys ts ∧ ts.length = i ∧ (∀ u ∈ ts, GenT m env .nil (2 * (s1 + 1) + 3) u) ∧ b1 ≤ b3 + i * cst (s1 + 1)) (dvi_range1 (n := m + 1) (Dv.is (dv_addI (dv_var rfl q2) dv_int) rfl) (by omega)) (by rw [hrl]; omega) ⟨[], rfl, rfl, by simp, by omega⟩ ?_ ?_) fun vr d (b3 : Nat) G8 H8 e8 j8 qr hd => ?_
      · rintro i x acc (b3 : Nat) hx hl ⟨ts, rfl, hts, hg, hb3⟩ vx G8 H8 u8 rx
        have hi : i < m + 1 := by
          rw [← hrl]
          exact (List.getElem?_eq_some_iff.mp hx).1
        have hi4 : i * cst (s1 + 1) ≤ 3 * cst (s1 + 1) := Nat.mul_le_mul_right _ (by omega)
        refine mv_call (mva_raw rfl (mva_cons (mv_dv (dv_var rfl (u8.rp q2)) (mva_cons (mv_dv (dv_var rfl (u8.rp q3)) (mva_cons (mv_dv (d := Ty.nil.py) (dv_tup dva_nil (Nat.zero_le _)) (mva_cons (mv_dv (dv_max1 (dv_fdiv (n := m + 1) (by omega) (by omega) (dv_var rfl (u8.rp q5)) (Dv.is (dv_addI (dv_var rfl (u8.rp q2)) dv_int) rfl))) (mva_nil ⟨rfl, m, env, .nil, max 1 ((s1 + 1 + 1) / (m + 1)), rfl, hm1, hm3, hok, .inl rfl, by omega, by omega, by omega, fun t b' hgt hb' => ⟨ts ++ [t], ?_, by simp [hts], ?_, ?_⟩⟩))))))))))
        · rw [Tm.pys_map, Tm.pys_map, List.map_append]
          rfl
        · intro u hu
          rcases List.mem_append.mp hu with h | h
          · exact hg u h
          · rw [List.mem_singleton.mp h]
            exact hgt.mono (by omega)
        · rw [Nat.succ_mul]
          omega
      · rintro acc (b3 : Nat) hl ⟨ts, rfl, hts, hg, hb3⟩
        rw [hrl] at hts hb3
        exact ⟨ts, rfl, hts, hg, hb3⟩
      obtain ⟨ts, rfl, hts, hg, hb3⟩ := hd
      dsimp only
      have hm4 : (m + 1) * cst (s1 + 1) ≤ 4 * cst (s1 + 1) := Nat.mul_le_mul_right _ (by omega)
      cases ts with
      | nil => simp at hts
      | cons t0 ts =>
      refine ms_ret (D := SW p) (R := R) e8.gh j8 (mv_dv (d := (Tm.cs t0 ts).py) (dv_tup3 dv_str (dv_ix (d := t0.py) (ds := Tm.pys (t0 :: ts)) (dv_var rfl qr) dv_int rfl at0) (dv_tupOf (ds := Tm.pys ts) (dv_sl (ds := Tm.pys (t0 :: ts)) (dv_var rfl qr) rfl (dvo_some (K := K) dv_int) dvo_none) ?_)) ?_) fun v d m' G9 H9 e9 => k v d m' G9 H9 (((e16.trans e7.w).trans e8).trans e9)
      · rw [cutR_row (ds := Tm.pys (t0 :: ts)) rfl]
        exact congrArg some cutL_tl
      · refine hR (.cs t0 ts) _ ((gen_cs (n := 2 * (s1 + 1) + 3) (by simp at hts; omega) (by simp at hts; omega) (hg t0 (by simp)) fun u hu => hg u (by simp [hu])).mono (by omega)) (by omega)
    have q2 := e7.rp q2
    have q3 := e7.rp q3
    have q5 := e7.rp q5
    unfold tNext
    dsimp only
    refine ms_ret (D := SW p) (R := R) e7.gh (Wd.ext j6 e7) (mv_tup3 (mv_dv dv_str (mv_call (mva_raw rfl (mva_cons (mv_dv (dv_var rfl q2) (mva_cons (mv_dv (dv_var rfl q3) (mva_cons (mv_dv (d := Ty.nil.py) (dv_tup dva_nil (Nat.zero_le _)) (mva_cons (mv_dv (hhalf (dv_var rfl q5)) (mva_nil ⟨rfl, m, env, .nil, (s1 + 1 + 1) / 2, rfl, hm1, hm3, hok, .inl rfl, by omega, by omega, by omega, fun t b2 hg hb2 => mv_call (mva_raw rfl (mva_cons (mv_dv (dv_var rfl q2) (mva_cons (mv_dv (dv_var rfl q3) (mva_cons (mv_dv (d := Ty.nil.py) (dv_tup dva_nil (Nat.zero_le _)) (mva_cons (mv_dv (hhalf (dv_var rfl q5)) (mva_nil ⟨rfl, m, env, .nil, (s1 + 1 + 1) / 2, rfl, hm1, hm3, hok, .inl rfl, by omega, by omega, by omega, fun u b3 hg3 hb3 => hR (.ei t u) _ ((gen_ei hg hg3).mono (by omega)) (by omega)⟩))))))))))⟩))))))))))))) fun v d m' G9 H9 e9 => k v d m' G9 H9 ((e16.trans e7.w).trans e9)
end
end K82

set_option Elab.async false
set_option linter.all false
set_option maxRecDepth 100000
set_option maxHeartbeats 4000000
/-! A dict by types (nested tuples), as a thing of its own. -/
namespace K82
open PySem L2 PyProof.Rows
def Ty.ks : Ty → List NestedKey
  | .nil => []
  | .cons a r => .tup a.ks :: r.ks
def Ty.key (t : Ty) : NestedKey := .tup t.ks
theorem Ty.ks_inj : ∀ a b : Ty, a.ks = b.ks → a = b
  | .nil, .nil, _ => rfl
  | .nil, .cons _ _, h => by cases h
  | .cons _ _, .nil, h => by cases h
  | .cons a r, .cons b q, h => by
    rw [Ty.ks, Ty.ks] at h
    injection h with h1 h2
    injection h1 with h1
    rw [Ty.ks_inj a b h1, Ty.ks_inj r q h2]
theorem Ty.key_inj {a b : Ty} (h : a.key = b.key) : a = b := by
  unfold Ty.key at h
  injection h with h
  exact Ty.ks_inj a b h
section
variable {X : Cx} {pins : List (Addr × Obj)} {σ : L2.St} {G H : Hp} {s : Shared}
theorem rp_nested (I : Inv X pins σ H s) (e : Same G H) : ∀ (t : Ty) (xs : List V) (its : List Value), RpAll X.K G xs t.l → Vals xs its → NestedAll s.heap t.ks its
  | .nil, xs, its, h, v => by
    cases h
    cases v
    exact .nil
  | .cons a r, xs, its, h, v => by
    rw [Ty.l] at h
    cases h with
    | cons h1 h2 =>
    cases v with
    | cons v1 v2 =>
    cases h1 with
    | tup q1 q2 =>
    cases v1
    obtain ⟨its', rv, ⟨o, z1, z2, n, z3⟩, _⟩ := I.tuple (Same.sqt e q1)
    exact .cons (.tup z1 z2 z3 (by simpa using rp_nested I e a _ _ q2 rv)) (rp_nested I e r _ _ h2 v2)
theorem rp_key_is (I : Inv X pins σ H s) (e : Same G H) {t : Ty} {a : Addr} (h : Rp X.K G (.ref a) t.py) : NestedIs s.heap t.key (.ref a) := by
  cases h with
  | tup q1 q2 =>
    obtain ⟨its', rv, ⟨o, z1, z2, n, z3⟩, _⟩ := I.tuple (Same.sqt e q1)
    exact .tup z1 z2 z3 (by simpa using rp_nested I e t _ _ q2 rv)
end
/-- at d stands a dict whose keys are types, each with the place of its tuple -/
def BkP (P : Program) (w : World) (d : Addr) (xs : List (Ty × Addr × V)) (h : Heap) : Prop := xs.length ≤ 1000 ∧ (d == sysModules) = false ∧ ∃ ys : List (NestedKey × Addr × Value), Paired (fun (p : Ty × Addr × V) q => p.1.key = q.1 ∧ p.2.1 = q.2.1 ∧ RelV p.2.2 q.2.2) xs ys ∧
  ∃ o es ep, h.get? d = some o ∧ o.ExactDict ∧ o.data = .dict es ep ∧ es.toList = ys.map (entryOfKey (nestedKind P w)) ∧ (ys.map (·.1)).Nodup
def bkHO (P : Program) (w : World) (d : Addr) (xs : List (Ty × Addr × V)) : HO := .ext (BkP P w d xs)
theorem BkP.ok {P : Program} {w : World} {d : Addr} {xs : List (Ty × Addr × V)} {h : Heap} {H : Hp} (x : BkP P w d xs h) : ObjOk P w H h d (bkHO P w d xs) := by
  refine ⟨x, ?_, fun h1 h2 y k => ?_⟩
  · obtain ⟨_, _, _, _, o, _, _, ho, _⟩ := x
    exact ⟨o, ho⟩
  · obtain ⟨a, b, ys, c, o, es, ep, ho, r⟩ := y
    exact ⟨a, b, ys, c, o, es, ep, k o ho, r⟩
/-- the keys stand where they are said to, and are short -/
def KeysOk (K : PySem.W.Frag) (G : Hp) (xs : List (Ty × Addr × V)) : Prop := ∀ z ∈ xs, Rp K G (.ref z.2.1) z.1.py ∧ z.1.key.depth ≤ 8
section
variable {X : Cx} {pins : List (Addr × Obj)} {σ : L2.St} {G H : Hp} {s : Shared} {d a : Addr} {xs : List (Ty × Addr × V)} {t : Ty}
abbrev BkR : Ty × Addr × V → NestedKey × Addr × Value → Prop := fun p q => p.1.key = q.1 ∧ p.2.1 = q.2.1 ∧ RelV p.2.2 q.2.2
theorem bk_at (I : Inv X pins σ H s) (e : Same G H) (h : H d = some (bkHO X.prog X.w d xs)) (hk : KeysOk X.K G xs) : xs.length ≤ 1000 ∧ (d == sysModules) = false ∧ ∃ ys, Paired BkR xs ys ∧ s.heap.DictOfH (nestedKind X.prog X.w) d ys := by
  obtain ⟨⟨h1, h2, ys, r, o, es, ep, ho, hc, hd, he, hn⟩, _⟩ := (show ObjOk X.prog X.w H s.heap d (bkHO X.prog X.w d xs) from I.hok d _ h)
  refine ⟨h1, h2, ys, r, o, es, ep, ho, hc, hd, he, ?_, hn⟩
  have all : ∀ {l : List (Ty × Addr × V)} {m : List (NestedKey × Addr × Value)}, Paired BkR l m → KeysOk X.K G l → ∀ x ∈ m, (nestedKind X.prog X.w).is s.heap x.1 x.2.1 := by
    intro l m q
    induction q with
    | nil => intro _ x hx; exact nomatch hx
    | @cons p q ps qs hq t ih =>
      intro hk x hx
      rcases List.mem_cons.mp hx with e' | hx
      · subst e'
        obtain ⟨k1, k2⟩ := hk p List.mem_cons_self
        obtain ⟨b1, b2, _⟩ := hq
        rw [← b1, ← b2]
        exact ⟨rp_key_is I e k1, k2⟩
      · exact ih (fun z hz => hk z (List.mem_cons_of_mem _ hz)) x hx
  exact all r hk
theorem bk_find : ∀ {xs : List (Ty × Addr × V)} {ys : List (NestedKey × Addr × Value)}, Paired BkR xs ys → (xs.find? fun z => decide (z.1 = t)) = none ∧ atKey ys t.key = none ∨ ∃ z p, (xs.find? fun z => decide (z.1 = t)) = some z ∧ atKey ys t.key = some p ∧ RelV z.2.2 p.2
  | _, _, .nil => .inl ⟨rfl, rfl⟩
  | p :: ps, q :: qs, .cons h r => by
    by_cases e : p.1 = t
    · refine .inr ⟨p, q.2, by simp [e], ?_, h.2.2⟩
      have : q.1 = t.key := by rw [← h.1, e]
      simp [atKey, this]
    · have hq : ¬ q.1 = t.key := fun z => e (Ty.key_inj (h.1.trans z))
      rcases bk_find r with ⟨h1, h2⟩ | ⟨z, p', h1, h2, h3⟩
      · exact .inl ⟨by rw [List.find?_cons_of_neg (by simpa using e)]; exact h1, by unfold atKey at h2 ⊢; rw [List.find?_cons_of_neg (by simpa using hq)]; exact h2⟩
      · exact .inr ⟨z, p', by rw [List.find?_cons_of_neg (by simpa using e)]; exact h1, by unfold atKey at h2 ⊢; rw [List.find?_cons_of_neg (by simpa using hq)]; exact h2, h3⟩
end
def putB (xs : List (Ty × Addr × V)) (t : Ty) (a : Addr) (v : V) : List (Ty × Addr × V) := if (xs.find? fun z => decide (z.1 = t)).isSome = true then xs.map (fun z => if z.1 = t then (z.1, z.2.1, v) else z) else xs ++ [(t, a, v)]
theorem putB_mem {xs : List (Ty × Addr × V)} {t : Ty} {a : Addr} {v : V} {z : Ty × Addr × V} (h : z ∈ putB xs t a v) : z ∈ xs ∨ (z.1 = t ∧ z.2.2 = v ∧ (z.2.1 = a ∨ ∃ y ∈ xs, y.1 = t ∧ y.2.1 = z.2.1)) := by
  unfold putB at h
  split at h
  · obtain ⟨y, hy, rfl⟩ := List.mem_map.mp h
    split
    · rename_i e
      exact .inr ⟨e, rfl, .inr ⟨y, hy, e, rfl⟩⟩
    · exact .inl hy
  · rcases List.mem_append.mp h with q | q
    · exact .inl q
    · rw [List.mem_singleton.mp q]
      exact .inr ⟨rfl, rfl, .inl rfl⟩
theorem putB_keys {xs : List (Ty × Addr × V)} {t : Ty} {a : Addr} {v : V} : (putB xs t a v).map (·.1) = if (xs.find? fun z => decide (z.1 = t)).isSome = true then xs.map (·.1) else xs.map (·.1) ++ [t] := by
  unfold putB
  split
  · rw [List.map_map]
    refine List.map_congr_left fun z _ => ?_
    simp only [Function.comp]
    split <;> rfl
  · simp
theorem putB_find {xs : List (Ty × Addr × V)} {t : Ty} {a : Addr} {v : V} : ∃ z, ((putB xs t a v).find? fun z => decide (z.1 = t)) = some z := by
  unfold putB
  cases h : xs.find? fun z => decide (z.1 = t) with
  | none => exact ⟨(t, a, v), by simp [List.find?_append, h]⟩
  | some y =>
    rw [if_pos (by rfl)]
    have hy : y.1 = t := by simpa using List.find?_some h
    have hm := List.mem_of_find?_eq_some h
    cases q : (xs.map fun z => if z.1 = t then (z.1, z.2.1, v) else z).find? fun z => decide (z.1 = t) with
    | some z => exact ⟨z, rfl⟩
    | none =>
      have := List.find?_eq_none.mp q _ (List.mem_map_of_mem (f := fun z => if z.1 = t then (z.1, z.2.1, v) else z) hm)
      simp [hy] at this
section
variable {X : Cx} (K : PySem.W.Frag) (P : Program) (w : World)
/-- t not in d -/
def rBkN : R2 := fun x y H Q => ∃ (a d : Addr) (t : Ty) (xs : List (Ty × Addr × V)) (G : Hp), x = .ref a ∧ y = .ref d ∧ H d = some (bkHO P w d xs) ∧ Same G H ∧ Rp K G (.ref a) t.py ∧ t.key.depth ≤ 8 ∧ KeysOk K G xs ∧ Q (.bl (xs.find? fun z => decide (z.1 = t)).isNone) H
/-- d[t], there -/
def rBkG : R2 := fun x y H Q => ∃ (a d : Addr) (t : Ty) (xs : List (Ty × Addr × V)) (G : Hp) (z : Ty × Addr × V), x = .ref d ∧ y = .ref a ∧ H d = some (bkHO P w d xs) ∧ Same G H ∧ Rp K G (.ref a) t.py ∧ t.key.depth ≤ 8 ∧ KeysOk K G xs ∧ (xs.find? fun z => decide (z.1 = t)) = some z ∧ Q z.2.2 H
/-- d[t] = v -/
def rBkS : TSet := fun o i v H Q => ∃ (a d : Addr) (t : Ty) (xs : List (Ty × Addr × V)) (G : Hp), o = .ref d ∧ i = .ref a ∧ H d = some (bkHO P w d xs) ∧ Same G H ∧ Rp K G (.ref a) t.py ∧ t.key.depth ≤ 8 ∧ KeysOk K G xs ∧ xs.length < 1000 ∧ Q (upd H d (bkHO P w d (putB xs t a v)))
variable (hK : X.K = K) (hP : X.prog = P) (hw : X.w = w)
include hK hP hw
theorem op_bkN (hu : X.A.units + 65 < cLine) : OpR X (compareOp .NotIn) (rBkN K P w) := by
  subst hK hP hw
  intro pins s σ H x y v u Q I rx ry h
  obtain ⟨a, d, t, xs, G, rfl, rfl, hd, e, ht, h8, hk, q⟩ := h
  cases rx
  cases ry
  obtain ⟨h1, h2, ys, r, hm⟩ := bk_at I e hd hk
  have hkey : (nestedKind X.prog X.w).is s.heap t.key a := ⟨rp_key_is I e ht, h8⟩
  refine wpAny_notIn_heap (show X.A.in1.units + 8 < cLine from ?_) hkey h2 hm ⟨.bl (!(atKey ys t.key).isSome), H, I.tok _, rfl, ?_⟩
  · have : X.A.in1.units ≤ X.A.units + 1 := by first | exact Nat.le_refl _ | (simp [Around.in1]) | (unfold Around.in1; simp)
    omega
  · rcases bk_find (t := t) r with ⟨z1, z2⟩ | ⟨z, p, z1, z2, _⟩
    · rw [z2]
      rw [z1] at q
      exact q
    · rw [z2]
      rw [z1] at q
      exact q
theorem ix_bk (hu : X.A.units + 65 < cLine) : IxR X (rBkG K P w) := by
  subst hK hP hw
  intro value slice pins s σ H x y v u Q I rx ry h hs
  obtain ⟨a, d, t, xs, G, z, rfl, rfl, hd, e, ht, h8, hk, hz, q⟩ := h
  cases rx
  cases ry
  obtain ⟨h1, h2, ys, r, hm⟩ := bk_at I e hd hk
  have hkey : (nestedKind X.prog X.w).is s.heap t.key a := ⟨rp_key_is I e ht, h8⟩
  rcases bk_find (t := t) r with ⟨z1, z2⟩ | ⟨z', p, z1, z2, z3⟩
  · rw [z1] at hz
    cases hz
  · rw [z1] at hz
    cases hz
    refine tail_any hm.typeIs PySem.F.slot_dict_getitem.lookup (wpAny_getItem_heap (show X.A.in1.units + 8 < cLine from ?_) hkey hm z2 ⟨_, H, I.tok _, z3, q⟩) hs
    have : X.A.in1.units ≤ X.A.units + 1 := by first | exact Nat.le_refl _ | (simp [Around.in1]) | (unfold Around.in1; simp)
    omega
theorem set_bk (hu : X.A.units + 65 < cLine) : PSet X (rBkS K P w) := by
  subst hK hP hw
  intro pins s σ H o i v ov iv u Q I ro ri rv h
  obtain ⟨a, d, t, xs, G, rfl, rfl, hd, e, ht, h8, hk, hl, q⟩ := h
  cases ro
  cases ri
  obtain ⟨h1, h2, ys, r, hm⟩ := bk_at I e hd hk
  have hkey : (nestedKind X.prog X.w).is s.heap t.key a := ⟨rp_key_is I e ht, h8⟩
  have hyl := Paired.length r
  refine wpAny_setItem_heap (hsz := by rw [← hyl]; exact Nat.le_trans h1 (by decide)) (show X.A.in1.units + 8 < cLine from ?_) hkey hm fun h' hm' hs => ⟨_, ?_, q⟩
  · have : X.A.in1.units ≤ X.A.units + 1 := by first | exact Nat.le_refl _ | (simp [Around.in1]) | (unfold Around.in1; simp)
    omega
  obtain ⟨ob, es, ep, hq, c1, c2, c3, _, c5⟩ := hm'
  have hpl : (putB xs t a v).length ≤ 1000 := by
    have : (putB xs t a v).length ≤ xs.length + 1 := by
      unfold putB
      split <;> simp
    omega
  refine d_write I (by rw [hd]; exact True.intro) hs ⟨ob, hq⟩ (BkP.ok ⟨hpl, h2, _, ?_, ob, es, ep, hq, c1, c2, c3, c5⟩)
  unfold putB
  rcases bk_find (t := t) r with ⟨z1, z2⟩ | ⟨z', p, z1, z2, z3⟩
  · rw [storedH_new z2, z1]
    exact Paired.snoc r ⟨rfl, rfl, rv⟩
  · rw [storedH_old z2, z1, if_pos (by rfl)]
    have all : ∀ {l : List (Ty × Addr × V)} {m : List (NestedKey × Addr × Value)}, Paired BkR l m → Paired BkR (l.map fun z => if z.1 = t then (z.1, z.2.1, v) else z) (m.map (putAt t.key u)) := by
      intro l m q
      induction q with
      | nil => exact .nil
      | @cons p q ps qs hq _ ih =>
        refine .cons ?_ ih
        obtain ⟨b1, b2, b3⟩ := hq
        unfold putAt
        show BkR (if p.1 = t then (p.1, p.2.1, v) else p) _
        by_cases e : p.1 = t
        · rw [if_pos e, if_pos (by rw [← b1, e])]
          exact ⟨b1, b2, rv⟩
        · rw [if_neg e, if_neg (fun z => e (Ty.key_inj (b1.trans z)))]
          exact ⟨b1, b2, b3⟩
    exact all r
omit hK in
/-- {} -/
theorem pe_dnewB {pos : Pos} : PE X (.Dict [] [] pos) (fun _ H Q => ∀ p, H p = none → Q (.ref p) (upd H p (bkHO P w p []))) := by
  subst hP hw
  exact ⟨fun pins s σ H Q I h => wpAny_Dict_empty ⟨.ref s.heap.objs.size, _, I.laid (a := s.heap.objs.size) (o := bkHO X.prog X.w s.heap.objs.size []) (t' := s.toks) (fun _ _ q => Heap.get?_push_of_some _ q) (Nat.le_refl _)
    (BkP.ok ⟨Nat.zero_le _, beq_eq_false_iff_ne.mpr (Ne.symm (Nat.ne_of_lt I.big)), [], .nil, _, #[], 0, Heap.get?_push_size _ rfl, ⟨rfl, rfl, rfl⟩, rfl, rfl, List.nodup_nil⟩), rfl, h _ (I.hok.fresh (Nat.le_refl _))⟩⟩
end
end K82

set_option Elab.async false
set_option linter.all false
set_option maxRecDepth 100000
set_option maxHeartbeats 4000000
/-! Elements of types, plainly; law: below. -/
namespace K82
open PySem L2 PyProof.Rows
mutual
def belowD : PyData → PyData → Bool
  | .tuple a, .tuple b => belowDs a b
  | .none, _ => true
  | .int i, .int j => decide (i = j)
  | _, _ => false
def belowDs : List PyData → List PyData → Bool
  | a :: l, b :: r => belowD a b && belowDs l r
  | _, _ => true
end
theorem belowDs_zip : ∀ a b : List PyData, belowDs a b = ((a.zip b).map fun p => belowD p.1 p.2).all id
  | [], _ => by simp [belowDs]
  | _ :: _, [] => by simp [belowDs]
  | x :: l, y :: r => by
    rw [belowDs, belowDs_zip l r, List.zip_cons_cons, List.map_cons, List.all_cons]
    rfl
def flatD (d : PyData) : Prop := d = .none ∨ ∃ i, d = .int i
/-- two elements of one type -/
def ElP : Nat → PyData → PyData → Prop
  | 0, _, _ => False
  | n + 1, a, b => (flatD a ∧ flatD b) ∨ ∃ as bs, a = .tuple as ∧ b = .tuple bs ∧ as.length = bs.length ∧ as.length < 100000 ∧ ∀ p ∈ as.zip bs, ElP n p.1 p.2
def kN : PyData → Nat
  | .int k => k.toNat
  | _ => 0
def underD (ins : List PyData) (i : Nat) : List PyData := (rints 0 i).filter fun d => belowD (ins.getD (kN d) .none) (ins.getD i .none)
def overD (ins : List PyData) (i : Nat) : List PyData := (rints 0 i).filter fun d => belowD (ins.getD i .none) (ins.getD (kN d) .none)
def okD (ins : List PyData) (i : Nat) (tb : List PyData) (o : PyData) : Bool := ((underD ins i).map fun d => belowD (tb.getD (kN d) .none) o).all id && ((overD ins i).map fun d => belowD o (tb.getD (kN d) .none)).all id
def nextD (ins outs : List PyData) (i : Nat) (tb : List PyData) : List (List PyData) := (outs.filter (okD ins i tb)).map fun o => tb ++ [o]
def tabs (ins outs : List PyData) : Nat → List (List PyData)
  | 0 => [[]]
  | i + 1 => (tabs ins outs i).flatMap (nextD ins outs i)
def allD (m : Nat) : Ty → List PyData
  | .nil => .none :: rints 0 m
  | .cons a r => (tabs (allD m a) (allD m r) (allD m a).length).map .tuple
/-- may be told in full -/
def aff (m : Nat) : Ty → Prop
  | .nil => True
  | .cons a r => aff m a ∧ aff m r ∧ (allD m r).length ^ (allD m a).length < 200001
def elO (m : Nat) : Ty → PyData → Prop
  | .nil, d => flatD d
  | .cons a r, d => ∃ l, d = .tuple l ∧ l.length = (allD m a).length ∧ ∀ x ∈ l, elO m r x
theorem tabs_mem {ins outs : List PyData} : ∀ (i : Nat) (tb : List PyData), tb ∈ tabs ins outs i → tb.length = i ∧ ∀ x ∈ tb, x ∈ outs
  | 0, tb, h => by
    simp [tabs] at h
    subst h
    simp
  | i + 1, tb, h => by
    rw [tabs] at h
    obtain ⟨t0, h0, h1⟩ := List.mem_flatMap.mp h
    obtain ⟨o, ho, rfl⟩ := List.mem_map.mp h1
    obtain ⟨a1, a2⟩ := tabs_mem i t0 h0
    refine ⟨by simp [a1], fun x hx => ?_⟩
    rcases List.mem_append.mp hx with q | q
    · exact a2 x q
    · rw [List.mem_singleton.mp q]
      exact (List.mem_filter.mp ho).1
theorem flatMap_len {α β : Type} {f : α → List β} {n : Nat} : ∀ {l : List α}, (∀ a ∈ l, (f a).length ≤ n) → (l.flatMap f).length ≤ l.length * n
  | [], _ => by simp
  | a :: l, h => by
    rw [List.flatMap_cons, List.length_append, List.length_cons, Nat.succ_mul]
    have h1 := h a (by simp)
    have h2 := flatMap_len (l := l) fun b hb => h b (by simp [hb])
    omega
theorem tabs_len {ins outs : List PyData} : ∀ i : Nat, (tabs ins outs i).length ≤ outs.length ^ i
  | 0 => by simp [tabs]
  | i + 1 => by
    rw [tabs, Nat.pow_succ]
    refine Nat.le_trans (flatMap_len (n := outs.length) fun tb _ => ?_) (Nat.mul_le_mul_right _ (tabs_len i))
    unfold nextD
    rw [List.length_map]
    exact List.length_filter_le _ _
theorem allD_el {m : Nat} : ∀ (k : Ty), ∀ d ∈ allD m k, elO m k d
  | .nil, d, h => by
    rw [allD] at h
    rcases List.mem_cons.mp h with rfl | h
    · exact .inl rfl
    · unfold rints at h
      obtain ⟨i, _, rfl⟩ := List.mem_map.mp h
      exact .inr ⟨_, rfl⟩
  | .cons a r, d, h => by
    rw [allD] at h
    obtain ⟨tb, htb, rfl⟩ := List.mem_map.mp h
    obtain ⟨h1, h2⟩ := tabs_mem _ tb htb
    exact ⟨tb, rfl, h1, fun x hx => allD_el r x (h2 x hx)⟩
/-- short tables all the way -/
def shTy (m : Nat) : Ty → Prop
  | .nil => True
  | .cons a r => (allD m a).length < 100000 ∧ shTy m r
theorem elO_el {m : Nat} : ∀ (k : Ty) (a b : PyData), shTy m k → elO m k a → elO m k b → ElP (k.l.length + 1) a b
  | .nil, a, b, _, ha, hb => .inl ⟨ha, hb⟩
  | .cons s r, a, b, hs, ⟨l, ha, hl, hla⟩, ⟨l', hb, hl', hlb⟩ => by
    refine .inr ⟨l, l', ha, hb, by omega, by rw [hl]; exact hs.1, fun p hp => ?_⟩
    have q := List.of_mem_zip (a := p.1) (b := p.2) hp
    exact elO_el r p.1 p.2 hs.2 (hla _ q.1) (hlb _ q.2)
section
variable {P : Program} {w : World} {K : PySem.W.Frag} {mg : Str → Option Value} {base : Heap}
theorem ok_law_below (T : Txt K mg) : ∀ n, FnOk P w K mg base CX0 (n + 1) T.law_below.f T.law_below.fd ["one", "other"] (sp2 K (fun a b => .bool (belowD a b)) (ElP n))
  | 0 => fn_no (by
    rintro vs H Q E ⟨_, _, _, _, _, _, ⟨x, y, _, h, _⟩, _⟩
    exact h)
  | n + 1 => by
    have g_law_below : FnOk P w K mg base CX0 (n + 1) _ _ _ _ := ok_law_below T n
    refine ok2 T.law_below sc_law_below fun cdv Ar outer s H Q E v u G a b hr e r r2 hA k => ?_
    refine ⟨_, (pss_cons (ps_if (pt_val (pe_callB call_isiX rfl T.z_isinstance (by decide +kernel) (pa_cons (pv 0) (pa_cons (pe_bltn (v := .ty "tuple") rfl T.z_tuple (by decide +kernel) rfl) pa_nil)))) (pss_one (ps_ret (pe_callB (cr_all rfl) rfl T.z_all (by decide +kernel) (pa_cons (pe_lc (own := [("mine", 2), ("theirs", 3)]) (g := _) (tt := tYes) rfl sc_law_below.nd (RZ.pi_zipA (by rfl) T.z_zip (pa_cons (pv 0) (pa_cons (pv 1) pa_nil))) (blkOk_by (N := ["one", "other", "mine", "theirs"]) (sc := defScope s_law_below) (by decide +kernel)) (fun _ _ _ _ _ => (pg_tupK (n := 2) K rfl rfl (pgs_cons (pg_name (i := 2) sc_law_below.nd rfl (Or.inl rfl)) (pgs_cons (pg_name (i := 3) sc_law_below.nd rfl (Or.inl rfl)) pgs_nil)))) (fun _ _ _ _ _ => pts_nil) (fun _ _ _ _ _ => (pe_call g_law_below (hr.mono (by omega)) rfl T.law_below.m T.law_below.F.kp T.law_below.b .nil pass0 (pa_cons (pv 2) (pa_cons (pv 3) pa_nil))))) pa_nil)))) pss_nil)
      (pss_one (ps_ret (pe_or (pe_cmpR op_isNX (pv 0) pe_non (nomark _)) (pe_one (pe_cmpR (op_eqX hr.units) (pv 0) (pv 1) (nomark _))))))), ?_⟩
    refine ds_seq ?_
    rcases hA with ⟨ha, hb⟩ | ⟨as, bs, rfl, rfl, hl, hz, hp⟩
    · refine ds_if (b := false) e (DvT.is (dvt_B (dv_isi .tuple (dv_var rfl r))) (by rcases ha with rfl | ⟨i, rfl⟩ <;> rfl)) (fun h => by cases h) fun _ G1 H1 e1 => ?_
      unfold tNext
      dsimp only
      refine ds_ret (K := K) (d := .bool (belowD a b)) e1.gh (Dv.is (dv_or (b := isN a) (c := PyData.eqv a b) (dv_isN (dv_var rfl (e1.rp r))) fun h => dv_eq (dv_var rfl (e1.rp r)) (dv_var rfl (e1.rp r2)) ?_) ?_) fun v G2 H2 e2 q => k v G2 H2 (e1.trans e2) q
      · rcases ha with rfl | ⟨i, rfl⟩ <;> rcases hb with rfl | ⟨j, rfl⟩ <;> rfl
      · rcases ha with rfl | ⟨i, rfl⟩ <;> rcases hb with rfl | ⟨j, rfl⟩ <;> first | rfl | (rw [eqv_int]; rfl)
    · refine ds_if (b := true) e (DvT.is (dvt_B (dv_isi .tuple (dv_var rfl r))) rfl) (fun _ G1 H1 e1 => ?_) fun h => by cases h
      refine ds_ret (K := K) (d := .bool (belowD (.tuple as) (.tuple bs))) e1.gh (Dv.is (dv_all (bs := (as.zip bs).map fun p => belowD p.1 p.2) (Dv.is (dv_lcP (n := 0) (f := fun d => match d with | .tuple [x, y] => .bool (belowD x y) | _ => .none) (by decide) (dvi_zip (dv_var rfl (e1.rp r)) (dv_var rfl (e1.rp r2)) (.inr ⟨rfl, rfl⟩) hl) (by simp [zips]; omega) (fun d hd => ?_) fun x y hxy vx vy G3 H3 e3 qx qy => ?_) ?_)) ?_) fun v G2 H2 e2 q => k v G2 H2 (e1.trans e2) q
      · unfold zips at hd
        obtain ⟨p, _, rfl⟩ := List.mem_map.mp hd
        exact ⟨_, _, rfl⟩
      · unfold zips at hxy
        obtain ⟨p, hp', he⟩ := List.mem_map.mp hxy
        cases he
        exact dv_call2 (f := fun a b => .bool (belowD a b)) (dv_var rfl qx) (dv_var rfl qy) (hp p hp')
      · unfold zips
        rw [List.map_map, List.map_map]
        rfl
      · rw [belowD, belowDs_zip]
end
end K82

set_option Elab.async false
set_option linter.all false
set_option maxRecDepth 100000
set_option maxHeartbeats 4000000
/-! law: all, with its book. -/
namespace K82
open PySem L2 PyProof.Rows
section
variable {σ : L2.St} {i j n : Nat} {x : Option V} {v : Option (Option V)}
theorem sg (h : σ[j]? = v) (hij : i ≠ j := by decide) : (σ.set i x)[j]? = v := (List.getElem?_set_ne hij).trans h
theorem sgx (hl : σ.length = n) (hi : i < n := by decide) : (σ.set i x)[i]? = some x := List.getElem?_set_self (by omega)
theorem sgl (hl : σ.length = n) : (σ.set i x).length = n := by simpa using hl
end
section
variable {K : PySem.W.Frag} {σ : L2.St} {G H : Hp} {te ta tb : TE} {d : PyData} {i : Nat} {E : Ends} {p : Addr} {xs : List V}
theorem dv_lstRg {n : Nat} (hn : n ≤ 1000) (h : Dv K te σ G H (.int n)) : Dv K (tLstRg (tRg1 te)) σ G H (.list (rints 0 n)) := fun G1 H1 e Q k => h G1 H1 e _ fun v G2 H2 e2 q => by
  cases q
  refine ⟨n, rfl, RgOk.of_le (by omega) (by omega) (by omega) (by omega), fun q hq => k _ _ _ (e2.alloc hq _) (.lst upd_same ?_)⟩
  unfold rgV rints
  rw [show ((n : Int) - 0).toNat = n by omega]
  have all : ∀ (G : Hp) (l : List Nat), RpAll K G (l.map fun i => V.int (0 + (i : Nat))) (l.map fun (k : Nat) => PyData.int (0 + ((k : Nat) : Int))) := fun G l => by
    induction l with
    | nil => exact .nil
    | cons a l ih => exact .cons (.int _) ih
  exact all _ _
/-- x.append(e), of longer lists -/
theorem ds_appB (e : Same G H) (hs : σ[i]? = some (some (.ref p))) (hp : H p = some (.lst xs)) (hz : xs.length < 1000000) (h : Dv K te σ G H d) (k : ∀ y G1 H1, Ext G H G1 H1 → Rp K G1 y d → E.nx σ (upd H1 p (.lst (xs ++ [y])))) :
    tDrop (tBM K "list" rAppend (tVar i) (tCons te tNil)) E σ H := ⟨.ref p, hs, .inl ⟨rfl, xs, SqL.of hp⟩, h G H (Up.refl e) _ fun y G1 H1 e1 q => ⟨p, xs, y, rfl, rfl, e1.hh _ _ hp, Nat.lt_of_lt_of_le hz (by decide), k y G1 H1 e1 q⟩⟩
end
/-- the book at ba: the elements of some types -/
structure BJ (K : PySem.W.Frag) (P : Program) (w : World) (m : Nat) (ba : Addr) (G H : Hp) (xs : List (Ty × Addr × V)) : Prop where
  g : G ba = none
  h : H ba = some (bkHO P w ba xs)
  ks : KeysOk K G xs
  nd : (xs.map (·.1)).Nodup
  ts : ∀ z ∈ xs, z.1 ∈ TS ∧ Rp K G z.2.2 (.list (allD m z.1))
def BW (K : PySem.W.Frag) (P : Program) (w : World) (i : Nat × Addr) : Wd where
  M := Unit
  W := fun b => b = i.2
  J := fun _ G H => ∃ xs, BJ K P w i.1 i.2 G H xs
  mono := fun {_ G H G' H'} j g w f => by
    obtain ⟨xs, j⟩ := j
    exact ⟨xs, f i.2 rfl j.g (by rw [j.h]; simp), w i.2 _ rfl j.h, fun z hz => ⟨Rp.mono g _ _ (j.ks z hz).1, (j.ks z hz).2⟩, j.nd, fun z hz => ⟨(j.ts z hz).1, Rp.mono g _ _ (j.ts z hz).2⟩⟩
  alive := fun {_ G H} j b e => by
    obtain ⟨xs, j⟩ := j
    cases e
    rw [j.h]
    simp
  free := fun {_ G H} j b e => by
    obtain ⟨xs, j⟩ := j
    cases e
    exact j.g
theorem BJ.len {K : PySem.W.Frag} {P : Program} {w : World} {m : Nat} {ba : Addr} {G H : Hp} {xs : List (Ty × Addr × V)} (j : BJ K P w m ba G H xs) : xs.length ≤ 5 := by
  have := nodup_sub (xs.map (·.1)) TS j.nd fun x hx => by
    obtain ⟨z, hz, rfl⟩ := List.mem_map.mp hx
    exact (j.ts z hz).1
  simpa [TS] using this
def Ty.sz : Ty → Nat
  | .nil => 0
  | .cons a r => a.sz + r.sz + 1
theorem ts_cons {a r : Ty} (h : Ty.cons a r ∈ TS) : k01 a ∧ k01 r := by
  simp only [TS, K1, List.mem_cons, List.not_mem_nil, or_false, Ty.cons.injEq, reduceCtorEq, false_or] at h
  rcases h with ⟨rfl, rfl⟩ | ⟨rfl, rfl⟩ | ⟨rfl, rfl⟩ | ⟨rfl, rfl⟩
  · exact ⟨.inl rfl, .inl rfl⟩
  · exact ⟨.inl rfl, .inr rfl⟩
  · exact ⟨.inr rfl, .inl rfl⟩
  · exact ⟨.inr rfl, .inr rfl⟩
theorem ts_key {k : Ty} (h : k ∈ TS) : k.key.depth ≤ 8 := by
  simp only [TS, List.mem_cons, List.not_mem_nil, or_false] at h
  rcases h with rfl | rfl | rfl | rfl | rfl <;> decide
theorem ts_d {k : Ty} (h : k ∈ TS) : k.d ≤ 60 := by
  simp only [TS, List.mem_cons, List.not_mem_nil, or_false] at h
  rcases h with rfl | rfl | rfl | rfl | rfl <;> decide
theorem allD_len {m : Nat} (hm : m ≤ 3) {k : Ty} (h : k01 k) : (allD m k).length ≤ 256 := by
  have h0 : (allD m .nil).length = m + 1 := by simp [allD, rints]
  rcases h with rfl | rfl
  · omega
  · unfold K1
    rw [allD, List.length_map]
    refine Nat.le_trans (tabs_len _) ?_
    rw [h0]
    have : m = 0 ∨ m = 1 ∨ m = 2 ∨ m = 3 := by omega
    rcases this with rfl | rfl | rfl | rfl <;> decide
theorem allD_pos {m : Nat} (hm1 : 1 ≤ m) (hm : m ≤ 3) {k : Ty} (h : k01 k) : 0 < (allD m k).length := by
  rcases h with rfl | rfl
  · simp [allD]
  · have : m = 1 ∨ m = 2 ∨ m = 3 := by omega
    rcases this with rfl | rfl | rfl <;> decide +kernel
theorem ElP.up : ∀ {n : Nat} {a b : PyData}, ElP n a b → ElP (n + 1) a b
  | 0, _, _, h => h.elim
  | n + 1, a, b, h => by
    rcases h with h | ⟨as, bs, h1, h2, h3, h4, h5⟩
    · exact .inl h
    · exact .inr ⟨as, bs, h1, h2, h3, h4, fun p hp => (h5 p hp).up⟩
theorem el2 {m : Nat} (hm : m ≤ 3) {k : Ty} (h : k01 k) {a b : PyData} (ha : a ∈ allD m k) (hb : b ∈ allD m k) : ElP 2 a b := by
  have hs : shTy m k := by
    have h0 : (allD m .nil).length = m + 1 := by simp [allD, rints]
    rcases h with rfl | rfl
    · exact trivial
    · exact ⟨by omega, trivial⟩
  have q := elO_el k a b hs (allD_el k a ha) (allD_el k b hb)
  rcases h with rfl | rfl
  · exact q.up
  · exact q
theorem rints_mem {n : Nat} {d : PyData} (h : d ∈ rints 0 n) : ∃ k : Nat, k < n ∧ d = .int k := by
  unfold rints at h
  obtain ⟨k, hk, rfl⟩ := List.mem_map.mp h
  exact ⟨k, List.mem_range.mp hk, by simp⟩
theorem atI_getD {l : List PyData} {k : Nat} (h : k < l.length) : atI l (k : Int) = some (l.getD k .none) := by
  unfold atI ixN
  rw [if_pos (by omega), if_pos (by omega)]
  simp [List.getElem?_eq_getElem h, List.getD]
theorem getD_mem {l : List PyData} {k : Nat} (h : k < l.length) : l.getD k .none ∈ l := by
  simp [List.getD, List.getElem?_eq_getElem h]
section
variable {P : Program} {w : World} {K : PySem.W.Frag} {mg : Str → Option Value} {base : Heap}
abbrev spAl (K : PySem.W.Frag) (P : Program) (w : World) (n : Nat) : Sp := spM K 3 (BW K P w) fun i as _ R => ∃ k, as = [.raw (.ref i.2), .pd (.int i.1), .pd (Ty.py k)] ∧ k ∈ TS ∧ aff i.1 k ∧ k.sz < n ∧ 1 ≤ i.1 ∧ i.1 ≤ 3 ∧ R (.list (allD i.1 k)) ()
theorem ok_law_all (T : Txt K mg) : ∀ n, FnOk P w K mg base CX0 (n + 5) T.law_all.f T.law_all.fd ["book", "many", "kind"] (spAl K P w n)
  | 0 => fn_no (by
    rintro vs H Q E ⟨_, i, G, as, _, R, _, _, _, ⟨k, _, _, _, h, _⟩, _⟩
    omega)
  | n + 1 => by
    have g_law_all : FnOk P w K mg base CX0 (n + 5) _ _ _ _ := ok_law_all T n
    have g_law_below : FnOk P w K mg base CX0 3 _ _ _ _ := ok_law_below T 2
    refine T.law_all.F.ok sc_law_all (fun vs H Q E z => z.1) (fun cdv Ar outer s H vs Q E hr z => ?_)
    obtain ⟨_, ⟨m, ba⟩, G, as, u, R, e, j, r, ⟨kd, rfl, hts, haf, hsz, hm1, hm3, hR⟩, k⟩ := z
    cases u
    have hm1 : 1 ≤ m := hm1
    have hm3 : m ≤ 3 := hm3
    have haf : aff m kd := haf
    have hR : R (.list (allD m kd)) () := hR
    cases r with
    | @cons v1 _ _ _ r1 r =>
    cases r with
    | @cons v2 _ _ _ r2 r =>
    cases r with
    | @cons v3 _ _ _ r3 r =>
    cases r
    cases (show v1 = .ref ba from r1)
    have r2 : Rp K G v2 (.int m) := r2
    have r3 : Rp K G v3 kd.py := r3
    obtain ⟨ka, rfl⟩ : ∃ ka, v3 = .ref ka := by cases r3; exact ⟨_, rfl⟩
    have h8 := ts_key hts
    refine ⟨_, (pss_cons (ps_if (pt_cmpR (op_bkN K P w rfl rfl rfl (hu65 hr)) (pv 2) (pv 0) rfl) (pss_cons (ps_set (i := 3) sc_law_all.nd rfl (Or.inl rfl) (pe_lst (pa_cons (pe_tup pa_nil) pa_nil)))
      (pss_cons (ps_if (pt_cmpR (op_eqX hr.units) (pv 2) (pe_tup pa_nil) (nomark _)) (pss_cons (ps_asg (pe_op op_addX (pe_lst (pa_cons pe_non pa_nil)) (pe_listRg rfl rfl T.z_list (prg_1 rfl T.z_range (pv 1)))) (pg_sub (pv 0) (pv 2) (set_bk K P w rfl rfl rfl (hu65 hr))))
      (pss_one (ps_ret (pe_ix (ix_bk K P w rfl rfl rfl (hu65 hr)) (pv 0) (pv 2) (fun _ _ => rfl))))) pss_nil)
      (pss_cons (ps_asg (pe_tup (pa_cons (pe_call g_law_all (hr.mono (by omega)) rfl T.law_all.m T.law_all.F.kp T.law_all.b .nil pass0 (pa_cons (pv 0) (pa_cons (pv 1) (pa_cons (pe_ix ix_seq (pv 2) pe_int (fun _ _ => rfl)) pa_nil)))) (pa_cons (pe_call g_law_all (hr.mono (by omega)) rfl T.law_all.m T.law_all.F.kp T.law_all.b .nil pass0 (pa_cons (pv 0) (pa_cons (pv 1) (pa_cons (pe_slice sl_X (pv 2) (po_some pe_int) po_none) pa_nil)))) pa_nil))) (pg_tup rfl (pgs_cons (pg_name (i := 4) sc_law_all.nd rfl (Or.inr rfl)) (pgs_cons (pg_name (i := 5) sc_law_all.nd rfl (Or.inl rfl)) pgs_nil))))
      (pss_cons (ps_for PassesOwn.never rfl (pi_enum (by rfl) T.z_enumerate (pa_cons (pv 4) pa_nil)) (pg_tup rfl (pgs_cons (pg_name (i := 6) sc_law_all.nd rfl (Or.inl rfl)) (pgs_cons (pg_name (i := 7) sc_law_all.nd rfl (Or.inr rfl)) pgs_nil))) (pss_cons (ps_setLc (i := 8) (own := [("k", 13)]) (g := gName 13) rfl sc_law_all.nd rfl rfl (sw_true rfl rfl rfl (by decide +kernel)) (pi_range1 rfl T.z_range (pa_cons (pv 6) pa_nil)) (blkOk_by (N := ["book", "many", "kind", "found", "ins", "outs", "at", "one", "under", "over", "further", "table", "out", "k"]) (sc := defScope s_law_all) (by decide +kernel)) (fun _ _ _ _ _ => (pg_name (i := 13) sc_law_all.nd rfl (Or.inl rfl))) (fun _ _ _ _ _ => pts_one (pt_val (pe_call g_law_below (hr.mono (by omega)) rfl T.law_below.m T.law_below.F.kp T.law_below.b .nil pass0 (pa_cons (pe_ix (ix_K K rfl) (pv 4) (pv 13) (fun _ _ => rfl)) (pa_cons (pv 7) pa_nil))))) (fun _ _ _ _ _ => (pv 13)))
      (pss_cons (ps_setLc (i := 9) (own := [("k", 13)]) (g := gName 13) rfl sc_law_all.nd rfl rfl (sw_true rfl rfl rfl (by decide +kernel)) (pi_range1 rfl T.z_range (pa_cons (pv 6) pa_nil)) (blkOk_by (N := ["book", "many", "kind", "found", "ins", "outs", "at", "one", "under", "over", "further", "table", "out", "k"]) (sc := defScope s_law_all) (by decide +kernel)) (fun _ _ _ _ _ => (pg_name (i := 13) sc_law_all.nd rfl (Or.inl rfl))) (fun _ _ _ _ _ => pts_one (pt_val (pe_call g_law_below (hr.mono (by omega)) rfl T.law_below.m T.law_below.F.kp T.law_below.b .nil pass0 (pa_cons (pv 7) (pa_cons (pe_ix (ix_K K rfl) (pv 4) (pv 13) (fun _ _ => rfl)) pa_nil))))) (fun _ _ _ _ _ => (pv 13)))
      (pss_cons (ps_set (i := 10) sc_law_all.nd rfl (Or.inl rfl) (pe_lst pa_nil))
      (pss_cons (ps_for PassesOwn.never rfl (pi_row (pv 3)) (pg_name (i := 11) sc_law_all.nd rfl (Or.inr rfl)) (pss_one (ps_for PassesOwn.never rfl (pi_row (pv 5)) (pg_name (i := 12) sc_law_all.nd rfl (Or.inr rfl)) (pss_one (ps_if (PW.pt (pw_and (pt_val (pe_callB (cr_all rfl) rfl T.z_all (by decide +kernel) (pa_cons (pe_lc (own := [("k", 13)]) (g := gName 13) (tt := tYes) rfl sc_law_all.nd (pi_row (pv 8)) (blkOk_by (N := ["book", "many", "kind", "found", "ins", "outs", "at", "one", "under", "over", "further", "table", "out", "k"]) (sc := defScope s_law_all) (by decide +kernel)) (fun _ _ _ _ _ => (pg_name (i := 13) sc_law_all.nd rfl (Or.inl rfl))) (fun _ _ _ _ _ => pts_nil) (fun _ _ _ _ _ => (pe_call g_law_below (hr.mono (by omega)) rfl T.law_below.m T.law_below.F.kp T.law_below.b .nil pass0 (pa_cons (pe_ix (ix_K K rfl) (pv 11) (pv 13) (fun _ _ => rfl)) (pa_cons (pv 12) pa_nil))))) pa_nil))) (pw_and1 (pt_val (pe_callB (cr_all rfl) rfl T.z_all (by decide +kernel) (pa_cons (pe_lc (own := [("k", 13)]) (g := gName 13) (tt := tYes) rfl sc_law_all.nd (pi_row (pv 9)) (blkOk_by (N := ["book", "many", "kind", "found", "ins", "outs", "at", "one", "under", "over", "further", "table", "out", "k"]) (sc := defScope s_law_all) (by decide +kernel)) (fun _ _ _ _ _ => (pg_name (i := 13) sc_law_all.nd rfl (Or.inl rfl))) (fun _ _ _ _ _ => pts_nil) (fun _ _ _ _ _ => (pe_call g_law_below (hr.mono (by omega)) rfl T.law_below.m T.law_below.F.kp T.law_below.b .nil pass0 (pa_cons (pv 12) (pa_cons (pe_ix (ix_K K rfl) (pv 11) (pv 13) (fun _ _ => rfl)) pa_nil))))) pa_nil)))))) (pss_one (ps_expr (pe_bm PySem.F.plainAttrs_list PySem.F.slot_list_append PySem.F.type_list_append mt_append (pv 10) (pa_cons (pe_callTy call_tupX rfl T.z_tuple (by decide +kernel) (pa_cons (pe_op op_addX (pe_callTy call_lstX rfl T.z_list (by decide +kernel) (pa_cons (pv 11) pa_nil)) (pe_lst (pa_cons (pv 12) pa_nil))) pa_nil)) pa_nil)))) pss_nil)))))
      (pss_one (ps_set (i := 3) sc_law_all.nd rfl (Or.inl rfl) (pv 10))))))))
      (pss_one (ps_asg (pv 3) (pg_sub (pv 0) (pv 2) (set_bk K P w rfl rfl rfl (hu65 hr))))))))) pss_nil)
      (pss_one (ps_ret (pe_ix (ix_bk K P w rfl rfl rfl (hu65 hr)) (pv 0) (pv 2) (fun _ _ => rfl))))), ?_⟩
    have fin : ∀ (σ : L2.St) (G2 H2 : Hp) (xs : List (Ty × Addr × V)) (z : Ty × Addr × V) (D : Ends), σ[0]? = some (some (.ref ba)) → σ[2]? = some (some (.ref ka)) → ExtW (BW K P w (m, ba)).W G H G2 H2 → BJ K P w m ba G2 H2 xs → (xs.find? fun z => decide (z.1 = kd)) = some z → D.rt = Q → tRet (tOp (rBkG K P w) (tVar 0) (tVar 2)) D σ H2 := fun σ G2 H2 xs z D h0 h2 ex jb hz hD => by
      refine ⟨.ref ba, h0, .ref ka, h2, ka, ba, kd, xs, G2, z, rfl, rfl, jb.h, ex.gh, ex.rp r3, h8, jb.ks, hz, ?_⟩
      show D.rt _ _
      rw [hD]
      have hzk : z.1 = kd := by simpa using List.find?_some hz
      have := (jb.ts z (List.mem_of_find?_eq_some hz)).2
      rw [hzk] at this
      exact k _ _ () G2 H2 ex ⟨xs, jb⟩ this hR
    have put : ∀ (σ : L2.St) (G2 H2 : Hp) (xs : List (Ty × Addr × V)) (v : V) (Q2 : L2.St → Hp → Prop), σ[0]? = some (some (.ref ba)) → σ[2]? = some (some (.ref ka)) → ExtW (BW K P w (m, ba)).W G H G2 H2 → BJ K P w m ba G2 H2 xs → Rp K G2 v (.list (allD m kd)) →
        (∀ H3 xs3 z, ExtW (BW K P w (m, ba)).W G H G2 H3 → BJ K P w m ba G2 H3 xs3 → (xs3.find? fun z => decide (z.1 = kd)) = some z → Q2 σ H3) → gSub (tVar 0) (tVar 2) (rBkS K P w) v σ H2 Q2 := fun σ G2 H2 xs v Q2 h0 h2 ex jb hv kk => by
      refine ⟨.ref ba, h0, .ref ka, h2, ka, ba, kd, xs, G2, rfl, rfl, jb.h, ex.gh, ex.rp r3, h8, jb.ks, by have := jb.len; omega, ?_⟩
      obtain ⟨z, hz⟩ := putB_find (xs := xs) (t := kd) (a := ka) (v := v)
      refine kk _ (putB xs kd ka v) z (ex.put rfl jb.g _) ⟨jb.g, upd_same, fun z hzm => ?_, ?_, fun z hzm => ?_⟩ hz
      · rcases putB_mem hzm with q | ⟨q1, q2, q3 | ⟨y, hy, q4, q5⟩⟩
        · exact jb.ks z q
        · rw [q1, q3]
          exact ⟨ex.rp r3, h8⟩
        · have := jb.ks y hy
          rw [q4, q5] at this
          rw [q1]
          exact this
      · rw [putB_keys]
        split
        · exact jb.nd
        · rename_i hn
          rw [List.nodup_append]
          refine ⟨jb.nd, by simp, ?_⟩
          rintro x hx y hy rfl
          simp at hy
          subst hy
          obtain ⟨z, hzm, e⟩ := List.mem_map.mp hx
          apply hn
          rw [List.find?_isSome]
          exact ⟨z, hzm, by simpa using e⟩
      · rcases putB_mem hzm with q | ⟨q1, q2, _⟩
        · exact jb.ts z q
        · rw [q1, q2]
          exact ⟨hts, hv⟩
    obtain ⟨xs, jb⟩ := j
    refine ds_seq ?_
    refine ⟨.ref ka, rfl, .ref ba, rfl, ka, ba, kd, xs, G, rfl, rfl, jb.h, e, r3, h8, jb.ks, _, rfl, ?_⟩
    cases hfd : xs.find? fun z => decide (z.1 = kd) with
    | some z => exact iteF (fin _ G H xs z _ rfl rfl (ExtW.refl e) jb hfd rfl)
    | none =>
    refine iteT ?_
    clear hfd
    refine ds_seq ?_
    refine ds_set (K := K) (d := .list [.tuple []]) e (dv_lst1 (dv_tup dva_nil (Nat.zero_le _))) fun vf0 G1 H1 e1 qf0 => ?_
    dsimp only
    have j1 : (BW K P w (m, ba)).J () G1 H1 := Wd.ext (D := BW K P w (m, ba)) ⟨xs, jb⟩ e1
    clear jb xs
    have q2 := e1.rp r2
    have q3 := e1.rp r3
    refine ds_seq ?_
    refine ds_if (b := decide (kd = .nil)) e1.gh (DvT.is (dvt_test (dv_eq (d' := Ty.nil.py) (dv_var rfl q3) (dv_tup dva_nil (Nat.zero_le _)) (Ty.eqOk (ts_d hts) (by simp [Ty.d])))) (nil_eqv kd)) (fun hnil G2 H2 e2 => ?_) fun hnil G2 H2 e2 => ?_
    · have hnil : kd = .nil := by simpa using hnil
      subst hnil
      refine ds_seq ?_
      refine (dv_addL (K := K) (H := H2) (dv_lst1 dv_non) (dv_lstRg (n := m) (by omega) (dv_var rfl (e2.rp q2))) (by simp [rints]; omega)) G2 H2 (Up.refl e2.gh) _ fun v G3 H3 e3 qv => ?_
      obtain ⟨xs, jb⟩ := Wd.ext (D := BW K P w (m, ba)) (Wd.ext j1 e2) e3
      exact put _ G3 H3 xs v _ rfl rfl ((e1.trans e2).trans e3).w jb qv fun H4 xs4 z ex jb4 hz => fin _ G3 H4 xs4 z _ rfl rfl ex jb4 hz rfl
    obtain ⟨a, c, rfl⟩ : ∃ a c, kd = .cons a c := by
      cases kd with
      | nil => simp at hnil
      | cons a c => exact ⟨a, c, rfl⟩
    obtain ⟨ha01, hc01⟩ := ts_cons hts
    obtain ⟨hafa, hafc, hpow⟩ := haf
    have hszs : a.sz < n ∧ c.sz < n := by
      rw [Ty.sz] at hsz
      omega
    have hal := allD_len hm3 ha01
    have hcl := allD_len hm3 hc01
    have e12 := e1.trans e2
    have q2 := e2.rp q2
    have q3 := e2.rp q3
    refine ds_seq ?_
    refine ms_two (D := BW K P w (m, ba)) (R := fun d _ => d = .tuple [.list (allD m a), .list (allD m c)]) e2.gh (Wd.ext j1 e2) (mv_tup2 (mv_call (mva_raw rfl (mva_cons (mv_dv (dv_var rfl q2) (mva_cons (mv_dv (d := a.py) (dv_ix (dv_var rfl q3) dv_int (ds := a.py :: c.l) rfl at0) (mva_nil ⟨rfl, a, rfl, ha01.ts, hafa, hszs.1, hm1, hm3, mv_call (mva_raw rfl (mva_cons (mv_dv (dv_var rfl q2) (mva_cons (mv_dv (d := c.py) (Dv.is (dv_sl (ds := a.py :: c.l) (dv_var rfl q3) rfl (dvo_some (K := K) dv_int) dvo_none) (congrArg PyData.tuple cutL_tl)) (mva_nil ⟨rfl, c, rfl, hc01.ts, hafc, hszs.2, hm1, hm3, rfl⟩))))))⟩)))))))) (fun d _ h => ⟨_, _, h⟩) fun vi vo da db _ G3 H3 e3 j3 qi qo hd => ?_
    cases hd
    have e03 := e12.w.trans e3
    have q2 := e3.rp q2
    have q3 := e3.rp q3
    have qf0 := (e2.w.trans e3).rp qf0
    generalize hins : allD m a = ins at *
    generalize houts : allD m c = outs at *
    have hiel : ∀ x y, x ∈ ins → y ∈ ins → ElP 2 x y := fun x y hx hy => el2 hm3 ha01 (by rw [hins]; exact hx) (by rw [hins]; exact hy)
    have hoel : ∀ x y, x ∈ outs → y ∈ outs → ElP 2 x y := fun x y hx hy => el2 hm3 hc01 (by rw [houts]; exact hx) (by rw [houts]; exact hy)
    have hall : allD m (.cons a c) = (tabs ins outs ins.length).map .tuple := by rw [allD, hins, houts]
    have htl : ∀ i, i ≤ ins.length → (tabs ins outs i).length < 200001 := fun i hi => by
      refine Nat.lt_of_le_of_lt (tabs_len i) (Nat.lt_of_le_of_lt ?_ hpow)
      refine Nat.pow_le_pow_right ?_ hi
      rw [← houts]
      exact allD_pos hm1 hm3 hc01
    refine ds_seq ?_
    dsimp only
    refine ds_for e3.gh (dvi_enum (xs := ins) (dv_var rfl qi)) fun G4 H4 e4 => ?_
    refine ⟨fun i σ' Gc Hc => σ'[0]? = some (some (.ref ba)) ∧ σ'[2]? = some (some (.ref ka)) ∧ σ'[4]? = some (some vi) ∧ σ'[5]? = some (some vo) ∧ σ'.length = 14 ∧ Same G4 Gc ∧ Ext G3 H3 Gc Hc ∧ ∃ vf, σ'[3]? = some (some vf) ∧ Rp K Gc vf (.list ((tabs ins outs i).map .tuple)),
      fun i σ' Gc Hc ⟨_, _, _, _, _, h1, h2, _⟩ => ⟨h1, h2.gh⟩, ⟨rfl, rfl, rfl, rfl, rfl, Same.refl _, e4, vf0, rfl, e4.rp qf0⟩, ?_, ?_⟩
    · rintro i d σ1 Gc Hc hd ⟨s0, s2, s4, s5, sl, sg1, ec, vf, s3, qf⟩ x G5 H5 ex rx
      obtain ⟨one, hone, rfl⟩ := enums_get hd
      rw [Nat.zero_add] at rx
      have hil : i < ins.length := by
        have := (List.getElem?_eq_some_iff.mp hd).1
        rw [enums_length] at this
        exact this
      have hog : ins.getD i .none = one := by simp [List.getD, hone]
      have hom : one ∈ ins := List.mem_of_getElem? hone
      cases rx with
      | tup h1 h2 =>
      cases h2 with
      | @cons va _ _ _ ra h2 =>
      cases h2 with
      | @cons vb _ _ _ rb h2 =>
      cases h2
      cases ra
      refine ⟨_, _, rfl, Same.sqt ex.gh h1, rfl, _, _, rfl, _, _, rfl, rfl, ?_⟩
      generalize hσ2 : (σ1.set 6 (some (V.int i))).set 7 (some vb) = σ2
      have t0 : σ2[0]? = some (some (.ref ba)) := by rw [← hσ2]; exact sg (sg s0)
      have t2 : σ2[2]? = some (some (.ref ka)) := by rw [← hσ2]; exact sg (sg s2)
      have t3 : σ2[3]? = some (some vf) := by rw [← hσ2]; exact sg (sg s3)
      have t4 : σ2[4]? = some (some vi) := by rw [← hσ2]; exact sg (sg s4)
      have t5 : σ2[5]? = some (some vo) := by rw [← hσ2]; exact sg (sg s5)
      have t6 : σ2[6]? = some (some (.int i)) := by rw [← hσ2]; exact sg (sgx sl)
      have t7 : σ2[7]? = some (some vb) := by rw [← hσ2]; exact sgx (sgl sl)
      have tl : σ2.length = 14 := by rw [← hσ2]; exact sgl (sgl sl)
      have ecx := ec.trans ex
      have qi5 := ecx.rp qi
      have hrl : (rints 0 i).length < 100000 := by
        simp [rints]
        omega
      refine ds_seq ?_
      refine ds_set (K := K) (d := .list (underD ins i)) ex.gh (Dv.is (dv_lc (ds := rints 0 i) (p := fun d => belowD (ins.getD (kN d) .none) (ins.getD i .none)) (f := id) (dvi_range1 (n := i) (dv_var t6 (.int _)) (by omega)) hrl (fun d hd y G1 H1 e1 q => ?_) (fun d hd _ y G1 H1 e1 q => dv_var (sgx tl) q)) (by rw [List.map_id]; rfl)) fun vu G6 H6 e6 qu => ?_
      · obtain ⟨k, hk, rfl⟩ := rints_mem hd
        have hk' : k < ins.length := by omega
        rw [hog]
        exact dvt_B (dv_call2 (f := fun a b => .bool (belowD a b)) (dv_ix (d := ins.getD k .none) (dv_var (sg t4) (e1.rp qi5)) (dv_var (sgx tl) q) rfl (atI_getD hk')) (dv_var (sg t7) (e1.rp rb)) (hiel _ _ (getD_mem hk') hom))
      dsimp only
      generalize hσ3 : σ2.set 8 (some vu) = σ3
      have u0 : σ3[0]? = some (some (.ref ba)) := by rw [← hσ3]; exact sg t0
      have u2 : σ3[2]? = some (some (.ref ka)) := by rw [← hσ3]; exact sg t2
      have u3 : σ3[3]? = some (some vf) := by rw [← hσ3]; exact sg t3
      have u4 : σ3[4]? = some (some vi) := by rw [← hσ3]; exact sg t4
      have u5 : σ3[5]? = some (some vo) := by rw [← hσ3]; exact sg t5
      have u6 : σ3[6]? = some (some (.int i)) := by rw [← hσ3]; exact sg t6
      have u7 : σ3[7]? = some (some vb) := by rw [← hσ3]; exact sg t7
      have u8 : σ3[8]? = some (some vu) := by rw [← hσ3]; exact sgx tl
      have ul : σ3.length = 14 := by rw [← hσ3]; exact sgl tl
      refine ds_seq ?_
      refine ds_set (K := K) (d := .list (overD ins i)) e6.gh (Dv.is (dv_lc (ds := rints 0 i) (p := fun d => belowD (ins.getD i .none) (ins.getD (kN d) .none)) (f := id) (dvi_range1 (n := i) (dv_var u6 (.int _)) (by omega)) hrl (fun d hd y G1 H1 e1 q => ?_) (fun d hd _ y G1 H1 e1 q => dv_var (sgx ul) q)) (by rw [List.map_id]; rfl)) fun vv G7 H7 e7 qv => ?_
      · obtain ⟨k, hk, rfl⟩ := rints_mem hd
        have hk' : k < ins.length := by omega
        rw [hog]
        exact dvt_B (dv_call2 (f := fun a b => .bool (belowD a b)) (dv_var (sg u7) (e1.rp (e6.rp rb))) (dv_ix (d := ins.getD k .none) (dv_var (sg u4) (e1.rp (e6.rp qi5))) (dv_var (sgx ul) q) rfl (atI_getD hk')) (hiel _ _ hom (getD_mem hk')))
      dsimp only
      generalize hσ4 : σ3.set 9 (some vv) = σ4
      have w0 : σ4[0]? = some (some (.ref ba)) := by rw [← hσ4]; exact sg u0
      have w2 : σ4[2]? = some (some (.ref ka)) := by rw [← hσ4]; exact sg u2
      have w3 : σ4[3]? = some (some vf) := by rw [← hσ4]; exact sg u3
      have w4 : σ4[4]? = some (some vi) := by rw [← hσ4]; exact sg u4
      have w5 : σ4[5]? = some (some vo) := by rw [← hσ4]; exact sg u5
      have w8 : σ4[8]? = some (some vu) := by rw [← hσ4]; exact sg u8
      have w9 : σ4[9]? = some (some vv) := by rw [← hσ4]; exact sgx ul
      have wl : σ4.length = 14 := by rw [← hσ4]; exact sgl ul
      have e57 := e6.trans e7
      have ec7 := ecx.trans e57
      have qu7 := e7.rp qu
      have qo7 := ec7.rp qo
      have qf7 := (ex.trans e57).rp qf
      have hul : (underD ins i).length < 100000 := Nat.lt_of_le_of_lt (List.length_filter_le _ _) hrl
      have hvl : (overD ins i).length < 100000 := Nat.lt_of_le_of_lt (List.length_filter_le _ _) hrl
      refine ds_seq ?_
      refine ds_new fun p hp => ?_
      have gp : G7 p = none := Same.none e7.gh hp
      have e8 : Ext G7 H7 G7 (upd H7 p (.lst [])) := (Ext.refl e7.gh).allocM hp _
      dsimp only [gName]
      generalize hσ5 : σ4.set 10 (some (V.ref p)) = σ5
      have y0 : σ5[0]? = some (some (.ref ba)) := by rw [← hσ5]; exact sg w0
      have y2 : σ5[2]? = some (some (.ref ka)) := by rw [← hσ5]; exact sg w2
      have y3 : σ5[3]? = some (some vf) := by rw [← hσ5]; exact sg w3
      have y4 : σ5[4]? = some (some vi) := by rw [← hσ5]; exact sg w4
      have y5 : σ5[5]? = some (some vo) := by rw [← hσ5]; exact sg w5
      have y8 : σ5[8]? = some (some vu) := by rw [← hσ5]; exact sg w8
      have y9 : σ5[9]? = some (some vv) := by rw [← hσ5]; exact sg w9
      have y10 : σ5[10]? = some (some (.ref p)) := by rw [← hσ5]; exact sgx wl
      have yl : σ5.length = 14 := by rw [← hσ5]; exact sgl wl
      refine ds_seq ?_
      refine ds_for (ds := (tabs ins outs i).map .tuple) e8.gh (dvi_row (dv_var y3 qf7) rfl) fun G9 H9 e9 => ?_
      have e79 := e8.trans e9
      refine ⟨fun jt σ' Gd Hd => σ'[0]? = some (some (.ref ba)) ∧ σ'[2]? = some (some (.ref ka)) ∧ σ'[4]? = some (some vi) ∧ σ'[5]? = some (some vo) ∧ σ'[8]? = some (some vu) ∧ σ'[9]? = some (some vv) ∧ σ'[10]? = some (some (.ref p)) ∧ σ'.length = 14 ∧ Same G9 Gd ∧ Ext G7 H7 Gd Hd ∧ Gd p = none ∧ ∃ acc, Hd p = some (.lst acc) ∧ RpAll K Gd acc ((((tabs ins outs i).take jt).flatMap (nextD ins outs i)).map .tuple),
        fun jt σ' Gd Hd ⟨_, _, _, _, _, _, _, _, h1, h2, _⟩ => ⟨h1, h2.gh⟩, ⟨y0, y2, y4, y5, y8, y9, y10, yl, Same.refl _, e79, e9.loose gp (by rw [upd_same]; simp), [], e9.hh _ _ upd_same, .nil⟩, ?_, ?_⟩
      · rintro jt dt σ6 Gd Hd hdt ⟨a0, a2, a4, a5, a8, a9, a10, al, sg9, ed, gd, acc, hacc, racc⟩ xt G10 H10 ext rxt
        rw [List.getElem?_map] at hdt
        obtain ⟨tb, htb, rfl⟩ := Option.map_eq_some_iff.mp hdt
        have htbm := List.mem_of_getElem? htb
        obtain ⟨htbl, htbo⟩ := tabs_mem _ _ htbm
        generalize hσ7 : σ6.set 11 (some xt) = σ7
        have b0 : σ7[0]? = some (some (.ref ba)) := by rw [← hσ7]; exact sg a0
        have b2 : σ7[2]? = some (some (.ref ka)) := by rw [← hσ7]; exact sg a2
        have b4 : σ7[4]? = some (some vi) := by rw [← hσ7]; exact sg a4
        have b5 : σ7[5]? = some (some vo) := by rw [← hσ7]; exact sg a5
        have b8 : σ7[8]? = some (some vu) := by rw [← hσ7]; exact sg a8
        have b9 : σ7[9]? = some (some vv) := by rw [← hσ7]; exact sg a9
        have b10 : σ7[10]? = some (some (.ref p)) := by rw [← hσ7]; exact sg a10
        have b11 : σ7[11]? = some (some xt) := by rw [← hσ7]; exact sgx al
        have bl : σ7.length = 14 := by rw [← hσ7]; exact sgl al
        have edx := ed.trans ext
        show gName 11 xt σ6 H10 _
        unfold gName
        rw [hσ7]
        refine ds_for (ds := outs) ext.gh (dvi_row (dv_var b5 (edx.rp qo7)) rfl) fun G11 H11 e11 => ?_
        have ed11 := edx.trans e11
        have hacc11 : H11 p = some (.lst acc) := e11.hh _ _ (ext.hh _ _ hacc)
        have gp11 : G11 p = none := e11.loose (ext.loose gd (by rw [hacc]; simp)) (by rw [ext.hh _ _ hacc]; simp)
        refine ⟨fun jo σ' Ge He => σ'[0]? = some (some (.ref ba)) ∧ σ'[2]? = some (some (.ref ka)) ∧ σ'[4]? = some (some vi) ∧ σ'[5]? = some (some vo) ∧ σ'[8]? = some (some vu) ∧ σ'[9]? = some (some vv) ∧ σ'[10]? = some (some (.ref p)) ∧ σ'[11]? = some (some xt) ∧ σ'.length = 14 ∧ Same G11 Ge ∧ Same G9 Ge ∧ Ext G7 H7 Ge He ∧ Ge p = none ∧ ∃ acc, He p = some (.lst acc) ∧ RpAll K Ge acc (((((tabs ins outs i).take jt).flatMap (nextD ins outs i)) ++ nextD ins (outs.take jo) i tb).map .tuple),
          fun jo σ' Ge He ⟨_, _, _, _, _, _, _, _, _, h1, _, h2, _⟩ => ⟨h1, h2.gh⟩, ⟨b0, b2, b4, b5, b8, b9, b10, b11, bl, Same.refl _, sg9.trans (ext.gg.trans e11.gg), ed11, gp11, acc, hacc11, ?_⟩, ?_, ?_⟩
        · simp only [List.take_zero, nextD, List.filter_nil, List.map_nil, List.append_nil]
          exact RpAll.mono (ext.gg.trans e11.gg) _ _ racc
        · rintro jo o σ8 Ge He ho ⟨c0, c2, c4, c5, c8, c9, c10, c11, cl, sg11, sg9e, ee, ge, acc, hacce, racce⟩ xo G12 H12 exo rxo
          have hom := List.mem_of_getElem? ho
          generalize hσ9 : σ8.set 12 (some xo) = σ9
          have f0 : σ9[0]? = some (some (.ref ba)) := by rw [← hσ9]; exact sg c0
          have f2 : σ9[2]? = some (some (.ref ka)) := by rw [← hσ9]; exact sg c2
          have f4 : σ9[4]? = some (some vi) := by rw [← hσ9]; exact sg c4
          have f5 : σ9[5]? = some (some vo) := by rw [← hσ9]; exact sg c5
          have f8 : σ9[8]? = some (some vu) := by rw [← hσ9]; exact sg c8
          have f9 : σ9[9]? = some (some vv) := by rw [← hσ9]; exact sg c9
          have f10 : σ9[10]? = some (some (.ref p)) := by rw [← hσ9]; exact sg c10
          have f11 : σ9[11]? = some (some xt) := by rw [← hσ9]; exact sg c11
          have f12 : σ9[12]? = some (some xo) := by rw [← hσ9]; exact sgx cl
          have fl : σ9.length = 14 := by rw [← hσ9]; exact sgl cl
          have eex := ee.trans exo
          have rxt12 : Rp K G12 xt (.tuple tb) := exo.rp (Rp.mono (e11.gg.trans sg11) _ _ rxt)
          have qu12 := eex.rp qu7
          have qv12 := eex.rp qv
          have e5 : nextD ins (outs.take (jo + 1)) i tb = nextD ins (outs.take jo) i tb ++ (if okD ins i tb o = true then [tb ++ [o]] else []) := by
            obtain ⟨h1, h2⟩ := List.getElem?_eq_some_iff.mp ho
            unfold nextD
            rw [← List.take_append_getElem h1, h2, List.filter_append, List.map_append]
            congr 1
            by_cases q : okD ins i tb o = true
            · rw [if_pos q]
              simp [List.filter_cons, q]
            · rw [if_neg q]
              simp [List.filter_cons, q]
          have hus : ∀ d ∈ underD ins i, ∃ k : Nat, k < i ∧ d = .int k := fun d hd => rints_mem (List.mem_filter.mp hd).1
          have hos : ∀ d ∈ overD ins i, ∃ k : Nat, k < i ∧ d = .int k := fun d hd => rints_mem (List.mem_filter.mp hd).1
          refine ds_if (b := okD ins i tb o) exo.gh (dvt_and (dvt_B (dv_all (bs := (underD ins i).map fun d => belowD (tb.getD (kN d) .none) o) (Dv.is (dv_lcA (f := fun d => .bool (belowD (tb.getD (kN d) .none) o)) (dvi_row (ds := underD ins i) (dv_var f8 qu12) rfl) hul fun d hd y G1 H1 e1 q => ?_) (by rw [bmap])))) fun _ => dvt_B (dv_all (bs := (overD ins i).map fun d => belowD o (tb.getD (kN d) .none)) (Dv.is (dv_lcA (f := fun d => .bool (belowD o (tb.getD (kN d) .none))) (dvi_row (ds := overD ins i) (dv_var f9 qv12) rfl) hvl fun d hd y G1 H1 e1 q => ?_) (by rw [bmap])))) (fun hb G13 H13 e13 => ?_) fun hb G13 H13 e13 => ?_
          · obtain ⟨k, hk, rfl⟩ := hus d hd
            have hk' : k < tb.length := by omega
            exact dv_call2 (f := fun a b => .bool (belowD a b)) (dv_ix (d := tb.getD k .none) (dv_var (sg f11) (e1.rp rxt12)) (dv_var (sgx fl) q) rfl (atI_getD hk')) (dv_var (sg f12) (e1.rp rxo)) (hoel _ _ (htbo _ (getD_mem hk')) hom)
          · obtain ⟨k, hk, rfl⟩ := hos d hd
            have hk' : k < tb.length := by omega
            exact dv_call2 (f := fun a b => .bool (belowD a b)) (dv_var (sg f12) (e1.rp rxo)) (dv_ix (d := tb.getD k .none) (dv_var (sg f11) (e1.rp rxt12)) (dv_var (sgx fl) q) rfl (atI_getD hk')) (hoel _ _ hom (htbo _ (getD_mem hk')))
          · have exx := exo.trans e13
            have hacc13 : H13 p = some (.lst acc) := exx.hh _ _ hacce
            have ge13 : G13 p = none := exx.loose ge (by rw [hacce]; simp)
            have hbound : acc.length < 1000000 := by
              rw [racce.length, List.length_map]
              have h1 : (((tabs ins outs i).take jt).flatMap (nextD ins outs i) ++ nextD ins (outs.take jo) i tb).length ≤ (tabs ins outs (i + 1)).length := by
                rw [tabs]
                have hsplit : (tabs ins outs i).take (jt + 1) = (tabs ins outs i).take jt ++ [tb] := by
                  obtain ⟨h1, h2⟩ := List.getElem?_eq_some_iff.mp htb
                  rw [← List.take_append_getElem h1, h2]
                have h2 : (nextD ins (outs.take jo) i tb).length ≤ (nextD ins outs i tb).length := by
                  unfold nextD
                  rw [List.length_map, List.length_map]
                  exact (List.Sublist.filter _ (List.take_sublist _ _)).length_le
                have h3 : (((tabs ins outs i).take (jt + 1)).flatMap (nextD ins outs i)).length ≤ ((tabs ins outs i).flatMap (nextD ins outs i)).length := by
                  conv => rhs; rw [← List.take_append_drop (jt + 1) (tabs ins outs i), List.flatMap_append]
                  rw [List.length_append]
                  omega
                rw [hsplit, List.flatMap_append, List.length_append] at h3
                simp only [List.flatMap_cons, List.flatMap_nil, List.append_nil] at h3
                rw [List.length_append]
                omega
              have := htl (i + 1) hil
              omega
            refine ds_appB (d := .tuple (tb ++ [o])) e13.gh f10 hacc13 hbound (dv_tupOf (ds := tb ++ [o]) (dv_addL (dv_lstOf (ds := tb) (dv_var f11 (e13.rp rxt12)) rfl) (dv_lst1 (dv_var f12 (e13.rp rxo))) (by simp; omega)) rfl) fun y G14 H14 e14 qy => ?_
            have ge14 : G14 p = none := e14.loose ge13 (by rw [hacc13]; simp)
            refine ⟨G14, f0, f2, f4, f5, f8, f9, f10, f11, fl, sg11.trans (exx.gg.trans e14.gg), sg9e.trans (exx.gg.trans e14.gg), ((ee.trans exx).trans e14).set hp ge14 _, ge14, _, upd_same, ?_⟩
            rw [e5, if_pos hb, ← List.append_assoc, List.map_append]
            exact RpAll.app (RpAll.mono (exx.gg.trans e14.gg) _ _ racce) (.cons qy .nil)
          · have exx := exo.trans e13
            refine ⟨G13, f0, f2, f4, f5, f8, f9, f10, f11, fl, sg11.trans exx.gg, sg9e.trans exx.gg, ee.trans exx, exx.loose ge (by rw [hacce]; simp), acc, exx.hh _ _ hacce, ?_⟩
            rw [e5, if_neg (by rw [hb]; simp), List.append_nil]
            exact RpAll.mono exx.gg _ _ racce
        · rintro σ8 Ge He ⟨c0, c2, c4, c5, c8, c9, c10, c11, cl, sg11, sg9e, ee, ge, acc, hacce, racce⟩
          refine ⟨Ge, c0, c2, c4, c5, c8, c9, c10, cl, sg9e, ee, ge, acc, hacce, ?_⟩
          rw [List.take_length] at racce
          have hsplit : (tabs ins outs i).take (jt + 1) = (tabs ins outs i).take jt ++ [tb] := by
            obtain ⟨h1, h2⟩ := List.getElem?_eq_some_iff.mp htb
            rw [← List.take_append_getElem h1, h2]
          rw [hsplit, List.flatMap_append]
          simpa using racce
      · rintro σ6 Gd Hd ⟨a0, a2, a4, a5, a8, a9, a10, al, sg9, ed, gd, acc, hacc, racc⟩
        rw [List.length_map, List.take_length] at racc
        have edS := ed.still hp gd hacc
        refine ⟨.ref p, a10, ?_⟩
        refine ⟨upd Gd p (.lst acc), sg a0, sg a2, sg a4, sg a5, sgl al, ?_, ec7.trans edS, .ref p, sgx al, .lst upd_same (RpAll.mono (same_upd gd _) _ _ racc)⟩
        exact sg1.trans ((ex.trans e57).gg.trans edS.gg)
    · rintro σ1 Gc Hc ⟨s0, s2, s4, s5, sl, sg1, ec, vf, s3, qf⟩
      rw [enums_length] at qf
      refine ds_seq ?_
      obtain ⟨xs, jb⟩ := Wd.ext j3 ec
      refine ⟨vf, s3, ?_⟩
      exact put σ1 Gc Hc xs vf _ s0 s2 (e03.trans ec.w) jb (by rw [hall]; exact qf) fun H6 xs6 z ex jb6 hz => fin _ Gc H6 xs6 z _ s0 s2 ex jb6 hz rfl
end
end K82

set_option Elab.async false
set_option linter.all false
set_option maxRecDepth 100000
set_option maxHeartbeats 4000000
/-! law: fit_kind. -/
namespace K82
open PySem L2 PyProof.Rows
section
variable {K : PySem.W.Frag} {D : Wd} {σ : L2.St} {G H G1 H1 : Hp} {te ta tb : TE} {tt tu : TT} {m : D.M} {d : PyData} {v : V} {i j : Nat} {E : Ends}
theorem mvt_not {R : Bool → D.M → Prop} (h : MvT D tt σ G m fun b m' => R (!b) m') : MvT D (tNot tt) σ G m R := fun G1 H1 e j Q q => h G1 H1 e j _ fun b m' G2 H2 e2 j2 z => q _ m' G2 H2 e2 j2 z
theorem mvt_or {R : Bool → D.M → Prop} (h : MvT D tt σ G m fun b m1 => if b = true then R true m1 else MvT D tu σ G m1 R) : MvT D (tOr tt tu) σ G m R := fun G1 H1 e j Q q => h G1 H1 e j _ fun b m1 G2 H2 e2 j2 z => by
  cases b with
  | true => exact iteT (q true m1 G2 H2 e2 j2 (by simpa using z))
  | false => exact iteF ((show MvT D tu σ G m1 R from by simpa using z) G2 H2 (e.up e2.up) j2 Q fun b m' G3 H3 e3 => q b m' G3 H3 (e2.trans e3))
theorem mv_and {R : PyData → D.M → Prop} (h : Mv K D ta σ G m fun d m1 => ∃ b, d = .bool b ∧ if b = true then Mv K D tb σ G m1 R else R (.bool false) m1) : Mv K D (tAndV ta tb) σ G m R := fun G1 H1 e j Q q => h G1 H1 e j _ fun v d m1 G2 H2 e2 j2 r z => by
  obtain ⟨b, rfl, z⟩ := z
  cases r
  refine ⟨b, rfl, ?_⟩
  cases b with
  | true => exact iteT ((show Mv K D tb σ G m1 R from by simpa using z) G2 H2 (e.up e2.up) j2 Q fun v d m' G3 H3 e3 => q v d m' G3 H3 (e2.trans e3))
  | false => exact iteF (q _ _ m1 G2 H2 e2 j2 (.bl _) (by simpa using z))
theorem mv_all {R : PyData → D.M → Prop} (h : Mv K D ta σ G m fun d m1 => ∃ bs : List Bool, d = .list (bs.map .bool) ∧ R (.bool (bs.all id)) m1) : Mv K D (tCB (rAll K) (tCons ta tNil)) σ G m R := fun G1 H1 e j Q q => h G1 H1 e j _ fun v d m1 G2 H2 e2 j2 r z => by
  obtain ⟨bs, rfl, z⟩ := z
  cases r with
  | lst h1 h2 =>
    have y := h2.bls
    subst y
    exact ⟨_, bs, rfl, SqL.of (e2.gh _ _ h1), q _ _ m1 G2 H2 e2 j2 (.bl _) z⟩
theorem mv_len {R : PyData → D.M → Prop} (h : Mv K D ta σ G m fun r m1 => ∃ ds, rowOf r = some ds ∧ R (.int ds.length) m1) : Mv K D (tCB (rLenX K) (tCons ta tNil)) σ G m R := fun G1 H1 e j Q q => h G1 H1 e j _ fun v d m1 G2 H2 e2 j2 r z => by
  obtain ⟨ds, hr, z⟩ := z
  obtain ⟨a, xs, rfl, ra, y⟩ := r.row e2.gh hr
  refine ⟨.ref a, xs.length, rfl, y.elim (fun z => .inl ⟨xs, z.2.1, rfl⟩) (fun z => .inr ⟨xs, z.2, rfl⟩), ?_⟩
  rw [ra.length]
  exact q _ _ m1 G2 H2 e2 j2 (.int _) z
def kIt (K : PySem.W.Frag) (a : Addr) : TI := fun _ H R => R (Itl K a) H
theorem dvi_kIt {a : Addr} {xs : List V} {ds : List PyData} (h : G a = some (.lst xs)) (r : RpAll K G xs ds) : DvI K (kIt K a) σ G H ds := fun G2 H2 e R k => k _ G2 H2 (Ext.refl e.gh) (walks_l (e.gg _ _ h) (RpAll.mono e.gg _ _ r))
/-- for x in e, a list made on the way -/
theorem ms_forL {tx : TE} {g : TG} {tb : L2.TS} {R : List PyData → D.M → Prop} (e : Same G H) (jj : D.J m G H) (h : Mv K D tx σ G m fun d m' => ∃ ds, d = .list ds ∧ R ds m')
    (k : ∀ ds m' G1 H1, ExtW D.W G H G1 H1 → D.J m' G1 H1 → R ds m' → ∃ I : Nat → L2.St → Hp → Hp → Prop, (∀ i σ1 Gc Hc, I i σ1 Gc Hc → Same G1 Gc ∧ Same Gc Hc) ∧ I 0 σ G1 H1 ∧
    (∀ i d σ1 Gc Hc, ds[i]? = some d → I i σ1 Gc Hc → ∀ x G2 H2, Ext Gc Hc G2 H2 → Rp K G2 x d → g x σ1 H2 fun σ2 H3 => tb { E with nx := fun σ H => ∃ G, I (i + 1) σ G H, ct := fun σ H => ∃ G, I (i + 1) σ G H, bk := E.nx } σ2 H3) ∧
    (∀ σ1 Gc Hc, I ds.length σ1 Gc Hc → E.nx σ1 Hc)) : tFor (iRow K tx) g tb E σ H := .inl (h G H (Up.refl e) jj _ fun v d m' G1 H1 e1 j1 rp z => by
  obtain ⟨ds, rfl, hr⟩ := z
  cases rp with
  | @lst a xs _ h1 h2 =>
    refine ⟨a, rfl, ⟨xs, SqL.of (e1.gh _ _ h1)⟩, ?_⟩
    exact ds_for (wi := kIt K a) e1.gh (dvi_kIt h1 h2) fun G2 H2 e2 => k ds m' G2 H2 (e1.trans e2.w) (Wd.ext j1 e2) hr)
/-- [e for x in f if t], f a list made on the way -/
theorem mv_lcL {tx : TE} {R : PyData → D.M → Prop} (h : Mv K D tx σ G m fun d m' => ∃ ds, d = .list ds ∧ ds.length < 100000 ∧ ∃ (p : PyData → Bool) (f : PyData → PyData), (∀ d ∈ ds, ∀ x G1 H1, Up G G1 H1 → Rp K G1 x d → DvT tt (σ.set i (some x)) G1 H1 (p d)) ∧ (∀ d ∈ ds, p d = true → ∀ x G1 H1, Up G G1 H1 → Rp K G1 x d → Dv K te (σ.set i (some x)) G1 H1 (f d)) ∧ R (.list ((ds.filter p).map f)) m') :
    Mv K D (tLc (iRow K tx) (gName i) tt te [i]) σ G m R := fun G1 H1 e j Q q => .inl (h G1 H1 e j _ fun v d m' G2 H2 e2 j2 rp z => by
  obtain ⟨ds, rfl, hz, p, f, ht, he, hR⟩ := z
  cases rp with
  | @lst a xs _ h1 h2 =>
    refine ⟨a, rfl, ⟨xs, SqL.of (e2.gh _ _ h1)⟩, ?_⟩
    have eu := e.up e2.up
    exact (dv_lc (σ := σ) (i := i) (H := H2) (wi := kIt K a) (p := p) (f := f) (dvi_kIt h1 h2) hz (fun d hd x G3 H3 e3 r => ht d hd x G3 H3 (eu.up e3) r) fun d hd hp x G3 H3 e3 r => he d hd hp x G3 H3 (eu.up e3) r) G2 H2 (Up.refl e2.gh) Q fun v G3 H3 e3 r => q v _ m' G3 H3 (e2.trans e3.w) (Wd.ext j2 e3) r hR)
end
def Ty.tys : Ty → List Ty
  | .nil => []
  | .cons a r => a :: r.tys
theorem Ty.l_map : ∀ t : Ty, t.l = t.tys.map Ty.py
  | .nil => rfl
  | .cons a r => by rw [Ty.l, Ty.tys, List.map_cons, Ty.l_map r]; rfl
theorem tys_sz : ∀ {t p : Ty}, p ∈ t.tys → p.sz < t.sz
  | .nil, _, h => by cases h
  | .cons a r, p, h => by
    rw [Ty.tys] at h
    rw [Ty.sz]
    rcases List.mem_cons.mp h with rfl | h
    · omega
    · have := tys_sz h
      omega
theorem k01.tys {t p : Ty} (h : k01 t) (hp : p ∈ t.tys) : p = .nil := by
  rcases h with rfl | rfl
  · cases hp
  · simpa [K1, Ty.tys] using hp
theorem ts_tys {t p : Ty} (h : t ∈ TS) (hp : p ∈ t.tys) : k01 p := by
  cases t with
  | nil => cases hp
  | cons a r =>
    obtain ⟨h1, h2⟩ := ts_cons h
    rw [Ty.tys] at hp
    rcases List.mem_cons.mp hp with rfl | hp
    · exact h1
    · exact .inl (h2.tys hp)
section
variable {P : Program} {w : World} {K : PySem.W.Frag} {mg : Str → Option Value} {base : Heap}
theorem dv_min {σ : L2.St} {G H : Hp} {ta : TE} {a b : Int} (ha : Dv K ta σ G H (.int a)) : Dv K (tCB (fun xs H Q => ∃ i j, xs = [.int i, .int j] ∧ Q (.int (if j < i then j else i)) H) (tCons ta (tCons (tC (.int b)) tNil))) σ G H (.int (if b < a then b else a)) := fun G1 H1 e Q k =>
  ha G1 H1 e _ fun v G2 H2 e2 q => by
    cases q
    exact ⟨a, b, rfl, k _ G2 H2 e2 (.int _)⟩
abbrev spFk (K : PySem.W.Frag) (P : Program) (w : World) (n : Nat) : Sp := spM K 3 (BW K P w) fun i as _ R => ∃ k, as = [.raw (.ref i.2), .pd (.int i.1), .pd (Ty.py k)] ∧ k ∈ TS ∧ k.sz < n ∧ 1 ≤ i.1 ∧ i.1 ≤ 3 ∧ ∀ b : Bool, (b = true → aff i.1 k) → R (.bool b) ()
theorem ok_law_s_fit_kind (T : Txt K mg) : ∀ n, FnOk P w K mg base CX0 (n + 10) T.law_s_fit_kind.f T.law_s_fit_kind.fd ["book", "many", "kind"] (spFk K P w n)
  | 0 => fn_no (by
    rintro vs H Q E ⟨_, i, G, as, _, R, _, _, _, ⟨k, _, _, h, _⟩, _⟩
    omega)
  | n + 1 => by
    have g_law_s_fit_kind : FnOk P w K mg base CX0 (n + 10) _ _ _ _ := ok_law_s_fit_kind T n
    have g_law_all : FnOk P w K mg base CX0 10 _ _ _ _ := ok_law_all T 5
    refine T.law_s_fit_kind.F.ok sc_law_s_fit_kind (fun vs H Q E z => z.1) (fun cdv Ar outer s H vs Q E hr z => ?_)
    obtain ⟨_, ⟨m, ba⟩, G, as, u, R, e, j, r, ⟨kd, rfl, hts, hsz, hm1, hm3, hR⟩, k⟩ := z
    cases u
    have hm1 : 1 ≤ m := hm1
    have hm3 : m ≤ 3 := hm3
    have hR : ∀ b : Bool, (b = true → aff m kd) → R (.bool b) () := hR
    cases r with
    | @cons v1 _ _ _ r1 r =>
    cases r with
    | @cons v2 _ _ _ r2 r =>
    cases r with
    | @cons v3 _ _ _ r3 r =>
    cases r
    cases (show v1 = .ref ba from r1)
    have r2 : Rp K G v2 (.int m) := r2
    have r3 : Rp K G v3 kd.py := r3
    refine ⟨_, (pss_cons (ps_if (pt_not (pt_val (pe_callB (cr_all rfl) rfl T.z_all (by decide +kernel) (pa_cons (pe_lc (own := [("part", 6)]) (g := gName 6) (tt := tYes) rfl sc_law_s_fit_kind.nd (pi_row (pv 2)) (blkOk_by (N := ["book", "many", "kind", "outs", "found", "one", "part"]) (sc := defScope s_law_s_fit_kind) (by decide +kernel)) (fun _ _ _ _ _ => (pg_name (i := 6) sc_law_s_fit_kind.nd rfl (Or.inl rfl))) (fun _ _ _ _ _ => pts_nil) (fun _ _ _ _ _ => (pe_call g_law_s_fit_kind (hr.mono (by omega)) rfl T.law_s_fit_kind.m T.law_s_fit_kind.F.kp T.law_s_fit_kind.b .nil pass0 (pa_cons (pv 0) (pa_cons (pv 1) (pa_cons (pv 6) pa_nil)))))) pa_nil)))) (pss_one (ps_ret pe_bl)) pss_nil)
      (pss_cons (ps_if (pt_cmpR (op_eqX hr.units) (pv 2) (pe_tup pa_nil) (nomark _)) (pss_one (ps_ret pe_bl)) pss_nil)
      (pss_cons (ps_if (pt_not (pt_val (pe_call g_law_s_fit_kind (hr.mono (by omega)) rfl T.law_s_fit_kind.m T.law_s_fit_kind.F.kp T.law_s_fit_kind.b .nil pass0 (pa_cons (pv 0) (pa_cons (pv 1) (pa_cons (pe_slice sl_X (pv 2) (po_some pe_int) po_none) pa_nil)))))) (pss_one (ps_ret pe_bl)) pss_nil)
      (pss_cons (ps_par (i := 3) (j := 4) rfl sc_law_s_fit_kind.nd rfl rfl (by decide) rfl rfl (pa_cons (pe_callB call_lenX rfl T.z_len (by decide +kernel) (pa_cons (pe_call g_law_all (hr.mono (by omega)) rfl T.law_all.m T.law_all.F.kp T.law_all.b .nil pass0 (pa_cons (pv 0) (pa_cons (pv 1) (pa_cons (pe_slice sl_X (pv 2) (po_some pe_int) po_none) pa_nil)))) pa_nil)) (pa_cons pe_int pa_nil)) rfl)
      (pss_cons (ps_for PassesOwn.never rfl (pi_row (pe_call g_law_all (hr.mono (by omega)) rfl T.law_all.m T.law_all.F.kp T.law_all.b .nil pass0 (pa_cons (pv 0) (pa_cons (pv 1) (pa_cons (pe_ix ix_seq (pv 2) pe_int (fun _ _ => rfl)) pa_nil))))) (pg_name (i := 5) sc_law_s_fit_kind.nd rfl (Or.inl rfl)) (pss_one (ps_set (i := 4) sc_law_s_fit_kind.nd rfl (Or.inl rfl) (pe_callB (call_min2 rfl) rfl T.z_min (by decide +kernel) (pa_cons (pe_op op_mulX (pv 4) (pv 3)) (pa_cons pe_int pa_nil))))))
      (pss_one (ps_ret (pe_and (pe_cmpR op_lt (pv 4) pe_int (nomark _)) (pe_one (pe_cmpR op_lt (pe_callB call_lenX rfl T.z_len (by decide +kernel) (pa_cons (pe_call g_law_all (hr.mono (by omega)) rfl T.law_all.m T.law_all.F.kp T.law_all.b .nil pass0 (pa_cons (pv 0) (pa_cons (pv 1) (pa_cons (pv 2) pa_nil)))) pa_nil)) pe_int (nomark _))))))))))), ?_⟩
    have hts5 : ∀ {k : Ty}, k ∈ TS → k.sz < 5 := fun h => by
      simp only [TS, List.mem_cons, List.not_mem_nil, or_false] at h
      rcases h with rfl | rfl | rfl | rfl | rfl <;> decide
    have htl : kd.tys.length ≤ 2 := by
      simp only [TS, List.mem_cons, List.not_mem_nil, or_false] at hts
      rcases hts with rfl | rfl | rfl | rfl | rfl <;> decide
    refine ds_seq ?_
    refine ms_if (D := BW K P w (m, ba)) (R := fun b _ => b = false → ∀ p, kd.tys[0]? = some p → aff m p) e j (mvt_not (mvt_B (mv_all (mv_lc (ds := kd.l) (fun i acc _ => ∃ bs : List Bool, acc = bs.map .bool ∧ bs.length = i ∧ ∀ j p, kd.tys[j]? = some p → bs[j]? = some true → aff m p) (dvi_row (dv_var rfl r3) rfl) (by rw [Ty.l_map, List.length_map]; omega) ⟨[], rfl, rfl, fun j p _ h => by rw [List.getElem?_nil] at h; cases h⟩ ?_ ?_)))) (fun _ G1 H1 e1 j1 h1 => ?_) fun _ G1 H1 e1 j1 h1 => ?_
    · rintro i d acc _ hd hl ⟨bs, rfl, hbl, hbs⟩ x G1 H1 u1 rx
      rw [Ty.l_map, List.getElem?_map] at hd
      obtain ⟨p, hp, rfl⟩ := Option.map_eq_some_iff.mp hd
      have hpm := List.mem_of_getElem? hp
      refine mv_call (mva_raw rfl (mva_cons (mv_dv (dv_var rfl (u1.rp r2)) (mva_cons (mv_dv (dv_var rfl rx) (mva_nil ⟨rfl, p, rfl, (ts_tys hts hpm).ts, by have := tys_sz hpm; omega, hm1, hm3, fun b hb => ⟨bs ++ [b], by simp, by simp [hbl], fun j q hq hj => ?_⟩⟩))))))
      rcases Nat.lt_or_ge j bs.length with h | h
      · rw [List.getElem?_append_left h] at hj
        exact hbs j q hq hj
      · have hji : j = bs.length := by
          have := (List.getElem?_eq_some_iff.mp hj).1
          simp at this
          omega
        subst hji
        rw [List.getElem?_append_right (by omega)] at hj
        simp at hj
        rw [hbl] at hq
        rw [hp] at hq
        cases hq
        exact hb hj
    · rintro acc _ hl ⟨bs, rfl, hbl, hbs⟩
      refine ⟨bs, rfl, _, rfl, fun hb p hp => ?_⟩
      have hall : bs.all id = true := by simpa using hb
      have hlt : 0 < bs.length := by
        rw [hbl, Ty.l_map, List.length_map]
        exact (List.getElem?_eq_some_iff.mp hp).1
      refine hbs 0 p hp ?_
      rw [List.getElem?_eq_getElem hlt]
      have := List.all_eq_true.mp hall bs[0] (List.getElem_mem hlt)
      simpa using this
    · exact k _ _ () G1 H1 e1 j1 (.bl false) (hR false (fun h => by cases h))
    have h1 := h1 rfl
    have q2 := e1.rp r2
    have q3 := e1.rp r3
    refine ds_seq ?_
    refine ds_if (b := decide (kd = .nil)) e1.gh (DvT.is (dvt_test (dv_eq (d' := Ty.nil.py) (dv_var rfl q3) (dv_tup dva_nil (Nat.zero_le _)) (Ty.eqOk (ts_d hts) (by simp [Ty.d])))) (nil_eqv kd)) (fun hnil G2 H2 e2 => ?_) fun hnil G2 H2 e2 => ?_
    · have hnil : kd = .nil := by simpa using hnil
      subst hnil
      exact k _ _ () G2 H2 (e1.trans e2.w) (Wd.ext j1 e2) (.bl true) (hR true fun _ => trivial)
    obtain ⟨a, c, rfl⟩ : ∃ a c, kd = .cons a c := by
      cases kd with
      | nil => simp at hnil
      | cons a c => exact ⟨a, c, rfl⟩
    have haff := h1 a rfl
    obtain ⟨ha01, hc01⟩ := ts_cons hts
    have hszs : a.sz < n ∧ c.sz < n := by
      rw [Ty.sz] at hsz
      omega
    have q2 := e2.rp q2
    have q3 := e2.rp q3
    have htl : ∀ {σ : L2.St} {G5 H5 : Hp} {v : V}, σ[2]? = some (some v) → Rp K G5 v (Ty.cons a c).py → Dv K (tSl (rSlX K) (tVar 2) (tPart (tC (.int 1))) tNoPart) σ G5 H5 c.py := fun hs q => Dv.is (dv_sl (ds := a.py :: c.l) (dv_var hs q) rfl (dvo_some (K := K) dv_int) dvo_none) (congrArg PyData.tuple cutL_tl)
    have j2 := Wd.ext j1 e2
    refine ds_seq ?_
    refine ms_if (D := BW K P w (m, ba)) (R := fun b _ => b = false → aff m c) e2.gh j2 (mvt_not (mvt_B (mv_call (mva_raw rfl (mva_cons (mv_dv (dv_var rfl q2) (mva_cons (mv_dv (htl rfl q3) (mva_nil ⟨rfl, c, rfl, hc01.ts, hszs.2, hm1, hm3, fun b hb => ⟨b, rfl, fun h => hb (by simpa using h)⟩⟩))))))))) (fun _ G3 H3 e3 j3 h3 => ?_) fun _ G3 H3 e3 j3 h3 => ?_
    · exact k _ _ () G3 H3 ((e1.trans e2.w).trans e3) j3 (.bl false) (hR false (fun h => by cases h))
    have hafc := h3 rfl
    have q2 := e3.rp q2
    have q3 := e3.rp q3
    have e03 := (e1.trans e2.w).trans e3
    refine ds_seq ?_
    refine ms_par (D := BW K P w (m, ba)) (R := fun d d' _ => d = .int (allD m c).length ∧ d' = .int 1) e3.gh j3 (mv_len (mv_call (mva_raw rfl (mva_cons (mv_dv (dv_var rfl q2) (mva_cons (mv_dv (htl rfl q3) (mva_nil ⟨rfl, c, rfl, hc01.ts, hafc, hts5 hc01.ts, hm1, hm3, _, rfl, mv_dv dv_int ⟨rfl, rfl⟩⟩)))))))) fun vo vf d d' _ G4 H4 e4 j4 qo qf hd => ?_
    obtain ⟨rfl, rfl⟩ := hd
    cases qo
    cases qf
    dsimp only
    have q2 := e4.rp q2
    have q3 := e4.rp q3
    have e04 := e03.trans e4
    refine ds_seq ?_
    refine ms_forL (D := BW K P w (m, ba)) (R := fun ds _ => ds = allD m a) e4.gh j4 (mv_call (mva_raw rfl (mva_cons (mv_dv (dv_var rfl q2) (mva_cons (mv_dv (d := a.py) (dv_ix (dv_var rfl q3) dv_int (ds := a.py :: c.l) rfl at0) (mva_nil ⟨rfl, a, rfl, ha01.ts, haff, hts5 ha01.ts, hm1, hm3, _, rfl, rfl⟩))))))) fun ds _ G5 H5 e5 j5 hds => ?_
    subst hds
    have hpos := allD_pos hm1 hm3 hc01
    refine ⟨fun i σ' Gc Hc => σ'[0]? = some (some (.ref ba)) ∧ σ'[1]? = some (some v2) ∧ σ'[2]? = some (some v3) ∧ σ'[3]? = some (some (.int (allD m c).length)) ∧ σ'.length = 7 ∧ Same G5 Gc ∧ ExtW (BW K P w (m, ba)).W G H Gc Hc ∧ (BW K P w (m, ba)).J () Gc Hc ∧ ∃ f : Nat, σ'[4]? = some (some (.int f)) ∧ f ≤ 200001 ∧ (f < 200001 → f = (allD m c).length ^ i),
      fun i σ' Gc Hc ⟨_, _, _, _, _, h1, h2, _⟩ => ⟨h1, h2.gh⟩, ⟨rfl, rfl, rfl, rfl, rfl, Same.refl _, e04.trans e5, j5, 1, rfl, by omega, fun _ => by simp⟩, ?_, ?_⟩
    · rintro i d σ1 Gc Hc hd ⟨s0, s1, s2, s3, sl, sg5, ec, jc, f, s4, hf, hfp⟩ x G6 H6 ex rx
      show tAsg _ _ _ (σ1.set 5 (some x)) _
      have s3' : (σ1.set 5 (some x))[3]? = some (some (.int (allD m c).length)) := sg s3
      have s4' : (σ1.set 5 (some x))[4]? = some (some (.int f)) := sg s4
      refine ds_set (K := K) ex.gh (dv_min (b := 200001) (dv_mul (m := f) (n := (allD m c).length) (.inl (by omega)) (dv_var s4' (.int _)) (dv_var s3' (.int _)))) fun vn G7 H7 e7 qn => ?_
      cases qn
      have e67 := ex.trans e7
      refine ⟨G7, sg (sg s0), sg (sg s1), sg (sg s2), sg s3', sgl (sgl sl), sg5.trans e67.gg, ec.trans e67.w, Wd.ext jc e67, (if 200001 < f * (allD m c).length then 200001 else f * (allD m c).length), ?_, ?_, ?_⟩
      · rw [sgx (sgl sl)]
        congr 3
        by_cases h : 200001 < f * (allD m c).length
        · rw [if_pos h, if_pos (by rw [← Int.natCast_mul]; omega)]
          rfl
        · rw [if_neg h, if_neg (by rw [← Int.natCast_mul]; omega)]
          simp
      · split <;> omega
      · intro h
        have h2 : ¬ 200001 < f * (allD m c).length := by
          intro z
          rw [if_pos z] at h
          omega
        rw [if_neg h2] at h ⊢
        have hle : f ≤ f * (allD m c).length := Nat.le_mul_of_pos_right _ hpos
        rw [Nat.pow_succ, ← hfp (by omega)]
    · rintro σ1 Gc Hc ⟨s0, s1, s2, s3, sl, sg5, ec, jc, f, s4, hf, hfp⟩
      refine ms_ret (D := BW K P w (m, ba)) (R := R) ec.gh jc (mv_and (mv_dv (dv_lt (dv_var s4 (.int _)) dv_int) ⟨_, rfl, ?_⟩)) fun v d m' G3 H3 e3 => k v d m' G3 H3 (ec.trans e3)
      have hlg : f < 200001 ∨ 200001 ≤ f := by omega
      cases hlg with
      | inl hlt =>
        rw [if_pos (decide_eq_true (show (f : Int) < 200001 by omega))]
        have hpow : (allD m c).length ^ (allD m a).length < 200001 := by
          have := hfp (by omega)
          omega
        have haf : aff m (.cons a c) := ⟨haff, hafc, hpow⟩
        exact mv_lt (mv_len (mv_call (mva_raw s0 (mva_cons (mv_dv (dv_var s1 (ec.rp r2)) (mva_cons (mv_dv (dv_var s2 (ec.rp r3)) (mva_nil ⟨rfl, .cons a c, rfl, hts, haf, hts5 hts, hm1, hm3, _, rfl, _, rfl, mv_dv dv_int ⟨401, rfl, hR _ fun _ => haf⟩⟩))))))))
      | inr hlt =>
        rw [if_neg (by rw [decide_eq_false (show ¬ (f : Int) < 200001 by omega)]; simp)]
        exact hR false (fun h => by cases h)
end
end K82

set_option Elab.async false
set_option linter.all false
set_option maxRecDepth 100000
set_option maxHeartbeats 4000000
/-! law: free. -/
namespace K82
open PySem L2 PyProof.Rows
section
variable {K : PySem.W.Frag} {D : Wd} {σ : L2.St} {G H G1 H1 : Hp} {te ta tb : TE} {tt tu : TT} {m : D.M} {d : PyData} {v : V} {i j : Nat} {E : Ends}
theorem ExtW.d0 (a : ExtW D0.W G H G1 H1) : Ext G H G1 H1 := a.ext fun _ h => h.elim
/-- what a def hands back whose outcome is told by R -/
theorem d0_ret {R : PyData → Prop} (e : Same G H) (h : Mv K D0 te σ G () fun d _ => R d) (k : ∀ v d G1 H1, Ext G H G1 H1 → Rp K G1 v d → R d → E.rt v H1) : tRet te E σ H := ms_ret (D := D0) (m := ()) e trivial h fun v d _ G1 H1 e1 _ r z => k v d G1 H1 e1.d0 r z
/-- x.extend(e), x a local list of texts at p, e made with a look at it -/
theorem ds_extS {G0 H0 : Hp} {p : Addr} {xs : List Str} {R : List Str → Prop} (e : Ext G0 H0 G H) (hp : H0 p = none) (gp : G p = none) (hc : H p = some (.lst (xs.map V.str))) (hs : σ[i]? = some (some (.ref p))) (hz : xs.length ≤ 1000)
    (h : ∀ G1, Same G G1 → Same G1 H → Rp K G1 (.ref p) (.list (xs.map .str)) → Mv K D0 te σ G1 () fun d _ => ∃ ys : List Str, d = .list (ys.map .str) ∧ ys.length ≤ 1000 ∧ R ys)
    (k : ∀ ys H1, Same H1 H1 → Ext G0 H0 G H1 → H1 p = some (.lst ((xs ++ ys).map V.str)) → R ys → E.nx σ H1) :
    tDrop (tBM K "list" rExtend (tVar i) (tCons te tNil)) E σ H := by
  have hstr : ∀ (G : Hp) (l : List Str), RpAll K G (l.map V.str) (l.map PyData.str) := fun G l => by
    induction l with
    | nil => exact .nil
    | cons a l ih => exact .cons (.str _) ih
  have e2 := e.still hp gp hc
  refine ⟨.ref p, hs, .inl ⟨rfl, _, SqL.of hc⟩, ?_⟩
  refine h (upd G p (.lst (xs.map V.str))) (same_upd gp _) e2.gh (.lst upd_same (hstr _ _)) _ _ (Up.refl e2.gh) trivial _ fun y d _ G2 H2 ex _ q hd => ?_
  obtain ⟨ys, rfl, hl, hR⟩ := hd
  have ex := ex.d0
  cases q with
  | @lst b vs _ h1 h2 =>
    have hvs : ∀ (G : Hp) (l : List Str) (vs : List V), RpAll K G vs (l.map PyData.str) → vs = l.map V.str := fun G l => by
      induction l with
      | nil => intro vs h; cases h; rfl
      | cons a l ih =>
        intro vs h
        cases h with
        | cons h1 h2 =>
          cases h1
          rw [ih _ h2]
          rfl
    have hve := hvs _ _ _ h2
    subst hve
    have hp2 : H2 p = some (.lst (xs.map V.str)) := ex.hh _ _ hc
    refine ⟨p, b, _, _, rfl, rfl, hp2, ex.gh _ _ h1, by rw [List.length_map, List.length_map]; exact sz (by omega), ?_⟩
    have eh : Ext G0 H0 G H2 := ⟨e.hh.trans ex.hh, e.gg, (same_upd gp (.lst (xs.map V.str))).trans (ex.gg.trans ex.gh), e.new⟩
    refine k ys _ (Same.refl _) (eh.set hp gp _) ?_ hR
    rw [upd_same, List.map_append]
end
theorem dv_sorted {K : PySem.W.Frag} {D : Wd} {σ : L2.St} {G : Hp} {ta : TE} {m : D.M} {R : PyData → D.M → Prop} (h : Mv K D ta σ G m fun d m' => ∃ xs : List Str, d = .list (xs.map .str) ∧ xs.length < 64 ∧ ∀ ys : List Str, ys.Perm xs → R (.list (ys.map .str)) m') : Mv K D (tCB (rSortedS K) (tCons ta tNil)) σ G m R := fun G1 H1 e j Q q =>
  h G1 H1 e j _ fun v d m' G2 H2 e2 j2 r z => by
    obtain ⟨xs, rfl, hl, hR⟩ := z
    cases r with
    | @lst a vs _ h1 h2 =>
      have hvs : ∀ (G : Hp) (l : List Str) (vs : List V), RpAll K G vs (l.map PyData.str) → vs = l.map V.str := fun G l => by
        induction l with
        | nil => intro vs h; cases h; rfl
        | cons a l ih =>
          intro vs h
          cases h with
          | cons h1 h2 =>
            cases h1
            rw [ih _ h2]
            rfl
      have hve := hvs _ _ _ h2
      subst hve
      have hstr : ∀ (G : Hp) (l : List Str), RpAll K G (l.map V.str) (l.map PyData.str) := fun G l => by
        induction l with
        | nil => exact .nil
        | cons a l ih => exact .cons (.str _) ih
      refine ⟨a, xs, rfl, SqL.of (e2.gh _ _ h1), hl, fun ys p hp _ hn => ?_⟩
      exact q _ _ m' _ _ (e2.trans ((Ext.refl e2.gh).alloc hn _).w) (Wd.ext j2 ((Ext.refl e2.gh).alloc hn _)) (.lst upd_same (hstr _ _)) (hR ys hp)
section
variable {P : Program} {w : World} {K : PySem.W.Frag} {mg : Str → Option Value} {base : Heap}
/-- names among NS, small types -/
def NsE (env : List (Str × Ty)) : Prop := ∀ p ∈ env, p.1 ∈ NS ∧ k01 p.2
theorem NsE.get {env : List (Str × Ty)} (h : NsE env) {x : Str} {k : Ty} (q : getS env x = some k) : x ∈ NS ∧ k01 k := by
  obtain ⟨p, hp, rfl, rfl⟩ := getS_mem q
  exact h p hp
theorem NsE.put {env : List (Str × Ty)} (h : NsE env) {x : Str} {k : Ty} (hx : x ∈ NS) (hk : k01 k) : NsE (putS env x k) := by
  intro p hp
  unfold putS at hp
  split at hp
  · obtain ⟨q, hq, rfl⟩ := List.mem_map.mp hp
    split
    · exact ⟨(h q hq).1, hk⟩
    · exact h q hq
  · rcases List.mem_append.mp hp with z | z
    · exact h p z
    · rw [List.mem_singleton.mp z]
      exact ⟨hx, hk⟩
theorem OkT.inn {env : List (Str × Ty)} {t : Tm} (o : OkT env t) (h : NsE env) : NsE (inn env t) := by
  cases o with
  | mk k h1 hk ha hb hp =>
    cases t with
    | fn x s u => exact h.put (hb x rfl) (ha s rfl)
    | fx x s u => exact h.put (hb x rfl) (ha s rfl)
    | _ => exact h
theorem OkT.parts {env : List (Str × Ty)} {t : Tm} (o : OkT env t) : ∀ u ∈ t.parts, OkT (K82.inn env t) u := by
  cases o with
  | mk k h1 hk ha hb hp => exact hp
theorem NsE.few {env : List (Str × Ty)} (h : NsE env) {xs : List Str} (hn : xs.Nodup) (hx : ∀ x ∈ xs, (getS env x).isSome = true) : xs.length ≤ 5 := by
  have := nodup_sub xs NS hn fun x hm => by
    obtain ⟨k, hk⟩ := Option.isSome_iff_exists.mp (hx x hm)
    exact (h.get hk).1
  simpa [NS] using this
def keepF (t : Tm) (y : Str) : Bool := match t.bn with
  | some x => !decide (y = x)
  | none => true
abbrev spFr (K : PySem.W.Frag) (n : Nat) : Sp := spQ K 1 fun ds R => ∃ (t : Tm) (env : List (Str × Ty)), ds = [t.py] ∧ Lt n t.py ∧ n ≤ 60 ∧ OkT env t ∧ NsE env ∧ ∀ xs : List Str, xs.Nodup → (∀ x ∈ xs, (getS env x).isSome = true) → R (.list (xs.map .str))
theorem ok_law_free (T : Txt K mg) : ∀ n, FnOk P w K mg base CX0 (n + 2) T.law_free.f T.law_free.fd ["term"] (spFr K n)
  | 0 => fn_no (by
    rintro vs H Q E ⟨_, G, ds, R, _, _, ⟨t, env, _, h, _⟩, _⟩
    exact h)
  | n + 1 => by
    have g_law_free : FnOk P w K mg base CX0 (n + 2) _ _ _ _ := ok_law_free T n
    have g_law_parts : FnOk P w K mg base CX0 1 _ _ _ _ := ok_law_parts T
    refine T.law_free.F.ok sc_law_free (fun vs H Q E z => z.1) (fun cdv Ar outer s H vs Q E hr z => ?_)
    obtain ⟨_, G, ds, R, e, r, ⟨t, env, rfl, hg, hn, hok, hns, hR⟩, k⟩ := z
    cases r with
    | @cons v1 _ _ _ r1 r =>
    cases r
    refine ⟨_, (pss_cons (ps_if (pt_cmpR (op_eqX hr.units) (pe_ix ix_seq (pv 0) pe_int (fun _ _ => rfl)) pe_str (nomark _)) (pss_one (ps_ret (pe_lst (pa_cons (pe_ix ix_seq (pv 0) pe_int (fun _ _ => rfl)) pa_nil)))) pss_nil)
      (pss_cons (ps_set (i := 1) sc_law_free.nd rfl (Or.inr rfl) (pe_lst pa_nil))
      (pss_cons (ps_for PassesOwn.never rfl (pi_row (pe_call g_law_parts (hr.mono (by omega)) rfl T.law_parts.m T.law_parts.F.kp T.law_parts.b .nil pass0 (pa_cons (pv 0) pa_nil))) (pg_name (i := 2) sc_law_free.nd rfl (Or.inl rfl)) (pss_one (ps_expr (pe_bm PySem.F.plainAttrs_list PySem.F.slot_list_extend PySem.F.type_list_extend mt_extend (pv 1) (pa_cons (pe_lc (own := [("name", 3)]) (g := gName 3) rfl sc_law_free.nd (pi_row (pe_call g_law_free (hr.mono (by omega)) rfl T.law_free.m T.law_free.F.kp T.law_free.b .nil pass0 (pa_cons (pv 2) pa_nil))) (blkOk_by (N := ["term", "found", "part", "name"]) (sc := defScope s_law_free) (by decide +kernel)) (fun _ _ _ _ _ => (pg_name (i := 3) sc_law_free.nd rfl (Or.inl rfl))) (fun _ _ _ _ _ => pts_one (pt_cmpR (op_notInK K rfl (hu65 hr)) (pv 3) (pv 1) rfl)) (fun _ _ _ _ _ => (pv 3))) pa_nil)))))
      (pss_one (ps_ret (pe_callB cr_sortedS rfl T.z_sorted (by decide +kernel) (pa_cons (pe_lc (own := [("name", 3)]) (g := gName 3) rfl sc_law_free.nd (pi_row (pv 1)) (blkOk_by (N := ["term", "found", "part", "name"]) (sc := defScope s_law_free) (by decide +kernel)) (fun _ _ _ _ _ => (pg_name (i := 3) sc_law_free.nd rfl (Or.inl rfl))) (fun _ _ _ _ _ => pts_one (PW.pt (pw_or (pt_cmpR (op_notInK K rfl (hu65 hr)) (pe_ix (ix_K K rfl) (pv 0) pe_int (fun _ _ => rfl)) (pe_tup (pa_cons pe_str (pa_cons pe_str pa_nil))) rfl) (pw_or1 (pt_cmpR (op_neK K rfl hr.units) (pv 3) (pe_ix (ix_K K rfl) (pv 0) pe_int (fun _ _ => rfl)) (nomark _)))))) (fun _ _ _ _ _ => (pv 3))) pa_nil))))))), ?_⟩
    have hrow := t.row
    obtain ⟨n', hn', hparts⟩ := hg.parts
    cases hn'
    have hw : ∀ {σ : L2.St} {G5 H5 : Hp}, Rp K G5 v1 t.py → σ[0]? = some (some v1) → Dv K (tOp (rIx K) (tVar 0) (tC (.int 0))) σ G5 H5 (.str t.wo.s) := fun q hs => dv_ix (dv_var hs q) dv_int hrow at0
    refine ds_seq ?_
    refine ds_if (b := t.wo.is .name) e (DvT.is (dvt_test (dv_eq (hw r1 rfl) (dv_str (x := "name")) rfl)) (wo_is t.wo .name)) (fun h G1 H1 e1 => ?_) fun h1 G1 H1 e1 => ?_
    · cases t with
      | name x =>
        refine ds_ret (K := K) (d := .list [.str x]) e1.gh (dv_lst1 (dv_ix (d := .str x) (dv_var rfl (e1.rp r1)) dv_int hrow rfl)) fun v G2 H2 e2 q => k v _ G2 H2 (e1.trans e2) q (hR [x] (by simp) fun y hy => ?_)
        rw [List.mem_singleton.mp hy]
        cases hok with
        | mk k h1 hk ha hb hp =>
          have h1 : getS env x = some k := h1
          rw [h1]
          rfl
      | _ => cases h
    have hni := hok.inn hns
    refine ds_seq ?_
    refine ds_new fun p hp => ?_
    have hp0 : H p = none := Same.none e1.hh hp
    have gp : G1 p = none := Same.none e1.gh hp
    have e2 : Ext G H G1 (upd H1 p (.lst [])) := e1.allocM hp _
    dsimp only [gName]
    refine ds_seq ?_
    refine ds_for (ds := Tm.pys t.parts) e2.gh (dvi_row (dv_callT (f := fun t => .list (Tm.pys t.parts)) (t := t) (dv_var rfl (e1.rp r1)) hg.shr) rfl) fun G3 H3 e3 => ?_
    refine ⟨fun i σ' Gc Hc => σ'[0]? = some (some v1) ∧ σ'[1]? = some (some (.ref p)) ∧ σ'.length = 4 ∧ Same G3 Gc ∧ Ext G H Gc Hc ∧ Gc p = none ∧ ∃ xs : List Str, Hc p = some (.lst (xs.map V.str)) ∧ xs.Nodup ∧ ∀ x ∈ xs, (getS (inn env t) x).isSome = true,
      fun i σ' Gc Hc ⟨_, _, _, h1, h2, _⟩ => ⟨h1, h2.gh⟩, ⟨rfl, rfl, rfl, Same.refl _, e2.trans e3, e3.loose gp (by rw [upd_same]; simp), [], e3.hh _ _ upd_same, by simp, by simp⟩, ?_, ?_⟩
    · rintro i d σ1 Gc Hc hd ⟨s0, s1, sl, sg3, ec, gc, xs, hc, hnd, hxs⟩ x G4 H4 ex rx
      rw [Tm.pys_map, List.getElem?_map] at hd
      obtain ⟨u, hu, rfl⟩ := Option.map_eq_some_iff.mp hd
      have hum := List.mem_of_getElem? hu
      have ecx := ec.trans ex
      have hcx : H4 p = some (.lst (xs.map V.str)) := ex.hh _ _ hc
      have gcx : G4 p = none := ex.loose gc (by rw [hc]; simp)
      have hxl := hni.few hnd hxs
      refine ds_extS (R := fun ys => ys.Nodup ∧ (∀ y ∈ ys, y ∉ xs) ∧ ∀ y ∈ ys, (getS (inn env t) y).isSome = true) ecx hp0 gcx hcx (sg s1) (by omega) (fun G5 g45 g5h rp5 => ?_) fun ys H5 _ e5 hc5 hys => ?_
      · refine mv_lcL (mv_callQ (mva_cons (mv_dv (dv_var (sgx sl) (Rp.mono g45 _ _ rx)) (mva_nil ⟨_, rfl, rfl, u, inn env t, rfl, hparts u hum, by omega, hok.parts u hum, hni, fun ys hyn hys => ?_⟩))))
        have hyl := hni.few hyn hys
        refine ⟨ys.map .str, rfl, by rw [List.length_map]; omega, fun d => match d with | .str y => !(xs.any fun z => z == y) | _ => true, id, fun d hd x G6 H6 u6 r6 => ?_, fun d hd _ x G6 H6 u6 r6 => dv_var (sgx (sgl sl)) r6, ys.filter fun y => !(xs.any fun z => z == y), ?_, ?_, ?_, ?_, ?_⟩
        · obtain ⟨y, _, rfl⟩ := List.mem_map.mp hd
          exact dvt_test (dv_ninT (xs := xs) (dv_var (sgx (sgl sl)) r6) (dv_var (sg (sg s1)) (u6.rp rp5)) rfl)
        · rw [List.map_id, List.filter_map]
          rfl
        · have := List.length_filter_le (fun y => !(xs.any fun z => z == y)) ys
          omega
        · exact List.Nodup.sublist (List.filter_sublist) hyn
        · intro y hy hyx
          have := (List.mem_filter.mp hy).2
          simp at this
          exact this y hyx rfl
        · exact fun y hy => hys y (List.mem_filter.mp hy).1
      · obtain ⟨y1, y2, y3⟩ := hys
        refine ⟨G4, sg s0, sg s1, sgl sl, sg3.trans ex.gg, e5, gcx, xs ++ ys, hc5, ?_, fun y hy => ?_⟩
        · rw [List.nodup_append]
          exact ⟨hnd, y1, fun a ha b hb e => y2 b hb (e ▸ ha)⟩
        · rcases List.mem_append.mp hy with q | q
          · exact hxs y q
          · exact y3 y q
    · rintro σ1 Gc Hc ⟨s0, s1, sl, sg3, ec, gc, xs, hc, hnd, hxs⟩
      have hstr : ∀ (G : Hp) (l : List Str), RpAll K G (l.map V.str) (l.map PyData.str) := fun G l => by
        induction l with
        | nil => exact .nil
        | cons a l ih => exact .cons (.str _) ih
      have es := ec.still hp0 gc hc
      have rpf : Rp K (upd Gc p (.lst (xs.map V.str))) (.ref p) (.list (xs.map .str)) := .lst upd_same (hstr _ _)
      have hxl := hni.few hnd hxs
      have r1s := es.rp r1
      have hfil : xs.filter (keepF t) = xs.filter (keepF t) := rfl
      refine d0_ret (R := R) es.gh (dv_sorted (mv_dv (d := .list ((xs.filter (keepF t)).map .str)) (Dv.is (dv_lc (ds := xs.map .str) (p := fun d => match d with | .str y => keepF t y | _ => true) (f := id) (dvi_row (dv_var s1 rpf) rfl) (by rw [List.length_map]; omega) (fun d hd y G6 H6 u6 r6 => ?_) (fun d hd _ y G6 H6 u6 r6 => dv_var (sgx sl) r6)) (by rw [List.map_id, List.filter_map]; rfl)) ⟨xs.filter (keepF t), rfl, by have := List.length_filter_le (keepF t) xs; omega, fun ys hperm => hR ys (hperm.nodup_iff.mpr (List.Nodup.sublist (List.filter_sublist) hnd)) fun y hy => ?_⟩)) fun v d G5 H5 e5 => k v d G5 H5 (es.trans e5)
      · obtain ⟨y0, _, rfl⟩ := List.mem_map.mp hd
        have u6r := u6.rp r1s
        refine DvT.is (dvt_or (dvt_test (dv_ninT (xs := ["fun", "fix"]) (hw u6r (sg s0)) (dv_tup2 dv_str dv_str) rfl)) (c := keepF t y0) fun hb => ?_) ?_
        · rw [wo_bind] at hb
          cases t with
          | fn x s u =>
            refine DvT.is (dvt_test (dv_ne (d := .str y0) (dv_var (sgx sl) r6) (dv_ix (d := .str x) (dv_var (sg s0) u6r) dv_int hrow rfl) rfl)) ?_
            rw [eqv_str]
            rfl
          | fx x s u =>
            refine DvT.is (dvt_test (dv_ne (d := .str y0) (dv_var (sgx sl) r6) (dv_ix (d := .str x) (dv_var (sg s0) u6r) dv_int hrow rfl) rfl)) ?_
            rw [eqv_str]
            rfl
          | _ => cases hb
        · rw [wo_bind]
          cases t <;> first | rfl | exact Bool.false_or _ | exact Bool.true_or _
      · have hm := hperm.mem_iff.mp hy
        obtain ⟨h1, h2⟩ := List.mem_filter.mp hm
        have h3 := hxs y h1
        cases t with
        | fn x s u =>
          have hne : ¬ x = y := fun z => by simp [keepF, Tm.bn, z] at h2
          simp only [inn, getS_put, if_neg hne] at h3
          exact h3
        | fx x s u =>
          have hne : ¬ x = y := fun z => by simp [keepF, Tm.bn, z] at h2
          simp only [inn, getS_put, if_neg hne] at h3
          exact h3
        | _ => exact h3
end
end K82

set_option Elab.async false
set_option linter.all false
set_option maxRecDepth 100000
set_option maxHeartbeats 4000000
/-! law: s_fits. -/
namespace K82
open PySem L2 PyProof.Rows
section
variable {K : PySem.W.Frag} {D D' : Wd} {σ : L2.St} {G H G1 H1 : Hp} {te ta tb : TE} {tt tu : TT} {m : D.M} {d : PyData} {v : V} {i j : Nat} {E : Ends}
theorem mv_mulI {R : PyData → D.M → Prop} (h : Mv K D ta σ G m fun d m1 => ∃ i, d = .int i ∧ Mv K D tb σ G m1 fun d' m2 => ∃ j, d' = .int j ∧ CMul i j ∧ R (.int (i * j)) m2) : Mv K D (tOp rMulX ta tb) σ G m R := fun G1 H1 e j Q q =>
  h G1 H1 e j _ fun v d m1 G2 H2 e2 j2 r z => by
    obtain ⟨i, rfl, z⟩ := z
    cases r
    refine z G2 H2 (e.up e2.up) j2 _ fun v d m2 G3 H3 e3 j3 r z => ?_
    obtain ⟨k, rfl, hC, z⟩ := z
    cases r
    exact .inl ⟨i, k, rfl, rfl, hC, q _ _ m2 G3 H3 (e2.trans e3) j3 (.int _) z⟩
theorem dv_dget {α : Type} {f : α → PyData} {l : List (Str × α)} {x : Str} {a : α} {tn tk : TE} (hn : Dv K tn σ G H (envG f l)) (hk : Dv K tk σ G H (.str x)) (hg : getS l x = some a) : Dv K (tDGet tn tk) σ G H (f a) := fun G1 H1 e Q k =>
  hn G1 H1 e _ fun v G2 H2 e2 q => hk G2 H2 (e.trans e2) _ fun y G3 H3 e3 qy => by
    cases qy
    cases (e3.rp q) with
    | @dic ad kvs _ h1 h2 =>
      have z := rpkv_get (x := x) h2
      rw [hg] at z
      obtain ⟨u, z1, z2⟩ := z
      exact ⟨ad, u, rfl, .inl ⟨kvs, .inr x, .inl (e3.gh _ _ h1), rfl, z1.symm⟩, k u G3 H3 (e2.trans e3) z2⟩
/-- two worlds -/
def Wp (D D' : Wd) : Wd where
  M := D.M × D'.M
  W := fun b => D.W b ∨ D'.W b
  J := fun m G H => D.J m.1 G H ∧ D'.J m.2 G H ∧ ∀ b, D.W b → ¬ D'.W b
  mono := fun {m G H G' H'} j g w f => ⟨D.mono j.1 g (fun b u h => w b u (.inl h)) (fun b h => f b (.inl h)), D'.mono j.2.1 g (fun b u h => w b u (.inr h)) (fun b h => f b (.inr h)), j.2.2⟩
  alive := fun {m G H} j b h => h.elim (D.alive j.1 b) (D'.alive j.2.1 b)
  free := fun {m G H} j b h => h.elim (D.free j.1 b) (D'.free j.2.1 b)
theorem mv_fst {m : D.M} {m' : D'.M} {R : PyData → (Wp D D').M → Prop} (h : Mv K D te σ G m fun d x => R d (x, m')) : Mv K (Wp D D') te σ G (m, m') R := fun G1 H1 e j Q q =>
  h G1 H1 e j.1 Q fun v d m1 G2 H2 e2 j2 rp z => q v d (m1, m') G2 H2 (e2.sub fun _ => .inl) ⟨j2, Wd.extW (D := D') j.2.1 e2 fun b h h' => j.2.2 b h' h, j.2.2⟩ rp z
theorem mv_snd {m : D.M} {m' : D'.M} {R : PyData → (Wp D D').M → Prop} (h : Mv K D' te σ G m' fun d x => R d (m, x)) : Mv K (Wp D D') te σ G (m, m') R := fun G1 H1 e j Q q =>
  h G1 H1 e j.2.1 Q fun v d m1 G2 H2 e2 j2 rp z => q v d (m, m1) G2 H2 (e2.sub fun _ => .inr) ⟨Wd.extW (D := D) j.1 e2 fun b h h' => j.2.2 b h h', j2, j.2.2⟩ rp z
end
theorem NsE.envOk {env : List (Str × Ty)} (h : NsE env) (hn : (env.map (·.1)).Nodup) : EnvOk 940 env := by
  have hl := nodup_sub (env.map (·.1)) NS hn fun x hx => by
    obtain ⟨p, hp, rfl⟩ := List.mem_map.mp hx
    exact (h p hp).1
  refine ⟨?_, fun p hp => ?_⟩
  · simp [NS] at hl
    omega
  · rcases (h p hp).2 with e | e <;> rw [e]
    · exact ⟨by decide, by decide⟩
    · exact ⟨by decide, by decide⟩
theorem aff01 {m : Nat} (hm1 : 1 ≤ m) (hm3 : m ≤ 3) {k : Ty} (h : k01 k) : aff m k := by
  rcases h with rfl | rfl
  · trivial
  · refine ⟨trivial, trivial, ?_⟩
    have h0 : (allD m .nil).length = m + 1 := by simp [allD, rints]
    rw [h0]
    have : m = 1 ∨ m = 2 ∨ m = 3 := by omega
    rcases this with rfl | rfl | rfl <;> decide
theorem OkT.ty {env : List (Str × Ty)} {t : Tm} (o : OkT env t) : ∃ k, typ env t = some k ∧ k ∈ TS := by
  cases o with
  | mk k h1 hk ha hb hp => exact ⟨k, h1, hk⟩
theorem OkT.an {env : List (Str × Ty)} {t : Tm} (o : OkT env t) {s : Ty} (h : t.an = some s) : k01 s := by
  cases o with
  | mk k h1 hk ha hb hp => exact ha s h
theorem ts_sz {k : Ty} (h : k ∈ TS) : k.sz < 5 := by
  simp only [TS, List.mem_cons, List.not_mem_nil, or_false] at h
  rcases h with rfl | rfl | rfl | rfl | rfl <;> decide
section
variable {P : Program} {w : World} {K : PySem.W.Frag} {mg : Str → Option Value} {base : Heap}
abbrev spFi (K : PySem.W.Frag) (P : Program) (w : World) (n : Nat) : Sp := spM K 4 (BW K P w) fun i as _ R => ∃ (t : Tm) (env : List (Str × Ty)), as = [.raw (.ref i.2), .pd (.int i.1), .pd (envG Ty.py env), .pd t.py] ∧ Lt n t.py ∧ n ≤ 50 ∧ OkT env t ∧ NsE env ∧ (env.map (·.1)).Nodup ∧ 1 ≤ i.1 ∧ i.1 ≤ 3 ∧ ∀ b : Bool, R (.bool b) ()
theorem ok_law_s_fits (T : Txt K mg) : ∀ n, FnOk P w K mg base CX0 (n + 64) T.law_s_fits.f T.law_s_fits.fd ["book", "many", "names", "term"] (spFi K P w n)
  | 0 => fn_no (by
    rintro vs H Q E ⟨_, i, G, as, _, R, _, _, _, ⟨t, env, _, h, _⟩, _⟩
    exact h)
  | n + 1 => by
    have g_law_s_fits : FnOk P w K mg base CX0 (n + 64) _ _ _ _ := ok_law_s_fits T n
    have g_law_s_fit_kind : FnOk P w K mg base CX0 15 _ _ _ _ := ok_law_s_fit_kind T 5
    have g_law_all : FnOk P w K mg base CX0 10 _ _ _ _ := ok_law_all T 5
    have g_law_type_in : FnOk P w K mg base CX0 62 _ _ _ _ := ok_law_type_in T 60 (by omega)
    have g_law_free : FnOk P w K mg base CX0 62 _ _ _ _ := ok_law_free T 60
    have g_law_parts : FnOk P w K mg base CX0 1 _ _ _ _ := ok_law_parts T
    refine T.law_s_fits.F.ok (k := n + 64) sc_law_s_fits (fun vs H Q E z => z.1) (fun cdv Ar outer s H vs Q E hr z => ?_)
    obtain ⟨_, ⟨m, ba⟩, G, as, u, R, e, j, r, ⟨t, env, rfl, hg, hn, hok, hns, hnd, hm1, hm3, hR⟩, k⟩ := z
    cases u
    have hm1 : 1 ≤ m := hm1
    have hm3 : m ≤ 3 := hm3
    cases r with
    | @cons v1 _ _ _ r1 r =>
    cases r with
    | @cons v2 _ _ _ r2 r =>
    cases r with
    | @cons v3 _ _ _ r3 r =>
    cases r with
    | @cons v4 _ _ _ r4 r =>
    cases r
    cases (show v1 = .ref ba from r1)
    have r2 : Rp K G v2 (.int m) := r2
    have r3 : Rp K G v3 (envG Ty.py env) := r3
    have r4 : Rp K G v4 t.py := r4
    refine ⟨_, (pss_cons (ps_par (i := 4) (j := 5) rfl sc_law_s_fits.nd rfl rfl (by decide) rfl rfl (pa_cons (pe_call g_law_type_in (hr.mono (by omega)) rfl T.law_type_in.m T.law_type_in.F.kp T.law_type_in.b .nil pass0 (pa_cons (pv 2) (pa_cons (pv 3) pa_nil))) (pa_cons pe_int pa_nil)) rfl)
      (pss_cons (ps_if (PW.pt (pw_or (pt_cmpR op_isNX (pv 4) pe_non (nomark _)) (pw_or1 (pt_not (pt_val (pe_call g_law_s_fit_kind (hr.mono (by omega)) rfl T.law_s_fit_kind.m T.law_s_fit_kind.F.kp T.law_s_fit_kind.b .nil pass0 (pa_cons (pv 0) (pa_cons (pv 1) (pa_cons (pv 4) pa_nil))))))))) (pss_one (ps_ret pe_bl)) pss_nil)
      (pss_cons (ps_for PassesOwn.never rfl (pi_row (pe_call g_law_free (hr.mono (by omega)) rfl T.law_free.m T.law_free.F.kp T.law_free.b .nil pass0 (pa_cons (pv 3) pa_nil))) (pg_name (i := 6) sc_law_s_fits.nd rfl (Or.inl rfl)) (pss_one (ps_set (i := 5) sc_law_s_fits.nd rfl (Or.inl rfl) (pe_op op_mulX (pv 5) (pe_callB call_lenX rfl T.z_len (by decide +kernel) (pa_cons (pe_call g_law_all (hr.mono (by omega)) rfl T.law_all.m T.law_all.F.kp T.law_all.b .nil pass0 (pa_cons (pv 0) (pa_cons (pv 1) (pa_cons (pe_dget (hu1 hr) (pv 2) (pv 6) (fun _ _ => rfl)) pa_nil)))) pa_nil))))))
      (pss_cons (ps_set (i := 7) sc_law_s_fits.nd rfl (Or.inr rfl) (pv 2))
      (pss_cons (ps_if (pt_cmpR (op_inL (hu65 hr)) (pe_ix ix_seq (pv 3) pe_int (fun _ _ => rfl)) (pe_tup (pa_cons pe_str (pa_cons pe_str pa_nil))) rfl) (pss_cons (ps_set (i := 7) sc_law_s_fits.nd rfl (Or.inr rfl) (pe_callTy (call_dictPX rfl) rfl T.z_dict (by decide +kernel) (pa_cons (pe_op op_addX (LiI.pe_listItems rfl (pv 2) rfl T.z_list (by decide +kernel)) (pe_lst (pa_cons (pe_tup (pa_cons (pe_ix ix_seq (pv 3) pe_int (fun _ _ => rfl)) (pa_cons (pe_ix ix_seq (pv 3) pe_int (fun _ _ => rfl)) pa_nil))) pa_nil))) pa_nil)))
      (pss_one (ps_if (pt_not (pt_val (pe_call g_law_s_fit_kind (hr.mono (by omega)) rfl T.law_s_fit_kind.m T.law_s_fit_kind.F.kp T.law_s_fit_kind.b .nil pass0 (pa_cons (pv 0) (pa_cons (pv 1) (pa_cons (pe_ix ix_seq (pv 3) pe_int (fun _ _ => rfl)) pa_nil)))))) (pss_one (ps_ret pe_bl)) pss_nil))) pss_nil)
      (pss_one (ps_ret (pe_and (pe_cmpR op_le (pv 5) pe_int (nomark _)) (pe_one (pe_callB (cr_all rfl) rfl T.z_all (by decide +kernel) (pa_cons (pe_lc (own := [("part", 8)]) (g := gName 8) (tt := tYes) rfl sc_law_s_fits.nd (pi_row (pe_call g_law_parts (hr.mono (by omega)) rfl T.law_parts.m T.law_parts.F.kp T.law_parts.b .nil pass0 (pa_cons (pv 3) pa_nil))) (blkOk_by (N := ["book", "many", "names", "term", "kind", "lots", "name", "inner", "part"]) (sc := defScope s_law_s_fits) (by decide +kernel)) (fun _ _ _ _ _ => (pg_name (i := 8) sc_law_s_fits.nd rfl (Or.inl rfl))) (fun _ _ _ _ _ => pts_nil) (fun _ _ _ _ _ => (pe_call g_law_s_fits (hr.mono (by omega)) rfl T.law_s_fits.m T.law_s_fits.F.kp T.law_s_fits.b .nil pass0 (pa_cons (pv 0) (pa_cons (pv 1) (pa_cons (pv 7) (pa_cons (pv 8) pa_nil))))))) pa_nil))))))))))), ?_⟩
    have hrow := t.row
    obtain ⟨n', hn', hparts⟩ := hg.parts
    cases hn'
    obtain ⟨kd, hkd, hkts⟩ := hok.ty
    have hni := hok.inn hns
    have hndi : ((inn env t).map (·.1)).Nodup := by
      cases t <;> first | exact hnd | exact putS_keys hnd
    have hw : ∀ {σ : L2.St} {G5 H5 : Hp}, Rp K G5 v4 t.py → σ[3]? = some (some v4) → Dv K (tOp (rIx K) (tVar 3) (tC (.int 0))) σ G5 H5 (.str t.wo.s) := fun q hs => dv_ix (dv_var hs q) dv_int hrow at0
    refine ds_seq ?_
    refine ds_par (K := K) (d := kd.py) (d' := .int 1) e (dva_cons (Dv.is (dv_call (dva_cons (dv_var rfl r3) (dva_cons (dv_var rfl r4) dva_nil)) rfl ⟨env, t, rfl, hg.mono (by omega), hns.envOk hnd, hnd, rfl⟩) (by rw [hkd]; rfl)) (dva_cons dv_int dva_nil)) fun vk vl G1 H1 e1 qk ql => ?_
    cases ql
    dsimp only
    have j1 := Wd.ext j e1
    have q2 := e1.rp r2
    have q3 := e1.rp r3
    have q4 := e1.rp r4
    refine ds_seq ?_
    refine ms_if (D := BW K P w (m, ba)) (R := fun _ _ => True) e1.gh j1 (mvt_or (mvt_dv (b := false) (DvT.is (dvt_test (dv_isN (dv_var rfl qk))) rfl) ?_)) (fun _ G2 H2 e2 j2 _ => ?_) fun _ G2 H2 e2 j2 _ => ?_
    · rw [if_neg (by simp)]
      exact mvt_not (mvt_B (mv_call (mva_raw rfl (mva_cons (mv_dv (dv_var rfl q2) (mva_cons (mv_dv (dv_var rfl qk) (mva_nil ⟨rfl, kd, rfl, hkts, ts_sz hkts, hm1, hm3, fun b _ => ⟨b, rfl, trivial⟩⟩))))))))
    · exact k _ _ () G2 H2 (e1.w.trans e2) j2 (.bl false) (hR false)
    have q2 := e2.rp q2
    have q3 := e2.rp q3
    have q4 := e2.rp q4
    have e02 := e1.w.trans e2
    refine ds_seq ?_
    refine ms_forL (D := BW K P w (m, ba)) (R := fun ds _ => ∃ xs : List Str, ds = xs.map .str ∧ ∀ x ∈ xs, (getS env x).isSome = true) e2.gh j2 (mv_callQ (mva_cons (mv_dv (dv_var rfl q4) (mva_nil ⟨_, rfl, rfl, t, env, rfl, hg.mono (by omega), by omega, hok, hns, fun xs _ hxs => ⟨_, rfl, xs, rfl, hxs⟩⟩)))) fun ds _ G3 H3 e3 j3 hds => ?_
    obtain ⟨xs, rfl, hxs⟩ := hds
    have e03 := e02.trans e3
    refine ⟨fun i σ' Gc Hc => σ'[0]? = some (some (.ref ba)) ∧ σ'[1]? = some (some v2) ∧ σ'[2]? = some (some v3) ∧ σ'[3]? = some (some v4) ∧ σ'.length = 9 ∧ Same G3 Gc ∧ ExtW (BW K P w (m, ba)).W G H Gc Hc ∧ (BW K P w (m, ba)).J () Gc Hc ∧ ∃ f : Int, σ'[5]? = some (some (.int f)),
      fun i σ' Gc Hc ⟨_, _, _, _, _, h1, h2, _⟩ => ⟨h1, h2.gh⟩, ⟨rfl, rfl, rfl, rfl, rfl, Same.refl _, e03, j3, 1, rfl⟩, ?_, ?_⟩
    · rintro i d σ1 Gc Hc hd ⟨s0, s1, s2, s3, sl, sg5, ec, jc, f, s5⟩ x G6 H6 ex rx
      rw [List.getElem?_map] at hd
      obtain ⟨y, hy, rfl⟩ := Option.map_eq_some_iff.mp hd
      obtain ⟨ky, hky⟩ := Option.isSome_iff_exists.mp (hxs y (List.mem_of_getElem? hy))
      have hky1 := (hns.get hky).2
      have ecx := ec.trans ex.w
      show tAsg _ _ _ (σ1.set 6 (some x)) _
      refine ms_set (D := BW K P w (m, ba)) (R := fun d _ => ∃ z, d = .int z) ex.gh (Wd.ext jc ex) (mv_mulI (mv_dv (dv_var (sg s5) (.int f)) ⟨f, rfl, mv_len (mv_call (mva_raw (sg s0) (mva_cons (mv_dv (dv_var (sg s1) (ecx.rp r2)) (mva_cons (mv_dv (dv_dget (f := Ty.py) (dv_var (sg s2) (ecx.rp r3)) (dv_var (sgx sl) rx) hky) (mva_nil ⟨rfl, ky, rfl, hky1.ts, aff01 hm1 hm3 hky1, ts_sz hky1.ts, hm1, hm3, _, rfl, _, rfl, .inr ?_, _, rfl⟩)))))))⟩)) fun vn d _ G7 H7 e7 j7 qn hd7 => ?_
      · have := allD_len hm3 hky1
        show -(2 ^ 64) < ((allD m ky).length : Int) ∧ ((allD m ky).length : Int) < 2 ^ 64
        omega
      · obtain ⟨z, rfl⟩ := hd7
        cases qn
        exact ⟨G7, sg (sg s0), sg (sg s1), sg (sg s2), sg (sg s3), sgl (sgl sl), sg5.trans (ex.gg.trans e7.gg), ecx.trans e7, j7, z, sgx (sgl sl)⟩
    · rintro σ1 Gc Hc ⟨s0, s1, s2, s3, sl, sg5, ec, jc, f, s5⟩
      refine ds_seq ?_
      refine ⟨v3, s2, ?_⟩
      dsimp only [gName]
      have last : ∀ (σ2 : L2.St) (G5 H5 : Hp) (vi : V) (D : Ends), σ2[0]? = some (some (.ref ba)) → σ2[1]? = some (some v2) → σ2[3]? = some (some v4) → σ2[5]? = some (some (.int f)) → σ2[7]? = some (some vi) → σ2.length = 9 → ExtW (BW K P w (m, ba)).W G H G5 H5 → (BW K P w (m, ba)).J () G5 H5 → Rp K G5 vi (envG Ty.py (inn env t)) → D.rt = Q →
          tRet (tAndV (tOp (rI0 fun i j => .bl (decide (i ≤ j))) (tVar 5) (tC (.int 2000))) (tCB (rAll K) (tCons (tLc (iRow K (tCall (spT K (fun t => shr t.py = true) fun t => .list (Tm.pys t.parts)) [] E0 (tCons (tVar 3) tNil))) (gName 8) tYes (tCall (spFi K P w n) [] E0 (tCons (tVar 0) (tCons (tVar 1) (tCons (tVar 7) (tCons (tVar 8) tNil))))) [8]) tNil))) D σ2 H5 := by
        intro σ2 G5 H5 vi D b0 b1 b3 b5 b7 bl ex jx ri hD
        refine ms_ret (K := K) (D := BW K P w (m, ba)) (R := R) ex.gh jx (mv_and (mv_dv (dv_le (dv_var b5 (.int f)) dv_int) ⟨_, rfl, ?_⟩)) fun v d m' G6 H6 e6 j6 q6 z => ?_
        · split
          · refine mv_all (mv_lc (ds := Tm.pys t.parts) (fun i acc _ => ∃ bs : List Bool, acc = bs.map .bool) (dvi_row (dv_callT (f := fun t => .list (Tm.pys t.parts)) (t := t) (dv_var b3 (ex.rp r4)) hg.shr) rfl) ?_ ⟨[], rfl⟩ ?_ ?_)
            · rw [pys_len]
              have := parts_len hg
              omega
            · rintro i d acc _ hd hl ⟨bs, rfl⟩ x G6 H6 u6 rx
              rw [Tm.pys_map, List.getElem?_map] at hd
              obtain ⟨u, hu, rfl⟩ := Option.map_eq_some_iff.mp hd
              have hum := List.mem_of_getElem? hu
              refine mv_call (mva_raw (sg b0) (mva_cons (mv_dv (dv_var (sg b1) (u6.rp (ex.rp r2))) (mva_cons (mv_dv (dv_var (sg b7) (u6.rp ri)) (mva_cons (mv_dv (dv_var (sgx bl) rx) (mva_nil ⟨rfl, u, inn env t, rfl, hparts u hum, by omega, hok.parts u hum, hni, hndi, hm1, hm3, fun b => ⟨bs ++ [b], by simp⟩⟩))))))))
            · rintro acc _ hl ⟨bs, rfl⟩
              exact ⟨bs, rfl, hR _⟩
          · exact hR false
        · show D.rt v H6
          rw [hD]
          exact k v d m' G6 H6 (ex.trans e6) j6 q6 z
      have rc3 := ec.rp r3
      have rc4 := ec.rp r4
      refine ds_seq ?_
      refine ds_if (b := t.wo.bind) ec.gh (DvT.is (dvt_test (dv_inT (xs := ["fun", "fix"]) (hw rc4 (sg s3)) (dv_tup2 dv_str dv_str) rfl)) (wo_bind t.wo)) (fun hb G4 H4 e4 => ?_) fun hb G4 H4 e4 => ?_
      · obtain ⟨x, sk, hx1, hx2, hinn, han⟩ : ∃ x sk, atI (PyData.str t.wo.s :: t.tl) 1 = some (.str x) ∧ atI (PyData.str t.wo.s :: t.tl) 2 = some (Ty.py sk) ∧ inn env t = putS env x sk ∧ t.an = some sk := by
          cases t with
          | fn x s u => exact ⟨x, s, rfl, rfl, rfl, rfl⟩
          | fx x s u => exact ⟨x, s, rfl, rfl, rfl, rfl⟩
          | _ => cases hb
        have hsk := hok.an han
        refine ds_seq ?_
        refine ds_set (K := K) (d := envG Ty.py (inn env t)) e4.gh (Dv.is (dv_dictP (l := env ++ [(x, sk)]) (f := Ty.py) (Dv.is (dv_addL (dv_listItems (dv_var (sg s2) (e4.rp rc3))) (dv_lst1 (dv_tup2 (dv_ix (d := .str x) (dv_var (sg s3) (e4.rp rc4)) dv_int hrow hx1) (dv_ix (d := sk.py) (dv_var (sg s3) (e4.rp rc4)) dv_int hrow hx2))) ?_) ?_)) ?_) fun vi G5 H5 e5 qi => ?_
        · have hl := (hns.envOk hnd).1
          simp
          omega
        · simp
        · rw [hinn, mrg_last hnd]
        dsimp only [gName]
        have j5 := Wd.ext (Wd.ext jc e4) e5
        refine ms_if (D := BW K P w (m, ba)) (R := fun _ _ => True) e5.gh j5 (mvt_not (mvt_B (mv_call (mva_raw (sg (sg s0)) (mva_cons (mv_dv (dv_var (sg (sg s1)) (e5.rp (e4.rp (ec.rp r2)))) (mva_cons (mv_dv (dv_ix (d := sk.py) (dv_var (sg (sg s3)) (e5.rp (e4.rp rc4))) dv_int hrow hx2) (mva_nil ⟨rfl, sk, rfl, hsk.ts, ts_sz hsk.ts, hm1, hm3, fun b _ => ⟨b, rfl, trivial⟩⟩))))))))) (fun _ G6 H6 e6 j6 _ => ?_) fun _ G6 H6 e6 j6 _ => ?_
        · exact k _ _ () G6 H6 (((ec.trans e4.w).trans e5.w).trans e6) j6 (.bl false) (hR false)
        · exact last _ G6 H6 vi _ (sg (sg s0)) (sg (sg s1)) (sg (sg s3)) (sg (sg s5)) (sgx (sgl sl)) (sgl (sgl sl)) (((ec.trans e4.w).trans e5.w).trans e6) j6 (e6.rp qi) rfl
      · have hinn : inn env t = env := by
          cases t <;> first | rfl | exact Bool.noConfusion hb
        refine last _ G4 H4 v3 _ (sg s0) (sg s1) (sg s3) (sg s5) (sgx sl) (sgl sl) (ec.trans e4.w) (Wd.ext jc e4) ?_ rfl
        rw [hinn]
        exact e4.rp rc3
end
end K82

set_option Elab.async false
set_option linter.all false
set_option maxRecDepth 100000
set_option maxHeartbeats 4000000
/-! law: s_never, s_term. -/
namespace K82
open PySem L2 PyProof.Rows
section
variable {P : Program} {w : World} {K : PySem.W.Frag} {mg : Str → Option Value} {base : Heap}
abbrev spNv (K : PySem.W.Frag) (n : Nat) : Sp := spD K 1 fun ds d => ds = [Ty.nil.py] ∧ n ≠ 0 ∧ d = Tm.no.py
theorem ok_law_s_never (T : Txt K mg) : ∀ n, FnOk P w K mg base CX0 (n + 1) T.law_s_never.f T.law_s_never.fd ["kind"] (spNv K n)
  | 0 => fn_no (by
    rintro vs H Q E ⟨_, _, _, _, _, _, ⟨_, h, _⟩, _⟩
    exact h rfl)
  | n + 1 => by
    have g_law_s_never : FnOk P w K mg base CX0 (n + 1) _ _ _ _ := ok_law_s_never T n
    refine T.law_s_never.F.ok sc_law_s_never (fun vs H Q E z => z.1) (fun cdv Ar outer s H vs Q E hr z => ?_)
    obtain ⟨_, G, ds, d, e, r, ⟨rfl, _, rfl⟩, k⟩ := z
    cases r with
    | @cons v1 _ _ _ r1 r =>
    cases r
    refine ⟨_, (pss_one (ps_ret (pe_ifExp (pt_cmpR (op_eqX hr.units) (pv 0) (pe_tup pa_nil) (nomark _)) (pe_tup (pa_cons pe_str pa_nil)) (pe_tup (pa_cons pe_str (pa_cons pe_str (pa_cons (pe_ix ix_seq (pv 0) pe_int (fun _ _ => rfl)) (pa_cons (pe_call g_law_s_never (hr.mono (by omega)) rfl T.law_s_never.m T.law_s_never.F.kp T.law_s_never.b .nil pass0 (pa_cons (pe_slice sl_X (pv 0) (po_some pe_int) po_none) pa_nil)) pa_nil)))))))), ?_⟩
    exact ds_ret (K := K) (d := Tm.no.py) e (dv_if (b := true) (DvT.is (dvt_test (dv_eq (d' := Ty.nil.py) (dv_var rfl r1) (dv_tup dva_nil (Nat.zero_le _)) (Ty.eqOk (by simp [Ty.d]) (by simp [Ty.d])))) (nil_eqv .nil)) (fun _ => dv_tup1 dv_str) fun h => by cases h) k
abbrev SB2 (K : PySem.W.Frag) (P : Program) (w : World) (i : (Addr × Addr) × (Nat × Addr)) : Wd := Wp (SW i.1) (BW K P w i.2)
abbrev spSt (K : PySem.W.Frag) (P : Program) (w : World) (n : Nat) : Sp := spM K 6 (SB2 K P w) fun i as mm R => ∃ (s b : Nat), mm = (b, ()) ∧ as = [.raw (.ref i.1.1), .raw (.ref i.2.2), .pd (.int i.2.1), .pd (.list []), .pd Ty.nil.py, .pd (.int s)] ∧ 1 ≤ i.2.1 ∧ i.2.1 ≤ 3 ∧ 1 ≤ s ∧ s ≤ n ∧ 6 * cst s ≤ b ∧
  ∀ (t : Tm) (b' : Nat), GenT i.2.1 [] .nil (2 * s + 3) t → t.size ≤ 40 → b ≤ b' + 6 * cst s → R t.py (b', ())
theorem ok_law_s_term (T : Txt K mg) (n : Nat) (hn : n ≤ 20) : FnOk P w K mg base CX0 120 T.law_s_term.f T.law_s_term.fd ["stream", "book", "many", "names", "kind", "size"] (spSt K P w n) := by
  have g_law_term : FnOk P w K mg base CX0 (2 * n + 6) _ _ _ _ := ok_law_term T n
  have g_law_size : FnOk P w K mg base CX0 62 _ _ _ _ := ok_law_size T 60
  have g_law_s_fits : FnOk P w K mg base CX0 114 _ _ _ _ := ok_law_s_fits T 50
  have g_law_s_never : FnOk P w K mg base CX0 2 _ _ _ _ := ok_law_s_never T 1
  refine T.law_s_term.F.ok (k := 119) sc_law_s_term (fun vs H Q E z => z.1) (fun cdv Ar outer s H vs Q E hr z => ?_)
  obtain ⟨_, ⟨p, ⟨m, ba⟩⟩, G, as, mm, R, e, j, r, ⟨sz, b, rfl, rfl, hm1, hm3, hs1, hsn, hb, hR⟩, k⟩ := z
  have hm1 : 1 ≤ m := hm1
  have hm3 : m ≤ 3 := hm3
  cases r with
  | @cons v1 _ _ _ r1 r =>
  cases r with
  | @cons v2 _ _ _ r2 r =>
  cases r with
  | @cons v3 _ _ _ r3 r =>
  cases r with
  | @cons v4 _ _ _ r4 r =>
  cases r with
  | @cons v5 _ _ _ r5 r =>
  cases r with
  | @cons v6 _ _ _ r6 r =>
  cases r
  cases (show v1 = .ref p.1 from r1)
  cases (show v2 = .ref ba from r2)
  have r3 : Rp K G v3 (.int m) := r3
  have r4 : Rp K G v4 (namesD []) := r4
  have r5 : Rp K G v5 Ty.nil.py := r5
  have r6 : Rp K G v6 (.int sz) := r6
  refine ⟨_, (pss_cons (ps_for PassesOwn.never rfl (pi_range1 rfl T.z_range (pa_cons pe_int pa_nil)) (pg_name (i := 6) sc_law_s_term.nd rfl (Or.inl rfl)) (pss_cons (ps_set (i := 7) sc_law_s_term.nd rfl (Or.inl rfl) (pe_call g_law_term (hr.mono (by omega)) rfl T.law_term.m T.law_term.F.kp T.law_term.b .nil pass0 (pa_cons (pv 0) (pa_cons (pv 2) (pa_cons (pv 3) (pa_cons (pv 4) (pa_cons (pv 5) pa_nil)))))))
      (pss_one (ps_if (PW.pt (pw_and (pt_cmpR op_le (pe_call g_law_size (hr.mono (by omega)) rfl T.law_size.m T.law_size.F.kp T.law_size.b .nil pass0 (pa_cons (pv 7) pa_nil)) pe_int (nomark _)) (pw_and1 (pt_val (pe_call g_law_s_fits (hr.mono (by omega)) rfl T.law_s_fits.m T.law_s_fits.F.kp T.law_s_fits.b .nil pass0 (pa_cons (pv 1) (pa_cons (pv 2) (pa_cons (pe_callTy (call_dictPX rfl) rfl T.z_dict (by decide +kernel) (pa_cons (pv 3) pa_nil)) (pa_cons (pv 7) pa_nil))))))))) (pss_one (ps_ret (pv 7))) pss_nil))))
      (pss_one (ps_ret (pe_call g_law_s_never (hr.mono (by omega)) rfl T.law_s_never.m T.law_s_never.F.kp T.law_s_never.b .nil pass0 (pa_cons (pv 4) pa_nil))))), ?_⟩
  have h0 : NmOk [] := ⟨by simp, by simp⟩
  refine ds_seq ?_
  refine ds_for e (dvi_range1 (K := K) (n := 6) dv_int (by omega)) fun G1 H1 e1 => ?_
  refine ⟨fun i σ' Gc Hc => σ'[0]? = some (some (.ref p.1)) ∧ σ'[1]? = some (some (.ref ba)) ∧ σ'[2]? = some (some v3) ∧ σ'[3]? = some (some v4) ∧ σ'[4]? = some (some v5) ∧ σ'[5]? = some (some v6) ∧ σ'.length = 8 ∧ Same G1 Gc ∧ ExtW (SB2 K P w (p, (m, ba))).W G H Gc Hc ∧ ∃ b' : Nat, (SB2 K P w (p, (m, ba))).J (b', ()) Gc Hc ∧ b ≤ b' + i * cst sz,
    fun i σ' Gc Hc ⟨_, _, _, _, _, _, _, h1, h2, _⟩ => ⟨h1, h2.gh⟩, ⟨rfl, rfl, rfl, rfl, rfl, rfl, rfl, Same.refl _, e1.w, b, Wd.ext j e1, by omega⟩, ?_, ?_⟩
  · rintro i d σ1 Gc Hc hd ⟨s0, s1, s2, s3, s4, s5, sl, sg1, ec, b', jc, hbb⟩ x G2 H2 ex rx
    have hi : i < 6 := by
      have := (List.getElem?_eq_some_iff.mp hd).1
      simpa [rints] using this
    have hi6 : i * cst sz ≤ 5 * cst sz := Nat.mul_le_mul_right _ (by omega)
    have ecx := ec.trans ex.w
    show tSeq _ _ _ (σ1.set 6 (some x)) _
    refine ds_seq ?_
    refine ms_set (D := SB2 K P w (p, (m, ba))) (m := (b', ())) (R := fun d mm => ∃ (t : Tm) (b2 : Nat), d = Tm.py t ∧ mm = (b2, ()) ∧ GenT m [] .nil (2 * sz + 3) t ∧ b' ≤ b2 + cst sz) ex.gh (Wd.ext jc ex) (mv_fst (mv_call (mva_raw (sg s0) (mva_cons (mv_dv (dv_var (sg s2) (ecx.rp r3)) (mva_cons (mv_dv (dv_var (sg s3) (ecx.rp r4)) (mva_cons (mv_dv (dv_var (sg s4) (ecx.rp r5)) (mva_cons (mv_dv (dv_var (sg s5) (ecx.rp r6)) (mva_nil ⟨rfl, m, [], .nil, sz, rfl, hm1, hm3, h0, .inl rfl, hs1, hsn, by omega, fun t b2 hg hb2 => ⟨t, b2, rfl, rfl, hg, hb2⟩⟩)))))))))))) fun vf d mm G3 H3 e3 j3 qf hd3 => ?_
    obtain ⟨t, b2, rfl, rfl, hg, hb2⟩ := hd3
    have ec3 := ecx.trans e3
    have hlt : Lt 50 t.py := hg.lt.mono (by omega)
    dsimp only [gName]
    refine ms_if (D := SB2 K P w (p, (m, ba))) (m := (b2, ())) (R := fun c mm => mm = (b2, ()) ∧ (c = true → t.size ≤ 40)) e3.gh j3 (mvt_and (mvt_dv (dvt_test (dv_le (dv_callT (f := fun t => .int t.size) (t := t) (dv_var (sgx (sgl sl)) qf) (hlt.mono (by omega))) dv_int)) ?_)) (fun mm G4 H4 e4 j4 hc => ?_) fun mm G4 H4 e4 j4 hc => ?_
    · have hso : t.size ≤ 40 ∨ ¬ t.size ≤ 40 := Decidable.em _
      cases hso with
      | inl hso =>
        rw [if_pos (decide_eq_true (by omega))]
        refine mvt_B (mv_snd (mv_call (mva_raw (sg (sg s1)) (mva_cons (mv_dv (dv_var (sg (sg s2)) (ec3.rp r3)) (mva_cons (mv_dv (d := envG Ty.py []) (Dv.is (dv_dictP (l := []) (f := Ty.py) (dv_var (sg (sg s3)) (ec3.rp r4))) rfl) (mva_cons (mv_dv (dv_var (sgx (sgl sl)) qf) (mva_nil ⟨rfl, t, [], rfl, hlt, by omega, hg.ok, (fun p hp => by cases hp), List.nodup_nil, hm1, hm3, fun c => ⟨c, rfl, rfl, fun _ => hso⟩⟩))))))))))
      | inr hso =>
        rw [if_neg (by rw [decide_eq_false (show ¬ ((t.size : Int) ≤ 40) by omega)]; simp)]
        exact ⟨rfl, fun h => by cases h⟩
    · obtain ⟨rfl, hc⟩ := hc
      exact ⟨vf, sgx (sgl sl), k vf _ _ G4 H4 (ec3.trans e4) j4 (e4.rp qf) (hR t b2 hg (hc rfl) (by omega))⟩
    · obtain ⟨rfl, hc⟩ := hc
      refine ⟨G4, sg (sg s0), sg (sg s1), sg (sg s2), sg (sg s3), sg (sg s4), sg (sg s5), sgl (sgl sl), sg1.trans (ex.gg.trans (e3.gg.trans e4.gg)), ec3.trans e4, b2, j4, ?_⟩
      rw [Nat.succ_mul]
      omega
  · rintro σ1 Gc Hc ⟨s0, s1, s2, s3, s4, s5, sl, sg1, ec, b', jc, hbb⟩
    have hl6 : (rints 0 6).length = 6 := rfl
    rw [hl6] at hbb
    refine ds_ret (K := K) (d := Tm.no.py) ec.gh (dv_call (dva_cons (dv_var s4 (ec.rp r5)) dva_nil) rfl ⟨rfl, by omega, rfl⟩) fun v G3 H3 e3 q3 => ?_
    exact k v _ _ G3 H3 (ec.trans e3.w) (Wd.ext jc e3) q3 (hR .no b' (gen_no.mono (by omega)) (by simp [Tm.size]) hbb)
end
end K82

set_option Elab.async false
set_option linter.all false
set_option maxRecDepth 100000
set_option maxHeartbeats 4000000
/-! law: bent. -/
namespace K82
open PySem L2 PyProof.Rows
section
variable {K : PySem.W.Frag} {D : Wd} {σ : L2.St} {G H G1 H1 : Hp} {te ta tb : TE} {tt tu : TT} {m : D.M} {d : PyData} {v : V} {i j : Nat} {E : Ends}
theorem mv_addL {R : PyData → D.M → Prop} (h : Mv K D ta σ G m fun d m1 => ∃ ds, d = .list ds ∧ Mv K D tb σ G m1 fun d' m2 => ∃ es, d' = .list es ∧ ds.length + es.length ≤ 100000 ∧ R (.list (ds ++ es)) m2) : Mv K D (tOp (rAddX K) ta tb) σ G m R := fun G1 H1 e j Q q =>
  h G1 H1 e j _ fun v d m1 G2 H2 e2 j2 r z => by
    obtain ⟨ds, rfl, z⟩ := z
    refine z G2 H2 (e.up e2.up) j2 _ fun y d' m2 G3 H3 e3 j3 r3 z => ?_
    obtain ⟨es, rfl, hz, z⟩ := z
    cases (e3.rp r) with
    | lst h1 r1 =>
      cases r3 with
      | lst h2 r2 => exact .inr (.inl ⟨_, _, _, _, rfl, rfl, e3.gh _ _ h1, e3.gh _ _ h2, by rw [r1.length, r2.length]; exact sz hz, fun p hp => q _ _ m2 _ _ ((e2.trans e3).trans ((Ext.refl e3.gh).alloc hp _).w) (Wd.ext j3 ((Ext.refl e3.gh).alloc hp _)) (.lst upd_same (RpAll.mono (same_upd (Same.none e3.gh hp) _) _ _ (RpAll.app r1 r2))) z⟩)
theorem mv_lst1 {R : PyData → D.M → Prop} (h : Mv K D ta σ G m fun a m1 => R (.list [a]) m1) : Mv K D (tLst (tCons ta tNil)) σ G m R := mv_lst (mva_cons (h.imp fun a m1 z => mva_nil ⟨[a], rfl, by simp, z⟩))
end
/-- an instruction -/
def EntOk (e : PyData) : Prop := ∃ ds, e = .tuple ds ∧ 0 < ds.length ∧ ds.length ≤ 10 ∧ Lt 4 e ∧ cnt e ≤ 20
/-- what may stand in a bent code -/
def Odd (e : PyData) : Prop := Lt 6 e ∧ cnt e ≤ 100
theorem EntOk.odd {e : PyData} (h : EntOk e) : Odd e := by
  obtain ⟨ds, rfl, _, _, h1, h2⟩ := h
  exact ⟨h1.mono (by omega), by omega⟩
theorem cut_take {α : Type} {l : List α} {k : Nat} : cutL l none (some (k : Int)) = l.take k := by
  unfold cutL
  rw [HT.sIx_nat, HT.sIx_none]
  simp
theorem cut_drop {α : Type} {l : List α} {k : Nat} : cutL l (some (k : Int)) none = l.drop k := by
  unfold cutL
  rw [HT.sIx_nat, HT.sIx_none]
  rcases Nat.le_total k l.length with h | h
  · rw [Nat.min_eq_left h, List.take_of_length_le (by simp)]
  · rw [Nat.min_eq_right h, List.drop_of_length_le h]
    simp
theorem cnts_set : ∀ {ds : List PyData} {i : Nat} {v : PyData}, cnts (ds.set i v) ≤ cnts ds + cnt v
  | [], _, _ => by simp [cnts]
  | d :: ds, 0, v => by
    show cnts (v :: ds) ≤ _
    rw [cnts, cnts]
    omega
  | d :: ds, i + 1, v => by
    have := cnts_set (ds := ds) (i := i) (v := v)
    show cnts (d :: ds.set i v) ≤ _
    rw [cnts, cnts]
    omega
section
variable {P : Program} {w : World} {K : PySem.W.Frag} {mg : Str → Option Value} {base : Heap}
abbrev spBe (K : PySem.W.Frag) : Sp := spM K 2 SW fun p as (b : Nat) R => ∃ l : List PyData, as = [.raw (.ref p.1), .pd (.list l)] ∧ 0 < l.length ∧ l.length ≤ 45 ∧ (∀ e ∈ l, EntOk e) ∧ 6 ≤ b ∧ ∀ (l' : List PyData) (b' : Nat), l'.length ≤ 50 → (∀ e ∈ l', Odd e) → b ≤ b' + 6 → R (.list l') b'
theorem ok_law_bent (T : Txt K mg) : FnOk P w K mg base CX0 3 T.law_bent.f T.law_bent.fd ["stream", "code"] (spBe K) := by
  have g_law_draw : FnOk P w K mg base CX0 1 _ _ _ _ := ok_law_draw T
  have g_law_pick : FnOk P w K mg base CX0 2 _ _ _ _ := ok_law_pick T
  refine T.law_bent.F.ok (k := 2) sc_law_bent (fun vs H Q E z => z.1) (fun cdv Ar outer s H vs Q E hr z => ?_)
  obtain ⟨_, p, G, as, (b : Nat), R, e, j, r, ⟨l, rfl, hl0, hl, hent, hb, hR⟩, k⟩ := z
  cases r with
  | @cons v1 _ _ _ r1 r =>
  cases r with
  | @cons v2 _ _ _ r2 r =>
  cases r
  cases (show v1 = .ref p.1 from r1)
  have r2 : Rp K G v2 (.list l) := r2
  refine ⟨_, (pss_cons (ps_par (i := 2) (j := 3) rfl sc_law_bent.nd rfl rfl (by decide) rfl rfl (pa_cons (pe_call g_law_draw (hr.mono (by omega)) rfl T.law_draw.m T.law_draw.F.kp T.law_draw.b .nil pass0 (pa_cons (pv 0) (pa_cons (pe_callB call_lenX rfl T.z_len (by decide +kernel) (pa_cons (pv 1) pa_nil)) pa_nil))) (pa_cons (pe_call g_law_draw (hr.mono (by omega)) rfl T.law_draw.m T.law_draw.F.kp T.law_draw.b .nil pass0 (pa_cons (pv 0) (pa_cons pe_int pa_nil))) pa_nil)) rfl)
      (pss_cons (ps_set (i := 4) sc_law_bent.nd rfl (Or.inl rfl) (pe_lst (pa_cons pe_non (pa_cons pe_int (pa_cons pe_str (pa_cons (pe_tup pa_nil) (pa_cons (pe_lst pa_nil) (pa_cons (pe_tup (pa_cons pe_str pa_nil)) (pa_cons (pe_tup (pa_cons pe_str (pa_cons pe_int pa_nil))) (pa_cons (pe_tup (pa_cons pe_str (pa_cons pe_bl pa_nil))) (pa_cons (pe_tup (pa_cons pe_str (pa_cons pe_int pa_nil))) (pa_cons (pe_tup (pa_cons pe_str (pa_cons pe_int pa_nil))) (pa_cons (pe_tup (pa_cons pe_str (pa_cons (pe_un un_neg pe_int) pa_nil))) (pa_cons (pe_tup (pa_cons pe_str (pa_cons pe_str (pa_cons (pe_tup pa_nil) (pa_cons (pv 2) pa_nil))))) (pa_cons (pe_tup (pa_cons pe_str (pa_cons (pv 2) (pa_cons (pe_op op_addX (pv 2) pe_int) pa_nil)))) (pa_cons (pe_tup (pa_cons pe_str pa_nil)) pa_nil))))))))))))))))
      (pss_cons (ps_if (pt_cmpR (op_eqX hr.units) (pv 3) pe_int (nomark _)) (pss_one (ps_ret (pe_slice sl_X (pv 1) po_none (po_some (pv 2))))) pss_nil)
      (pss_cons (ps_if (pt_cmpR (op_eqX hr.units) (pv 3) pe_int (nomark _)) (pss_one (ps_ret (pe_op op_addX (pv 1) (pe_lst (pa_cons (pe_call g_law_pick (hr.mono (by omega)) rfl T.law_pick.m T.law_pick.F.kp T.law_pick.b .nil pass0 (pa_cons (pv 0) (pa_cons (pv 1) pa_nil))) pa_nil))))) pss_nil)
      (pss_cons (ps_if (pt_cmpR (op_eqX hr.units) (pv 3) pe_int (nomark _)) (pss_one (ps_ret (pe_op op_addX (pe_slice sl_X (pv 1) po_none (po_some (pv 2))) (pe_slice sl_X (pv 1) (po_some (pe_op op_addX (pv 2) pe_int)) po_none)))) pss_nil)
      (pss_cons (ps_if (pt_cmpR (op_eqX hr.units) (pv 3) pe_int (nomark _)) (pss_one (ps_ret (pe_op op_addX (pe_op op_addX (pe_slice sl_X (pv 1) po_none (po_some (pv 2))) (pe_lst (pa_cons (pe_ix ix_seq (pv 1) (pv 2) (fun _ _ => rfl)) pa_nil))) (pe_slice sl_X (pv 1) (po_some (pv 2)) po_none)))) pss_nil)
      (pss_cons (ps_set (i := 5) sc_law_bent.nd rfl (Or.inl rfl) (pe_callTy call_lstX rfl T.z_list (by decide +kernel) (pa_cons (pe_ix ix_seq (pv 1) (pv 2) (fun _ _ => rfl)) pa_nil)))
      (pss_cons (ps_if (PW.pt (pw_and (pt_cmpR op_lt (pv 3) pe_int (nomark _)) (pw_and1 (pt_cmpR op_gt (pe_callB call_lenX rfl T.z_len (by decide +kernel) (pa_cons (pv 5) pa_nil)) pe_int (nomark _))))) (pss_cons (ps_set (i := 6) sc_law_bent.nd rfl (Or.inl rfl) (pe_op op_addX pe_int (pe_call g_law_draw (hr.mono (by omega)) rfl T.law_draw.m T.law_draw.F.kp T.law_draw.b .nil pass0 (pa_cons (pv 0) (pa_cons (pe_op op_sub (pe_callB call_lenX rfl T.z_len (by decide +kernel) (pa_cons (pv 5) pa_nil)) pe_int) pa_nil)))))
      (pss_cons (ps_asg (pe_call g_law_pick (hr.mono (by omega)) rfl T.law_pick.m T.law_pick.F.kp T.law_pick.b .nil pass0 (pa_cons (pv 0) (pa_cons (pe_lst (pa_cons pe_int (pa_cons pe_int (pa_cons (pe_op op_addX (pv 2) pe_int) (pa_cons (pe_callB call_lenX rfl T.z_len (by decide +kernel) (pa_cons (pv 1) pa_nil)) (pa_cons pe_str (pa_cons (pe_tup (pa_cons (pe_tup pa_nil) pa_nil)) (pa_cons (pe_tup pa_nil) (pa_cons pe_non (pa_cons (pe_lst (pa_cons (pe_op op_addX (pv 2) pe_int) pa_nil)) (pa_cons pe_str pa_nil))))))))))) pa_nil))) (pg_sub (pv 5) (pv 6) set_list))
      (pss_one (ps_ret (pe_op op_addX (pe_op op_addX (pe_slice sl_X (pv 1) po_none (po_some (pv 2))) (pe_lst (pa_cons (pe_callTy call_tupX rfl T.z_tuple (by decide +kernel) (pa_cons (pv 5) pa_nil)) pa_nil))) (pe_slice sl_X (pv 1) (po_some (pe_op op_addX (pv 2) pe_int)) po_none)))))) pss_nil)
      (pss_one (ps_ret (pe_op op_addX (pe_op op_addX (pe_slice sl_X (pv 1) po_none (po_some (pv 2))) (pe_lst (pa_cons (pe_call g_law_pick (hr.mono (by omega)) rfl T.law_pick.m T.law_pick.F.kp T.law_pick.b .nil pass0 (pa_cons (pv 0) (pa_cons (pv 4) pa_nil))) pa_nil))) (pe_slice sl_X (pv 1) (po_some (pe_op op_addX (pv 2) pe_int)) po_none)))))))))))), ?_⟩
  -- the ends
  have fin1 : ∀ (a c : Nat) (mid : List PyData), (∀ e ∈ mid, Odd e) → mid.length ≤ 1 → a ≤ c → (l.take a ++ mid ++ l.drop c).length ≤ 50 ∧ ∀ e ∈ l.take a ++ mid ++ l.drop c, Odd e := fun a c mid hm hml hac => by
    refine ⟨?_, fun e he => ?_⟩
    · rw [List.length_append, List.length_append, List.length_drop, List.length_take]
      omega
    · rcases List.mem_append.mp he with h | h
      · rcases List.mem_append.mp h with h | h
        · exact (hent e (List.mem_of_mem_take h)).odd
        · exact hm e h
      · exact (hent e (List.mem_of_mem_drop h)).odd
  refine ds_seq ?_
  refine ms_par (D := SW p) (R := fun d d' (b1 : Nat) => b = b1 + 2 ∧ ∃ (at_ wy : Nat), d = .int at_ ∧ d' = .int wy ∧ at_ < l.length) e j (mv_call (mva_raw rfl (mva_cons (mv_dv (dv_len (ds := l) (dv_var rfl r2) rfl) (mva_nil ⟨rfl, l.length, rfl, hl0, by omega, b - 1, by omega, fun i hi => mv_call (mva_raw rfl (mva_cons (mv_dv dv_int (mva_nil ⟨rfl, 8, rfl, by omega, by omega, b - 2, by omega, fun i2 hi2 => ⟨by omega, i, i2, rfl, rfl, hi⟩⟩))))⟩))))) fun va vw d d' (b1 : Nat) G1 H1 e1 j1 qa qw hd => ?_
  obtain ⟨rfl, at_, wy, rfl, rfl, hat⟩ := hd
  cases qa
  cases qw
  dsimp only
  have q2 := e1.rp r2
  have li : ∀ (n : Nat) (i : Int), Lt (n + 1) (.int i) := Lt.int
  have hodd0 : ∀ e ∈ [PyData.none, .int 5, .str "look", .tuple [], .list [], .tuple [.str "look"], .tuple [.str "look", .int 7], .tuple [.str "look", .bool true], .tuple [.str "nothing", .int 0], .tuple [.str "constant", .int 3], .tuple [.str "constant", .int (-1)], .tuple [.str "take", .str "x", .tuple [], .int at_], .tuple [.str "call", .int at_, .int (at_ + 1)], .tuple [.str "hole"]], Odd e := by
    have l0 : Lt 6 PyData.none := ⟨by decide, by decide, by decide⟩
    have l1 : Lt 6 (PyData.tuple []) := ⟨by decide, by decide, by decide⟩
    have l2 : Lt 6 (PyData.list []) := ⟨by decide, by decide, by decide⟩
    have l3 : Lt 5 (PyData.tuple []) := ⟨by decide, by decide, by decide⟩
    have l4 : Lt 5 (PyData.bool true) := ⟨by decide, by decide, by decide⟩
    intro e he
    simp only [List.mem_cons, List.not_mem_nil, or_false] at he
    rcases he with rfl | rfl | rfl | rfl | rfl | rfl | rfl | rfl | rfl | rfl | rfl | rfl | rfl | rfl
    · exact ⟨l0, by decide⟩
    · exact ⟨li 5 5, by simp [cnt]⟩
    · exact ⟨lt_str 5 _, by simp [cnt]⟩
    · exact ⟨l1, by decide⟩
    · exact ⟨l2, by decide⟩
    · exact ⟨Lt.mkT (by simp) (mem1 (lt_str 4 _)) (by simp), by simp [cnt, cnts]⟩
    · exact ⟨Lt.mkT (by simp) (mem2 (lt_str 4 _) (li 4 _)) (by simp), by simp [cnt, cnts]⟩
    · exact ⟨Lt.mkT (by simp) (mem2 (lt_str 4 _) l4) (by simp), by simp [cnt, cnts]⟩
    · exact ⟨Lt.mkT (by simp) (mem2 (lt_str 4 _) (li 4 _)) (by simp), by simp [cnt, cnts]⟩
    · exact ⟨Lt.mkT (by simp) (mem2 (lt_str 4 _) (li 4 _)) (by simp), by simp [cnt, cnts]⟩
    · exact ⟨Lt.mkT (by simp) (mem2 (lt_str 4 _) (li 4 _)) (by simp), by simp [cnt, cnts]⟩
    · exact ⟨Lt.mkT (by simp) (mem4 (lt_str 4 _) (lt_str 4 _) l3 (li 4 _)) (by simp), by simp [cnt, cnts]⟩
    · exact ⟨Lt.mkT (by simp) (mem3 (lt_str 4 _) (li 4 _) (li 4 _)) (by simp), by simp [cnt, cnts]⟩
    · exact ⟨Lt.mkT (by simp) (mem1 (lt_str 4 _)) (by simp), by simp [cnt, cnts]⟩
  generalize hodds : [PyData.none, .int 5, .str "look", .tuple [], .list [], .tuple [.str "look"], .tuple [.str "look", .int 7], .tuple [.str "look", .bool true], .tuple [.str "nothing", .int 0], .tuple [.str "constant", .int 3], .tuple [.str "constant", .int (-1)], .tuple [.str "take", .str "x", .tuple [], .int at_], .tuple [.str "call", .int at_, .int (at_ + 1)], .tuple [.str "hole"]] = odds at hodd0
  have hol : odds.length = 14 := by rw [← hodds]; rfl
  refine ds_seq ?_
  refine ds_set (K := K) (d := .list odds) e1.gh (Dv.is (dv_lst (dva_cons dv_non (dva_cons dv_int (dva_cons dv_str (dva_cons (dv_tup dva_nil (Nat.zero_le _)) (dva_cons dv_lst0 (dva_cons (dv_tup1 dv_str) (dva_cons (dv_tup2 dv_str dv_int) (dva_cons (dv_tup2 dv_str dv_bl) (dva_cons (dv_tup2 dv_str dv_int) (dva_cons (dv_tup2 dv_str dv_int) (dva_cons (dv_tup2 dv_str (dv_neg dv_int)) (dva_cons (dv_tup4 dv_str dv_str (dv_tup dva_nil (Nat.zero_le _)) (dv_var rfl (.int at_))) (dva_cons (dv_tup3 dv_str (dv_var rfl (.int at_)) (dv_addI (dv_var rfl (.int at_)) dv_int)) (dva_cons (dv_tup1 dv_str) dva_nil)))))))))))))) (by simp)) (by rw [← hodds])) fun vo G2 H2 e2 qo => ?_
  dsimp only
  have e12 := e1.trans e2.w
  have j2 := Wd.ext j1 e2
  have q2 := e2.rp q2
  have htk : ∀ {σ : L2.St} {G5 H5 : Hp}, Rp K G5 v2 (.list l) → σ[1]? = some (some v2) → σ[2]? = some (some (.int at_)) → Dv K (tSl (rSlX K) (tVar 1) tNoPart (tPart (tVar 2))) σ G5 H5 (.list (l.take at_)) := fun q h1 h2 => Dv.is (dv_sl (ds := l) (dv_var h1 q) rfl dvo_none (dvo_some (dv_var (K := K) h2 (.int at_)))) (congrArg PyData.list cut_take)
  have hdr : ∀ {σ : L2.St} {G5 H5 : Hp}, Rp K G5 v2 (.list l) → σ[1]? = some (some v2) → σ[2]? = some (some (.int at_)) → Dv K (tSl (rSlX K) (tVar 1) (tPart (tOp (rAddX K) (tVar 2) (tC (.int 1)))) tNoPart) σ G5 H5 (.list (l.drop (at_ + 1))) := fun q h1 h2 => Dv.is (dv_sl (ds := l) (dv_var h1 q) rfl (dvo_some (dv_addI (K := K) (dv_var h2 (.int at_)) dv_int)) dvo_none) (congrArg PyData.list (cut_drop (k := at_ + 1)))
  have hix : ∀ {σ : L2.St} {G5 H5 : Hp}, Rp K G5 v2 (.list l) → σ[1]? = some (some v2) → σ[2]? = some (some (.int at_)) → Dv K (tOp (rIx K) (tVar 1) (tVar 2)) σ G5 H5 (l.getD at_ .none) := fun q h1 h2 => dv_ix (ds := l) (dv_var h1 q) (dv_var h2 (.int at_)) rfl (atI_getD hat)
  have hem := hent _ (getD_mem hat)
  have htl : (l.take at_).length ≤ 45 := by rw [List.length_take]; omega
  have hdl : ∀ c, (l.drop c).length ≤ 45 := fun c => by rw [List.length_drop]; omega
  refine ds_seq ?_
  refine ds_if e2.gh (dvt_test (dv_eq (dv_var rfl (.int wy)) dv_int rfl)) (fun _ G3 H3 e3 => ?_) fun _ G3 H3 e3 => ?_
  · have f := fin1 at_ l.length [] (by simp) (by simp) (by omega)
    rw [List.drop_length, List.append_nil, List.append_nil] at f
    exact ms_ret (D := SW p) (R := R) e3.gh (Wd.ext j2 e3) (mv_dv (htk (e3.rp q2) rfl rfl) (hR _ _ f.1 f.2 (by omega))) fun v d m' G4 H4 e4 => k v d m' G4 H4 ((e12.trans e3.w).trans e4)
  have e13 := e12.trans e3.w
  have j3 := Wd.ext j2 e3
  have q2 := e3.rp q2
  have qo := e3.rp qo
  refine ds_seq ?_
  refine ds_if e3.gh (dvt_test (dv_eq (dv_var rfl (.int wy)) dv_int rfl)) (fun _ G4 H4 e4 => ?_) fun _ G4 H4 e4 => ?_
  · refine ms_ret (D := SW p) (R := R) e4.gh (Wd.ext j3 e4) (mv_addL (mv_dv (dv_var rfl (e4.rp q2)) ⟨l, rfl, mv_lst1 (mv_call (mva_raw rfl (mva_cons (mv_dv (dv_var rfl (e4.rp q2)) (mva_nil ⟨rfl, _, l, rfl, rfl, hl0, by omega, b1 - 1, by omega, fun d hd => ⟨[d], rfl, by simp; omega, ?_⟩⟩)))))⟩)) fun v d m' G5 H5 e5 => k v d m' G5 H5 ((e13.trans e4.w).trans e5)
    have f := fin1 l.length l.length [d] (by simpa using (hent d hd).odd) (by simp) (Nat.le_refl _)
    rw [List.drop_length, List.append_nil, List.take_length] at f
    exact hR _ _ f.1 f.2 (by omega)
  have e14 := e13.trans e4.w
  have j4 := Wd.ext j3 e4
  have q2 := e4.rp q2
  have qo := e4.rp qo
  refine ds_seq ?_
  refine ds_if e4.gh (dvt_test (dv_eq (dv_var rfl (.int wy)) dv_int rfl)) (fun _ G5 H5 e5 => ?_) fun _ G5 H5 e5 => ?_
  · have f := fin1 at_ (at_ + 1) [] (by simp) (by simp) (by omega)
    rw [List.append_nil] at f
    exact ms_ret (D := SW p) (R := R) e5.gh (Wd.ext j4 e5) (mv_dv (dv_addL (htk (e5.rp q2) rfl rfl) (hdr (e5.rp q2) rfl rfl) (by have := hdl (at_ + 1); omega)) (hR _ _ f.1 f.2 (by omega))) fun v d m' G6 H6 e6 => k v d m' G6 H6 ((e14.trans e5.w).trans e6)
  have e15 := e14.trans e5.w
  have j5 := Wd.ext j4 e5
  have q2 := e5.rp q2
  have qo := e5.rp qo
  refine ds_seq ?_
  refine ds_if e5.gh (dvt_test (dv_eq (dv_var rfl (.int wy)) dv_int rfl)) (fun _ G6 H6 e6 => ?_) fun _ G6 H6 e6 => ?_
  · have f := fin1 at_ at_ [l.getD at_ .none] (by simpa using hem.odd) (by simp) (by omega)
    exact ms_ret (D := SW p) (R := R) e6.gh (Wd.ext j5 e6) (mv_dv (dv_addL (dv_addL (htk (e6.rp q2) rfl rfl) (dv_lst1 (hix (e6.rp q2) rfl rfl)) (by simp; omega)) (Dv.is (dv_sl (ds := l) (dv_var rfl (e6.rp q2)) rfl (dvo_some (dv_var (K := K) rfl (.int at_))) dvo_none) (congrArg PyData.list cut_drop)) (by have := hdl at_; simp; omega)) (hR _ _ f.1 f.2 (by omega))) fun v d m' G7 H7 e7 => k v d m' G7 H7 ((e15.trans e6.w).trans e7)
  have e16 := e15.trans e6.w
  have j6 := Wd.ext j5 e6
  have q2 := e6.rp q2
  have qo := e6.rp qo
  have hmid : ∀ (x : PyData), Odd x → ∀ b', b1 ≤ b' + 2 → R (.list (l.take at_ ++ [x] ++ l.drop (at_ + 1))) b' := fun x hx b' hb' => by
    have f := fin1 at_ (at_ + 1) [x] (by simpa using hx) (by simp) (by omega)
    exact hR _ _ f.1 f.2 (by omega)
  obtain ⟨ds, hds, hd0, hd10, hdlt, hdc⟩ := hem
  refine ds_seq ?_
  -- row = list(code[at])
  refine hix (H5 := H6) q2 rfl rfl G6 H6 (Up.refl e6.gh) _ fun vr G7 H7 e7 qr => ?_
  rw [hds] at qr
  cases qr with
  | @tup ra vs _ t1 t2 =>
  refine ⟨ra, vs, rfl, .inr (Same.sqt e7.gh t1), fun pr hpr => ?_⟩
  have gpr : G7 pr = none := Same.none e7.gh hpr
  have j7 := Wd.ext j6 e7
  have e8 : Ext G7 H7 G7 (upd H7 pr (.lst vs)) := (Ext.refl e7.gh).allocM hpr _
  have j8 := Wd.ext j7 e8
  have hcell : (upd H7 pr (.lst vs)) pr = some (.lst vs) := upd_same
  have hprW : ¬ (SW p).W pr := fun z => (SW p).alive j7 pr z hpr
  generalize upd H7 pr (.lst vs) = H8 at e8 j8 hcell
  have e18 := (e16.trans e7.w).trans e8.w
  have q2 := e8.rp (e7.rp q2)
  have qo := e8.rp (e7.rp qo)
  have hvl : vs.length = ds.length := t2.length
  have hlen : ∀ {σ : L2.St} {H9 : Hp} {Q : VK}, σ[5]? = some (some (.ref pr)) → H9 pr = some (.lst vs) → Q (.int ds.length) H9 → tCB (rLenX K) (tCons (tVar 5) tNil) σ H9 Q := fun hs hp q => ⟨.ref pr, hs, .ref pr, vs.length, rfl, .inl ⟨vs, SqL.of hp, rfl⟩, by rw [hvl]; exact q⟩
  dsimp only [gName]
  refine ds_seq ?_
  have last : ∀ (σ2 : L2.St) (G9 H9 : Hp) (D : Ends), σ2[0]? = some (some (.ref p.1)) → σ2[1]? = some (some v2) → σ2[2]? = some (some (.int at_)) → σ2[4]? = some (some vo) → Ext G7 H8 G9 H9 → D.rt = Q → tRet (tOp (rAddX K) (tOp (rAddX K) (tSl (rSlX K) (tVar 1) tNoPart (tPart (tVar 2))) (tLst (tCons (tCall (spPk K) [] E0 (tCons (tVar 0) (tCons (tVar 4) tNil))) tNil))) (tSl (rSlX K) (tVar 1) (tPart (tOp (rAddX K) (tVar 2) (tC (.int 1)))) tNoPart)) D σ2 H9 := by
    intro σ2 G9 H9 D b0 b1' b2 b4 ex hD
    refine ms_ret (K := K) (D := SW p) (R := R) ex.gh (Wd.ext j8 ex) (mv_addL (mv_addL (mv_dv (htk (ex.rp q2) b1' b2) ⟨_, rfl, mv_lst1 (mv_call (mva_raw b0 (mva_cons (mv_dv (dv_var b4 (ex.rp qo)) (mva_nil ⟨rfl, _, odds, rfl, rfl, by omega, by omega, b1 - 1, by omega, fun d hd => ⟨_, rfl, by simp; omega, _, rfl, mv_dv (hdr (ex.rp q2) b1' b2) ⟨_, rfl, by have := hdl (at_ + 1); simp; omega, hmid d (hodd0 d hd) _ (by omega)⟩⟩⟩)))))⟩))) fun v d m' G10 H10 e10 j10 q10 z => ?_
    show D.rt v H10
    rw [hD]
    exact k v d m' G10 H10 ((e18.trans ex.w).trans e10) j10 q10 z
  refine ⟨.int wy, rfl, wy, 6, rfl, rfl, _, rfl, ?_⟩
  have hw6 : (wy : Int) < 6 ∨ ¬ (wy : Int) < 6 := Decidable.em _
  cases hw6 with
  | inr h6 =>
    rw [decide_eq_false h6]
    exact iteF (iteF (last _ G7 H8 _ rfl rfl rfl rfl (Ext.refl e8.gh) rfl))
  | inl h6 =>
  rw [decide_eq_true h6]
  refine iteT (hlen rfl hcell ⟨ds.length, 1, rfl, rfl, _, rfl, ?_⟩)
  have hl1 : (1 : Int) < ds.length ∨ ¬ (1 : Int) < ds.length := Decidable.em _
  cases hl1 with
  | inr h1 =>
    rw [decide_eq_false h1]
    exact iteF (last _ G7 H8 _ rfl rfl rfl rfl (Ext.refl e8.gh) rfl)
  | inl h1 =>
  rw [decide_eq_true h1]
  refine iteT ?_
  have hd2 : 1 < ds.length := by omega
  have hds1 : ((ds.length : Int) - 1) = ((ds.length - 1 : Nat) : Int) := by omega
  refine ds_seq ?_
  -- place
  refine ⟨.ref p.1, rfl, hlen rfl hcell ⟨ds.length, 1, rfl, rfl, ?_⟩⟩
  refine ⟨rfl, p, G7, [.raw (.ref p.1), .pd (.int ((ds.length - 1 : Nat) : Int))], b1, fun d (b2 : Nat) => b1 = b2 + 1 ∧ ∃ i : Nat, d = .int i ∧ i < ds.length - 1, e8.gh, j8, ?_, ⟨ds.length - 1, rfl, by omega, by omega, b1 - 1, by omega, fun i hi => ⟨by omega, i, rfl, hi⟩⟩, fun vpl d (b2 : Nat) G9 H9 e9 j9 q9 hd => ?_⟩
  · rw [List.append_nil]
    refine .cons rfl (.cons (a := .pd _) ?_ .nil)
    show Rp K G7 (.int ((ds.length : Int) - 1)) (.int ((ds.length - 1 : Nat) : Int))
    rw [hds1]
    exact .int _
  obtain ⟨rfl, pl, rfl, hpl⟩ := hd
  cases q9
  refine .inl ⟨1, pl, rfl, rfl, ?_⟩
  dsimp only [gName]
  have hcell9 : H9 pr = some (.lst vs) := e9.hh _ _ hprW hcell
  have gp9 : G9 pr = none := e9.loose gpr (by rw [hcell]; simp)
  have e19 := e18.trans e9
  have q2 := e9.rp q2
  have t2 : RpAll K G9 vs ds := RpAll.mono e9.gg _ _ t2
  refine ds_seq ?_
  have hvs : ∀ x ∈ [PyData.int 0, .int 1, .int (at_ + 2), .int l.length, .str "x", .tuple [.tuple []], .tuple [], .none, .list [.int (at_ + 1)], .str "A"], Lt 5 x ∧ cnt x ≤ 20 := by
    have l0 : Lt 5 PyData.none := ⟨by decide, by decide, by decide⟩
    have l1 : Lt 5 (PyData.tuple []) := ⟨by decide, by decide, by decide⟩
    have l3 : Lt 5 (PyData.tuple [.tuple []]) := ⟨by decide, by decide, by decide⟩
    have l4 : Lt 5 (PyData.list [.int (at_ + 1)]) := Good.mkL (n := 3) (by simp) (mem1 (Lt.int 3 _))
    intro x hx
    simp only [List.mem_cons, List.not_mem_nil, or_false] at hx
    rcases hx with rfl | rfl | rfl | rfl | rfl | rfl | rfl | rfl | rfl | rfl
    · exact ⟨li 4 _, by simp [cnt]⟩
    · exact ⟨li 4 _, by simp [cnt]⟩
    · exact ⟨li 4 _, by simp [cnt]⟩
    · exact ⟨li 4 _, by simp [cnt]⟩
    · exact ⟨lt_str 4 _, by simp [cnt]⟩
    · exact ⟨l3, by simp [cnt, cnts]⟩
    · exact ⟨l1, by simp [cnt, cnts]⟩
    · exact ⟨l0, by simp [cnt]⟩
    · exact ⟨l4, by simp [cnt, cnts]⟩
    · exact ⟨lt_str 4 _, by simp [cnt]⟩
  refine mv_call (K := K) (F := SW) (i := p) (m := b2) (R := fun d (b3 : Nat) => b2 = b3 + 1 ∧ Lt 5 d ∧ cnt d ≤ 20) (mva_raw rfl (mva_cons (mv_dv (d := .list [PyData.int 0, .int 1, .int (at_ + 2), .int l.length, .str "x", .tuple [.tuple []], .tuple [], .none, .list [.int (at_ + 1)], .str "A"]) (dv_lst (dva_cons dv_int (dva_cons dv_int (dva_cons (dv_addI (dv_var rfl (.int at_)) dv_int) (dva_cons (dv_len (ds := l) (dv_var rfl q2) rfl) (dva_cons dv_str (dva_cons (dv_tup1 (dv_tup dva_nil (Nat.zero_le _))) (dva_cons (dv_tup dva_nil (Nat.zero_le _)) (dva_cons dv_non (dva_cons (dv_lst1 (dv_addI (dv_var rfl (.int at_)) dv_int)) (dva_cons dv_str dva_nil)))))))))) (by simp)) (mva_nil ⟨rfl, _, _, rfl, rfl, by simp, by simp, b2 - 1, by omega, fun d hd => ⟨by omega, hvs d hd⟩⟩)))) G9 H9 (Up.refl e9.gh) j9 _ fun vx x (b3 : Nat) G10 H10 e10 j10 qx hx => ?_
  obtain ⟨rfl, hxl, hxc⟩ := hx
  have hcell10 : H10 pr = some (.lst vs) := e10.hh _ _ hprW hcell9
  have gp10 : G10 pr = none := e10.loose gp9 (by rw [hcell9]; simp)
  have t2 : RpAll K G10 vs ds := RpAll.mono e10.gg _ _ t2
  have e1a := e19.trans e10
  have q2 := e10.rp q2
  refine ⟨.ref pr, rfl, .int (1 + pl), rfl, pr, vs, 1 + pl, 1 + pl, rfl, rfl, hcell10, ?_, ?_⟩
  · unfold ixN
    rw [if_pos (by omega), if_pos (by omega)]
    congr 1
  have t3 := RpAll.set (n := 1 + pl) t2 qx
  have e11 : ExtW (SW p).W G H G10 (upd H10 pr (.lst (vs.set (1 + pl) vx))) := by
    refine ⟨fun c u n h => ?_, fun c h => ?_, e1a.gg, fun c u h => ?_, e1a.new⟩
    · have hcp : c ≠ pr := by
        rintro rfl
        have h7 := ((e16.trans e7.w).hh c u n h)
        rw [hpr] at h7
        cases h7
      rw [upd_ne hcp]
      exact e1a.hh c u n h
    · by_cases hcp : c = pr
      · subst hcp
        rw [upd_same]
        simp
      · rw [upd_ne hcp]
        exact e1a.dom c h
    · rw [upd_ne (ne_of_none h gp10)]
      exact e1a.gh c u h
  have j11 : (SW p).J b3 G10 (upd H10 pr (.lst (vs.set (1 + pl) vx))) := (SW p).mono j10 (Same.refl _) (fun c u hw h => by
    rw [upd_ne (show c ≠ pr from fun z => hprW (by rw [← z]; exact hw))]
    exact h) fun c _ g _ => g
  generalize hH11 : upd H10 pr (.lst (vs.set (1 + pl) vx)) = H11 at e11 j11
  have hcell11 : H11 pr = some (.lst (vs.set (1 + pl) vx)) := by rw [← hH11, upd_same]
  have hxo : Odd (.tuple (ds.set (1 + pl) x)) := by
    have hall : ∀ d ∈ ds, Lt 3 d := by
      rw [hds] at hdlt
      exact (Lt.row hdlt rfl).2
    refine ⟨Lt.mkT (by simp; omega) (fun d hd => ?_) (by simp; intro z; subst z; simp at hd0), ?_⟩
    · rcases List.mem_or_eq_of_mem_set hd with h | h
      · exact (hall d h).mono (by omega)
      · rw [h]
        exact hxl
    · rw [cnt]
      have h1 := cnts_set (ds := ds) (i := 1 + pl) (v := x)
      rw [hds, cnt] at hdc
      omega
  have hHpr : H pr = none := (e16.trans e7.w).fresh hpr
  have e12' := e11.still hHpr gp10 hcell11
  have rrow : Rp K (upd G10 pr (.lst (vs.set (1 + pl) vx))) (.ref pr) (.list (ds.set (1 + pl) x)) := .lst upd_same (RpAll.mono (same_upd gp10 _) _ _ t3)
  have j12 : (SW p).J b3 (upd G10 pr (.lst (vs.set (1 + pl) vx))) H11 := (SW p).mono j11 (same_upd gp10 _) (fun c u hw h => h) fun c hw g _ => by
    rw [upd_ne (show c ≠ pr from fun z => hprW (by rw [← z]; exact hw))]
    exact g
  have q2 := Rp.mono (same_upd gp10 (.lst (vs.set (1 + pl) vx))) _ _ q2
  generalize upd G10 pr (.lst (vs.set (1 + pl) vx)) = G12 at e12' rrow j12 q2
  exact ms_ret (D := SW p) (R := R) e12'.gh j12 (mv_dv (dv_addL (dv_addL (htk q2 rfl rfl) (dv_lst1 (dv_tupOf (ds := ds.set (1 + pl) x) (dv_var rfl rrow) rfl)) (by simp; omega)) (hdr q2 rfl rfl) (by have := hdl (at_ + 1); simp; omega)) (hmid _ hxo _ (by omega))) fun v d m' G13 H13 e13' => k v d m' G13 H13 (e12'.trans e13')
end
end K82

set_option Elab.async false
set_option linter.all false
set_option maxRecDepth 100000
set_option maxHeartbeats 4000000
/-! try with several clauses that bear a name. -/
namespace K82
open PySem PySem.Spec PyProof.Rows L2
abbrev Suite : Type := Addr → Value → Option Addr → L2.TS
/-- what is wished where the clauses are asked one behind another; slot i is the name's -/
def wCl (K : PySem.W.Frag) (i : Nat) (Wo : WX) (D : Ends) : List (Value × Suite) → WX
  | [] => Wo
  | (c, ts) :: more => fun cls d τ U => ∃ hit, PySem.W.exmOne K cls c = some hit ∧
      (hit = true → ∀ a, U a = none → ts a cls d { nx := fun τ' U' => D.nx (τ'.set i none) U', rt := D.rt, bk := fun τ' U' => D.bk (τ'.set i none) U', ct := fun τ' U' => D.ct (τ'.set i none) U' } (τ.set i (some (.ref a))) U) ∧
      (hit = false → wCl K i Wo D more cls d τ U)
/-- the clauses, each a class, the name n, a suite -/
inductive Cls (X : Cx) (n : Str) : List ExceptHandler → List (Value × Suite) → Prop
  | nil : Cls X n [] []
  | cons {x : Str} {c : Value} {ts : Suite} {st : Stmt} {sts : List Stmt} {np hp : Pos} {hds : List ExceptHandler} {l : List (Value × Suite)} (nm : Names X x c)
      (run : ∀ (a : Addr) (oe : Obj) (cls : Value) (d : Option Addr) (pn : List (Addr × Obj)), Zc cls d oe → (∃ vs, oe.data = .fields vs) → PSs (X.suite a ((a, oe) :: pn)) (st :: sts) (ts a cls d)) (rest : Cls X n hds l) :
      Cls X n (.ExceptHandler (some (.Name x np)) (some n) (st :: sts) hp :: hds) ((c, ts) :: l)
section
variable {X : Cx} {n : Str} {i : Nat} {body : List Stmt} {hd0 : ExceptHandler} {hds : List ExceptHandler} {l : List (Value × Suite)} {pos : Pos} {tb : WX → L2.TS} {Wo : WX}
theorem ps_try_cls (hstk : X.stack = X.env :: X.outer) (hfrm : X.env.frame = some X.env.locals) (hnd : X.N.Nodup) (hsl : X.N[i]? = some n) (hloc : X.env.kindOf n = some .local) (tk : Takes X Wo)
    (hbody : ∀ (W : WX) (pn : List (Addr × Obj)) (xe : Value → Shared → Prop), Takes (X.tr pn xe) W → PassesOwn (model X.prog X.w) X.A X.env xe → PSs (X.tr pn xe) body (tb W))
    (hcl : Cls X n (hd0 :: hds) l) : PS X (.Try body (hd0 :: hds) [] [] pos) (fun D τ U => tb (fun cls d τ U => τ.length = X.N.length → wCl X.K i Wo D l cls d τ U) D τ U) := by
  constructor
  intro pins s τ U D I hw
  have okX := I.ok
  have hfs : X.A.frames = some (X.env :: X.outer) := okX.frames.trans (congrArg some hstk)
  have hlc : Loc X.env.scope n := Or.inl hloc
  refine wpAny_Try_except (wpAny_mono ((hbody (fun cls d τ U => τ.length = X.N.length → wCl X.K i Wo D l cls d τ U) (X.pn ++ pins) (fun err t => wpAny (model X.prog X.w) X.A (noteFrame err X.env) (fun _ t1 => wpAny (model X.prog X.w) X.A (setFlight err none) (fun _ t2 =>
    wpAny (model X.prog X.w) X.A (handleBy err X.env (hd0 :: hds)) (SP X pins D) X.xe t2) X.xe t1) X.xe t) ?seized PassesOwn.looking).run [] s τ U D (I.toTry _) hw) ?ends (fun _ _ z => z))
  case ends =>
    intro fl t done
    cases fl with
    | next => obtain ⟨τ', U', Jt, z⟩ := done; exact wpAny_execs_nil ⟨τ', U', Jt.ofTry okX, z⟩
    | brk => obtain ⟨τ', U', Jt, z⟩ := done; exact ⟨τ', U', Jt.ofTry okX, z⟩
    | cont => obtain ⟨τ', U', Jt, z⟩ := done; exact ⟨τ', U', Jt.ofTry okX, z⟩
    | ret u => obtain ⟨v, τ', U', Jt, rv, z⟩ := done; exact ⟨v, τ', U', Jt.ofTry okX, rv, z⟩
  case seized =>
    intro u t caught
    obtain ⟨a, B, sI, pins', τ', U', cls, d, rfl, Jt, nbase, upS, skyT, fresh, osE, bareT, wish⟩ := caught
    have Jx : Inv X pins τ' U' sI := Jt.ofTry okX
    rw [hstk] at skyT
    show wpAny (model X.prog X.w) X.A (noteFrame (.ref a) X.env) _ _ _
    refine Sky.land Zc.steady hfs hfrm skyT fun h1 fl1 up1 => ?_
    have J1 : Inv X pins τ' U' { t with heap := h1 } := Jx.landed nbase fl1.1 (upS.trans up1) osE bareT
    obtain ⟨ob1, vs1, hob1, hz1, hdat1⟩ := fl1.there
    have nofr : a ∉ frs (X.env :: X.outer) := fun hm => by
      obtain ⟨_, ob, hob, hno⟩ := fl1.2.2.1.mem hm
      rw [hob1] at hob
      cases hob
      exact hno _ hdat1
    have nloc : a ≠ X.env.locals := fun z => nofr (List.mem_filterMap.mpr ⟨X.env, List.mem_cons_self, by rw [hfrm, z]⟩)
    have nfs : a ∉ X.fs := fun hm => by
      obtain ⟨e, he, q⟩ := List.mem_filterMap.mp hm
      exact nofr (List.mem_filterMap.mpr ⟨e, List.mem_cons_of_mem _ he, q⟩)
    have S1 := J1.suite hob1 hdat1 fresh nloc nfs
    have walk : ∀ {hl : List ExceptHandler} {ll : List (Value × Suite)}, Cls X n hl ll → wCl X.K i Wo D ll cls d τ' U' → wpAny (model X.prog X.w) X.A (handleBy (.ref a) X.env hl) (SP X pins D) X.xe { t with heap := h1 } := by
      intro hl ll hk
      induction hk with
      | nil =>
        intro wo
        obtain ⟨_, _, _, ob, vs, Tb, _, _, hob, _, hdat, hv1, _⟩ := id fl1
        refine wpAny_handleBy_nil ?_
        unfold PySem.passOn
        refine wpAny_bind (wpAny_field hob hdat hv1 ?_)
        rw [if_neg (show ¬ ((Value.ref Tb == Value.none) = true) from by simp)]
        have thrown : wpAny (model X.prog X.w) X.A (setFlight (.ref a) X.env.frame) (fun _ t4 => wpAny (model X.prog X.w) X.A (throw (.ref a) : Sem Flow) (SP X pins D) X.xe t4) X.xe { t with heap := h1 } := by
          rw [hfrm]
          refine HandSPX.setFlight_upZ fl1 fun h2 held up2 => wpAny_throw (tk _ _ ⟨a, B, sI, pins, τ', U', cls, d, rfl, Jx, nbase, (upS.trans up1).trans up2, .inr (.inr ?_), fresh, osE, bareT, wo⟩)
          rw [hstk]
          exact held
        first
          | exact wpAny_bind (wpAny_pure (wpAny_bind thrown))
          | exact wpAny_bind thrown
      | @cons x c ts st sts np hp hds2 l2 nm run rest ih =>
        intro wo
        obtain ⟨hit, hex, yes, no⟩ := wo
        have looksAt : PySem.W.Looks (model X.prog X.w) h1 (typeOf (.ref a)) cls := fun A Q E s k q => wpAny_typeOf_ref (k _ _ hob1) (by rw [hz1.1]; exact q)
        have told := PySem.W.exm_one (M := model X.prog X.w) (J1.kIn) looksAt hex
        have named : ∀ {Q E : Value → Shared → Prop}, Q c { t with heap := h1 } → wpAny (model X.prog X.w) (X.A.mark (some (.ref a))) (eval (.Name x np) X.env) Q E { t with heap := h1 } := fun {Q E} q => by
          obtain ⟨hg, hdbg, hm | ⟨hm, hv, hne⟩⟩ := nm
          · exact ld_glob (X := X.suite a ((a, ob1) :: (X.pn ++ pins))) S1 hg hm q hdbg
          · exact ld_blt (X := X.suite a ((a, ob1) :: (X.pn ++ pins))) S1 hg hm hv q hne hdbg
        refine wpAny_handleBy_cons (codeAny_handlers_test (named (told.here ?_))) (fun q => by cases q)
        cases hit with
        | false => exact ih (no rfl)
        | true =>
          refine codeAny_handlers_suite_as (HandSPX.lands_againZ fl1 fun h2 fl2 up2 => ?_)
          have J2 : Inv X pins τ' U' { t with heap := h2 } := Jx.landed nbase fl2.1 ((upS.trans up1).trans up2) osE bareT
          obtain ⟨ob2, vs2, hob2, hz2, hdat2⟩ := fl2.there
          have S2 := J2.suite hob2 hdat2 fresh nloc nfs
          refine store_ok (X := X.suite a ((a, ob2) :: (X.pn ++ pins))) (v := .ref a) S2 hnd hsl hlc rfl (fun t5 S5 => ?_) (.inr hloc)
          refine wpAny_mono ((run a ob2 cls d (X.pn ++ pins) hz2 ⟨_, hdat2⟩).run [] t5 _ U' _ S5 (yes rfl a fresh)) (fun fl6 t6 done => ?_) (fun _ _ z => z.elim)
          have unbind : ∀ {τ6 : L2.St} {U6 : Hp} {Q : Shared → Prop}, Inv (X.suite a ((a, ob2) :: (X.pn ++ pins))) [] τ6 U6 t6 → (∀ t7, Inv X pins (τ6.set i none) U6 t7 → Q t7) →
              wpAny (model X.prog X.w) X.A (do bindName X.env n .none; unbindBehindTheSuite X.env n hp) (fun _ t7 => Q t7) X.xe t6 := fun {τ6 U6 Q} S6 hq => gone_ok (S6.unsuite okX) hnd hsl hloc hq
          cases fl6 with
          | next => obtain ⟨τ6, U6, S6, z⟩ := done; exact unbind S6 fun _ J7 => ⟨_, _, J7, z⟩
          | brk => obtain ⟨τ6, U6, S6, z⟩ := done; exact unbind S6 fun _ J7 => ⟨_, _, J7, z⟩
          | cont => obtain ⟨τ6, U6, S6, z⟩ := done; exact unbind S6 fun _ J7 => ⟨_, _, J7, z⟩
          | ret u => obtain ⟨v6, τ6, U6, S6, rv, z⟩ := done; exact unbind S6 fun _ J7 => ⟨_, _, _, J7, rv, z⟩
    exact walk hcl (wish Jx.len)
end
end K82

set_option Elab.async false
set_option linter.all false
set_option maxRecDepth 100000
set_option maxHeartbeats 4000000
/-! law: met; calls by names. -/
namespace K82
open PySem PySem.Spec PyProof.Rows L2 LamX
/-! ### f(k = v, ..), all by names, that may raise -/
def swapN {α : Type} : List α → List α → List α
  | [], [a, b] => [b, a]
  | _, _ => []
def tCallN (sp : Sp) (E : L2.St → XK) (tk : TA) : TE := fun σ H Q => tk σ H fun zs H1 => sp (swapN [] zs) H1 Q (E σ)
section
variable {X : Cx} {CX : CXT} {k : Nat} {f : Addr} {fd : FuncData} {ps ks : List Str} {sp : Sp} {E : L2.St → XK} {x : Str} {p pos : Pos} {kws : List Keyword} {tk : TA}
theorem Vals.swap {vs zs : List V} {us ws : List Value} (r : L2.Vals vs us) (rz : L2.Vals zs ws) : L2.Vals (swapN vs zs) (swapN us ws) := by
  cases r with
  | cons _ _ => exact .nil
  | nil =>
    cases rz with
    | nil => exact .nil
    | cons r1 rz =>
      cases rz with
      | nil => exact .nil
      | cons r2 rz =>
        cases rz with
        | nil => exact .cons r2 (.cons r1 .nil)
        | cons _ _ => exact .nil
theorem pe_callN (F : FnOk X.prog X.w X.K X.mg X.base CX k f fd ps sp) (hr : Room k X.A) (hg : Gl X x) (hm : X.mg x = some (.ref f)) (hk : PySem.W.keepIn X.K (.ref f) = true) (hb : KBinds X.K fd ps ks swapN swapN) (hx : ∀ σ, PassesAt CX X σ (E σ))
    (hkw : PK X kws tk) (hall : (backToKw pos (keywordEach kws X.env)).all (·.1.isSome) = true := by rfl) (hks : (backToKw pos (keywordEach kws X.env)).filterMap (·.1) = ks := by rfl) (hdb : (x == ("__debug__" : Str)) = false := by decide)
    (hpl : ((backTo pos (starEach [] X.env)).any (·.1) || (backToKw pos (keywordEach kws X.env)).any (·.1.isNone)) = false := by rfl) : PE X (.Call (.Name x p) [] kws pos) (tCallN sp E tk) := by
  constructor
  intro pins s σ H Q I h
  refine wpAny_Call_Name_kw (ld_glob I hg hm ?_ hdb)
  refine PySem.W.callWith_KW0 (h₀ := X.base) I.ok.mod.kin hk hall (thn (hkw.run pos pins s σ H _ I h) fun ws s2 ⟨zs, H2, I2, rz, q2⟩ => ⟨I2.kIn, ?_⟩) hpl
  rw [hks]
  have r2 : L2.Vals (swapN [] zs) (swapN [] ws) := Vals.swap .nil rz
  have hl : (swapN [] ws).length = ps.length := by rw [← r2.length]; exact F.len _ _ _ _ q2
  refine wpAny_call (codeAny_mono (F.run X.A X.stack s2 H2 ⟨[], ks.zip ws⟩ (swapN [] ws) (swapN [] zs) Q (E σ) hr I2.env0 (hb.to s2 [] ws I2.kIn hl) r2 q2) fun r s' hq => ?_)
  match r, hq with
  | .error err, hq => exact hx σ pins H2 s2 err s' I2 hq
  | .ok (.ret u), hq => exact I2.after hq
  | .ok .next, hq => exact hq.elim
  | .ok .brk, hq => exact hq.elim
  | .ok .cont, hq => exact hq.elim
theorem kb_two {K : PySem.W.Frag} {fd : FuncData} {a b : Str} (h : ∀ u v : Value, bindArgs fd ⟨[], [(b, v), (a, u)]⟩ = pure [(a, u), (b, v)]) : KBinds K fd [a, b] [b, a] swapN swapN := by
  refine ⟨fun s us ws _ hl => ?_, fun r rz => Vals.swap r rz⟩
  match us, ws, hl with
  | [], [v, u], _ => exact .of_eq (h u v)
  | [], [], hl => simp [swapN] at hl
  | [], [_], hl => simp [swapN] at hl
  | [], _ :: _ :: _ :: _, hl => simp [swapN] at hl
  | _ :: _, _, hl => simp [swapN] at hl
end
/-! ### met -/
section
variable {K : PySem.W.Frag} {mg : Str → Option Value}
/-- how a refusal is told -/
inductive MetW (Y : Txe K mg) : Addr → Str → Str → Prop
  | m : MetW Y Y.eM.C "many" "many"
  | t : MetW Y Y.eT.C "term" "term"
  | c : MetW Y Y.eC.C "code" "code"
def metE (Y : Txe K mg) (Q : VK) : XK := fun cls d H => ∃ dd v f word C, d = some dd ∧ cls = .ref C ∧ H dd = some (.xd [(f, v)]) ∧ MetW Y C f word ∧ ∀ p, H p = none → Q (.ref p) (upd H p (.tup [.str word, v]))
def TTmet (Y : Txe K mg) : (XK → Hp → VK → Prop) → Hp → VK → Prop := fun tl H Q => tl (metE Y Q) H fun v H' => 2 ≤ sizeLine ∧ ∀ p, H' p = none → Q (.ref p) (upd H' p (.tup [.str "told", v]))
end
theorem met_gives {X : Cx} (Y : Txe X.K X.mg) (g : Addr) (cdg : Value) (q : Str) : GivesTo X ["ask", "e"] "_law_met" (defScope s_law_met) g cdg (defBody s_law_met) "ask" q (TTmet Y) := by
  intro f c' s H Q tl act hc h
  have kl : (cxOf C8.CX0 X.prog X.w X.K X.mg X.base ["ask", "e"] "_law_met" (defScope s_law_met) g cdg X.A X.stack s H C8.E0).nox.K = X.K := rfl
  refine ⟨_, pss_one (ps_try_cls (X := (cxOf C8.CX0 X.prog X.w X.K X.mg X.base ["ask", "e"] "_law_met" (defScope s_law_met) g cdg X.A X.stack s H C8.E0).nox) (n := "e") (i := 1)
    (tb := fun W D σ H => ∃ Ech : XK, (∀ cls d σ' H', Ech cls d H' → W cls d σ' H') ∧ tRet (tTup (tCons (tC (.str "told")) (tCons (fun σZ HZ Q => σZ[0]? = some (some (.ref f)) ∧ HZ c' = some (CodeO c' q) ∧ tl Ech HZ Q) tNil))) D σ H)
    rfl rfl sc_law_met.nd rfl rfl L2.takes0 (fun W pn xe tk _ => ?_)
    (.cons ⟨rfl, by decide, .inl Y.eM.m⟩ (fun a oe cls d pn hz hf => pss_one (ps_ret (pe_tup (pa_cons pe_str (pa_cons (pe_xf (C := Y.eM.C) Y.eM.xf Y.eM.no hz hf (pv 1)) pa_nil)))))
      (.cons ⟨rfl, by decide, .inl Y.eT.m⟩ (fun a oe cls d pn hz hf => pss_one (ps_ret (pe_tup (pa_cons pe_str (pa_cons (pe_xf (C := Y.eT.C) Y.eT.xf Y.eT.no hz hf (pv 1)) pa_nil)))))
        (.cons ⟨rfl, by decide, .inl Y.eC.m⟩ (fun a oe cls d pn hz hf => pss_one (ps_ret (pe_tup (pa_cons pe_str (pa_cons (pe_xf (C := Y.eC.C) Y.eC.xf Y.eC.no hz hf (pv 1)) pa_nil))))) .nil)))), ?_⟩
  · refine ⟨fun pins s' σ H' D I h' => ?_⟩
    obtain ⟨Ech, hW, h1⟩ := h'
    exact (pss_one (ps_ret (pe_tup (pa_cons pe_str (pa_cons (act W pn xe Ech _ _ tk hW) pa_nil))))).run pins s' σ H' D I h1
  · refine ⟨metE Y Q, fun cls d σ' H' ⟨dd, v, f', word, C, hd, hcl, hx, hw, hq⟩ hlen => ?_, ?_⟩
    · subst hd hcl
      have hlen : σ'.length = 2 := hlen
      have fin : ∀ (a : Addr) (D : Ends) (σ2 : L2.St), D.rt = Q → σ2[1]? = some (some (.ref a)) → tRet (tTup (tCons (tC (.str word)) (tCons (tXf a (.ref C) (some dd) C f' (tVar 1)) tNil))) D σ2 H' := fun a D σ2 hD hs => by
        refine ⟨.ref a, hs, rfl, rfl, dd, [(f', v)], v, rfl, hx, by simp, by show 2 ≤ sizeLine; decide, fun p hp => ?_⟩
        rw [hD]
        exact hq p hp
      have hsl : ∀ a : Addr, (σ'.set 1 (some (V.ref a)))[1]? = some (some (.ref a)) := fun a => List.getElem?_set_self (by omega)
      cases hw with
      | m => exact ⟨true, Y.mm, fun _ a _ => fin a _ _ rfl (hsl a), fun h => by cases h⟩
      | t => exact ⟨false, Y.tm, fun h => (by cases h), fun _ => ⟨true, Y.tt, fun _ a _ => fin a _ _ rfl (hsl a), fun h => by cases h⟩⟩
      | c => exact ⟨false, Y.cm, fun h => (by cases h), fun _ => ⟨false, Y.ct, fun h => (by cases h), fun _ => ⟨true, Y.cc, fun _ a _ => fin a _ _ rfl (hsl a), fun h => by cases h⟩⟩⟩
    · exact ⟨rfl, hc, h⟩
end K82

set_option Elab.async false
set_option linter.all false
set_option maxRecDepth 100000
set_option maxHeartbeats 4000000
/-! lambdas of one parameter that capture nothing; law: is_very. -/
namespace K82
open PySem PySem.Spec PyProof.Rows L2 LamX
/-- such a lambda's object -/
def LamO (f : Addr) (q : Str) (params : Arguments) (body : Expr) (scope : Scope) (pm ctv : Value) (c' : Addr) : HO := .ext fun h => h.get? f = some (PySem.W.kla_obj "<lambda>" q params body scope [] pm c' ctv)
theorem LamO.ne {f : Addr} {q : Str} {params : Arguments} {body : Expr} {scope : Scope} {pm ctv : Value} {c' : Addr} (ps : Array Value) : LamO f q params body scope pm ctv c' ≠ .tbl ps := fun z => by
  unfold LamO at z
  cases z
theorem LamO.ok {P : Program} {w : World} {H : Hp} {h : Heap} {f : Addr} {q : Str} {params : Arguments} {body : Expr} {scope : Scope} {pm ctv : Value} {c' : Addr} (x : h.get? f = some (PySem.W.kla_obj "<lambda>" q params body scope [] pm c' ctv)) : ObjOk P w H h f (LamO f q params body scope pm ctv c') :=
  ⟨x, ⟨_, x⟩, fun _ _ y k => k _ y⟩
def tLamV (T : List (Addr × Str)) (q : Str) (params : Arguments) (body : Expr) (scope : Scope) : TE := fun _ H Q => Tabs T H ∧ ∀ (f c' : Addr) (pm ctv : Value) (H1 : Hp), ExtN H H1 → H1 f = none → Tabs T H1 → H1 c' = some (CodeO c' q) → Q (.ref f) (upd H1 f (LamO f q params body scope pm ctv c'))
section
variable {X : Cx}
theorem pe_lamV {T : List (Addr × Str)} {c P : Addr} {params : Arguments} {body : Expr} {scope : Scope} {pos : Pos} {q : Str} (hq : X.env.qual ++ "<lambda>" = q) (TB : TabB X.base X.mg c P) (hcode : X.env.code = .ref c) (hm : (P, q) ∈ T) (hu : ∀ p ∈ T, p.1 = P → p.2 = q)
    (hdef : defaultsOf params X.env = ([], [])) (hfree : ∀ y ∈ scope.names, y.2 = .free → ∃ c, X.env.cells.lookup y.1 = some c) (hclo : cloFrom X.env.cells scope.names [] = []) : PE X (.Lambda params body scope pos) (tLamV T q params body scope) := by
  subst hq
  constructor
  intro pins s σ H Q I h
  obtain ⟨hT, hk⟩ := h
  obtain ⟨ps, hP, htr, hknown⟩ := hT _ hm
  have hcl : closureFor scope X.env = pure [] := by rw [← hclo]; exact closure_ok hfree
  have hPobj : s.heap.get? P = some { cls := .none, data := .fields ps } := I.hok P _ hP
  have hbuilt : s.heap.BuiltinsAt X.mg P := TB.bm.keeps I.bk
  refine PySem.W.kla_eval hdef ?_
  have laid : ∀ (h1 : Heap) (tk : Nat) (c' : Addr) (ctv : Value) (H1 : Hp), Inv X pins σ H1 { s with heap := h1, toks := tk } → ExtN H H1 → Tabs T H1 → H1 c' = some (CodeO c' (X.env.qual ++ "<lambda>")) →
      EP X pins σ Q (.ref h1.objs.size) { s with heap := h1.push (PySem.W.kla_obj "<lambda>" (X.env.qual ++ "<lambda>") params body scope [] ((X.mg "__name__").getD .none) c' ctv), toks := tk } := fun h1 tk c' ctv H1 I1 e1 t1 hc => by
    have n1 : H1 h1.objs.size = none := I1.hok.fresh (Nat.le_refl _)
    exact ⟨.ref h1.objs.size, _, I1.laid (a := h1.objs.size) (o := LamO h1.objs.size (X.env.qual ++ "<lambda>") params body scope ((X.mg "__name__").getD .none) ctv c') (t' := tk) (fun _ _ e => Heap.get?_push_of_some _ e) (Nat.le_refl _) (LamO.ok (Heap.get?_push_size _ rfl)), rfl, hk _ c' _ ctv H1 e1 n1 t1 hc⟩
  cases hcA : codeAmong pos ps.toList with
  | some cv =>
    obtain ⟨c', rfl, hco⟩ := hknown pos cv hcA
    exact PySem.W.kla_makeFunctionHit (mg := X.mg) (c := c) (P := P) (ps := ps) hcl I.ok.glob (I.mod.glob.keeps I.bk) hcode (TB.code.keeps I.bk) hPobj htr hcA hbuilt fun ctv h1 tk keeps _ => laid h1 tk c' ctv H (I.kept keeps) (ExtN.refl H) hT hco
  | none =>
    refine PySem.W.kla_makeFunction (mg := X.mg) (c := c) (P := P) (ps := ps) hcl I.ok.glob (I.mod.glob.keeps I.bk) hcode (TB.code.keeps I.bk) hPobj htr hcA TB.gP hbuilt fun c' ctv h1 tk keeps hge hlt hrec htab => ?_
    obtain ⟨c2, oc, vs, t, e2, hoc, hdat, hv⟩ := hrec
    cases e2
    have nC : H c' = none := I.hok.fresh hge
    have I1 := inv_table (t' := tk) (more := #[rawInt pos.line, rawInt pos.col, .ref c']) I hP keeps htab hge ⟨oc, vs, t, hoc, hdat, hv⟩
    have eL : (ps ++ #[rawInt pos.line, rawInt pos.col, .ref c']).toList = ps.toList ++ [rawInt pos.line, rawInt pos.col, .ref c'] := by simp
    have e1 : ExtN H (upd (upd H P (.tbl (ps ++ #[rawInt pos.line, rawInt pos.col, .ref c']))) c' (CodeO c' (X.env.qual ++ "<lambda>"))) := fun b o e n => by
      rw [upd_ne (ne_of_none e nC), upd_ne (fun z => n ps (Option.some.inj (e.symm.trans (by rw [z]; exact hP))))]
      exact e
    refine laid h1 tk c' ctv _ I1 e1 (fun p hp => ?_) upd_same
    by_cases hb : p.1 = P
    · rw [hu p hp hb, hb]
      refine ⟨_, by rw [upd_ne (ne_of_none hP nC), upd_same], by rw [eL]; exact PySem.TriplesOk_snoc _ _ _ _ htr, fun p' cv hcv => ?_⟩
      rw [eL] at hcv
      rcases among_app _ htr hcv with z | z
      · obtain ⟨c0, z1, z2⟩ := hknown p' cv z
        exact ⟨c0, z1, e1 _ _ z2 codeO_ne⟩
      · exact ⟨c', z, upd_same⟩
    · obtain ⟨ps', a1, a2, a3⟩ := hT p hp
      refine ⟨ps', by rw [upd_ne (ne_of_none a1 nC), upd_ne hb]; exact a1, a2, fun p' cv hcv => ?_⟩
      obtain ⟨c0, z1, z2⟩ := a3 p' cv hcv
      exact ⟨c0, z1, e1 _ _ z2 codeO_ne⟩
end
/-- a lambda of one parameter: its text and what its body asks -/
structure Lam1 (P : Program) (w : World) (K : PySem.W.Frag) (mg : Str → Option Value) (base : Heap) (k : Nat) where
  q : Str
  params : Arguments
  body : Expr
  scope : Scope
  x : Str
  N : List Str
  S : FnScope N [x] scope
  bind : ∀ (pm cd ctv u : Value), bindArgs (PySem.W.kla_fn "<lambda>" q params body scope [] pm cd ctv) ⟨[u], []⟩ = pure [(x, u)]
  tb : XK → V → Hp → VK → Prop
  run : ∀ (A : Around) (outer : List Env) (s : Shared) (H : Hp) (E : XK) (f : Addr) (cd : Value) (v : V) (Q : VK), Room k (A.deeper (envOfC q scope s.heap.objs.size f cd)) → tb E v H Q → ∃ t, PE (cxOf (L2.CX P w) P w K mg base N q scope f cd A outer s H E) body t ∧ t (L2.start N [v]) H Q
theorem run_lam1 {P : Program} {w : World} {K : PySem.W.Frag} {mg : Str → Option Value} {base : Heap} {k : Nat} (L : Lam1 P w K mg base k) {A : Around} {outer : List Env} {s : Shared} {H : Hp} {Q : VK} {E : XK} {v : V} {u pm ctv : Value} {f c' : Addr} (hr : Room (k + 1) A) (e0 : Env0 P w K mg base A outer s H)
    (hf : H f = some (LamO f L.q L.params L.body L.scope pm ctv c')) (hc : H c' = some (CodeO c' L.q)) (r : L2.RelV v u) (ht : L.tb E v H Q) : codeAny (model P w) A (.call (.ref f) ⟨[u], []⟩) (CR (L2.CX P w) outer P w H s Q E) s := by
  have lim : s.heap.NoLimit := e0.mod.nolimit.keeps fun b o e => (e0.bs b o e).1
  obtain ⟨hobj, _, _⟩ := e0.hok f _ hf
  obtain ⟨⟨oc, vs, t, hoc, hdc, hvc⟩, _, _⟩ := e0.hok c' _ hc
  refine PySem.W.kla_callFunE hr.depth hobj rfl L.S.co L.S.gen rfl ⟨c', oc, vs, t, rfl, hoc, hdc, hvc⟩ ?_
  rw [L.bind]
  have hkind : ∀ y ∈ [L.x].zip [u], L.scope.names.lookup y.1 = some .local ∨ (L.scope.names.lookup y.1 = some .cell ∧ ((cellsFrom (s.heap.objs.size + 1) L.scope.names []).lookup y.1).isSome = true) := fun ⟨n, v⟩ hy => by
    rcases L.S.par n (List.of_mem_zip hy).1 with q | q
    · exact .inl q
    · exact .inr ⟨q, PySem.W.cellsFrom_some _ _ _ (.inl q)⟩
  refine wpAny_pure (wpAny_newFunctionEnv_cells L.S.kind hkind fun env he s1 x => ?_)
  subst he
  refine ⟨lim.keeps x.toInCall.keep, PySem.W.kla_codeExpr ?_⟩
  obtain ⟨tr, hp, hq⟩ := L.run A outer s H E f (.ref c') v Q (hr.deeper _) ht
  have I : Inv (cxOf (L2.CX P w) P w K mg base L.N L.q L.scope f (.ref c') A outer s H E) [] (L2.start L.N [v]) H s1 := inv_start L.S hr.hd e0 rfl (.cons r .nil) x
  refine wpAny_mono (hp.run [] s1 (L2.start L.N [v]) H _ I hq) (fun rv s' hs => ?_) fun e s' hs => hs
  obtain ⟨w', H', J, rr, q⟩ := hs
  exact ⟨w', H', J.os, J.bare, J.base, J.hok, rr, q⟩
/-- f(e), f such a lambda in slot i -/
def tLam1 {P : Program} {w : World} {K : PySem.W.Frag} {mg : Str → Option Value} {base : Heap} {k : Nat} (L : Lam1 P w K mg base k) (i : Nat) (E : L2.St → XK) (te : TE) : TE := fun σ H Q => ∃ (f c' : Addr) (pm ctv : Value), σ[i]? = some (some (.ref f)) ∧ H f = some (LamO f L.q L.params L.body L.scope pm ctv c') ∧
  te σ H fun v H1 => H1 f = some (LamO f L.q L.params L.body L.scope pm ctv c') ∧ H1 c' = some (CodeO c' L.q) ∧ L.tb (E σ) v H1 Q
theorem pe_lam1 {X : Cx} {k i : Nat} {a : Str} {E : L2.St → XK} {te : TE} {e : Expr} {p1 p2 : Pos} (L : Lam1 X.prog X.w X.K X.mg X.base k) (hr : Room (k + 1) X.A) (hx : ∀ σ, PassesAt (L2.CX X.prog X.w) X σ (E σ)) (hN : X.N[i]? = some a) (hv : Vis X.env.scope a)
    (hd : (a == ("__debug__" : Str)) = false) (hcd : (a == ("__classdict__" : Str)) = false) (he : PE X e te) (hst : starEach [e] X.env = (false, eval e X.env) :: starEach [] X.env := by rfl) : PE X (.Call (.Name a p1) [e] [] p2) (tLam1 L i E te) := by
  constructor
  intro pins s σ H Q I h
  obtain ⟨f, c', pm, ctv, hs, hf, ht⟩ := h
  refine wpAny_Call_Name_kw (thn ((pe_var (pos := p1) (i := i) hN hv hd hcd).run pins s σ H (fun v H1 => v = .ref f ∧ H1 = H) I ⟨.ref f, hs, rfl, rfl⟩) fun u s1 ⟨v, H1, I1, r1, q1⟩ => ?_)
  obtain ⟨rfl, rfl⟩ := q1
  obtain rfl : u = Value.ref f := r1
  have fat : ∀ {s2 : Shared} {σ2 : L2.St} {H2 : Hp}, Inv X pins σ2 H2 s2 → H2 f = some (LamO f L.q L.params L.body L.scope pm ctv c') → PySem.W.FnAt f s2.heap := fun I2 h2 => by
    obtain ⟨ho, _, _⟩ := I2.hok f _ h2
    exact ⟨_, _, _, _, ho⟩
  have ha : PA X [e] (tCons te tNil) := pa_cons he pa_nil hst
  refine PySem.W.callWith_F (fat I1 hf) (thn (ha.run p2 pins s1 σ H1 (fun vs H2 => match vs with | [v] => H2 f = some (LamO f L.q L.params L.body L.scope pm ctv c') ∧ H2 c' = some (CodeO c' L.q) ∧ L.tb (E σ) v H2 Q | _ => False) I1 ht) fun us s2 ⟨vs, H2, I2, rv, q2⟩ => ?_) hst (by rfl)
  cases rv with
  | nil => exact q2.elim
  | cons rv1 rv =>
    cases rv with
    | cons _ _ => exact q2.elim
    | nil =>
      obtain ⟨hf2, hc2, hb⟩ := q2
      refine ⟨fat I2 hf2, wpAny_call (codeAny_mono (run_lam1 L hr I2.env0 hf2 hc2 rv1 hb) fun r s' hq => ?_)⟩
      cases r with
      | error err => exact hx σ pins H2 s2 err s' I2 hq
      | ok fl =>
        cases fl with
        | ret u => exact I2.after hq
        | next => exact hq.elim
        | brk => exact hq.elim
        | cont => exact hq.elim
end K82

set_option Elab.async false
set_option linter.all false
set_option maxRecDepth 100000
set_option maxHeartbeats 4000000
/-! law: is_very. -/
namespace K82
open PySem PySem.Spec PyProof.Rows L2 LamX
/-- a def whose code object is known -/
theorem Fun.okC {P : Program} {w : World} {K : PySem.W.Frag} {mg : Str → Option Value} {base : Heap} {x qual : Str} {st : Stmt} {f c : Addr} {fd : FuncData} {N ps : List Str} {k : Nat} {sp : Sp} (F : L2.Fun K x qual st f fd) (hc : fd.code = .ref c) (S : FnScope N ps (defScope st)) (len : ∀ vs H Q E, sp vs H Q E → vs.length = ps.length)
    (hbody : ∀ (A : Around) (outer : List Env) (s : Shared) (H : Hp) (vs : List V) (Q : VK) (E : XK), Room k (A.deeper (envOfC qual (defScope st) s.heap.objs.size f (.ref c))) → sp vs H Q E →
      ∃ t, PSs (cxOf CX0 P w K mg base N qual (defScope st) f (.ref c) A outer s H E).nox (defBody st) t ∧ t { nx := fun _ H' => Q .non H', rt := Q } (L2.start N vs) H) : FnOk P w K mg base CX0 (k + 1) f fd ps sp := by
  obtain ⟨oc, od, kV, doc, pm, an, cdv, ct, osl, rfl, lk, hcd⟩ := F.ex
  have hcv : cdv = .ref c := hc
  subst hcv
  refine fn_of lk hcd S len fun A outer s H vs Q E hr hsp => ?_
  obtain ⟨t, h, q⟩ := hbody A outer s H vs Q E hr hsp
  exact ⟨t, h.nox, q⟩
section
variable {P : Program} {w : World} {K : PySem.W.Frag} {mg : Str → Option Value} {base : Heap}
theorem TabS.keep {H H1 : Hp} {Pt : Addr} {q : Str} (t : TabS H Pt q) (h1 : ∀ ps, H Pt = some (.tbl ps) → H1 Pt = some (.tbl ps)) (h2 : ∀ c, H c = some (CodeO c q) → H1 c = some (CodeO c q)) : TabS H1 Pt q := by
  obtain ⟨ps, a1, a2, a3⟩ := t
  refine ⟨ps, h1 ps a1, a2, fun pos cv hcv => ?_⟩
  obtain ⟨c, e, hc⟩ := a3 pos cv hcv
  exact ⟨c, e, h2 c hc⟩
abbrev qVery : Str := "_law_is_very.<locals>.<lambda>"
abbrev spIV (Y : Txe K mg) (TT : List (Addr × Str)) {k : Nat} (L : Lam1 P w K mg base k) : Sp := fun vs H Q _ => vs.length = 2 ∧ ∃ (word fld : Str) (C f c' : Addr) (pm ctv : Value), vs = [.str word, .ref f] ∧ MetW Y C fld word ∧ H f = some (LamO f L.q L.params L.body L.scope pm ctv c') ∧ H c' = some (CodeO c' L.q) ∧ Tabs TT H ∧
  (∀ (H1 : Hp) (o : Addr) (Ec : XK) (Q1 : VK), H1 o = some (.lst [.str "odd"]) → (∀ dd H2, Same H1 H2 → H2 dd = some (.xd [(fld, .ref o)]) → Ec (.ref C) (some dd) H2) → L.tb Ec (.ref o) H1 Q1) ∧ ∀ H', Tabs TT H' → Q (.bl true) H'
theorem metW_len {Y : Txe K mg} {C : Addr} {fld word : Str} (h : MetW Y C fld word) : shr (.str word) = true := by
  cases h <;> decide +kernel
theorem ok_law_is_very (T : Txt K mg) (Y : Txe K mg) {TT : List (Addr × Str)} {cV pV : Addr} (hc : T.law_is_very.fd.code = .ref cV) (TB : TabB base mg cV pV) (hmT : (pV, qVery) ∈ TT) (hu : ∀ p ∈ TT, p.1 = pV → p.2 = qVery) {k : Nat} (L : Lam1 P w K mg base k) :
    FnOk P w K mg base CX0 (k + 5) T.law_is_very.f T.law_is_very.fd ["word", "ask"] (spIV Y TT L) := by
  have g_law_same : FnOk P w K mg base CX0 4 _ _ _ _ := ok_law_same T 3
  obtain ⟨oc, od, kV, doc, pm0, an, cdv, ct, osl, hfd, lk, hcd⟩ := T.law_met.F.ex
  have bmet := T.law_met.b
  rw [hfd] at lk bmet
  refine Fun.okC (k := k + 4) T.law_is_very.F hc sc_law_is_very (fun vs H Q E z => z.1) (fun Ar outer s H vs Q E hr z => ?_)
  obtain ⟨_, word, fld, C, f, c', pm, ctv, rfl, hw, hf, hco, hT, hask, hQ⟩ := z
  refine ⟨_, (pss_cons (ps_set (i := 3) sc_law_is_very.nd rfl (Or.inr rfl) (pe_lst (pa_cons pe_str pa_nil)))
      (pss_cons (ps_set (i := 2) sc_law_is_very.nd rfl (Or.inl rfl) (pe_lamcall (T := TT) (TT := TTmet Y) (k := k + 1) (a := "ask") (t := fun E => tLam1 L 1 (WE fun cls d _ H => E cls d H) (tVar 3)) rfl T.law_met.m T.law_met.F.kp lk hcd bmet sc_law_met rfl (.inl rfl) (met_gives (X := (cxOf CX0 P w K mg base ["word", "ask", "found", "odd"] "_law_is_very" (defScope s_law_is_very) T.law_is_very.f (.ref cV) Ar outer s H E).nox) Y _ _ _) TB rfl hmT hu (hr.mono (by omega)) (lamS_by (sc := defScope s_law_is_very) (by decide +kernel)) rfl (fun _ _ _ _ _ => rfl)
        (fun A2 outer2 s2 H2 E2 f2 c2 hr2 => pe_lam1 (X := lamCx (cxOf CX0 P w K mg base ["word", "ask", "found", "odd"] "_law_is_very" (defScope s_law_is_very) T.law_is_very.f (.ref cV) Ar outer s H E).nox A2 outer2 s2 H2 E2 _ f2 c2) (i := 1) (a := "ask") L hr2 (fun σ => passAt (takes_of rfl rfl rfl rfl) σ) rfl (.inr (.inr rfl)) (by decide) (by decide) (pv 3)))) 
      (pss_cons (ps_expr (pe_bm PySem.F.plainAttrs_list PySem.F.slot_list_append PySem.F.type_list_append mt_append (pv 3) (pa_cons pe_str pa_nil)))
      (pss_one (ps_ret (pe_call g_law_same (hr.mono (by omega)) rfl T.law_same.m T.law_same.F.kp T.law_same.b .nil pass0 (pa_cons (pv 2) (pa_cons (pe_tup (pa_cons (pv 0) (pa_cons (pv 3) pa_nil))) pa_nil)))))))), ?_⟩
  refine ds_seq ?_
  refine ⟨by show 1 ≤ sizeLine; decide, fun o ho => ?_⟩
  dsimp only [gName]
  refine ds_seq ?_
  have hmono : ∀ b u, H b = some u → upd H o (.lst [.str "odd"]) b = some u := fun b u q => same_upd ho _ b u q
  refine ⟨hT.ext hmono, fun H2 e2 t2 => ?_⟩
  have hf2 := e2 _ _ (hmono _ _ hf) LamO.ne
  have hc2 := e2 _ _ (hmono _ _ hco) codeO_ne
  have ho2 : H2 o = some (.lst [.str "odd"]) := e2 _ _ upd_same (fun ps z => by cases z)
  show tLam1 L 1 _ (tVar 3) _ H2 _
  refine ⟨f, c', pm, ctv, rfl, hf2, .ref o, rfl, hf2, hc2, hask H2 o _ _ ho2 fun dd H3 e3 hx => ⟨dd, .ref o, fld, word, C, rfl, rfl, hx, hw, fun p hp => ?_⟩⟩
  have ho3 : H3 o = some (.lst [.str "odd"]) := e3 _ _ ho2
  have hpo : o ≠ p := ne_of_none ho3 hp
  have ho4 : upd H3 p (.tup [.str word, .ref o]) o = some (.lst [.str "odd"]) := by rw [upd_ne hpo]; exact ho3
  refine ds_seq ?_
  refine ⟨.ref o, rfl, .inl ⟨rfl, _, SqL.of ho4⟩, o, [.str "odd"], .str "late", rfl, rfl, ho4, szl (by simp), ?_⟩
  let H5 : Hp := upd (upd H3 p (.tup [.str word, .ref o])) o (.lst ([.str "odd"] ++ [.str "late"]))
  let G5 : Hp := fun b => if b = o ∨ b = p then H5 b else none
  have hG : Same G5 H5 := fun b u q => by
    by_cases h : b = o ∨ b = p
    · have z : G5 b = H5 b := if_pos h
      rw [← z]
      exact q
    · have z : G5 b = none := if_neg h
      rw [z] at q
      cases q
  have g1 : G5 o = some (.lst [.str "odd", .str "late"]) := (if_pos (.inl rfl)).trans upd_same
  have g2 : G5 p = some (.tup [.str word, .ref o]) := (if_pos (.inr rfl)).trans ((upd_ne (Ne.symm hpo)).trans upd_same)
  have r1 : Rp K G5 (.ref o) (.list [.str "odd", .str "late"]) := .lst g1 (.cons (.str _) (.cons (.str _) .nil))
  have r2 : Rp K G5 (.ref p) (.tuple [.str word, .list [.str "odd", .str "late"]]) := .tup (.inl (.inl g2)) (.cons (.str _) (.cons r1 .nil))
  have hsb : SB 3 (.tuple [.str word, .list [.str "odd", .str "late"]]) := by
    refine ⟨by simp, fun e he => ?_⟩
    simp only [List.mem_cons, List.not_mem_nil, or_false] at he
    rcases he with rfl | rfl
    · trivial
    · refine ⟨by simp, fun e he => ?_⟩
      simp only [List.mem_cons, List.not_mem_nil, or_false] at he
      rcases he with rfl | rfl <;> trivial
  dsimp only
  refine ds_ret (K := K) (G := G5) (d := .bool true) hG (Dv.is (dv_call2 (f := fun a b => .bool (sameD a b)) (dv_var rfl r2) (dv_tup2 (dv_var (v := .str word) rfl (.str word)) (dv_var rfl r1)) ⟨hsb, hsb⟩) (by rw [sameD_refl _ hsb])) fun v G6 H6 e6 q => ?_
  cases q
  have go : ∀ b u, b ≠ o → H2 b = some u → H6 b = some u := fun b u hb q => e6.hh b u (by
    show upd (upd H3 p _) o _ b = some u
    rw [upd_ne hb, upd_ne (ne_of_none (e3 _ _ q) hp)]
    exact e3 _ _ q)
  refine hQ H6 fun q hq => TabS.keep (t2 q hq) (fun ps h => go _ _ (fun z => ?_) h) fun c h => go _ _ (fun z => ?_) h
  · rw [z, ho2] at h
    cases h
  · rw [z, ho2] at h
    unfold CodeO at h
    cases h
end
end K82

set_option Elab.async false
set_option linter.all false
set_option maxRecDepth 100000
set_option maxHeartbeats 4000000
/-! met(lambda: ..): only the tables change. -/
namespace K82
open PySem PySem.Spec PyProof.Rows L2 LamX
/-- all but the tables of T stay -/
structure ExtP (T : List (Addr × Str)) (H H' : Hp) : Prop where
  keep : ∀ b o, H b = some o → (∀ p ∈ T, b ≠ p.1) → H' b = some o
  dom : ∀ b, H b ≠ none → H' b ≠ none
theorem ExtP.refl {T : List (Addr × Str)} {H : Hp} : ExtP T H H := ⟨fun _ _ h _ => h, fun _ h => h⟩
def tLamP (T : List (Addr × Str)) (TT : (XK → Hp → VK → Prop) → Hp → VK → Prop) (t : XK → TE) : TE := fun σ H Q => Tabs T H ∧ ∀ H1, ExtP T H H1 → Tabs T H1 → TT (fun E H' Q' => t E σ H' Q') H1 Q
section
variable {X : Cx} {pins : List (Addr × Obj)} {σ : L2.St} {H : Hp} {s : Shared}
/-- a lambda that captures is made -/
theorem lam_made {T : List (Addr × Str)} {c P : Addr} {params : Arguments} {body : Expr} {scope : Scope} {pos : Pos} {E : Value → Shared → Prop} {Q : Value → Shared → Prop} (I : Inv X pins σ H s) (TB : TabB X.base X.mg c P) (hcode : X.env.code = .ref c)
    (hm : (P, X.env.qual ++ "<lambda>") ∈ T) (hu : ∀ p ∈ T, p.1 = P → p.2 = X.env.qual ++ "<lambda>") (hT : Tabs T H) (hdef : defaultsOf params X.env = ([], [])) (hfree : ∀ y ∈ scope.names, y.2 = .free → ∃ c, X.env.cells.lookup y.1 = some c)
    (h : ∀ (f c' : Addr) (pm ctv : Value) (H1 : Hp) (s' : Shared), Inv X pins σ H1 s' → ExtP T H H1 → Tabs T H1 →
      s'.heap.get? f = some (PySem.W.kla_obj "<lambda>" (X.env.qual ++ "<lambda>") params body scope (cloFrom X.env.cells scope.names []) pm c' ctv) → H1 f = none → f ∉ frs X.stack → H1 c' = some (CodeO c' (X.env.qual ++ "<lambda>")) → Q (.ref f) s') :
    wpAny (model X.prog X.w) X.A (eval (.Lambda params body scope pos) X.env) Q E s := by
  obtain ⟨ps, hP, htr, hknown⟩ := hT _ hm
  have hPobj : s.heap.get? P = some { cls := .none, data := .fields ps } := I.hok P _ hP
  have hbuilt : s.heap.BuiltinsAt X.mg P := TB.bm.keeps I.bk
  refine PySem.W.kla_eval hdef ?_
  have offStack : ∀ f, s.heap.objs.size ≤ f → f ∉ frs X.stack := fun f hf z => by
    rcases List.mem_cons.mp (I.stkSub _ z) with e | e
    · have := I.lt
      rw [← e] at this
      exact absurd (Nat.lt_of_lt_of_le this hf) (Nat.lt_irrefl _)
    · exact I.nofs hf e
  have done : ∀ (h1 : Heap) (tk : Nat) (c' : Addr) (ctv : Value) (H1 : Hp), s.heap.objs.size ≤ h1.objs.size → Inv X pins σ H1 { s with heap := h1, toks := tk } → ExtP T H H1 → Tabs T H1 → H1 c' = some (CodeO c' (X.env.qual ++ "<lambda>")) →
      Q (.ref h1.objs.size) { s with heap := h1.push (PySem.W.kla_obj "<lambda>" (X.env.qual ++ "<lambda>") params body scope (cloFrom X.env.cells scope.names []) ((X.mg "__name__").getD .none) c' ctv), toks := tk } := fun h1 tk c' ctv H1 hsz I1 e1 t1 hc =>
    h _ c' _ ctv H1 _ (I1.kept (t' := tk) fun _ _ e => Heap.get?_push_of_some _ e) e1 t1 (Heap.get?_push_size _ rfl) (I1.hok.fresh (Nat.le_refl _)) (offStack _ hsz) hc
  cases hcA : codeAmong pos ps.toList with
  | some cv =>
    obtain ⟨c', rfl, hco⟩ := hknown pos cv hcA
    exact PySem.W.kla_makeFunctionHit (mg := X.mg) (c := c) (P := P) (ps := ps) (closure_ok hfree) I.ok.glob (I.mod.glob.keeps I.bk) hcode (TB.code.keeps I.bk) hPobj htr hcA hbuilt fun ctv h1 tk keeps hsz => done h1 tk c' ctv H hsz (I.kept keeps) .refl hT hco
  | none =>
    refine PySem.W.kla_makeFunction (mg := X.mg) (c := c) (P := P) (ps := ps) (closure_ok hfree) I.ok.glob (I.mod.glob.keeps I.bk) hcode (TB.code.keeps I.bk) hPobj htr hcA TB.gP hbuilt fun c' ctv h1 tk keeps hge hlt hrec htab => ?_
    obtain ⟨c2, oc, vs, t, e2, hoc, hdat, hv⟩ := hrec
    cases e2
    have nC : H c' = none := I.hok.fresh hge
    have I1 := inv_table (t' := tk) (more := #[rawInt pos.line, rawInt pos.col, .ref c']) I hP keeps htab hge ⟨oc, vs, t, hoc, hdat, hv⟩
    have eL : (ps ++ #[rawInt pos.line, rawInt pos.col, .ref c']).toList = ps.toList ++ [rawInt pos.line, rawInt pos.col, .ref c'] := by simp
    have stays : ∀ b o, H b = some o → b ≠ P → upd (upd H P (.tbl (ps ++ #[rawInt pos.line, rawInt pos.col, .ref c']))) c' (CodeO c' (X.env.qual ++ "<lambda>")) b = some o := fun b o e n => by
      rw [upd_ne (ne_of_none e nC), upd_ne n]
      exact e
    have notP : ∀ {b : Addr} {q : Str}, H b = some (CodeO b q) → b ≠ P := fun e z => by
      rw [z, hP] at e
      exact codeO_ne _ (Option.some.inj e).symm
    refine done h1 tk c' ctv _ (Nat.le_of_lt (Nat.lt_of_le_of_lt hge hlt)) I1 ⟨fun b o e n => stays b o e (n _ hm), fun b hb => ?_⟩ (fun p hp => ?_) upd_same
    · by_cases z : b = c'
      · rw [z, upd_same]; simp
      · rw [upd_ne z]
        by_cases z2 : b = P
        · rw [z2, upd_same]; simp
        · rw [upd_ne z2]; exact hb
    · by_cases hb : p.1 = P
      · rw [hu p hp hb, hb]
        refine ⟨_, by rw [upd_ne (ne_of_none hP nC), upd_same], by rw [eL]; exact PySem.TriplesOk_snoc _ _ _ _ htr, fun p' cv hcv => ?_⟩
        rw [eL] at hcv
        rcases among_app _ htr hcv with z | z
        · obtain ⟨c0, z1, z2⟩ := hknown p' cv z
          exact ⟨c0, z1, stays _ _ z2 (notP z2)⟩
        · exact ⟨c', z, upd_same⟩
      · obtain ⟨ps', a1, a2, a3⟩ := hT p hp
        refine ⟨ps', stays _ _ a1 hb, a2, fun p' cv hcv => ?_⟩
        obtain ⟨c0, z1, z2⟩ := a3 p' cv hcv
        exact ⟨c0, z1, stays _ _ z2 (notP z2)⟩
/-- x(lambda: body), x a def of one parameter -/
theorem pe_gives {T : List (Addr × Str)} {TT : (XK → Hp → VK → Prop) → Hp → VK → Prop} {x a : Str} {g c P : Addr} {k : Nat} {pg : Arguments} {bg : List Stmt} {sg : Scope} {dV kV doc pm cdv ct oc : Value} {an od : Option Addr} {osl : Array (Option Value)} {Ng : List Str}
    {params : Arguments} {body : Expr} {scope : Scope} {t : XK → TE} {p lpos pos : Pos} (hg : Gl X x) (hm : X.mg x = some (.ref g)) (hk : PySem.W.keepIn X.K (.ref g) = true)
    (lk : X.K.lookup g = some ⟨oc, od, .func (PySem.W.fnOf x x pg bg sg dV kV doc pm an cdv ct), osl⟩) (hcg : PySem.W.codeIn X.K cdv x = true) (hb : L2.Binds X.K (PySem.W.fnOf x x pg bg sg dV kV doc pm an cdv ct) [a] []) (Sg : FnScope Ng [a] sg) (hNg : Ng[0]? = some a) (hva : Vis sg a)
    (hG : GivesTo X Ng x sg g cdv bg a (X.env.qual ++ "<lambda>") TT)
    (TB : TabB X.base X.mg c P) (hcode : X.env.code = .ref c) (hmT : (P, X.env.qual ++ "<lambda>") ∈ T) (hu : ∀ p ∈ T, p.1 = P → p.2 = X.env.qual ++ "<lambda>") (hr : Room (k + 2) X.A) (L : LamS X.env.scope scope) (hdef : defaultsOf params X.env = ([], []))
    (hbind : ∀ (q : Str) (cl : List (Str × Addr)) (pm cv ctv : Value), bindArgs (PySem.W.kla_fn "<lambda>" q params body scope cl pm cv ctv) ⟨[], []⟩ = pure [])
    (hbody : ∀ (A : Around) (outer : List Env) (s : Shared) (H : Hp) (E : XK) (f c' : Addr), Room k (A.deeper (lamEnv X scope s.heap.objs.size f c')) → PE (lamCx X A outer s H E scope f c') body (t E))
    (hdb : (x == ("__debug__" : Str)) = false := by decide) (hd : (a == ("__debug__" : Str)) = false := by decide) (hcd : (a == ("__classdict__" : Str)) = false := by decide) :
    PE X (.Call (.Name x p) [.Lambda params body scope lpos] [] pos) (tLamP T TT t) := by
  constructor
  intro pins s σ H Q I h
  obtain ⟨hT, hw⟩ := h
  refine wpAny_Call_Name_kw (ld_glob I hg hm (PySem.W.callWith_K (h₀ := X.base) I.ok.mod.kin hk ?_ (by rfl) (by rfl)) hdb)
  show wpAny _ _ (spliced ((false, eval (.Lambda params body scope lpos) X.env) :: backTo pos (starEach [] X.env))) _ _ s
  refine Calls.spliced_cons (lam_made I TB hcode hmT hu hT hdef (L.has I.ok) fun f c' pm' ctv H1 s' I1 e1 t1 hf hfn hfr hco => Calls.spliced_nil ⟨I1.kIn, wpAny_call (codeAny_mono (R := CR C8.CX0 X.stack X.prog X.w H1 s' Q C8.E0) ?_ fun r s2 hq => ?_)⟩)
  · refine run_ofS (N := Ng) (ps := [a]) (us := [.ref f]) (vs := [.ref f]) lk hcg Sg hr I1.env0 (hb s' [.ref f] I1.kIn rfl) (.cons rfl .nil) rfl fun hr' => ?_
    obtain ⟨t', ht', hq'⟩ := hG f c' s' H1 Q (fun E H' Q' => t E σ H' Q') (fun W pn xe E p1 p2 tk hW => pe_act (i := 0) I1 L hf hfn hfr (hbind _ _ _ _ _) tk hW hr' (fun A outer s H hr2 => hbody A outer s H E f c' hr2) hNg hva hd hcd) hco (hw H1 e1 t1)
    exact ⟨t', ht'.nox, hq'⟩
  · cases r with
    | error e => exact (show False from hq).elim
    | ok fl =>
      cases fl with
      | ret u => exact I1.after hq
      | next => exact hq.elim
      | brk => exact hq.elim
      | cont => exact hq.elim
end
end K82

set_option Elab.async false
set_option linter.all false
set_option maxRecDepth 100000
set_option maxHeartbeats 4000000
/-! The law's own state. -/
namespace K82
open PySem PySem.Spec PyProof.Rows L2 LamX
theorem codeO_ne_bk {c : Addr} {q : Str} {P : Program} {w : World} {xs : List (Ty × Addr × V)} : CodeO c q ≠ bkHO P w c xs := fun z => by
  unfold CodeO bkHO at z
  injection z with z
  let ob : Obj := { cls := .none, data := .fields #[.none, .str q 0] }
  let h : Heap := (⟨Array.replicate c ob, {}⟩ : Heap).push ob
  have hsz : (⟨Array.replicate c ob, {}⟩ : Heap).objs.size = c := Array.size_replicate
  have hg : h.get? c = some ob := by
    have := Heap.get?_push_size (⟨Array.replicate c ob, {}⟩ : Heap) (o := ob) rfl
    rw [hsz] at this
    exact this
  have h1 : ∃ (oc : Obj) (vs : Array Value) (t : Tok), h.get? c = some oc ∧ oc.data = .fields vs ∧ vs[1]? = some (.str q t) := ⟨ob, _, 0, hg, rfl, rfl⟩
  have h2 := congrFun z h
  rw [h2] at h1
  obtain ⟨_, _, _, _, o, es, ep, ho, _, hd, _⟩ := h1
  rw [hg] at ho
  cases ho
  cases hd
section
variable {K : PySem.W.Frag} {P : Program} {w : World} {TT : List (Addr × Str)} {G H G1 H1 : Hp} {p : Addr × Addr} {m b : Nat} {ba : Addr}
theorem Tabs.sw (j : (SW p).J b G H) (t : Tabs TT H) (e : ExtW (SW p).W G H G1 H1) : Tabs TT H1 := fun q hq => by
  obtain ⟨_, _, _, cells, a, b, c, hs, _⟩ := j
  refine TabS.keep (t q hq) (fun ps h => e.hh _ _ (fun z => ?_) h) fun c h => e.hh _ _ (fun z => ?_) h
  · rcases z with z | z
    · rw [z, hs.1] at h; cases h
    · rw [z, hs.2] at h; cases h
  · rcases z with z | z
    · rw [z, hs.1] at h
      unfold CodeO at h
      cases h
    · rw [z, hs.2] at h
      unfold CodeO at h
      cases h
theorem Tabs.sb (j : (SB2 K P w (p, (m, ba))).J (b, ()) G H) (t : Tabs TT H) (e : ExtW (SB2 K P w (p, (m, ba))).W G H G1 H1) : Tabs TT H1 := fun q hq => by
  obtain ⟨⟨_, _, _, cells, a, b, c, hs, _⟩, ⟨xs, jb⟩, _⟩ := j
  have hbk : H ba = some (bkHO P w ba xs) := jb.h
  refine TabS.keep (t q hq) (fun ps h => e.hh _ _ (fun z => ?_) h) fun c h => e.hh _ _ (fun z => ?_) h
  · rcases z with (z | z) | z
    · rw [z, hs.1] at h; cases h
    · rw [z, hs.2] at h; cases h
    · have z : q.1 = ba := z
      rw [z, hbk] at h
      unfold bkHO at h
      cases h
  · rcases z with (z | z) | z
    · rw [z, hs.1] at h
      unfold CodeO at h
      cases h
    · rw [z, hs.2] at h
      unfold CodeO at h
      cases h
    · have z : c = ba := z
      subst z
      rw [hbk] at h
      exact codeO_ne_bk (Option.some.inj h).symm
theorem Tabs.alive (t : Tabs TT H) : ∀ q ∈ TT, H q.1 ≠ none := fun q hq => by
  obtain ⟨ps, h, _⟩ := t q hq
  rw [h]
  simp
theorem Tabs.ex (t : Tabs TT H) (e : Ext G H G1 H1) : Tabs TT H1 := t.ext e.hh
/-- the law's state: data in G, no table among it; b draws are left -/
structure LS (p : Addr × Addr) (TT : List (Addr × Str)) (b : Nat) (G H : Hp) : Prop where
  e : Same G H
  j : (SW p).J b G H
  t : Tabs TT H
  n : ∀ q ∈ TT, G q.1 = none
theorem LS.ext (l : LS p TT b G H) (e : Ext G H G1 H1) : LS p TT b G1 H1 := ⟨e.gh, Wd.ext l.j e, Tabs.ex l.t e, fun q hq => e.loose (l.n q hq) (Tabs.alive l.t q hq)⟩
theorem LS.sw {b' : Nat} (l : LS p TT b G H) (e : ExtW (SW p).W G H G1 H1) (j : (SW p).J b' G1 H1) : LS p TT b' G1 H1 := ⟨e.gh, j, Tabs.sw l.j l.t e, fun q hq => e.loose (l.n q hq) (Tabs.alive l.t q hq)⟩
/-- .. and a book -/
structure LB (K : PySem.W.Frag) (P : Program) (w : World) (p : Addr × Addr) (TT : List (Addr × Str)) (m : Nat) (ba : Addr) (b : Nat) (G H : Hp) : Prop extends LS p TT b G H where
  k : (BW K P w (m, ba)).J () G H
theorem LB.apart (l : LB K P w p TT m ba b G H) : ∀ a, (SW p).W a → ¬ (BW K P w (m, ba)).W a := fun a h h' => by
  obtain ⟨_, _, _, cells, x, y, z, hs, _⟩ := l.j
  obtain ⟨xs, jb⟩ := l.k
  have hbk : H ba = some (bkHO P w ba xs) := jb.h
  have h' : a = ba := h'
  subst h'
  unfold bkHO at hbk
  rcases h with h | h
  · rw [h, hs.1] at hbk; cases hbk
  · rw [h, hs.2] at hbk; cases hbk
theorem LB.two (l : LB K P w p TT m ba b G H) : (SB2 K P w (p, (m, ba))).J (b, ()) G H := ⟨l.j, l.k, l.apart⟩
theorem LB.ext (l : LB K P w p TT m ba b G H) (e : Ext G H G1 H1) : LB K P w p TT m ba b G1 H1 := ⟨l.toLS.ext e, Wd.ext l.k e⟩
theorem LB.sw {b' : Nat} (l : LB K P w p TT m ba b G H) (e : ExtW (SW p).W G H G1 H1) (j : (SW p).J b' G1 H1) : LB K P w p TT m ba b' G1 H1 := ⟨l.toLS.sw e j, Wd.extW l.k e fun a h h' => l.apart a h' h⟩
theorem LB.sb {b' : Nat} (l : LB K P w p TT m ba b G H) (e : ExtW (SB2 K P w (p, (m, ba))).W G H G1 H1) (j : (SB2 K P w (p, (m, ba))).J (b', ()) G1 H1) : LB K P w p TT m ba b' G1 H1 :=
  ⟨⟨e.gh, j.1, Tabs.sb l.two l.t e, fun q hq => e.loose (l.n q hq) (Tabs.alive l.t q hq)⟩, j.2.1⟩
/-- behind a lambda that was made -/
theorem LS.lam (l : LS p TT b G H) (e : ExtP TT H H1) (t : Tabs TT H1) : LS p TT b G H1 := by
  have keepG : Same G H1 := fun c u h => e.keep c u (l.e c u h) fun q hq z => by
    rw [z, l.n q hq] at h
    cases h
  refine ⟨keepG, (SW p).mono l.j (Same.refl _) (fun c u hc h => e.keep c u h fun q hq z => ?_) (fun _ _ g _ => g), t, l.n⟩
  obtain ⟨_, _, _, cells, x, y, z', hs, _⟩ := l.j
  obtain ⟨ps, hq1, _⟩ := l.t q hq
  rcases hc with hc | hc
  · rw [← z, hc, hs.1] at hq1; cases hq1
  · rw [← z, hc, hs.2] at hq1; cases hq1
theorem LB.lam (l : LB K P w p TT m ba b G H) (e : ExtP TT H H1) (t : Tabs TT H1) : LB K P w p TT m ba b G H1 := by
  refine ⟨l.toLS.lam e t, (BW K P w (m, ba)).mono l.k (Same.refl _) (fun c u hc h => e.keep c u h fun q hq z => ?_) (fun _ _ g _ => g)⟩
  obtain ⟨xs, jb⟩ := l.k
  have hbk : H ba = some (bkHO P w ba xs) := jb.h
  have hc : c = ba := hc
  obtain ⟨ps, hq1, _⟩ := l.t q hq
  rw [← z, hc, hbk] at hq1
  unfold bkHO at hq1
  cases hq1
/-- a new book -/
theorem LS.book (l : LS p TT b G H) (m : Nat) {ba : Addr} (h : H ba = none) : LB K P w p TT m ba b G (upd H ba (bkHO P w ba [])) :=
  ⟨l.ext ((Ext.refl l.e).allocM h _), [], ⟨Same.none l.e h, upd_same, (fun z hz => by cases hz), List.nodup_nil, fun z hz => by cases hz⟩⟩
end
end K82

set_option Elab.async false
set_option linter.all false
set_option maxRecDepth 100000
set_option maxHeartbeats 4000000
/-! The plain law: a term's code is read back. -/
namespace K82
open PySem L2 PyProof.Rows
/-! ### tuples throughout -/
mutual
theorem toT_idem : ∀ d : PyData, toT (toT d) = toT d
  | .list l => by rw [toT, toT, toTs_idem l]
  | .tuple l => by rw [toT, toT, toTs_idem l]
  | .none => rfl
  | .bool _ => rfl
  | .int _ => rfl
  | .str _ => rfl
  | .dict _ => rfl
theorem toTs_idem : ∀ l : List PyData, toTs (toTs l) = toTs l
  | [] => rfl
  | d :: ds => by rw [toTs, toTs, toT_idem d, toTs_idem ds]
end
theorem toTs_tyl : ∀ s : Ty, toTs s.l = s.l
  | .nil => rfl
  | .cons a r => by rw [Ty.l, toTs, toT, toTs_tyl a, toTs_tyl r]
theorem toT_typy (s : Ty) : toT s.py = s.py := by rw [Ty.py, toT, toTs_tyl]
mutual
theorem toT_py : ∀ t : Tm, toT t.py = t.py
  | .name x => rfl
  | .fn x s t => by simp only [Tm.py, toT, toTs, toT_typy, toT_py t]
  | .ap t u => by simp only [Tm.py, toT, toTs, toT_py t, toT_py u]
  | .con c => rfl
  | .no => rfl
  | .cs t l => by simp only [Tm.py, toT, toTs, toT_py t, toTs_pys l]
  | .fx x s t => by simp only [Tm.py, toT, toTs, toT_typy, toT_py t]
  | .ei t u => by simp only [Tm.py, toT, toTs, toT_py t, toT_py u]
theorem toTs_pys : ∀ l : List Tm, toTs (Tm.pys l) = Tm.pys l
  | [] => rfl
  | t :: l => by rw [Tm.pys, toTs, toT_py t, toTs_pys l]
end
theorem toTs_starts : ∀ (n : Nat) (l : List Tm), toTs (starts n l) = starts n l
  | _, [] => rfl
  | n, t :: l => by rw [starts, toTs, toTs_starts]; rfl
theorem toT_ins (b : List Str) (n : Nat) (t : Tm) : toT (ins b n t) = ins b n t := by
  cases t <;> simp only [ins, toT, toTs, toT_typy, toTs_starts]
mutual
theorem put_toT : ∀ (b : List Str) (n : Nat) (t : Tm), (put b n t).map toT = put b n t
  | b, n, .name x => by rw [put, List.map_cons, toT_ins]; rfl
  | b, n, .fn x s t => by rw [put, List.map_cons, toT_ins, put_toT _ _ t]
  | b, n, .ap t u => by rw [put, List.map_cons, toT_ins, List.map_append, put_toT _ _ t, put_toT _ _ u]
  | b, n, .con c => by rw [put, List.map_cons, toT_ins]; rfl
  | b, n, .no => by rw [put, List.map_cons, toT_ins]; rfl
  | b, n, .cs t l => by rw [put, List.map_cons, toT_ins, List.map_append, put_toT _ _ t, puts_toT _ _ l]
  | b, n, .fx x s t => by rw [put, List.map_cons, toT_ins, put_toT _ _ t]
  | b, n, .ei t u => by rw [put, List.map_cons, toT_ins, List.map_append, put_toT _ _ t, put_toT _ _ u]
theorem puts_toT : ∀ (b : List Str) (n : Nat) (l : List Tm), (puts b n l).map toT = puts b n l
  | b, n, [] => rfl
  | b, n, t :: l => by rw [puts, List.map_append, put_toT b n t, puts_toT b _ l]
end
theorem toT_str {d : PyData} {x : Str} (h : toT d = .str x) : d = .str x := by
  cases d <;> simp_all [toT]
theorem toT_int {d : PyData} {i : Int} (h : toT d = .int i) : d = .int i := by
  cases d <;> simp_all [toT]
theorem toT_tup {d : PyData} {ds : List PyData} (h : toT d = .tuple ds) : ∃ l, rowOf d = some l ∧ l.map toT = ds := by
  cases d <;> simp only [toT, PyData.tuple.injEq, reduceCtorEq] at h
  · exact ⟨_, rfl, by rw [← toTs_map]; exact h⟩
  · exact ⟨_, rfl, by rw [← toTs_map]; exact h⟩
theorem Lt.ofT {n : Nat} {d : PyData} (g : Lt n (K82.toT d)) : Lt n d := by
  cases n with
  | zero => exact g.elim
  | succ n =>
    have g : Good n (K82.toT d) := g
    exact (⟨by rw [← toT_depth]; exact Good.dp g, by rw [← toT_lay]; exact Good.lay g, by rw [← toT_shr]; exact Good.sh g⟩ : Good n d)
/-! ### kept_term of a loose term -/
theorem tys_inv : ∀ (s : Ty) (l : List PyData), toTs l = s.l → isTys l = true ∧ tyOfs l = s
  | .nil, l, h => by
    cases l with
    | nil => exact ⟨rfl, rfl⟩
    | cons d ds => cases h
  | .cons a r, l, h => by
    cases l with
    | nil => cases h
    | cons d ds =>
      rw [toTs, Ty.l, List.cons.injEq] at h
      obtain ⟨h1, h2⟩ := h
      obtain ⟨q1, q2⟩ := tys_inv r ds h2
      obtain ⟨l', e1, e2⟩ := toT_tup h1
      obtain ⟨p1, p2⟩ := tys_inv a l' (by rw [toTs_map]; exact e2)
      rcases rowOf_cases e1 with e | e <;> subst e <;> refine ⟨?_, ?_⟩
      · rw [isTys, isTy, p1, q1]; rfl
      · rw [tyOfs, tyOf, p2, q2]
      · rw [isTys, isTy, p1, q1]; rfl
      · rw [tyOfs, tyOf, p2, q2]
theorem kTy_inv {s : Ty} {d : PyData} (h : toT d = s.py) : kTy d = some s := by
  obtain ⟨l, e1, e2⟩ := toT_tup h
  obtain ⟨p1, p2⟩ := tys_inv s l (by rw [toTs_map]; exact e2)
  unfold kTy
  rcases rowOf_cases e1 with e | e <;> subst e
  · rw [isTy, tyOf, p1, p2]; rfl
  · rw [isTy, tyOf, p1, p2]; rfl
theorem map1 {l : List PyData} {a : PyData} (h : l.map toT = [a]) : ∃ x, l = [x] ∧ toT x = a := by
  rcases l with _ | ⟨x, _ | ⟨y, l⟩⟩ <;> simp at h
  exact ⟨x, rfl, h⟩
theorem map2 {l : List PyData} {a b : PyData} (h : l.map toT = [a, b]) : ∃ x y, l = [x, y] ∧ toT x = a ∧ toT y = b := by
  rcases l with _ | ⟨x, _ | ⟨y, _ | ⟨z, l⟩⟩⟩ <;> simp at h
  exact ⟨x, y, rfl, h.1, h.2⟩
theorem map3 {l : List PyData} {a b c : PyData} (h : l.map toT = [a, b, c]) : ∃ x y z, l = [x, y, z] ∧ toT x = a ∧ toT y = b ∧ toT z = c := by
  rcases l with _ | ⟨x, _ | ⟨y, _ | ⟨z, _ | ⟨w, l⟩⟩⟩⟩ <;> simp at h
  exact ⟨x, y, z, rfl, h.1, h.2.1, h.2.2⟩
theorem map4 {l : List PyData} {a b c d : PyData} (h : l.map toT = [a, b, c, d]) : ∃ x y z w, l = [x, y, z, w] ∧ toT x = a ∧ toT y = b ∧ toT z = c ∧ toT w = d := by
  rcases l with _ | ⟨x, _ | ⟨y, _ | ⟨z, _ | ⟨w, _ | ⟨v, l⟩⟩⟩⟩⟩ <;> simp at h
  exact ⟨x, y, z, w, rfl, h.1, h.2.1, h.2.2.1, h.2.2.2⟩
theorem allS_some {α : Type} {f : PyData → Option α} {g : α → PyData} : ∀ {l : List PyData} {ts : List α}, l.map toT = ts.map g → (∀ d t, d ∈ l → t ∈ ts → toT d = g t → f d = some t) → allS (l.map f) = some ts
  | [], ts, h, _ => by
    cases ts with
    | nil => rfl
    | cons _ _ => cases h
  | d :: l, ts, h, k => by
    cases ts with
    | nil => cases h
    | cons t ts =>
      simp only [List.map_cons, List.cons.injEq] at h
      rw [List.map_cons, k d t (by simp) (by simp) h.1, allS, allS_some h.2 fun d' t' hd ht => k d' t' (by simp [hd]) (by simp [ht])]
      rfl
theorem kTm_inv {m : Int} : ∀ (n : Nat) (t : Tm) (d : PyData), Lt n t.py → val m t = true → toT d = t.py → kTm m n d = some t
  | 0, _, _, h, _, _ => h.elim
  | n + 1, t, d, h, hv, hd => by
    have hp : ∀ u ∈ t.parts, Lt n u.py := by
      obtain ⟨m', e, q⟩ := h.parts
      obtain rfl : m' = n := by omega
      exact q
    cases t with
    | name x =>
      obtain ⟨l, e1, e2⟩ := toT_tup hd
      obtain ⟨a, b, rfl, ha, hb⟩ := map2 e2
      cases toT_str ha
      cases toT_str hb
      unfold kTm
      rw [e1]
      have hv : nmOk x = true := hv
      simp [nameT, hv]
    | con c =>
      obtain ⟨l, e1, e2⟩ := toT_tup hd
      obtain ⟨a, b, rfl, ha, hb⟩ := map2 e2
      cases toT_str ha
      cases toT_int hb
      unfold kTm
      rw [e1]
      have hv : isBe (.int c) m = true := hv
      simp only []
      rw [if_neg (by decide +kernel), if_pos trivial]
      simp [conT, hv]
    | no =>
      obtain ⟨l, e1, e2⟩ := toT_tup hd
      obtain ⟨a, rfl, ha⟩ := map1 e2
      cases toT_str ha
      unfold kTm
      rw [e1]
      simp
    | fn x s u =>
      obtain ⟨l, e1, e2⟩ := toT_tup hd
      obtain ⟨a, b, c, e, rfl, ha, hb, hc, he⟩ := map4 e2
      cases toT_str ha
      cases toT_str hb
      rw [val, Bool.and_eq_true] at hv
      unfold kTm
      rw [e1]
      simp only []
      rw [if_pos trivial, kTy_inv hc, kTm_inv n u e (hp u (by simp [Tm.parts])) hv.2 he, bindT, if_pos hv.1]
    | fx x s u =>
      obtain ⟨l, e1, e2⟩ := toT_tup hd
      obtain ⟨a, b, c, e, rfl, ha, hb, hc, he⟩ := map4 e2
      cases toT_str ha
      cases toT_str hb
      rw [val, Bool.and_eq_true] at hv
      unfold kTm
      rw [e1]
      simp only []
      rw [if_neg (by decide +kernel), if_pos trivial, kTy_inv hc, kTm_inv n u e (hp u (by simp [Tm.parts])) hv.2 he, bindT, if_pos hv.1]
    | ap t u =>
      obtain ⟨l, e1, e2⟩ := toT_tup hd
      obtain ⟨a, b, c, rfl, ha, hb, hc⟩ := map3 e2
      cases toT_str ha
      rw [val, Bool.and_eq_true] at hv
      unfold kTm
      rw [e1]
      simp only []
      rw [if_neg (by decide +kernel), if_pos trivial, kTm_inv n t b (hp t (by simp [Tm.parts])) hv.1 hb, kTm_inv n u c (hp u (by simp [Tm.parts])) hv.2 hc]
      rfl
    | ei t u =>
      obtain ⟨l, e1, e2⟩ := toT_tup hd
      obtain ⟨a, b, c, rfl, ha, hb, hc⟩ := map3 e2
      cases toT_str ha
      rw [val, Bool.and_eq_true] at hv
      unfold kTm
      rw [e1]
      simp only []
      rw [if_neg (by decide +kernel), if_neg (by decide +kernel), if_pos trivial, kTm_inv n t b (hp t (by simp [Tm.parts])) hv.1 hb, kTm_inv n u c (hp u (by simp [Tm.parts])) hv.2 hc]
      rfl
    | cs t ts =>
      obtain ⟨l, e1, e2⟩ := toT_tup hd
      obtain ⟨a, b, c, rfl, ha, hb, hc⟩ := map3 e2
      cases toT_str ha
      obtain ⟨l2, f1, f2⟩ := toT_tup hc
      rw [val, Bool.and_eq_true, Bool.and_eq_true, decide_eq_true_eq, vals_iff] at hv
      unfold kTm
      rw [e1]
      simp only []
      rw [Tm.pys_map] at f2
      have hlen : (l2.length : Int) = m := by
        have := congrArg List.length f2
        simp only [List.length_map] at this
        rw [this]
        exact hv.2.1
      rw [if_pos trivial, kTm_inv n t b (hp t (by simp [Tm.parts])) hv.1 hb, f1]
      simp only []
      rw [if_pos hlen, allS_some f2 fun d' t' _ ht h' => kTm_inv n t' d' (hp t' (by simp [Tm.parts, ht])) (hv.2.2 t' ht) h']
      rfl
theorem baseD_inv {m : Int} {t : Tm} {d : PyData} (h : Lt 60 t.py) (hv : val m t = true) (ht : typ [] t = some .nil) (hd : toT d = t.py) : baseD m d = some t := by
  unfold baseD
  rw [kTm_inv 60 t d h hv hd]
  simp only []
  rw [if_pos ht]
/-! ### decoded of a code -/
/-- some stand in a code from a place on -/
def At (code : List PyData) (n : Nat) (xs : List PyData) : Prop := ∃ post, code.drop n = xs ++ post
theorem At.cons {code : List PyData} {n : Nat} {x : PyData} {xs : List PyData} (h : At code n (x :: xs)) : code[n]? = some x ∧ At code (n + 1) xs := by
  obtain ⟨post, h⟩ := h
  refine ⟨?_, post, ?_⟩
  · have := congrArg (fun l => l[0]?) h
    simpa using this
  · rw [← List.drop_drop, h]
    rfl
theorem At.app {code : List PyData} {n : Nat} {xs ys : List PyData} (h : At code n (xs ++ ys)) : At code n xs ∧ At code (n + xs.length) ys := by
  obtain ⟨post, h⟩ := h
  refine ⟨⟨ys ++ post, by rw [h, List.append_assoc]⟩, post, ?_⟩
  rw [← List.drop_drop, h, List.append_assoc, List.drop_left]
theorem numIs_int (n : Nat) : numIs (.int (n : Int)) n = true := by simp [numIs]
theorem decs_inv {dec : Nat → Option (PyData × Nat)} {code : List PyData} {b : List Str} : ∀ {l : List Tm} {n : Nat}, At code n (puts b n l) → (∀ t ∈ l, ∀ n, At code n (put b n t) → dec n = some (t.py, n + t.size)) → decs dec n (starts n l) = some (Tm.pys l, n + Tm.sizes l)
  | [], n, _, _ => rfl
  | t :: l, n, h, k => by
    rw [puts] at h
    obtain ⟨h1, h2⟩ := h.app
    rw [put_len] at h2
    rw [starts, decs_cons, if_pos (numIs_int n), k t (by simp) n h1]
    simp only []
    rw [decs_inv h2 fun t' ht => k t' (by simp [ht])]
    simp only [Tm.pys, Tm.sizes, Nat.add_assoc]
theorem sizes_mem : ∀ {l : List Tm} {t : Tm}, t ∈ l → t.size ≤ Tm.sizes l
  | [], _, h => by simp at h
  | u :: l, t, h => by
    rw [Tm.sizes]
    rcases List.mem_cons.mp h with rfl | h
    · omega
    · have := sizes_mem h
      omega
theorem decD_put {code : List PyData} : ∀ (f : Nat) (t : Tm) (b : List Str) (n : Nat), t.size ≤ f → bnd b t = true → At code n (put b n t) → decD f code n (b.map .str) = some (t.py, n + t.size)
  | 0, t, b, n, hs, _, _ => by
    rw [size_parts] at hs
    omega
  | f + 1, t, b, n, hs, hb, h => by
    rw [put_parts] at h
    obtain ⟨h0, h1⟩ := h.cons
    rw [size_parts] at hs
    have hparts := bnd_parts hb
    have ih : decs (fun m => decD f code m ((innB b t).map .str)) (n + 1) (starts (n + 1) t.parts) = some (Tm.pys t.parts, n + 1 + Tm.sizes t.parts) := decs_inv h1 fun u hu n' hn' => by
      have := sizes_mem hu
      exact decD_put f u _ n' (by omega) (hparts u hu) hn'
    have hz : n + t.size = n + 1 + Tm.sizes t.parts := by
      rw [size_parts]
      omega
    rw [hz]
    have hg : (code[n]?).getD .none = ins b n t := by rw [h0]; rfl
    have fin : ∀ {x : Str} {r : List PyData}, ins b n t = .tuple (.str x :: r) → x ≠ "look" → innD x r (b.map .str) = (innB b t).map .str → nums x r = starts (n + 1) t.parts → mkD x r (ins b n t) (Tm.pys t.parts) = t.py → decD (f + 1) code n (b.map .str) = some (t.py, n + 1 + Tm.sizes t.parts) := fun {x r} e hx e1 e2 e3 => by
      rw [decD_str (x := x) (r := r) (by rw [hg, e]; rfl), hg]
      unfold decB
      rw [if_neg hx, e1, e2, ih]
      simp only []
      rw [e3]
    cases t with
    | name x =>
      rw [decD_str (x := "look") (r := [.int (idx b x)]) (by rw [hg]; rfl), hg]
      unfold decB
      rw [if_pos rfl]
      have hx : x ∈ b := by simpa [bnd] using hb
      rw [lookD_yes (y := .str x) (by rw [List.getElem?_map, (idx_at hx).1]; rfl)]
      rfl
    | con c => exact fin rfl (by decide +kernel) rfl rfl rfl
    | no => exact fin rfl (by decide +kernel) rfl rfl rfl
    | fn x s u => exact fin rfl (by decide +kernel) rfl rfl rfl
    | fx x s u => exact fin rfl (by decide +kernel) rfl rfl rfl
    | ap t u => exact fin rfl (by decide +kernel) rfl rfl rfl
    | ei t u => exact fin rfl (by decide +kernel) rfl rfl rfl
    | cs t l => exact fin rfl (by decide +kernel) rfl rfl rfl
end K82

set_option Elab.async false
set_option linter.all false
set_option maxRecDepth 100000
set_option maxHeartbeats 4000000
/-! The plain law: loose codes, odd codes. -/
namespace K82
open PySem L2 PyProof.Rows
theorem k01.cnt {k : Ty} (h : k01 k) : cnt k.py ≤ 2 := by
  rcases h with rfl | rfl <;> decide
theorem starts_good (n : Nat) : ∀ l : List Tm, cnts (starts n l) = l.length
  | [] => rfl
  | t :: l => by rw [starts, cnts, starts_good (n + t.size) l, cnt, List.length_cons]; omega
theorem ins_ok {m : Int} {env : List (Str × Ty)} {t : Tm} (h : OkT env t) (hv : val m t = true) (hm : m ≤ 3) (b : List Str) (n : Nat) : EntOk (ins b n t) := by
  obtain ⟨k, hk, hk2, ha, hb, hp⟩ := h
  cases t with
  | name x => exact ⟨_, rfl, by simp, by simp, Lt.mkT (by simp) (mem2 (lt_str 2 _) (Lt.int 2 _)) (by simp), by simp [ins, cnt, cnts]⟩
  | con c => exact ⟨_, rfl, by simp, by simp, Lt.mkT (by simp) (mem2 (lt_str 2 _) (Lt.int 2 _)) (by simp), by simp [ins, cnt, cnts]⟩
  | no => exact ⟨_, rfl, by simp, by simp, Lt.mkT (by simp) (mem1 (lt_str 2 _)) (by simp), by simp [ins, cnt, cnts]⟩
  | fn x s u =>
    have hs : k01 s := ha s rfl
    have hx := hb x rfl
    have := hs.cnt
    exact ⟨_, rfl, by simp, by simp, Lt.mkT (by simp) (mem4 (lt_str 2 _) ((ns_ok hx).2.mono (by omega)) hs.lt (Lt.int 2 _)) (by simp), by simp [ins, cnt, cnts]; omega⟩
  | fx x s u =>
    have hs : k01 s := ha s rfl
    have hx := hb x rfl
    have := hs.cnt
    exact ⟨_, rfl, by simp, by simp, Lt.mkT (by simp) (mem4 (lt_str 2 _) ((ns_ok hx).2.mono (by omega)) hs.lt (Lt.int 2 _)) (by simp), by simp [ins, cnt, cnts]; omega⟩
  | ap t u => exact ⟨_, rfl, by simp, by simp, Lt.mkT (by simp) (mem3 (lt_str 2 _) (Lt.int 2 _) (Lt.int 2 _)) (by simp), by simp [ins, cnt, cnts]⟩
  | ei t u => exact ⟨_, rfl, by simp, by simp, Lt.mkT (by simp) (mem3 (lt_str 2 _) (Lt.int 2 _) (Lt.int 2 _)) (by simp), by simp [ins, cnt, cnts]⟩
  | cs t l =>
    have hl : l.length ≤ 3 := by
      rw [val, Bool.and_eq_true, Bool.and_eq_true, decide_eq_true_eq] at hv
      omega
    refine ⟨_, rfl, by simp, by simp, Lt.mkT (by simp) (mem3 (lt_str 2 _) (Lt.int 2 _) ?_) (by simp), by simp only [ins, cnt, cnts, starts_good]; omega⟩
    by_cases h0 : starts (n + 1 + t.size) l = []
    · rw [h0]
      exact ⟨by simp [PyData.depth, PyData.depthAll], rfl, rfl⟩
    · exact (Lt.mkT (by rw [starts_len]; omega) (starts_lt _ l) h0).mono (by omega)
theorem puts_mem {e : PyData} {b : List Str} : ∀ {l : List Tm} {n : Nat}, e ∈ puts b n l → ∃ t ∈ l, ∃ n', e ∈ put b n' t
  | [], n, h => by simp [puts] at h
  | t :: l, n, h => by
    rw [puts, List.mem_append] at h
    rcases h with h | h
    · exact ⟨t, by simp, n, h⟩
    · obtain ⟨u, hu, n', q⟩ := puts_mem h
      exact ⟨u, by simp [hu], n', q⟩
theorem put_ok {m : Int} (hm : m ≤ 3) : ∀ (k : Nat) {env : List (Str × Ty)} {t : Tm} (b : List Str) (n : Nat), t.size ≤ k → OkT env t → val m t = true → ∀ e ∈ put b n t, EntOk e
  | 0, env, t, b, n, hs, _, _ => by
    rw [size_parts] at hs
    omega
  | k + 1, env, t, b, n, hs, h, hv => fun e he => by
    rw [put_parts] at he
    rcases List.mem_cons.mp he with rfl | he
    · exact ins_ok h hv hm b n
    · obtain ⟨u, hu, n', q⟩ := puts_mem he
      have := sizes_mem hu
      rw [size_parts] at hs
      cases h with
      | mk k' h1 h2 h3 h4 hp => exact put_ok hm k _ n' (by omega) (hp u hu) (val_parts hv u hu) e q
/-- a term that was drawn -/
structure Dr (m : Int) (t : Tm) : Prop where
  m1 : 1 ≤ m
  m3 : m ≤ 3
  ty : typ [] t = some .nil
  va : val m t = true
  ok : OkT [] t
  lt : Lt 40 t.py
  sz : t.size ≤ 40
/-- the code that is due -/
def dueL (t : Tm) : List PyData := put [] 0 t
section
variable {m : Int} {t : Tm}
theorem Dr.ent (d : Dr m t) : ∀ e ∈ dueL t, EntOk e := put_ok d.m3 t.size [] 0 (Nat.le_refl _) d.ok d.va
theorem Dr.len (d : Dr m t) : (dueL t).length = t.size := put_len _ _ _
theorem Dr.pos (d : Dr m t) : 0 < t.size := by rw [size_parts]; omega
theorem Dr.bnd (d : Dr m t) : bnd [] t = true := closed_bnd d.ty
theorem Dr.map (d : Dr m t) : (dueL t).map toT = dueL t := put_toT _ _ _
theorem Dr.toT (d : Dr m t) : K82.toT (.list (dueL t)) = .tuple (dueL t) := by rw [toT_row rfl, d.map]
theorem Dr.dueLt (d : Dr m t) : Lt 5 (.list (dueL t)) := by
  have h : Lt 5 (.tuple (dueL t)) := Lt.mkT (by rw [d.len]; have := d.sz; omega) (fun e he => by obtain ⟨_, _, _, _, h, _⟩ := d.ent e he; exact h) (by
    intro h
    have := d.len
    rw [h] at this
    have := d.pos
    simp at *
    omega)
  rw [← d.toT] at h
  exact h.ofT
theorem cnts_le {B : Nat} : ∀ {l : List PyData}, (∀ e ∈ l, cnt e ≤ B) → cnts l ≤ l.length * B
  | [], _ => by simp [cnts]
  | d :: l, h => by
    have h1 := h d (by simp)
    have h2 := cnts_le (l := l) fun e he => h e (by simp [he])
    rw [cnts, List.length_cons, Nat.succ_mul]
    omega
theorem Dr.dueCnt (d : Dr m t) : cnt (.list (dueL t)) ≤ 801 := by
  have h := cnts_le (l := dueL t) (B := 20) fun e he => by obtain ⟨_, _, _, _, _, h⟩ := d.ent e he; exact h
  rw [d.len] at h
  have := d.sz
  rw [cnt]
  omega
/-- a loose code -/
structure LooseC (t : Tm) (e : PyData) : Prop where
  eq : K82.toT e = K82.toT (.list (dueL t))
theorem Dr.codeOk (d : Dr m t) {e : PyData} (h : K82.toT e = K82.toT (.list (dueL t))) : CodeOk e := fun l hl => by
  rw [d.toT, toT_row hl] at h
  injection h with h
  have hlen := congrArg List.length h
  rw [List.length_map, d.len] at hlen
  refine ⟨by have := d.sz; omega, fun x hx => ?_⟩
  have hx' : K82.toT x ∈ dueL t := by
    rw [← h]
    exact List.mem_map_of_mem hx
  obtain ⟨_, _, _, _, h1, h2⟩ := d.ent _ hx'
  rw [toT_cnt] at h2
  exact ⟨h1.ofT.mono (by omega), by omega⟩
theorem Dr.lt60 (d : Dr m t) : Lt 60 t.py := d.lt.mono (by omega)
theorem eqvAll_refl {n : Nat} {l : List PyData} (h : ∀ e ∈ l, Lt n e) : PyData.eqvAll l l = true := by
  refine PySem.SeqAt.eqvAll_refl l ?_
  induction l with
  | nil => rfl
  | cons d l ih => rw [PyData.canLayAll0, (h d (by simp)).lay, ih fun e he => h e (by simp [he])]; rfl
theorem Dr.read (d : Dr m t) {e : PyData} (h : K82.toT e = K82.toT (.list (dueL t))) : readD m e = some t := by
  rw [d.toT] at h
  obtain ⟨l, e1, e2⟩ := toT_tup h
  have hlen := congrArg List.length e2
  rw [List.length_map, d.len] at hlen
  have hdec : decD 51 (dueL t) 0 [] = some (t.py, t.size) := by
    have := decD_put (code := dueL t) 51 t [] 0 (by have := d.sz; omega) d.bnd ⟨[], by simp [dueL]⟩
    simpa using this
  unfold readD
  rw [e1]
  simp only []
  unfold candD
  rw [e2, hdec]
  simp only []
  rw [if_pos hlen.symm, kTm_inv 60 t t.py d.lt60 d.va (toT_py t)]
  unfold passD
  simp only []
  rw [e2, if_pos]
  rw [Bool.and_eq_true, decide_eq_true_eq]
  exact ⟨d.ty, eqvAll_refl (n := 4) fun e he => by obtain ⟨_, _, _, _, h, _⟩ := d.ent e he; exact h⟩
theorem Dr.base (d : Dr m t) {e : PyData} (h : K82.toT e = t.py) : baseD m e = some t := baseD_inv d.lt60 d.va d.ty h
end
/-! ### odd things -/
def oddC (m : Int) : List PyData := [.none, .int 5, .str "code", .list [], .tuple [], .dict [], .bool true, .list [.list []], .list [.none], .list [.tuple [.str "look", .int 0]], .list [.tuple [.str "constant", .int m]], .list [.tuple [.str "take", .str "x", .tuple [], .int 1], .tuple [.str "look", .int 0]], .list [.tuple [.str "call", .int 1, .int 2], .tuple [.str "constant", .int 0], .tuple [.str "constant", .int 0]]]
def oddT (m : Int) : List PyData := [.none, .int 5, .tuple [], .tuple [.str "name", .str "x"], .tuple [.str "fun", .str "x", .tuple [], .tuple [.str "name", .str "x"]], .tuple [.str "constant", .int m], .tuple [.str "call", .tuple [.str "nothing"], .tuple [.str "nothing"]], .tuple [.str "fix", .str "x", .tuple [], .tuple [.str "name", .str "y"]]]
def shared : PyData := .list (((List.range 40).map fun at' => .tuple [.str "call", .int (1 + at' : Nat), .int (1 + at' : Nat)]) ++ [.tuple [.str "constant", .int 0]])
theorem oddC_no : ∀ m ∈ ([1, 2, 3] : List Int), ((oddC m).all fun d => (readD m d).isNone) = true := by decide +kernel
theorem oddT_no : ∀ m ∈ ([1, 2, 3] : List Int), ((oddT m).all fun d => (baseD m d).isNone) = true := by decide +kernel
theorem shared_no : (readD 2 shared).isNone = true := by decide +kernel
/-- the example's term -/
def exT : Tm := .ap (.fn "x" .nil (.name "x")) (.con 1)
theorem exT_base : baseD 2 exT.py = some exT := baseD_inv (Lt.mkT (by simp) (mem3 (lt_str _ _) (Lt.mkT (by simp) (mem4 (lt_str _ _) (lt_str _ _) (k01.lt (.inl rfl)|>.mono (by omega)) (Lt.mkT (by simp) (mem2 (lt_str _ _) (lt_str _ _)) (by simp))) (by simp)) (Lt.mkT (by simp) (mem2 (lt_str _ _) (Lt.int _ _)) (by simp))) (by simp)) (by decide +kernel) (by decide +kernel) (toT_py _)
theorem exT_code : dueL exT = [.tuple [.str "call", .int 1, .int 3], .tuple [.str "take", .str "x", .tuple [], .int 2], .tuple [.str "look", .int 0], .tuple [.str "constant", .int 1]] := rfl
end K82

set_option Elab.async false
set_option linter.all false
set_option maxRecDepth 100000
set_option maxHeartbeats 4000000
/-! Rules of the law's own walk. -/
namespace K82
open PySem PySem.Spec PyProof.Rows L2 LamX
/-! ### code_of makes a new list -/
section
variable {P : Program} {w : World} {K : PySem.W.Frag} {mg : Str → Option Value} {base : Heap}
def spON (K : PySem.W.Frag) (n : Nat) : Sp := fun vs H Q _ => vs.length = 1 ∧ ∃ (v : V) (t : Tm) (G : Hp), vs = [v] ∧ Same G H ∧ Rp K G v t.py ∧ Lt n t.py ∧ bnd [] t = true ∧ t.size ≤ 90000 ∧ ∀ ca xs G' H', Ext G H G' H' → H ca = none → G' ca = none → H' ca = some (.lst xs) → RpAll K G' xs (dueL t) → Q (.ref ca) H'
theorem ok_own_codeN (T : Txt K mg) (n : Nat) (hn : n ≤ 60) : FnOk P w K mg base CX0 (n + 3) T.own_code.f T.own_code.fd ["term"] (spON K n) := by
  have g_put_code : FnOk P w K mg base CX0 (n + 2) _ _ _ _ := ok_put_code T n hn
  refine T.own_code.F.ok (k := n + 2) sc_own_code (fun vs H Q E z => z.1) (fun cdv Ar outer s H vs Q E hr z => ?_)
  obtain ⟨_, v, t, G, rfl, e, r, hg, hb, hsz, k⟩ := z
  refine ⟨_, (pss_cons (ps_set (i := 1) sc_own_code.nd rfl (Or.inl rfl) (pe_lst pa_nil))
      (pss_cons (ps_expr (pe_call g_put_code (hr.mono (by omega)) rfl T.put_code.m T.put_code.F.kp T.put_code.b .nil pass0 (pa_cons (pv 0) (pa_cons (pe_lst pa_nil) (pa_cons (pv 1) pa_nil)))))
      (pss_one (ps_ret (pv 1))))), ?_⟩
  refine ds_seq ?_
  refine ds_new fun ca hca => ?_
  have gca : G ca = none := Same.none e hca
  have e1 := (Ext.refl e).allocM hca (.lst [])
  have j1 : (DC K ca).J [] G (upd H ca (.lst [])) := ⟨gca, [], upd_same, .nil⟩
  refine ds_seq ?_
  refine ms_drop (D := DC K ca) (R := fun _ (m : List PyData) => put [] 0 t = m) e1.gh j1 (mv_call (mva_cons (mv_dv (dv_var rfl r) (mva_cons (mv_dv (d := .list []) (dv_lst dva_nil (by simp)) (mva_raw rfl (mva_nil ⟨rfl, t, [], rfl, hg, by simp; omega, hb, by simpa using hsz, rfl⟩))))))) fun d m G2 H2 e2 j2 hm => ?_
  subst hm
  obtain ⟨g2, vs, hp, hr2⟩ := j2
  refine ⟨.ref ca, rfl, k ca vs G2 H2 ⟨fun b u q => e2.hh b u (fun z => ?_) (e1.hh b u q), e2.gg, e2.gh, fun b q => ?_⟩ hca g2 hp hr2⟩
  · cases (show b = ca from z)
    rw [hca] at q
    cases q
  · rcases e2.new b q with z | z
    · exact .inl z
    · exact .inr (e1.fresh z)
def spCN (K : PySem.W.Frag) : Sp := fun vs H Q _ => vs.length = 2 ∧ ∃ (v1 v2 : V) (m : Int) (d : PyData) (t : Tm) (G : Hp), vs = [v1, v2] ∧ Same G H ∧ Rp K G v1 (.int m) ∧ Rp K G v2 d ∧ isMa (.int m) = true ∧ Lt 60 d ∧ cnt d < 90000 ∧ baseD m d = some t ∧
  ∀ ca xs G' H', Ext G H G' H' → H ca = none → G' ca = none → H' ca = some (.lst xs) → RpAll K G' xs (dueL t) → Q (.ref ca) H'
theorem ok_code_ofN (T : Txt K mg) (Y : Txe K mg) : FnOk P w K mg base (L2.CX P w) 186 T.code_of.f T.code_of.fd ["many", "term"] (spCN K) := by
  have g_check_many : FnOk P w K mg base (L2.CX P w) 3 _ _ _ _ := ok_check_many T Y
  have g_base_term : FnOk P w K mg base (L2.CX P w) 185 _ _ _ _ := ok_base_term T Y
  have g_own_code : FnOk P w K mg base CX0 63 _ _ _ _ := ok_own_codeN T 60 (by omega)
  refine T.code_of.F.okX (k := 185) sc_code_of (fun vs H Q E z => z.1) (fun cdv Ar outer s H vs Q E hr z => ?_)
  obtain ⟨_, v1, v2, m, d, t, G, rfl, e, r1, r2, hm, hg, hc, hb, k⟩ := z
  have tk := takes_of (X := cxOf (L2.CX P w) P w K mg base ["many", "term"] "code_of" (defScope s_code_of) T.code_of.f cdv Ar outer s H E) rfl rfl rfl rfl
  refine ⟨_, (pss_cons (ps_expr (pe_callS g_check_many (hr.mono (by omega)) rfl T.check_many.m T.check_many.F.kp T.check_many.b (fun σ => passAt tk σ) (pa_cons (pv 0) pa_nil)))
      (pss_one (ps_ret (pe_call g_own_code (hr.mono (by omega)) rfl T.own_code.m T.own_code.F.kp T.own_code.b .nil pass0 (pa_cons (pe_callS g_base_term (hr.mono (by omega)) rfl T.base_term.m T.base_term.F.kp T.base_term.b (fun σ => passAt tk σ) (pa_cons (pv 0) (pa_cons (pv 1) pa_nil))) pa_nil))))), ?_⟩
  refine ds_seq ?_
  show tCallS _ _ _ _ _ _
  refine dx_call (ds := [.int m]) (vs := [v1]) e (fun Q' q => ⟨v1, rfl, q⟩) (.cons r1 .nil) rfl ⟨.int m, rfl, rfl⟩ (fun d' hd' v G1 H1 e1 q1 => ?_) fun C f i hex v dd G1 H1 e1 hv hdd gdd => (by rw [if_pos hm] at hex; cases hex)
  show tCallS (spBT K Y.eT.C) (WE fun cls d _ H => E cls d H) (tCons (tVar 0) (tCons (tVar 1) tNil)) (start ["many", "term"] [v1, v2]) H1 (fun x H2 => spON K 60 ([x] ++ []) H2 Q E0)
  refine dx_call (ds := [.int m, d]) (vs := [v1, v2]) (o := .ok t.py) e1.gh (fun Q' q => ⟨v1, rfl, v2, rfl, q⟩) (.cons (e1.rp r1) (.cons (e1.rp r2) .nil)) rfl ⟨m, d, rfl, hg, hc, by rw [hb]⟩ (fun d3 hd3 v3 G2 H2 e2 q2 => ?_) fun C f i hex => (by cases hex)
  cases hd3
  obtain ⟨_, b1, b2, b3⟩ := baseD_ok hg hc hb
  exact ⟨rfl, v3, t, G2, rfl, e2.gh, q2, b1, closed_bnd b3, by omega, fun ca xs G3 H3 e3 h1 h2 h3 h4 => k ca xs G3 H3 ((e1.trans e2).trans e3) ((e1.trans e2).fresh h1) h2 h3 h4⟩
end
section
variable {K : PySem.W.Frag} {σ : L2.St} {G H : Hp} {te ta tb : TE} {tr : TA} {d : PyData} {ds : List PyData} {i j : Nat} {D : Ends}
/-- a, b = e, code_of(..) -/
theorem ds_parN {E : L2.St → XK} {m : Int} {d2 : PyData} {t : Tm} (e : Same G H) (ha : Dv K ta σ G H d) (hb : DvA K tr σ G H [.int m, d2]) (hm : isMa (.int m) = true) (hg : Lt 60 d2) (hc : cnt d2 < 90000) (ht : baseD m d2 = some t)
    (k : ∀ v ca xs G1 H1, Ext G H G1 H1 → Rp K G1 v d → H ca = none → G1 ca = none → H1 ca = some (.lst xs) → RpAll K G1 xs (dueL t) → D.nx ((σ.set i (some v)).set j (some (.ref ca))) H1) : tPar i j (tCons ta (tCons (tCallS (spCN K) E tr) tNil)) D σ H :=
  ha G H (Up.refl e) _ fun v G1 H1 e1 r1 => hb G1 H1 e1.up _ fun vs G2 H2 e2 r2 => by
    cases r2 with
    | @cons v1 _ _ _ q1 r2 =>
    cases r2 with
    | @cons v2 _ _ _ q2 r2 =>
    cases r2
    exact ⟨rfl, v1, v2, m, d2, t, G2, rfl, e2.gh, q1, q2, hm, hg, hc, ht, fun ca xs G3 H3 e3 h1 h2 h3 h4 => ⟨v, .ref ca, rfl, k v ca xs G3 H3 ((e1.trans e2).trans e3) (e3.rp (e2.rp r1)) ((e1.trans e2).fresh h1) h2 h3 h4⟩⟩
/-- a test made in more that stands still -/
theorem ds_ifX {G' : Hp} {tt : TT} {tu tw : L2.TS} {b : Bool} (e : Same G H) (hg : Same G G') (hh : Same G' H) (h : DvT tt σ G' H b) (h1 : b = true → ∀ H1, Ext G H G H1 → tu D σ H1) (h2 : b = false → ∀ H1, Ext G H G H1 → tw D σ H1) : tIfS tt tu tw D σ H := h G' H (Up.refl hh) _ fun G1 H1 e1 => by
  have e2 : Ext G H G H1 := ⟨e1.hh, Same.refl _, (hg.trans e1.gg).trans e1.gh, fun _ h => .inl h⟩
  cases b with
  | true => exact h1 rfl H1 e2
  | false => exact h2 rfl H1 e2
/-! ### calls that may raise -/
/-- what comes of a call, told in data -/
def Xv (K : PySem.W.Frag) (c : XK → TE) (σ : L2.St) (G : Hp) (ds : List PyData) (o : Out) : Prop := ∀ G1 H1, Up G G1 H1 → ∀ (Q : VK) (E : XK), (∀ d, o = .ok d → ∀ v G2 H2, Ext G1 H1 G2 H2 → Rp K G2 v d → Q v H2) →
  (∀ C f i, o = .ex C f i → ∀ v dd G2 H2, Ext G1 H1 G2 H2 → (∀ a, ds[i]? = some a → Rp K G2 v a) → H2 dd = some (.xd [(f, v)]) → E (.ref C) (some dd) H2) → c E σ H1 Q
theorem xv_call {n : Nat} {R : List PyData → Out → Prop} {o : Out} (h : DvA K tr σ G G ds) (hn : ds.length = n) (hR : R ds o) : Xv K (fun E => tCallS (spX K n R) (WE fun cls d _ H => E cls d H) tr) σ G ds o := fun G1 H1 e Q E k1 k2 => h G1 H1 e _ fun vs G2 H2 e2 r => by
  refine ⟨by rw [r.length, hn], G2, ds, o, e2.gh, r, hR, ?_⟩
  cases o with
  | ok d => exact fun v G3 H3 e3 q => k1 d rfl v G3 H3 (e2.trans e3) q
  | ex C f i => exact fun v dd G3 H3 e3 hv hx gd => k2 C f i rfl v dd G3 H3 (e2.trans e3) (fun a ha => by
      obtain ⟨u, h1, h2⟩ := r.get ha
      rw [hv] at h1
      cases h1
      exact e3.rp h2) hx
theorem xv_kw {R : List PyData → Out → Prop} {o : Out} {a b : PyData} (h : DvA K tr σ G G [b, a]) (hR : R [a, b] o) : Xv K (fun E => tCallN (spX K 2 R) (WE fun cls d _ H => E cls d H) tr) σ G [a, b] o := fun G1 H1 e Q E k1 k2 => h G1 H1 e _ fun vs G2 H2 e2 r => by
  cases r with
  | @cons v1 _ _ _ q1 r =>
  cases r with
  | @cons v2 _ _ _ q2 r =>
  cases r
  have r : RpAll K G2 [v2, v1] [a, b] := .cons q2 (.cons q1 .nil)
  refine ⟨rfl, G2, [a, b], o, e2.gh, r, hR, ?_⟩
  cases o with
  | ok d => exact fun v G3 H3 e3 q => k1 d rfl v G3 H3 (e2.trans e3) q
  | ex C f i => exact fun v dd G3 H3 e3 hv hx gd => k2 C f i rfl v dd G3 H3 (e2.trans e3) (fun a' ha => by
      obtain ⟨u, h1, h2⟩ := r.get ha
      have hv : [v2, v1][i]? = some v := hv
      rw [hv] at h1
      cases h1
      exact e3.rp h2) hx
theorem Xv.dv {c : XK → TE} (h : Xv K c σ G ds (.ok d)) (E : XK) : Dv K (c E) σ G G d := fun G1 H1 e Q k => h G1 H1 e Q E (fun d' hd v G2 H2 e2 q => by cases hd; exact k v G2 H2 e2 q) fun C f i h => by cases h
/-- a call that does not raise here -/
theorem dv_callX {n : Nat} {R : List PyData → Out → Prop} (h : DvA K tr σ G G ds) (hn : ds.length = n) (hR : R ds (.ok d)) : Dv K (tCallS (spX K n R) (WE fun _ _ _ _ => False) tr) σ G G d := (xv_call h hn hR).dv fun _ _ _ => False
theorem dv_callXN {R : List PyData → Out → Prop} {a b : PyData} (h : DvA K tr σ G G [b, a]) (hR : R [a, b] (.ok d)) : Dv K (tCallN (spX K 2 R) (WE fun _ _ _ _ => False) tr) σ G G d := (xv_kw h hR).dv fun _ _ _ => False
/-- .. of what is made on the way -/
theorem mv_callX {D : Wd} {m : D.M} {n : Nat} {P : List PyData → Out → Prop} {R : PyData → D.M → Prop} (h : MvA K D tr σ G m fun as m' => ∃ ds d, as = ds.map .pd ∧ ds.length = n ∧ P ds (.ok d) ∧ R d m') : Mv K D (tCallS (spX K n P) (WE fun _ _ _ _ => False) tr) σ G m R := fun G1 H1 e j Q q =>
  h G1 H1 e j _ fun vs as m' G2 H2 e2 j2 r z => by
    obtain ⟨ds, d, rfl, hn, hP, z⟩ := z
    have r := r.data
    exact ⟨by rw [r.length, hn], G2, ds, .ok d, e2.gh, r, hP, fun v G3 H3 e3 q3 => q v d m' G3 H3 (e2.trans e3.w) (Wd.ext j2 e3) q3 z⟩
end
/-! ### states in which lambdas are made -/
structure LSt (TT : List (Addr × Str)) (S : Hp → Hp → Prop) : Prop where
  same : ∀ {G H}, S G H → Same G H
  ext : ∀ {G H G1 H1}, S G H → Ext G H G1 H1 → S G1 H1
  lam : ∀ {G H H1}, S G H → ExtP TT H H1 → Tabs TT H1 → S G H1
  tabs : ∀ {G H}, S G H → Tabs TT H
theorem LSt.ls {p : Addr × Addr} {TT : List (Addr × Str)} {b : Nat} : LSt TT (LS p TT b) := ⟨fun l => l.e, fun l e => l.ext e, fun l e t => l.lam e t, fun l => l.t⟩
theorem LSt.lb {K : PySem.W.Frag} {P : Program} {w : World} {m : Nat} {ba : Addr} {p : Addr × Addr} {TT : List (Addr × Str)} {b : Nat} : LSt TT (LB K P w p TT m ba b) := ⟨fun l => l.e, fun l e => l.ext e, fun l e t => l.lam e t, fun l => l.t⟩
def Lv (K : PySem.W.Frag) (S : Hp → Hp → Prop) (te : TE) (σ : L2.St) (G : Hp) (d : PyData) : Prop := ∀ G1 H1, Same G G1 → S G1 H1 → ∀ Q : VK, (∀ v G2 H2, Same G1 G2 → S G2 H2 → Rp K G2 v d → Q v H2) → te σ H1 Q
def LvA (K : PySem.W.Frag) (S : Hp → Hp → Prop) (ta : TA) (σ : L2.St) (G : Hp) (ds : List PyData) : Prop := ∀ G1 H1, Same G G1 → S G1 H1 → ∀ Q : List V → Hp → Prop, (∀ vs G2 H2, Same G1 G2 → S G2 H2 → RpAll K G2 vs ds → Q vs H2) → ta σ H1 Q
def LvT (S : Hp → Hp → Prop) (tt : TT) (σ : L2.St) (G : Hp) (b : Bool) : Prop := ∀ G1 H1, Same G G1 → S G1 H1 → ∀ Q : Bool → Hp → Prop, (∀ G2 H2, Same G1 G2 → S G2 H2 → Q b H2) → tt σ H1 Q
section
variable {K : PySem.W.Frag} {mg : Str → Option Value} {S : Hp → Hp → Prop} {L : List (Addr × Str)} {σ : L2.St} {G H : Hp} {te : TE} {ta : TA} {tt : TT} {d : PyData} {ds : List PyData} {b : Bool} {i : Nat} {D : Ends} {tu tw : L2.TS}
theorem lv_dv (hS : LSt L S) (h : Dv K te σ G G d) : Lv K S te σ G d := fun G1 H1 e s Q k => h G1 H1 ⟨e, hS.same s⟩ Q fun v G2 H2 e2 r => k v G2 H2 e2.gg (hS.ext s e2) r
theorem lva_nil : LvA K S tNil σ G [] := fun G1 H1 e s Q k => k [] G1 H1 (Same.refl _) s .nil
theorem lva_cons (h : Lv K S te σ G d) (hr : LvA K S ta σ G ds) : LvA K S (tCons te ta) σ G (d :: ds) := fun G1 H1 e s Q k => h G1 H1 e s _ fun v G2 H2 e2 s2 r => hr G2 H2 (e.trans e2) s2 _ fun vs G3 H3 e3 s3 rs => k _ G3 H3 (e2.trans e3) s3 (.cons (Rp.mono e3 _ _ r) rs)
theorem lv_lst (hS : LSt L S) (h : LvA K S ta σ G ds) (hz : ds.length ≤ 100000) : Lv K S (tLst ta) σ G (.list ds) := fun G1 H1 e s Q k => h G1 H1 e s _ fun vs G2 H2 e2 s2 r =>
  ⟨by rw [r.length]; exact sz hz, fun p hp => k _ _ _ (e2.trans (same_upd (Same.none (hS.same s2) hp) _)) (hS.ext s2 ((Ext.refl (hS.same s2)).alloc hp _)) (.lst upd_same (RpAll.mono (same_upd (Same.none (hS.same s2) hp) _) _ _ r))⟩
theorem lv_call {n : Nat} {R : List PyData → PyData → Prop} {E : XK} (hS : LSt L S) (h : LvA K S ta σ G ds) (hn : ds.length = n) (hR : R ds d) : Lv K S (tCall (spD K n R) [] E ta) σ G d := fun G1 H1 e s Q k => h G1 H1 e s _ fun vs G2 H2 e2 s2 r => by
  show spD K n R (vs ++ []) H2 Q E
  rw [List.append_nil]
  exact ⟨by rw [r.length, hn], G2, ds, d, hS.same s2, r, hR, fun v G3 H3 e3 q => k v G3 H3 (e2.trans e3.gg) (hS.ext s2 e3) q⟩
theorem lvt_dv (hS : LSt L S) (h : DvT tt σ G G b) : LvT S tt σ G b := fun G1 H1 e s Q k => h G1 H1 ⟨e, hS.same s⟩ Q fun G2 H2 e2 => k G2 H2 e2.gg (hS.ext s e2)
theorem lvt_B (h : Lv K S te σ G (.bool b)) : LvT S (tB te) σ G b := fun G1 H1 e s Q k => h G1 H1 e s _ fun v G2 H2 e2 s2 r => by
  cases r
  exact ⟨b, rfl, k G2 H2 e2 s2⟩
theorem lvt_not (h : LvT S tt σ G b) : LvT S (tNot tt) σ G (!b) := fun G1 H1 e s Q k => h G1 H1 e s _ fun G2 H2 e2 s2 => k G2 H2 e2 s2
theorem ls_set (s : S G H) (h : Lv K S te σ G d) (k : ∀ v G1 H1, Same G G1 → S G1 H1 → Rp K G1 v d → D.nx (σ.set i (some v)) H1) : tAsg te (gName i) D σ H := h G H (Same.refl _) s _ k
theorem ls_if (s : S G H) (h : LvT S tt σ G b) (h1 : b = true → ∀ G1 H1, Same G G1 → S G1 H1 → tu D σ H1) (h2 : b = false → ∀ G1 H1, Same G G1 → S G1 H1 → tw D σ H1) : tIfS tt tu tw D σ H := h G H (Same.refl _) s _ fun G1 H1 e1 s1 => by
  cases b with
  | true => exact h1 rfl G1 H1 e1 s1
  | false => exact h2 rfl G1 H1 e1 s1
/-- what law: met tells -/
def Told (Y : Txe K mg) (ds : List PyData) (d : PyData) : Out → Prop
  | .ok d' => d = .tuple [.str "told", d']
  | .ex C f i => ∃ word a, MetW Y C f word ∧ ds[i]? = some a ∧ d = .tuple [.str word, a]
theorem lv_met (Y : Txe K mg) {c : XK → TE} {o : Out} (hS : LSt L S) (h : Xv K c σ G ds o) (hm : Told Y ds d o) : Lv K S (tLamP L (TTmet Y) c) σ G d := fun G1 H1 e s Q k => by
  refine ⟨hS.tabs s, fun H2 eP t2 => ?_⟩
  have s2 : S G1 H2 := hS.lam s eP t2
  have fin : ∀ (word : Str) (v : V) (a : PyData) (G3 H3 : Hp), Ext G1 H2 G3 H3 → Rp K G3 v a → ∀ p, H3 p = none → d = .tuple [.str word, a] → Q (.ref p) (upd H3 p (.tup [.str word, v])) := fun word v a G3 H3 e3 r p hp hd => by
    have e4 := e3.alloc hp (.tup [.str word, v])
    subst hd
    exact k (.ref p) _ _ e4.gg (hS.ext s2 e4) (.tup (.inl (.inl upd_same)) (.cons (.str _) (.cons (Rp.mono (same_upd (Same.none e3.gh hp) _) _ _ r) .nil)))
  show c (metE Y Q) σ H2 _
  refine h G1 H2 ⟨e, hS.same s2⟩ _ _ (fun d' ho v G3 H3 e3 q => ⟨by show 2 ≤ sizeLine; decide, fun p hp => ?_⟩) fun C f i ho v dd G3 H3 e3 hv hx => ?_
  · subst ho
    exact fin "told" v d' G3 H3 e3 q p hp hm
  · subst ho
    obtain ⟨word, a, hw, ha, hd⟩ := hm
    exact ⟨dd, v, f, word, C, rfl, rfl, hx, hw, fun p hp => fin word v a G3 H3 e3 (hv a ha) p hp hd⟩
end
end K82

set_option Elab.async false
set_option linter.all false
set_option maxRecDepth 100000
set_option maxHeartbeats 4000000
/-! The law's two lambdas of one parameter. -/
namespace K82
open PySem PySem.Spec PyProof.Rows L2 LamX
def noE : Expr := .Name "x" ⟨0, 0, 0, 0⟩
def lastE : Expr → Expr
  | .Call _ es _ _ => es.getLastD noE
  | .UnaryOp _ e _ => e
  | .BoolOp _ es _ => es.getLastD noE
  | _ => noE
def stE : Stmt → Expr
  | .If t _ _ _ => t
  | .Return (some e) _ => e
  | _ => noE
def lV1 : Expr := lastE (lastE (lastE (stE ((defBody s_law).getD 6 (.Pass ⟨0, 0, 0, 0⟩)))))
def lV2 : Expr := lastE (stE ((defBody s_law).getD 7 (.Pass ⟨0, 0, 0, 0⟩)))
def lamPm : Expr → Arguments
  | .Lambda p _ _ _ => p
  | _ => ⟨[], [], none, [], [], none, []⟩
def lamBd : Expr → Expr
  | .Lambda _ b _ _ => b
  | _ => noE
def lamSc : Expr → Scope
  | .Lambda _ _ s _ => s
  | _ => defScope s_law
abbrev qLam : Str := "law.<locals>.<lambda>"
section
variable {P : Program} {w : World} {K : PySem.W.Frag} {mg : Str → Option Value} {base : Heap}
def L1 (T : Txt K mg) (Y : Txe K mg) : Lam1 P w K mg base 187 where
  q := qLam
  params := lamPm lV1
  body := lamBd lV1
  scope := lamSc lV1
  x := "odd"
  N := ["odd"]
  S := ⟨rfl, rfl, rfl, by decide +kernel, rfl, by decide +kernel, by decide +kernel⟩
  bind := fun _ _ _ _ => rfl
  tb := fun E v H Q => tCallS (spNC K Y.eM.C Y.eC.C Tm.py) (WE fun cls d _ H => E cls d H) (tCons (tC (.int 2)) (tCons (tVar 0) tNil)) (start ["odd"] [v]) H Q
  run := fun A outer s H E f cd v Q hr h => by
    have g_term_of : FnOk P w K mg base (L2.CX P w) 187 _ _ _ _ := ok_term_of T Y
    have tk := takes_of (X := cxOf (L2.CX P w) P w K mg base ["odd"] qLam (lamSc lV1) f cd A outer s H E) rfl rfl rfl rfl
    exact ⟨_, pe_callS g_term_of hr rfl T.term_of.m T.term_of.F.kp T.term_of.b (fun σ => passAt tk σ) (pa_cons pe_int (pa_cons (pv 0) pa_nil)), h⟩
def L2' (T : Txt K mg) (Y : Txe K mg) : Lam1 P w K mg base 187 where
  q := qLam
  params := lamPm lV2
  body := lamBd lV2
  scope := lamSc lV2
  x := "odd"
  N := ["odd"]
  S := ⟨rfl, rfl, rfl, by decide +kernel, rfl, by decide +kernel, by decide +kernel⟩
  bind := fun _ _ _ _ => rfl
  tb := fun E v H Q => tCallS (spCO K Y.eM.C Y.eT.C) (WE fun cls d _ H => E cls d H) (tCons (tC (.int 2)) (tCons (tVar 0) tNil)) (start ["odd"] [v]) H Q
  run := fun A outer s H E f cd v Q hr h => by
    have g_code_of : FnOk P w K mg base (L2.CX P w) 186 _ _ _ _ := ok_code_of T Y
    have tk := takes_of (X := cxOf (L2.CX P w) P w K mg base ["odd"] qLam (lamSc lV2) f cd A outer s H E) rfl rfl rfl rfl
    exact ⟨_, pe_callS g_code_of (hr.mono (by omega)) rfl T.code_of.m T.code_of.F.kp T.code_of.b (fun σ => passAt tk σ) (pa_cons pe_int (pa_cons (pv 0) pa_nil)), h⟩
/-- what is_very asks of them -/
theorem list_odd {H1 : Hp} {o : Addr} (ho : H1 o = some (.lst [.str "odd"])) : ∃ G : Hp, Same G H1 ∧ Rp K G (.ref o) (.list [.str "odd"]) := by
  let G : Hp := fun b => if b = o then H1 b else none
  have g1 : G o = some (.lst [.str "odd"]) := (if_pos rfl).trans ho
  refine ⟨G, fun b u q => ?_, .lst g1 (.cons (.str _) .nil)⟩
  by_cases h : b = o
  · have z : G b = H1 b := if_pos h
    rw [← z]
    exact q
  · have z : G b = none := if_neg h
    rw [z] at q
    cases q
theorem L1_asks (T : Txt K mg) (Y : Txe K mg) (H1 : Hp) (o : Addr) (Ec : XK) (Q1 : VK) (ho : H1 o = some (.lst [.str "odd"])) (k : ∀ dd H2, Same H1 H2 → H2 dd = some (.xd [("code", .ref o)]) → Ec (.ref Y.eC.C) (some dd) H2) : (L1 (P := P) (w := w) (base := base) T Y).tb Ec (.ref o) H1 Q1 := by
  obtain ⟨G, e, r⟩ := list_odd (K := K) ho
  refine ⟨.ref o, rfl, rfl, G, [.int 2, .list [.str "odd"]], .ex Y.eC.C "code" 1, e, .cons (.int _) (.cons r .nil), ⟨_, _, rfl, ?_, ?_⟩, fun v dd G2 H2 e2 hv hx _ => ?_⟩
  · intro l hl
    cases hl
    refine ⟨by simp, fun e he => ?_⟩
    cases List.mem_singleton.mp he
    exact ⟨lt_str 5 _, by decide⟩
  · unfold needO
    rw [if_pos (by decide), Option.isNone_iff_eq_none.mp (show (readD (manyD (.int 2)) (.list [.str "odd"])).isNone = true by decide +kernel)]
  · cases hv
    exact k dd H2 (fun b u q => e2.hh b u q) hx
theorem L2_asks (T : Txt K mg) (Y : Txe K mg) (H1 : Hp) (o : Addr) (Ec : XK) (Q1 : VK) (ho : H1 o = some (.lst [.str "odd"])) (k : ∀ dd H2, Same H1 H2 → H2 dd = some (.xd [("term", .ref o)]) → Ec (.ref Y.eT.C) (some dd) H2) : (L2' (P := P) (w := w) (base := base) T Y).tb Ec (.ref o) H1 Q1 := by
  obtain ⟨G, e, r⟩ := list_odd (K := K) ho
  refine ⟨.ref o, rfl, rfl, G, [.int 2, .list [.str "odd"]], .ex Y.eT.C "term" 1, e, .cons (.int _) (.cons r .nil), ⟨_, _, rfl, ?_, by decide, ?_⟩, fun v dd G2 H2 e2 hv hx _ => ?_⟩
  · have h : Lt 60 (.tuple [.str "odd"]) := Lt.mkT (by simp) (mem1 (lt_str 58 _)) (by simp)
    exact Lt.ofT (show Lt 60 (toT (.list [.str "odd"])) from h)
  · rw [if_pos (by decide), Option.isNone_iff_eq_none.mp (show (baseD (manyD (.int 2)) (.list [.str "odd"])).isNone = true by decide +kernel)]
  · cases hv
    exact k dd H2 (fun b u q => e2.hh b u q) hx
end
end K82

set_option Elab.async false
set_option linter.all false
set_option maxRecDepth 100000
set_option maxHeartbeats 4000000
/-! Small things of the law's walk. -/
namespace K82
open PySem PySem.Spec PyProof.Rows L2 LamX
theorem len16 {σ : L2.St} (h : σ.length = 16) : ∃ s0 s1 s2 s3 s4 s5 s6 s7 s8 s9 s10 s11 s12 s13 s14 s15, σ = [s0, s1, s2, s3, s4, s5, s6, s7, s8, s9, s10, s11, s12, s13, s14, s15] := by
  match σ, h with
  | [s0, s1, s2, s3, s4, s5, s6, s7, s8, s9, s10, s11, s12, s13, s14, s15], _ => exact ⟨_, _, _, _, _, _, _, _, _, _, _, _, _, _, _, _, rfl⟩
mutual
theorem cnt_tm {env : List (Str × Ty)} : ∀ {t : Tm}, OkT env t → cnt t.py ≤ 6 * t.size
  | .name x, h => by simp [Tm.py, cnt, cnts, Tm.size]
  | .con c, h => by simp [Tm.py, cnt, cnts, Tm.size]
  | .no, h => by simp [Tm.py, cnt, cnts, Tm.size]
  | .fn x s t, h => by
    cases h with
    | mk k h1 h2 ha hb hp =>
    have h3 := cnt_tm (hp t (by simp [Tm.parts]))
    have h4 := (ha s rfl).cnt
    simp only [Tm.py, cnt, cnts, Tm.size]
    omega
  | .fx x s t, h => by
    cases h with
    | mk k h1 h2 ha hb hp =>
    have h3 := cnt_tm (hp t (by simp [Tm.parts]))
    have h4 := (ha s rfl).cnt
    simp only [Tm.py, cnt, cnts, Tm.size]
    omega
  | .ap t u, h => by
    cases h with
    | mk k h1 h2 ha hb hp =>
    have h3 := cnt_tm (hp t (by simp [Tm.parts]))
    have h4 := cnt_tm (hp u (by simp [Tm.parts]))
    simp only [Tm.py, cnt, cnts, Tm.size]
    omega
  | .ei t u, h => by
    cases h with
    | mk k h1 h2 ha hb hp =>
    have h3 := cnt_tm (hp t (by simp [Tm.parts]))
    have h4 := cnt_tm (hp u (by simp [Tm.parts]))
    simp only [Tm.py, cnt, cnts, Tm.size]
    omega
  | .cs t l, h => by
    cases h with
    | mk k h1 h2 ha hb hp =>
    have h3 := cnt_tm (hp t (by simp [Tm.parts]))
    have h4 := cnt_tms (l := l) (env := env) fun u hu => hp u (by simp [Tm.parts, hu])
    simp only [Tm.py, cnt, cnts, Tm.size]
    omega
theorem cnt_tms {env : List (Str × Ty)} : ∀ {l : List Tm}, (∀ u ∈ l, OkT env u) → cnts (Tm.pys l) ≤ 6 * Tm.sizes l
  | [], _ => by simp [Tm.pys, cnts, Tm.sizes]
  | t :: l, h => by
    have h1 := cnt_tm (h t (by simp))
    have h2 := cnt_tms (l := l) fun u hu => h u (by simp [hu])
    simp only [Tm.pys, cnts, Tm.sizes]
    omega
end
section
variable {m : Int} {t : Tm} {e : PyData}
theorem Dr.cnt (d : Dr m t) : cnt t.py ≤ 240 := by
  have h1 := cnt_tm d.ok
  have h2 := d.sz
  omega
/-- a loose term -/
theorem Dr.ltL (d : Dr m t) (h : K82.toT e = t.py) : Lt 40 e := Lt.ofT (by rw [h]; exact d.lt)
theorem Dr.cntL (d : Dr m t) (h : K82.toT e = t.py) : K82.cnt e ≤ 240 := by
  rw [← toT_cnt, h]
  exact d.cnt
/-- a loose code -/
theorem Dr.ltC (d : Dr m t) (h : K82.toT e = K82.toT (.list (dueL t))) : Lt 5 e := Lt.ofT (by rw [h]; exact d.dueLt.toT)
theorem isMa_nat {m : Nat} (h1 : 1 ≤ m) (h3 : m ≤ 3) : isMa (.int (m : Int)) = true := by
  simp [isMa]
  omega
theorem bent_ok {l' : List PyData} (hl : l'.length ≤ 50) (h : ∀ e ∈ l', Odd e) : CodeOk (.list l') := fun l hl' => by
  cases hl'
  exact ⟨hl, h⟩
theorem bent_sb {l' : List PyData} (hl : l'.length ≤ 50) (h : ∀ e ∈ l', Odd e) : SB 7 (.list l') := ⟨by omega, fun e he => (h e he).1.sb⟩
theorem bent_lt {l' : List PyData} (hl : l'.length ≤ 50) (h : ∀ e ∈ l', Odd e) : Lt 7 (.list l') := by
  by_cases h0 : l' = []
  · subst h0
    exact ⟨by simp [PyData.depth, PyData.depthAll], rfl, rfl⟩
  · have h1 : Lt 7 (.tuple (l'.map K82.toT)) := Lt.mkT (by simp; omega) (fun e he => by
      obtain ⟨x, hx, rfl⟩ := List.mem_map.mp he
      exact (h x hx).1.toT) (by simpa using h0)
    rw [← toT_row (d := .list l') rfl] at h1
    exact h1.ofT
end
theorem oddC_sb {m : Int} : ∀ d ∈ oddC m, SB 4 d := by
  simp only [oddC, List.mem_cons, List.not_mem_nil, or_false]
  rintro d (rfl | rfl | rfl | rfl | rfl | rfl | rfl | rfl | rfl | rfl | rfl | rfl | rfl) <;> simp [SB]
theorem oddC_ok {m : Int} : ∀ d ∈ oddC m, CodeOk d := by
  have i1 : ∀ i : Int, Lt 5 (.int i) := fun i => Lt.int 4 i
  have o1 : ∀ {ds : List PyData}, ds.length ≤ 4 → ds ≠ [] → (∀ d ∈ ds, Lt 5 d ∧ K82.cnt d ≤ 2) → Lt 6 (.tuple ds) ∧ cnt (.tuple ds) ≤ 100 := fun {ds} hl h0 h => by
    refine ⟨Lt.mkT (by omega) (fun d hd => (h d hd).1) h0, ?_⟩
    have := cnts_le (l := ds) (B := 2) fun e he => (h e he).2
    rw [cnt]
    omega
  have nt : Lt 5 (.tuple []) := ⟨by simp [PyData.depth, PyData.depthAll], rfl, rfl⟩
  have nl : Lt 6 (.list []) := ⟨by simp [PyData.depth, PyData.depthAll], rfl, rfl⟩
  have nn : Lt 6 .none := ⟨by simp [PyData.depth], rfl, rfl⟩
  simp only [oddC, List.mem_cons, List.not_mem_nil, or_false]
  rintro d (rfl | rfl | rfl | rfl | rfl | rfl | rfl | rfl | rfl | rfl | rfl | rfl | rfl) l hl <;> cases hl
  · exact ⟨by simp, by simp⟩
  · exact ⟨by simp, by simp⟩
  · exact ⟨by simp, mem1 ⟨nl, by decide⟩⟩
  · exact ⟨by simp, mem1 ⟨nn, by decide⟩⟩
  · exact ⟨by simp, mem1 (o1 (by simp) (by simp) (mem2 ⟨lt_str 4 _, by simp [cnt]⟩ ⟨i1 _, by simp [cnt]⟩))⟩
  · exact ⟨by simp, mem1 (o1 (by simp) (by simp) (mem2 ⟨lt_str 4 _, by simp [cnt]⟩ ⟨i1 _, by simp [cnt]⟩))⟩
  · exact ⟨by simp, mem2 (o1 (by simp) (by simp) (mem4 ⟨lt_str 4 _, by simp [cnt]⟩ ⟨lt_str 4 _, by simp [cnt]⟩ ⟨nt, by simp [cnt, cnts]⟩ ⟨i1 _, by simp [cnt]⟩)) (o1 (by simp) (by simp) (mem2 ⟨lt_str 4 _, by simp [cnt]⟩ ⟨i1 _, by simp [cnt]⟩))⟩
  · exact ⟨by simp, mem3 (o1 (by simp) (by simp) (mem3 ⟨lt_str 4 _, by simp [cnt]⟩ ⟨i1 _, by simp [cnt]⟩ ⟨i1 _, by simp [cnt]⟩)) (o1 (by simp) (by simp) (mem2 ⟨lt_str 4 _, by simp [cnt]⟩ ⟨i1 _, by simp [cnt]⟩)) (o1 (by simp) (by simp) (mem2 ⟨lt_str 4 _, by simp [cnt]⟩ ⟨i1 _, by simp [cnt]⟩))⟩
theorem oddT_lt {m : Int} : ∀ d ∈ oddT m, Lt 10 d ∧ cnt d ≤ 100 := by
  have nt : ∀ n, Lt (n + 2) (.tuple []) := fun n => ⟨by simp [PyData.depth, PyData.depthAll], rfl, rfl⟩
  have nn : Lt 10 .none := ⟨by simp [PyData.depth], rfl, rfl⟩
  have nm : ∀ (n : Nat) (x : Str), (((PyData.str x).canLay0 && decide (x.length < 1000)) = true) → Lt (n + 2) (.tuple [.str "name", .str x]) := fun n x h => Lt.mkT (by simp) (mem2 (lt_str n _) (lt_str n _ h)) (by simp)
  have no : ∀ (n : Nat), Lt (n + 2) (.tuple [.str "nothing"]) := fun n => Lt.mkT (by simp) (mem1 (lt_str n _)) (by simp)
  simp only [oddT, List.mem_cons, List.not_mem_nil, or_false]
  rintro d (rfl | rfl | rfl | rfl | rfl | rfl | rfl | rfl) <;> refine ⟨?_, by simp [cnt, cnts]⟩
  · exact nn
  · exact Lt.int 9 _
  · exact nt 8
  · exact nm 8 "x" (by decide +kernel)
  · exact Lt.mkT (by simp) (mem4 (lt_str 8 _) (lt_str 8 _) (nt 7) (nm 7 "x" (by decide +kernel))) (by simp)
  · exact Lt.mkT (by simp) (mem2 (lt_str 8 _) (Lt.int 8 _)) (by simp)
  · exact Lt.mkT (by simp) (mem3 (lt_str 8 _) (no 7) (no 7)) (by simp)
  · exact Lt.mkT (by simp) (mem4 (lt_str 8 _) (lt_str 8 _) (nt 7) (nm 7 "y" (by decide +kernel))) (by simp)
theorem shared_ok : CodeOk shared := fun l hl => by
  cases hl
  refine ⟨by simp, fun e he => ?_⟩
  rcases List.mem_append.mp he with h | h
  · obtain ⟨a, _, rfl⟩ := List.mem_map.mp h
    exact ⟨Lt.mkT (by simp) (mem3 (lt_str 4 _) (Lt.int 4 _) (Lt.int 4 _)) (by simp), by simp [cnt, cnts]⟩
  · cases List.mem_singleton.mp h
    exact ⟨Lt.mkT (by simp) (mem2 (lt_str 4 _) (Lt.int 4 _)) (by simp), by simp [cnt, cnts]⟩
theorem shared_sb : SB 7 shared := ⟨by simp, fun e he => (shared_ok _ rfl).2 e he |>.1.sb⟩
section
variable {K : PySem.W.Frag} {P : Program} {w : World} {TT : List (Addr × Str)} {σ : L2.St} {G H G1 H1 : Hp} {p : Addr × Addr} {m b : Nat} {ba ca : Addr} {ta : TE} {ds : List PyData}
theorem RpAll.rep {xs : List V} (h : RpAll K G xs ds) : ∀ k : Nat, RpAll K G (List.replicate k xs).flatten (List.replicate k ds).flatten
  | 0 => .nil
  | k + 1 => by
    rw [List.replicate_succ, List.replicate_succ, List.flatten_cons, List.flatten_cons]
    exact RpAll.app h (RpAll.rep h k)
/-- [..] * k -/
theorem dv_rep {k : Nat} (ha : Dv K ta σ G H (.list ds)) (hk : k ≤ 10) (hz : ds.length ≤ 1000) : Dv K (tOp rMulX ta (tC (.int k))) σ G H (.list (List.replicate k ds).flatten) := fun G1 H1 e Q kk => ha G1 H1 e _ fun v G2 H2 e2 r => by
  cases r with
  | @lst a xs _ h1 h2 =>
  have hx := e2.gh _ _ h1
  refine .inr ⟨a, k, xs, rfl, rfl, hx, by omega, by omega, ?_, fun p hp => ?_⟩
  · rw [h2.length, Int.toNat_natCast]
    exact sz (Nat.le_trans (Nat.mul_le_mul hz hk) (by omega))
  · have e3 := e2.alloc hp (.lst (List.replicate (k : Int).toNat xs).flatten)
    refine kk _ _ _ e3 (.lst upd_same (RpAll.mono (same_upd (Same.none e2.gh hp) _) _ _ ?_))
    rw [Int.toNat_natCast]
    exact RpAll.rep h2 k
theorem LB.dc {xs : List V} (l : LB K P w p TT m ba b G H) (n1 : p.1 ≠ ca) (n2 : p.2 ≠ ca) (hc : H ca = some (.lst xs)) (e : ExtW (DC K ca).W G H G1 H1) : LB K P w p TT m ba b G1 H1 := by
  refine ⟨⟨e.gh, Wd.extW l.j e fun a h h' => ?_, fun q hq => TabS.keep (l.t q hq) (fun ps h => e.hh _ _ (fun z => ?_) h) fun c h => e.hh _ _ (fun z => ?_) h, fun q hq => e.loose (l.n q hq) (Tabs.alive l.t q hq)⟩, Wd.extW l.k e fun a h h' => ?_⟩
  · have h' : a = ca := h'
    subst h'
    rcases h with h | h
    · exact n1 h.symm
    · exact n2 h.symm
  · have z : q.1 = ca := z
    rw [z, hc] at h
    cases h
  · have z : c = ca := z
    rw [z, hc] at h
    unfold CodeO at h
    cases h
  · have h' : a = ca := h'
    have h : a = ba := h
    obtain ⟨ys, jb⟩ := l.k
    have hbk : H ba = some (bkHO P w ba ys) := jb.h
    rw [← h, h', hc] at hbk
    unfold bkHO at hbk
    cases hbk
end
section
variable {K : PySem.W.Frag} {mg : Str → Option Value} {m : Nat} {t : Tm} {e d : PyData} {CM CC : Addr}
theorem need_ok (dr : Dr m t) (h1 : 1 ≤ m) (h3 : m ≤ 3) (h : toT e = toT (.list (dueL t))) : needO CM CC Tm.py (.int (m : Int)) e = .ok t.py := by
  unfold needO
  rw [if_pos (isMa_nat h1 h3)]
  show (match readD (m : Int) e with | some t => Out.ok t.py | none => .ex CC "code" 1) = _
  rw [dr.read h]
theorem need_no (h1 : 1 ≤ m) (h3 : m ≤ 3) (h : readD (m : Int) e = none) : needO CM CC Tm.py (.int (m : Int)) e = .ex CC "code" 1 := by
  unfold needO
  rw [if_pos (isMa_nat h1 h3)]
  show (match readD (m : Int) e with | some t => Out.ok t.py | none => .ex CC "code" 1) = _
  rw [h]
theorem same_ok {n : Nat} (h : SB n d) : ∃ x y, [d, d] = [x, y] ∧ (SB n x ∧ SB n y) ∧ PyData.bool true = .bool (sameD x y) := ⟨d, d, rfl, ⟨h, h⟩, by rw [sameD_refl d h]⟩
theorem not_same {n : Nat} (h : SB n d) : (!sameD d d) = false := by rw [sameD_refl d h]; rfl
theorem cand_val {m : Int} {l : List PyData} (h : candD m l = some t) : val m t = true := by
  unfold candD at h
  split at h
  · cases h
  · split at h
    · exact kTm_val _ _ _ h
    · cases h
/-- what met tells of a bent code -/
theorem bent_told (Y : Txe K mg) (h1 : 1 ≤ m) (h3 : m ≤ 3) (hc : CodeOk e) (hs : SB 7 e) : ∃ dm, Told Y [.int (m : Int), e] dm (needO CM Y.eC.C Tm.py (.int (m : Int)) e) ∧ SB 62 dm ∧ (dm = .tuple [.str "code", e] ∨ ∃ t', dm = .tuple [.str "told", t'.py] ∧ readD m e = some t') := by
  cases hr : readD (m : Int) e with
  | none =>
    rw [need_no h1 h3 hr]
    refine ⟨_, ⟨"code", e, .c, rfl, rfl⟩, ⟨by simp, fun x hx => ?_⟩, .inl rfl⟩
    simp only [List.mem_cons, List.not_mem_nil, or_false] at hx
    rcases hx with rfl | rfl
    · trivial
    · exact hs.mono (by decide)
  | some t' =>
    obtain ⟨l, _, _, a1, a2, _⟩ := readD_ok hc hr
    refine ⟨.tuple [.str "told", t'.py], ?_, ⟨by simp, fun x hx => ?_⟩, .inr ⟨t', rfl, rfl⟩⟩
    · unfold needO
      rw [if_pos (isMa_nat h1 h3)]
      show Told Y _ _ (match readD (m : Int) e with | some t => Out.ok t.py | none => .ex Y.eC.C "code" 1)
      rw [hr]
      rfl
    · simp only [List.mem_cons, List.not_mem_nil, or_false] at hx
      rcases hx with rfl | rfl
      · trivial
      · exact (a1.sb).mono (by decide)
theorem pair_sb {n : Nat} {x : Str} (h : SB n d) (hn : n ≠ 0) : SB (n + 1) (.tuple [.str x, d]) := by
  obtain ⟨k, rfl⟩ : ∃ k, n = k + 1 := ⟨n - 1, by omega⟩
  refine ⟨by simp, fun e he => ?_⟩
  simp only [List.mem_cons, List.not_mem_nil, or_false] at he
  rcases he with rfl | rfl
  · trivial
  · exact h
theorem list_sb {n : Nat} {ds : List PyData} (hl : ds.length < 1000) (h : ∀ d ∈ ds, SB n d) : SB (n + 1) (.list ds) := ⟨hl, h⟩
end
section
variable {P : Program} {w : World} {K : PySem.W.Frag} {mg : Str → Option Value} {base : Heap} {m : Nat} {d : PyData} {CM CT : Addr}
theorem oddC_none (h1 : 1 ≤ m) (h3 : m ≤ 3) (hd : d ∈ oddC (m : Int)) : readD (m : Int) d = none := by
  have hm : (m : Int) ∈ ([1, 2, 3] : List Int) := by
    simp only [List.mem_cons, List.not_mem_nil, or_false]
    omega
  exact Option.isNone_iff_eq_none.mp (List.all_eq_true.mp (oddC_no _ hm) d hd)
theorem oddT_none (h1 : 1 ≤ m) (h3 : m ≤ 3) (hd : d ∈ oddT (m : Int)) : baseD (m : Int) d = none := by
  have hm : (m : Int) ∈ ([1, 2, 3] : List Int) := by
    simp only [List.mem_cons, List.not_mem_nil, or_false]
    omega
  exact Option.isNone_iff_eq_none.mp (List.all_eq_true.mp (oddT_no _ hm) d hd)
theorem base_no (h1 : 1 ≤ m) (h3 : m ≤ 3) (h : baseD (m : Int) d = none) : Out.ex CT "term" 1 = if isMa (.int (m : Int)) = true then (match baseD (manyD (.int (m : Int))) d with | some t => .ok (.list (put [] 0 t)) | none => .ex CT "term" 1) else .ex CM "many" 0 := by
  rw [if_pos (isMa_nat h1 h3)]
  show _ = (match baseD (m : Int) d with | some t => Out.ok (.list (put [] 0 t)) | none => .ex CT "term" 1)
  rw [h]
/-- is_very(word, lambda x: ..) -/
theorem very_lam {Y : Txe K mg} {TT : List (Addr × Str)} {k : Nat} {L : Lam1 P w K mg base k} {word fld : Str} {C : Addr} {E : XK} {σ : L2.St} {H : Hp} {Q : VK} (hw : MetW Y C fld word) (t : Tabs TT H)
    (asks : ∀ (H1 : Hp) (o : Addr) (Ec : XK) (Q1 : VK), H1 o = some (.lst [.str "odd"]) → (∀ dd H2, Same H1 H2 → H2 dd = some (.xd [(fld, .ref o)]) → Ec (.ref C) (some dd) H2) → L.tb Ec (.ref o) H1 Q1) (k1 : ∀ H', Tabs TT H' → Q (.bl true) H') :
    tCall (spIV Y TT L) [] E (tCons (tC (.str word)) (tCons (tLamV TT L.q L.params L.body L.scope) tNil)) σ H Q := by
  refine ⟨t, fun f c' pm ctv H1 e1 hf t1 hc => ?_⟩
  exact ⟨rfl, word, fld, C, f, c', pm, ctv, rfl, hw, upd_same, by rw [upd_ne (ne_of_none hc hf)]; exact hc, t1.ext fun b u q => by rw [upd_ne (ne_of_none q hf)]; exact q, asks, k1⟩
end
def atF : PyData → PyData
  | .int i => .tuple [.str "call", .int (1 + i), .int (1 + i)]
  | _ => .none
theorem shared_eq : PyData.list ((rints 0 40).map atF ++ [.tuple [.str "constant", .int 0]]) = shared := by rfl
theorem ex_of {CM CT : Addr} : Out.ok (.list (dueL exT)) = if isMa (.int 2) = true then (match baseD (manyD (.int 2)) exT.py with | some t => .ok (.list (put [] 0 t)) | none => .ex CT "term" 1) else .ex CM "many" 0 := by
  rw [if_pos (by decide)]
  show _ = (match baseD 2 exT.py with | some t => Out.ok (.list (put [] 0 t)) | none => .ex CT "term" 1)
  rw [exT_base]
  rfl
theorem ds_orF {σ : L2.St} {G H : Hp} {tt tu : TT} {t1 t2 : L2.TS} {D : Ends} (e : Same G H) (h : DvT tt σ G H false) (k : ∀ G1 H1, Ext G H G1 H1 → tu σ H1 fun b H2 => if b = true then t1 D σ H2 else t2 D σ H2) : tIfS (tOr tt tu) t1 t2 D σ H := h G H (Up.refl e) _ fun G1 H1 e1 => by
  rw [if_neg (by decide)]
  exact k G1 H1 e1
end K82

set_option Elab.async false
set_option linter.all false
set_option maxRecDepth 100000
set_option maxHeartbeats 8000000
set_option pp.maxSteps 400
set_option pp.deepTerms false
/-! The law. -/
namespace K82
open PySem PySem.Spec PyProof.Rows L2 LamX
theorem lamFree {sc : Scope} {Q : Str × NameKind → Prop} (h : (sc.names.all fun y => !decide (y.2 = .free)) = true) : ∀ y ∈ sc.names, y.2 = .free → Q y := fun y hy e => by
  have := List.all_eq_true.mp h y hy
  rw [e] at this
  simp at this
/-- draws of a turn -/
theorem budget : ∃ B : Nat, 3 * (4 * B) ≤ maxD ∧ ∀ s, s ≤ 15 → 6 * cst s + 2000 ≤ B := ⟨6 * cst 15 + 2000, by decide +kernel, fun s h => Nat.add_le_add_right (Nat.mul_le_mul_left 6 (cst_mono h)) 2000⟩
section
variable {P : Program} {w : World} {K : PySem.W.Frag} {mg : Str → Option Value} {base : Heap}
abbrev TLs (pL pV : Addr) : List (Addr × Str) := [(pL, qLam), (pV, qVery)]
abbrev spLaw (K : PySem.W.Frag) (pL pV : Addr) : Sp := fun vs H Q _ => vs.length = 1 ∧ ∃ (q : Addr) (cells : List Int), vs = [.ref q] ∧ SqL K H q (cells.map V.int) ∧ Tabs (TLs pL pV) H ∧ ∀ H', Q (.bl true) H'
theorem ok_law (T : Txt K mg) (Y : Txe K mg) {fL cL pL cV pV : Addr} {fdL : FuncData} (FL : L2.Fun K "law" "law" s_law fL fdL) (hcL : fdL.code = .ref cL) (hcV : T.law_is_very.fd.code = .ref cV) (TB : TabB base mg cL pL) (TBV : TabB base mg cV pV) (hLV : pL ≠ pV) :
    FnOk P w K mg base CX0 193 fL fdL ["script"] (spLaw K pL pV) := by
  have hmT : (pL, qLam) ∈ TLs pL pV := by simp
  have hmV : (pV, qVery) ∈ TLs pL pV := by simp
  have hu : ∀ p ∈ TLs pL pV, p.1 = pL → p.2 = qLam := fun p hp e => by
    simp only [TLs, List.mem_cons, List.not_mem_nil, or_false] at hp
    rcases hp with rfl | rfl
    · rfl
    · exact absurd e.symm hLV
  have huV : ∀ p ∈ TLs pL pV, p.1 = pV → p.2 = qVery := fun p hp e => by
    simp only [TLs, List.mem_cons, List.not_mem_nil, or_false] at hp
    rcases hp with rfl | rfl
    · exact absurd e hLV
    · rfl
  have g_law_stream : FnOk P w K mg base CX0 1 _ _ _ _ := ok_law_stream T
  have g_law_draw : FnOk P w K mg base CX0 1 _ _ _ _ := ok_law_draw T
  have g_law_s_term : FnOk P w K mg base CX0 120 _ _ _ _ := ok_law_s_term T 15 (by omega)
  have g_law_code : FnOk P w K mg base CX0 63 _ _ _ _ := ok_law_code T 60 (by omega)
  have g_law_loose : FnOk P w K mg base CX0 62 _ _ _ _ := ok_law_loose T 60
  have g_law_same : FnOk P w K mg base CX0 71 _ _ _ _ := ok_law_same T 70
  have g_law_copied : FnOk P w K mg base CX0 61 _ _ _ _ := ok_law_copied T 60
  have g_law_bent : FnOk P w K mg base CX0 3 _ _ _ _ := ok_law_bent T
  have g_law_is_of : FnOk P w K mg base CX0 64 _ _ _ _ := ok_law_is_of T
  have g_term_of : FnOk P w K mg base (L2.CX P w) 187 _ _ _ _ := ok_term_of T Y
  have g_code_of : FnOk P w K mg base (L2.CX P w) 186 _ _ _ _ := ok_code_of T Y
  have g_code_ofN : FnOk P w K mg base (L2.CX P w) 186 _ _ _ _ := ok_code_ofN T Y
  have g_law_is_very1 : FnOk P w K mg base CX0 192 _ _ _ _ := ok_law_is_very T Y (TT := TLs pL pV) hcV TBV hmV huV (L1 (P := P) (w := w) (base := base) T Y)
  have g_law_is_very2 : FnOk P w K mg base CX0 192 _ _ _ _ := ok_law_is_very T Y (TT := TLs pL pV) hcV TBV hmV huV (L2' (P := P) (w := w) (base := base) T Y)
  have kb_term_of : KBinds K T.term_of.fd ["many", "code"] ["code", "many"] swapN swapN := by
    obtain ⟨oc, od, kV, doc, pm, an, cdv, ct, osl, hfd, lk, hcd⟩ := T.term_of.F.ex
    rw [hfd]
    exact kb_two fun u v => rfl
  have kb_code_of : KBinds K T.code_of.fd ["many", "term"] ["term", "many"] swapN swapN := by
    obtain ⟨oc, od, kV, doc, pm, an, cdv, ct, osl, hfd, lk, hcd⟩ := T.code_of.F.ex
    rw [hfd]
    exact kb_two fun u v => rfl
  obtain ⟨oc, od, kV, doc, pm0, an, cdv, ct, osl, hfd, lk, hcd⟩ := T.law_met.F.ex
  have bmet := T.law_met.b
  rw [hfd] at lk bmet
  refine Fun.okC (k := 192) FL hcL sc_law (fun vs H Q E z => z.1) (fun Ar outer s H vs Q E hr z => ?_)
  obtain ⟨_, q, cells, rfl, hq, hT, hQ⟩ := z
  refine ⟨_, (pss_cons (ps_set (i := 1) sc_law.nd rfl (Or.inl rfl) (pe_call g_law_stream (hr.mono (by omega)) rfl T.law_stream.m T.law_stream.F.kp T.law_stream.b .nil pass0 (pa_cons (pv 0) pa_nil)))
      (pss_cons (ps_for PassesOwn.never rfl (pi_row (pe_tup (pa_cons pe_int (pa_cons pe_int (pa_cons pe_int pa_nil))))) (pg_name (i := 12) sc_law.nd rfl (Or.inr rfl)) (pss_cons (ps_set (i := 2) sc_law.nd rfl (Or.inl rfl) (pe_dnewB P w rfl rfl))
      (pss_cons (ps_for PassesOwn.never rfl (pi_range1 rfl T.z_range (pa_cons pe_int pa_nil)) (pg_name (i := 3) sc_law.nd rfl (Or.inl rfl)) (pss_cons (ps_set (i := 4) sc_law.nd rfl (Or.inl rfl) (pe_call g_law_s_term (hr.mono (by omega)) rfl T.law_s_term.m T.law_s_term.F.kp T.law_s_term.b .nil pass0 (pa_cons (pv 1) (pa_cons (pv 2) (pa_cons (pv 12) (pa_cons (pe_lst pa_nil) (pa_cons (pe_tup pa_nil) (pa_cons (pe_op op_addX pe_int (pe_call g_law_draw (hr.mono (by omega)) rfl T.law_draw.m T.law_draw.F.kp T.law_draw.b .nil pass0 (pa_cons (pv 1) (pa_cons pe_int pa_nil)))) pa_nil))))))))
      (pss_cons (ps_par (i := 5) (j := 6) rfl sc_law.nd rfl rfl (by decide) rfl rfl (pa_cons (pe_call g_law_code (hr.mono (by omega)) rfl T.law_code.m T.law_code.F.kp T.law_code.b .nil pass0 (pa_cons (pv 4) pa_nil)) (pa_cons (pe_call g_law_loose (hr.mono (by omega)) rfl T.law_loose.m T.law_loose.F.kp T.law_loose.b .nil pass0 (pa_cons (pv 1) (pa_cons (pv 4) pa_nil))) pa_nil)) rfl)
      (pss_cons (ps_if (pt_not (pt_val (pe_call g_law_same (hr.mono (by omega)) rfl T.law_same.m T.law_same.F.kp T.law_same.b .nil pass0 (pa_cons (pe_callS g_term_of (hr.mono (by omega)) rfl T.term_of.m T.term_of.F.kp T.term_of.b (fun σ => passAt L2.takes0 σ) (pa_cons (pv 12) (pa_cons (pe_call g_law_loose (hr.mono (by omega)) rfl T.law_loose.m T.law_loose.F.kp T.law_loose.b .nil pass0 (pa_cons (pv 1) (pa_cons (pv 5) pa_nil))) pa_nil))) (pa_cons (pv 4) pa_nil))))) (pss_one (ps_ret pe_bl)) pss_nil)
      (pss_cons (ps_par (i := 7) (j := 8) rfl sc_law.nd rfl rfl (by decide) rfl rfl (pa_cons (pe_call g_law_copied (hr.mono (by omega)) rfl T.law_copied.m T.law_copied.F.kp T.law_copied.b .nil pass0 (pa_cons (pv 6) pa_nil)) (pa_cons (pe_callS g_code_ofN (hr.mono (by omega)) rfl T.code_of.m T.code_of.F.kp T.code_of.b (fun σ => passAt L2.takes0 σ) (pa_cons (pv 12) (pa_cons (pv 6) pa_nil))) pa_nil)) rfl)
      (pss_cons (ps_if (pt_not (pt_val (pe_call g_law_same (hr.mono (by omega)) rfl T.law_same.m T.law_same.F.kp T.law_same.b .nil pass0 (pa_cons (pe_lst (pa_cons (pv 8) (pa_cons (pe_callN g_code_of (hr.mono (by omega)) rfl T.code_of.m T.code_of.F.kp kb_code_of (fun σ => passAt L2.takes0 σ) (pk_cons (pe_call g_law_copied (hr.mono (by omega)) rfl T.law_copied.m T.law_copied.F.kp T.law_copied.b .nil pass0 (pa_cons (pv 4) pa_nil)) (pk_cons (pv 12) pk_nil))) (pa_cons (pv 6) pa_nil)))) (pa_cons (pe_lst (pa_cons (pv 5) (pa_cons (pv 5) (pa_cons (pv 7) pa_nil)))) pa_nil))))) (pss_one (ps_ret pe_bl)) pss_nil)
      (pss_cons (ps_set (i := 9) sc_law.nd rfl (Or.inl rfl) (pe_call g_law_loose (hr.mono (by omega)) rfl T.law_loose.m T.law_loose.F.kp T.law_loose.b .nil pass0 (pa_cons (pv 1) (pa_cons (pv 5) pa_nil))))
      (pss_cons (ps_set (i := 10) sc_law.nd rfl (Or.inl rfl) (pe_call g_law_copied (hr.mono (by omega)) rfl T.law_copied.m T.law_copied.F.kp T.law_copied.b .nil pass0 (pa_cons (pv 9) pa_nil)))
      (pss_cons (ps_if (pt_not (pt_val (pe_call g_law_same (hr.mono (by omega)) rfl T.law_same.m T.law_same.F.kp T.law_same.b .nil pass0 (pa_cons (pe_lst (pa_cons (pe_callS g_term_of (hr.mono (by omega)) rfl T.term_of.m T.term_of.F.kp T.term_of.b (fun σ => passAt L2.takes0 σ) (pa_cons (pv 12) (pa_cons (pv 9) pa_nil))) (pa_cons (pe_callN g_term_of (hr.mono (by omega)) rfl T.term_of.m T.term_of.F.kp kb_term_of (fun σ => passAt L2.takes0 σ) (pk_cons (pe_call g_law_copied (hr.mono (by omega)) rfl T.law_copied.m T.law_copied.F.kp T.law_copied.b .nil pass0 (pa_cons (pv 5) pa_nil)) (pk_cons (pv 12) pk_nil))) (pa_cons (pv 9) pa_nil)))) (pa_cons (pe_lst (pa_cons (pv 4) (pa_cons (pv 4) (pa_cons (pv 10) pa_nil)))) pa_nil))))) (pss_one (ps_ret pe_bl)) pss_nil)
      (pss_cons (ps_expr (pe_bm PySem.F.plainAttrs_list PySem.F.slot_list_append PySem.F.type_list_append mt_append (pv 8) (pa_cons pe_str pa_nil)))
      (pss_cons (ps_if (pt_not (pt_val (pe_call g_law_same (hr.mono (by omega)) rfl T.law_same.m T.law_same.F.kp T.law_same.b .nil pass0 (pa_cons (pe_callS g_code_of (hr.mono (by omega)) rfl T.code_of.m T.code_of.F.kp T.code_of.b (fun σ => passAt L2.takes0 σ) (pa_cons (pv 12) (pa_cons (pv 4) pa_nil))) (pa_cons (pv 5) pa_nil))))) (pss_one (ps_ret pe_bl)) pss_nil)
      (pss_cons (ps_set (i := 13) sc_law.nd rfl (Or.inr rfl) (pe_call g_law_bent (hr.mono (by omega)) rfl T.law_bent.m T.law_bent.F.kp T.law_bent.b .nil pass0 (pa_cons (pv 1) (pa_cons (pe_call g_law_copied (hr.mono (by omega)) rfl T.law_copied.m T.law_copied.F.kp T.law_copied.b .nil pass0 (pa_cons (pv 5) pa_nil)) pa_nil))))
      (pss_cons (ps_set (i := 11) sc_law.nd rfl (Or.inl rfl) (pe_gives (T := TLs pL pV) (TT := TTmet Y) (k := 187) (a := "ask") (t := fun E => tCallS (spNC K Y.eM.C Y.eC.C Tm.py) (WE fun cls d _ H => E cls d H) (tCons (tVar 12) (tCons (tVar 13) tNil))) rfl T.law_met.m T.law_met.F.kp lk hcd bmet sc_law_met rfl (.inl rfl) (met_gives (X := (cxOf CX0 P w K mg base ["script", "stream", "book", "turn", "term", "due", "handed", "was", "found", "some", "kept", "met", "many", "odd", "shared", "at"] "law" (defScope s_law) fL (.ref cL) Ar outer s H E).nox) Y _ _ _) TB rfl hmT hu (hr.mono (by omega)) (lamS_by (sc := defScope s_law) (by decide +kernel)) rfl (fun _ _ _ _ _ => rfl) (fun A2 outer2 s2 H2 E2 f2 c2 hr2 => (pe_callS g_term_of (hr2.mono (by omega)) rfl T.term_of.m T.term_of.F.kp T.term_of.b (fun σ => passAt (takes_of rfl rfl rfl rfl) σ) (pa_cons (pv 12) (pa_cons (pv 13) pa_nil))))))
      (pss_one (ps_if (PW.pt (pw_and (pt_not (pt_val (pe_call g_law_same (hr.mono (by omega)) rfl T.law_same.m T.law_same.F.kp T.law_same.b .nil pass0 (pa_cons (pv 11) (pa_cons (pe_tup (pa_cons pe_str (pa_cons (pv 13) pa_nil))) pa_nil))))) (pw_and1 (pt_not (pt_val (pe_call g_law_is_of (hr.mono (by omega)) rfl T.law_is_of.m T.law_is_of.F.kp T.law_is_of.b .nil pass0 (pa_cons (pv 12) (pa_cons (pv 11) (pa_cons (pv 13) pa_nil))))))))) (pss_one (ps_ret pe_bl)) pss_nil)))))))))))))))
      (pss_cons (ps_for PassesOwn.never rfl (pi_row (pe_tup (pa_cons pe_non (pa_cons pe_int (pa_cons pe_str (pa_cons (pe_lst pa_nil) (pa_cons (pe_tup pa_nil) (pa_cons pe_dnewK (pa_cons pe_bl (pa_cons (pe_lst (pa_cons (pe_lst pa_nil) pa_nil)) (pa_cons (pe_lst (pa_cons pe_non pa_nil)) (pa_cons (pe_lst (pa_cons (pe_tup (pa_cons pe_str (pa_cons pe_int pa_nil))) pa_nil)) (pa_cons (pe_lst (pa_cons (pe_tup (pa_cons pe_str (pa_cons (pv 12) pa_nil))) pa_nil)) (pa_cons (pe_lst (pa_cons (pe_tup (pa_cons pe_str (pa_cons pe_str (pa_cons (pe_tup pa_nil) (pa_cons pe_int pa_nil))))) (pa_cons (pe_tup (pa_cons pe_str (pa_cons pe_int pa_nil))) pa_nil))) (pa_cons (pe_lst (pa_cons (pe_tup (pa_cons pe_str (pa_cons pe_int (pa_cons pe_int pa_nil)))) (pa_cons (pe_tup (pa_cons pe_str (pa_cons pe_int pa_nil))) (pa_cons (pe_tup (pa_cons pe_str (pa_cons pe_int pa_nil))) pa_nil)))) pa_nil))))))))))))))) (pg_name (i := 13) sc_law.nd rfl (Or.inr rfl)) (pss_one (ps_if (pt_not (pt_val (pe_call g_law_same (hr.mono (by omega)) rfl T.law_same.m T.law_same.F.kp T.law_same.b .nil pass0 (pa_cons (pe_lst (pa_cons (pe_gives (T := TLs pL pV) (TT := TTmet Y) (k := 187) (a := "ask") (t := fun E => tCallS (spNC K Y.eM.C Y.eC.C Tm.py) (WE fun cls d _ H => E cls d H) (tCons (tVar 12) (tCons (tVar 13) tNil))) rfl T.law_met.m T.law_met.F.kp lk hcd bmet sc_law_met rfl (.inl rfl) (met_gives (X := (cxOf CX0 P w K mg base ["script", "stream", "book", "turn", "term", "due", "handed", "was", "found", "some", "kept", "met", "many", "odd", "shared", "at"] "law" (defScope s_law) fL (.ref cL) Ar outer s H E).nox) Y _ _ _) TB rfl hmT hu (hr.mono (by omega)) (lamS_by (sc := defScope s_law) (by decide +kernel)) rfl (fun _ _ _ _ _ => rfl) (fun A2 outer2 s2 H2 E2 f2 c2 hr2 => (pe_callS g_term_of (hr2.mono (by omega)) rfl T.term_of.m T.term_of.F.kp T.term_of.b (fun σ => passAt (takes_of rfl rfl rfl rfl) σ) (pa_cons (pv 12) (pa_cons (pv 13) pa_nil))))) (pa_cons (pe_gives (T := TLs pL pV) (TT := TTmet Y) (k := 187) (a := "ask") (t := fun E => tCallN (spNC K Y.eM.C Y.eC.C Tm.py) (WE fun cls d _ H => E cls d H) (tCons (tVar 13) (tCons (tVar 12) tNil))) rfl T.law_met.m T.law_met.F.kp lk hcd bmet sc_law_met rfl (.inl rfl) (met_gives (X := (cxOf CX0 P w K mg base ["script", "stream", "book", "turn", "term", "due", "handed", "was", "found", "some", "kept", "met", "many", "odd", "shared", "at"] "law" (defScope s_law) fL (.ref cL) Ar outer s H E).nox) Y _ _ _) TB rfl hmT hu (hr.mono (by omega)) (lamS_by (sc := defScope s_law) (by decide +kernel)) rfl (fun _ _ _ _ _ => rfl) (fun A2 outer2 s2 H2 E2 f2 c2 hr2 => (pe_callN g_term_of (hr2.mono (by omega)) rfl T.term_of.m T.term_of.F.kp kb_term_of (fun σ => passAt (takes_of rfl rfl rfl rfl) σ) (pk_cons (pv 13) (pk_cons (pv 12) pk_nil))))) pa_nil))) (pa_cons (pe_op op_mulX (pe_lst (pa_cons (pe_tup (pa_cons pe_str (pa_cons (pv 13) pa_nil))) pa_nil)) pe_int) pa_nil))))) (pss_one (ps_ret pe_bl)) pss_nil)))
      (pss_one (ps_for PassesOwn.never rfl (pi_row (pe_tup (pa_cons pe_non (pa_cons pe_int (pa_cons (pe_tup pa_nil) (pa_cons (pe_tup (pa_cons pe_str (pa_cons pe_str pa_nil))) (pa_cons (pe_tup (pa_cons pe_str (pa_cons pe_str (pa_cons (pe_tup pa_nil) (pa_cons (pe_tup (pa_cons pe_str (pa_cons pe_str pa_nil))) pa_nil))))) (pa_cons (pe_tup (pa_cons pe_str (pa_cons (pv 12) pa_nil))) (pa_cons (pe_tup (pa_cons pe_str (pa_cons (pe_tup (pa_cons pe_str pa_nil)) (pa_cons (pe_tup (pa_cons pe_str pa_nil)) pa_nil)))) (pa_cons (pe_tup (pa_cons pe_str (pa_cons pe_str (pa_cons (pe_tup pa_nil) (pa_cons (pe_tup (pa_cons pe_str (pa_cons pe_str pa_nil))) pa_nil))))) pa_nil)))))))))) (pg_name (i := 13) sc_law.nd rfl (Or.inr rfl)) (pss_one (ps_if (pt_not (pt_val (pe_call g_law_same (hr.mono (by omega)) rfl T.law_same.m T.law_same.F.kp T.law_same.b .nil pass0 (pa_cons (pe_gives (T := TLs pL pV) (TT := TTmet Y) (k := 187) (a := "ask") (t := fun E => tCallS (spCO K Y.eM.C Y.eT.C) (WE fun cls d _ H => E cls d H) (tCons (tVar 12) (tCons (tVar 13) tNil))) rfl T.law_met.m T.law_met.F.kp lk hcd bmet sc_law_met rfl (.inl rfl) (met_gives (X := (cxOf CX0 P w K mg base ["script", "stream", "book", "turn", "term", "due", "handed", "was", "found", "some", "kept", "met", "many", "odd", "shared", "at"] "law" (defScope s_law) fL (.ref cL) Ar outer s H E).nox) Y _ _ _) TB rfl hmT hu (hr.mono (by omega)) (lamS_by (sc := defScope s_law) (by decide +kernel)) rfl (fun _ _ _ _ _ => rfl) (fun A2 outer2 s2 H2 E2 f2 c2 hr2 => (pe_callS g_code_of (hr2.mono (by omega)) rfl T.code_of.m T.code_of.F.kp T.code_of.b (fun σ => passAt (takes_of rfl rfl rfl rfl) σ) (pa_cons (pv 12) (pa_cons (pv 13) pa_nil))))) (pa_cons (pe_tup (pa_cons pe_str (pa_cons (pv 13) pa_nil))) pa_nil))))) (pss_one (ps_ret pe_bl)) pss_nil))))))))
      (pss_cons (ps_set (i := 8) sc_law.nd rfl (Or.inl rfl) (pe_lst (pa_cons (pe_gives (T := TLs pL pV) (TT := TTmet Y) (k := 187) (a := "ask") (t := fun E => tCallS (spCO K Y.eM.C Y.eT.C) (WE fun cls d _ H => E cls d H) (tCons (tC (.int 0)) (tCons (tC .non) tNil))) rfl T.law_met.m T.law_met.F.kp lk hcd bmet sc_law_met rfl (.inl rfl) (met_gives (X := (cxOf CX0 P w K mg base ["script", "stream", "book", "turn", "term", "due", "handed", "was", "found", "some", "kept", "met", "many", "odd", "shared", "at"] "law" (defScope s_law) fL (.ref cL) Ar outer s H E).nox) Y _ _ _) TB rfl hmT hu (hr.mono (by omega)) (lamS_by (sc := defScope s_law) (by decide +kernel)) rfl (fun _ _ _ _ _ => rfl) (fun A2 outer2 s2 H2 E2 f2 c2 hr2 => (pe_callS g_code_of (hr2.mono (by omega)) rfl T.code_of.m T.code_of.F.kp T.code_of.b (fun σ => passAt (takes_of rfl rfl rfl rfl) σ) (pa_cons pe_int (pa_cons pe_non pa_nil))))) (pa_cons (pe_gives (T := TLs pL pV) (TT := TTmet Y) (k := 187) (a := "ask") (t := fun E => tCallS (spNC K Y.eM.C Y.eC.C Tm.py) (WE fun cls d _ H => E cls d H) (tCons (tC (.bl true)) (tCons (tC .non) tNil))) rfl T.law_met.m T.law_met.F.kp lk hcd bmet sc_law_met rfl (.inl rfl) (met_gives (X := (cxOf CX0 P w K mg base ["script", "stream", "book", "turn", "term", "due", "handed", "was", "found", "some", "kept", "met", "many", "odd", "shared", "at"] "law" (defScope s_law) fL (.ref cL) Ar outer s H E).nox) Y _ _ _) TB rfl hmT hu (hr.mono (by omega)) (lamS_by (sc := defScope s_law) (by decide +kernel)) rfl (fun _ _ _ _ _ => rfl) (fun A2 outer2 s2 H2 E2 f2 c2 hr2 => (pe_callS g_term_of (hr2.mono (by omega)) rfl T.term_of.m T.term_of.F.kp T.term_of.b (fun σ => passAt (takes_of rfl rfl rfl rfl) σ) (pa_cons pe_bl (pa_cons pe_non pa_nil))))) (pa_cons (pe_callS g_code_of (hr.mono (by omega)) rfl T.code_of.m T.code_of.F.kp T.code_of.b (fun σ => passAt L2.takes0 σ) (pa_cons pe_int (pa_cons (pe_tup (pa_cons pe_str (pa_cons (pe_tup (pa_cons pe_str (pa_cons pe_str (pa_cons (pe_tup pa_nil) (pa_cons (pe_tup (pa_cons pe_str (pa_cons pe_str pa_nil))) pa_nil))))) (pa_cons (pe_tup (pa_cons pe_str (pa_cons pe_int pa_nil))) pa_nil)))) pa_nil))) pa_nil)))))
      (pss_cons (ps_set (i := 5) sc_law.nd rfl (Or.inl rfl) (pe_lst (pa_cons (pe_tup (pa_cons pe_str (pa_cons pe_int pa_nil))) (pa_cons (pe_tup (pa_cons pe_str (pa_cons pe_bl pa_nil))) (pa_cons (pe_lst (pa_cons (pe_tup (pa_cons pe_str (pa_cons pe_int (pa_cons pe_int pa_nil)))) (pa_cons (pe_tup (pa_cons pe_str (pa_cons pe_str (pa_cons (pe_tup pa_nil) (pa_cons pe_int pa_nil))))) (pa_cons (pe_tup (pa_cons pe_str (pa_cons pe_int pa_nil))) (pa_cons (pe_tup (pa_cons pe_str (pa_cons pe_int pa_nil))) pa_nil))))) pa_nil)))))
      (pss_cons (ps_set (i := 14) sc_law.nd rfl (Or.inr rfl) (pe_op op_addX (pe_lc (own := [("at", 15)]) (g := gName 15) (tt := tYes) rfl sc_law.nd (pi_range1 rfl T.z_range (pa_cons pe_int pa_nil)) (blkOk_by (N := ["script", "stream", "book", "turn", "term", "due", "handed", "was", "found", "some", "kept", "met", "many", "odd", "shared", "at"]) (sc := defScope s_law) (by decide +kernel)) (fun _ _ _ _ _ => (pg_name (i := 15) sc_law.nd rfl (Or.inl rfl))) (fun _ _ _ _ _ => pts_nil) (fun _ _ _ _ _ => (pe_tup (pa_cons pe_str (pa_cons (pe_op (op_addK K rfl) pe_int (pv 15)) (pa_cons (pe_op (op_addK K rfl) pe_int (pv 15)) pa_nil)))))) (pe_lst (pa_cons (pe_tup (pa_cons pe_str (pa_cons pe_int pa_nil))) pa_nil))))
      (pss_cons (ps_if (pt_not (pt_val (pe_call g_law_same (hr.mono (by omega)) rfl T.law_same.m T.law_same.F.kp T.law_same.b .nil pass0 (pa_cons (pe_gives (T := TLs pL pV) (TT := TTmet Y) (k := 187) (a := "ask") (t := fun E => tCallS (spNC K Y.eM.C Y.eC.C Tm.py) (WE fun cls d _ H => E cls d H) (tCons (tC (.int 2)) (tCons (tVar 14) tNil))) rfl T.law_met.m T.law_met.F.kp lk hcd bmet sc_law_met rfl (.inl rfl) (met_gives (X := (cxOf CX0 P w K mg base ["script", "stream", "book", "turn", "term", "due", "handed", "was", "found", "some", "kept", "met", "many", "odd", "shared", "at"] "law" (defScope s_law) fL (.ref cL) Ar outer s H E).nox) Y _ _ _) TB rfl hmT hu (hr.mono (by omega)) (lamS_by (sc := defScope s_law) (by decide +kernel)) rfl (fun _ _ _ _ _ => rfl) (fun A2 outer2 s2 H2 E2 f2 c2 hr2 => (pe_callS g_term_of (hr2.mono (by omega)) rfl T.term_of.m T.term_of.F.kp T.term_of.b (fun σ => passAt (takes_of rfl rfl rfl rfl) σ) (pa_cons pe_int (pa_cons (pv 14) pa_nil))))) (pa_cons (pe_tup (pa_cons pe_str (pa_cons (pv 14) pa_nil))) pa_nil))))) (pss_one (ps_ret pe_bl)) pss_nil)
      (pss_cons (ps_if (PW.pt (pw_or (pt_not (pt_val (pe_call g_law_same (hr.mono (by omega)) rfl T.law_same.m T.law_same.F.kp T.law_same.b .nil pass0 (pa_cons (pv 8) (pa_cons (pv 5) pa_nil))))) (pw_or1 (pt_not (pt_val (pe_call g_law_is_very1 (hr.mono (by omega)) rfl T.law_is_very.m T.law_is_very.F.kp T.law_is_very.b .nil pass0 (pa_cons pe_str (pa_cons (pe_lamV (T := TLs pL pV) (q := qLam) (params := lamPm lV1) (body := lamBd lV1) (scope := lamSc lV1) rfl TB rfl hmT hu rfl (lamFree (sc := lamSc lV1) (by decide +kernel)) rfl) pa_nil)))))))) (pss_one (ps_ret pe_bl)) pss_nil)
      (pss_one (ps_ret (pe_call g_law_is_very2 (hr.mono (by omega)) rfl T.law_is_very.m T.law_is_very.F.kp T.law_is_very.b .nil pass0 (pa_cons pe_str (pa_cons (pe_lamV (T := TLs pL pV) (q := qLam) (params := lamPm lV2) (body := lamBd lV2) (scope := lamSc lV2) rfl TB rfl hmT hu rfl (lamFree (sc := lamSc lV2) (by decide +kernel)) rfl) pa_nil)))))))))))), ?_⟩
  clear g_law_stream g_law_draw g_law_s_term g_law_code g_law_loose g_law_same g_law_copied g_law_bent g_law_is_of g_term_of g_code_of g_code_ofN g_law_is_very1 g_law_is_very2 kb_term_of kb_code_of hmT hmV hu huV hcd lk bmet hfd
  refine ds_seq ?_
  refine ⟨.ref q, rfl, rfl, q, cells, rfl, hq, fun H1 p hh hp1 hp2 hne sj => ?_⟩
  have l1 : LS p (TLs pL pV) maxD (fun _ => none) H1 := ⟨fun b u z => (by cases z), ⟨hne, rfl, rfl, cells, 0, 0, 17, sj, by omega, by omega, by simp, by omega, by omega⟩, hT.ext hh, fun _ _ => rfl⟩
  generalize (fun _ => none : Hp) = G1 at l1
  obtain ⟨B, hB12, hcs⟩ := budget
  have hB0 : 2000 ≤ B := Nat.le_trans (Nat.le_add_left _ _) (hcs 0 (by omega))
  dsimp only [gName]
  refine ds_seq ?_
  refine ds_for l1.e (dvi_row (dv_tup3 (K := K) dv_int dv_int dv_int) rfl) fun G2 H2 e2 => ?_
  have hl3 : ([.int 1, .int 2, .int 3] : List PyData).length = 3 := rfl
  refine ⟨fun i σ Gc Hc => (∃ b, (3 - i) * (4 * B) ≤ b ∧ LS p (TLs pL pV) b Gc Hc) ∧ Same G2 Gc ∧ σ.length = 16 ∧ σ[1]? = some (some (.ref p.1)), fun i σ Gc Hc ⟨⟨b, _, l⟩, h, _⟩ => ⟨h, l.e⟩, ⟨⟨maxD, hB12, l1.ext e2⟩, Same.refl _, rfl, rfl⟩, ?_, ?_⟩
  · rintro i d σ1 Gc Hc hd ⟨⟨b, hb, l2⟩, sg2, sl, s1⟩ x G3 H3 e3 rx
    have hi : i < 3 := by
      have := (List.getElem?_eq_some_iff.mp hd).1
      simpa using this
    obtain ⟨m, hm1, hm3, rfl⟩ : ∃ m : Nat, 1 ≤ m ∧ m ≤ 3 ∧ d = .int m := by
      have hdm := List.mem_of_getElem? hd
      simp only [List.mem_cons, List.not_mem_nil, or_false] at hdm
      rcases hdm with rfl | rfl | rfl
      · exact ⟨1, by omega, by omega, rfl⟩
      · exact ⟨2, by omega, by omega, rfl⟩
      · exact ⟨3, by omega, by omega, rfl⟩
    cases rx
    obtain ⟨r, hr3⟩ : ∃ r, 3 - i = r + 1 := ⟨2 - i, by omega⟩
    have hr4 : 3 - (i + 1) = r := by omega
    rw [hr3, Nat.succ_mul] at hb
    generalize hrest : r * (4 * B) = rest at hb
    replace l2 := l2.ext e3
    replace sg2 := sg2.trans e3.gg
    obtain ⟨t0, t1, t2, t3, t4, t5, t6, t7, t8, t9, t10, t11, t12, t13, t14, t15, rfl⟩ := len16 sl
    cases Option.some.inj s1
    clear s1 sl
    show tSeq _ _ _ _ _
    refine ds_seq ?_
    refine fun ba hba => ?_
    have l3 : LB K P w p (TLs pL pV) m ba b G3 _ := l2.book m hba
    generalize hH4 : upd H3 ba (bkHO P w ba []) = H4 at l3
    dsimp only [gName]
    refine ds_seq ?_
    refine ds_for l3.e (dvi_range1 (K := K) (n := 4) dv_int (by omega)) fun G5 H5 e5 => ?_
    refine ⟨fun i σ Gc Hc => (∃ b, (4 - i) * B + rest ≤ b ∧ LB K P w p (TLs pL pV) m ba b Gc Hc) ∧ Same G5 Gc ∧ σ.length = 16 ∧ σ[1]? = some (some (.ref p.1)) ∧ σ[2]? = some (some (.ref ba)) ∧ σ[12]? = some (some (.int m)), fun i σ Gc Hc ⟨⟨b, _, l⟩, h, _⟩ => ⟨h, l.e⟩, ⟨⟨b, by omega, l3.ext e5⟩, Same.refl _, rfl, rfl, rfl, rfl⟩, ?_, ?_⟩
    · rintro i d σ1 Gc Hc hd ⟨⟨b, hb, l4⟩, sg5, sl, s1, s2, s12⟩ x G6 H6 e6 rx
      have hi : i < 4 := by
        have := (List.getElem?_eq_some_iff.mp hd).1
        simpa [rints] using this
      obtain ⟨r4, hr4⟩ : ∃ r4, 4 - i = r4 + 1 := ⟨3 - i, by omega⟩
      have hr5 : 4 - (i + 1) = r4 := by omega
      rw [hr4, Nat.succ_mul] at hb
      generalize hrest4 : r4 * B = rest4 at hb
      replace l4 := l4.ext e6
      replace sg5 := sg5.trans e6.gg
      obtain ⟨t0, t1, t2, t3, t4, t5, t6, t7, t8, t9, t10, t11, t12, t13, t14, t15, rfl⟩ := len16 sl
      cases Option.some.inj s1
      cases Option.some.inj s2
      cases Option.some.inj s12
      clear s1 s2 s12 sl
      show tSeq _ _ _ _ _
      refine ds_seq ?_
      refine ms_set (K := K) (D := SB2 K P w (p, (m, ba))) (m := (b, ())) (R := fun d mm => ∃ (t : Tm) (b' : Nat), d = t.py ∧ mm = (b', ()) ∧ Dr m t ∧ b ≤ b' + (B - 1999)) l4.e l4.two (mv_call (i := (p, (m, ba))) (mva_raw rfl (mva_raw rfl (mva_cons (mv_dv (dv_var rfl (.int _)) (mva_cons (mv_dv dv_lst0 (mva_cons (mv_dv (dv_tup dva_nil (Nat.zero_le _)) (mva_cons (mv_addI (mv_dv dv_int ⟨2, rfl, mv_fst (mv_call (mva_raw rfl (mva_cons (mv_dv (dv_int (z := ((14 : Nat) : Int))) (mva_nil ⟨rfl, 14, rfl, by omega, by omega, b - 1, by omega, fun r hr => ⟨r, rfl, mva_nil ⟨rfl, 2 + r, b - 1, rfl, rfl, hm1, hm3, by omega, by omega, ?_, fun t b' hg hs hb' => ⟨t, b', rfl, rfl, ⟨by omega, by omega, hg.ty, hg.va, hg.ok, hg.lt.mono (by omega), hs⟩, ?_⟩⟩⟩⟩)))))⟩)))))))))))) fun vt d mm G7 H7 e7 j7 rt hd7 => ?_
      · have := hcs (2 + r) (by omega)
        omega
      · have := hcs (2 + r) (by omega)
        omega
      obtain ⟨t, b1, rfl, rfl, dr, hb1⟩ := hd7
      have l7 : LB K P w p (TLs pL pV) m ba b1 G7 H7 := l4.sb e7 j7
      have hcnt := dr.cnt
      have hsz := dr.sz
      have hma := isMa_nat hm1 hm3
      dsimp only [gName]
      refine ds_seq ?_
      refine ms_par (K := K) (D := SW p) (m := b1) (R := fun d d' (b2 : Nat) => d = .list (dueL t) ∧ toT d' = t.py ∧ b1 ≤ b2 + 240) l7.e l7.j (mv_dv (dv_callT (f := fun t => .list (put [] 0 t)) (t := t) (dv_var rfl rt) ⟨dr.lt60, by omega, dr.bnd, by omega⟩) (mv_call (i := p) (mva_raw rfl (mva_cons (mv_dv (dv_var rfl rt) (mva_nil ⟨rfl, t.py, rfl, dr.lt60, by omega, fun e b2 he hb2 => ⟨rfl, by rw [he, toT_py], by omega⟩⟩)))))) fun vd vh d d' (b2 : Nat) G8 H8 e8 j8 rd rh hd8 => ?_
      obtain ⟨rfl, hh, hb2⟩ := hd8
      have l8 := l7.sw e8 j8
      replace rt := e8.rp rt
      have ltd := dr.dueLt
      have cd := dr.dueCnt
      dsimp only
      refine ds_seq ?_
      refine ms_if (D := SW p) (m := b2) (R := fun c (b3 : Nat) => c = false ∧ b2 ≤ b3 + 801) l8.e l8.j (mvt_not (mvt_B (mv_callP (mva_cons (mv_callX (mva_cons (mv_dv (dv_var rfl (.int _)) (mva_cons (mv_call (i := p) (mva_raw rfl (mva_cons (mv_dv (dv_var rfl rd) (mva_nil ⟨rfl, .list (dueL t), rfl, ltd.mono (by omega), by omega, fun e b3 he hb3 => mva_nil ⟨[.int m, e], t.py, rfl, rfl, ⟨.int m, e, rfl, dr.codeOk he, (need_ok dr hm1 hm3 he).symm⟩, mva_cons (mv_dv (dv_var rfl rt) (mva_nil ⟨[t.py, t.py], .bool true, rfl, rfl, same_ok (dr.lt.mono (by omega)).sb, true, rfl, rfl, by omega⟩))⟩⟩))))))))))))) (fun (b3 : Nat) G9 H9 e9 j9 hc => by cases hc.1) fun (b3 : Nat) G9 H9 e9 j9 hc => ?_
      have hb3 := hc.2
      have l9 := l8.sw e9 j9
      replace rt := e9.rp rt
      replace rd := e9.rp rd
      replace rh := e9.rp rh
      show tSeq _ _ _ _ _
      refine ds_seq ?_
      have lth := dr.ltL hh
      have cnh := dr.cntL hh
      refine ds_parN (K := K) (m := m) (t := t) l9.e (dv_call1 (f := id) (dv_var rfl rh) (lth.mono (by omega))) (dva_cons (dv_var rfl (.int _)) (dva_cons (dv_var rfl rh) dva_nil)) hma (lth.mono (by omega)) (by omega) (dr.base hh) fun vw ca xs G10 H10 e10 rw10 hca gca hxs rxs => ?_
      have n1 : p.1 ≠ ca := fun z => (SW p).alive l9.j ca (.inl z.symm) hca
      have n2 : p.2 ≠ ca := fun z => (SW p).alive l9.j ca (.inr z.symm) hca
      have l10 := l9.ext e10
      replace rt := e10.rp rt
      replace rd := e10.rp rd
      replace rh := e10.rp rh
      dsimp only
      refine ds_seq ?_
      have sbd : SB 68 (.list (dueL t)) := (ltd.sb).mono (by decide)
      have sbh : SB 68 d' := (lth.sb).mono (by decide)
      have sbt : SB 68 t.py := (dr.lt.sb).mono (by decide)
      have gx : Same G10 (upd G10 ca (.lst xs)) := same_upd gca _
      have hx : Same (upd G10 ca (.lst xs)) H10 := fun b' u z => by
        by_cases h : b' = ca
        · subst h
          rw [upd_same] at z
          rw [hxs]
          exact z
        · rw [upd_ne h] at z
          exact l10.e _ _ z
      have rf : Rp K (upd G10 ca (.lst xs)) (.ref ca) (.list (dueL t)) := .lst upd_same (RpAll.mono gx _ _ rxs)
      have sb3 : ∀ {a b c : PyData}, SB 68 a → SB 68 b → SB 68 c → SB 69 (.list [a, b, c]) := fun ha hb hc => list_sb (by simp) (by simp [ha, hb, hc])
      refine ds_ifX (G' := upd G10 ca (.lst xs)) l10.e gx hx (dvt_not (dvt_B (dv_call2 (f := fun a b => .bool (sameD a b)) (dv_lst (dva_cons (dv_var rfl rf) (dva_cons (dv_callXN (d := .list (dueL t)) (a := .int m) (b := t.py) (dva_cons (dv_call1 (f := id) (dv_var rfl (Rp.mono gx _ _ rt)) (dr.lt.mono (by omega))) (dva_cons (dv_var rfl (.int _)) dva_nil)) ⟨.int m, t.py, rfl, dr.lt60, by omega, by rw [if_pos hma]; show Out.ok _ = (match baseD (m : Int) t.py with | some t => _ | none => _); rw [dr.base (toT_py t)]; rfl⟩) (dva_cons (dv_var rfl (Rp.mono gx _ _ rh)) dva_nil))) (by simp)) (dv_lst (dva_cons (dv_var rfl (Rp.mono gx _ _ rd)) (dva_cons (dv_var rfl (Rp.mono gx _ _ rd)) (dva_cons (dv_var rfl (Rp.mono gx _ _ rw10)) dva_nil))) (by simp)) ⟨(sb3 sbd sbd sbh).mono (by decide), (sb3 sbd sbd sbh).mono (by decide)⟩))) (fun h => by rw [show id d' = d' from rfl, not_same (sb3 sbd sbd sbh)] at h; cases h) fun _ H11 e11 => ?_
      have l11 := l10.ext e11
      have jc : (DC K ca).J (dueL t) G10 H11 := ⟨gca, xs, e11.hh _ _ hxs, rxs⟩
      clear hx rf gx rw10
      show tSeq _ _ _ _ _
      refine ds_seq ?_
      refine ms_set (K := K) (D := SW p) (m := b3) (R := fun e (b4 : Nat) => toT e = toT (.list (dueL t)) ∧ b3 ≤ b4 + 801) l11.e l11.j (mv_call (i := p) (mva_raw rfl (mva_cons (mv_dv (dv_var rfl rd) (mva_nil ⟨rfl, .list (dueL t), rfl, ltd.mono (by omega), by omega, fun e b4 he hb4 => ⟨he, by omega⟩⟩))))) fun vs ds (b4 : Nat) G12 H12 e12 j12 rs hds => ?_
      obtain ⟨hs, hb4⟩ := hds
      have l12 := l11.sw e12 j12
      replace jc : (DC K ca).J (dueL t) G12 H12 := Wd.extW (D := DC K ca) jc e12 fun a h h' => by
        have h : a = ca := h
        subst h
        rcases h' with h' | h'
        · exact n1 h'.symm
        · exact n2 h'.symm
      replace rt := e12.rp rt
      replace rd := e12.rp rd
      have lts := dr.ltC hs
      dsimp only [gName]
      refine ds_seq ?_
      refine ds_set (K := K) l12.e (dv_call1 (f := id) (dv_var rfl rs) (lts.mono (by omega))) fun vk G13 H13 e13 rk => ?_
      have rk : Rp K G13 vk ds := rk
      have l13 := l12.ext e13
      replace jc := Wd.ext jc e13
      replace rt := e13.rp rt
      replace rd := e13.rp rd
      replace rs := e13.rp rs
      dsimp only [gName]
      refine ds_seq ?_
      have sbs : SB 68 ds := (lts.sb).mono (by decide)
      refine ds_if l13.e (dvt_not (dvt_B (dv_call2 (f := fun a b => .bool (sameD a b)) (dv_lst (dva_cons (dv_callX (d := t.py) (dva_cons (dv_var rfl (.int _)) (dva_cons (dv_var rfl rs) dva_nil)) rfl ⟨.int m, ds, rfl, dr.codeOk hs, (need_ok dr hm1 hm3 hs).symm⟩) (dva_cons (dv_callXN (d := t.py) (a := .int m) (b := .list (dueL t)) (dva_cons (dv_call1 (f := id) (dv_var rfl rd) (ltd.mono (by omega))) (dva_cons (dv_var rfl (.int _)) dva_nil)) ⟨.int m, .list (dueL t), rfl, dr.codeOk rfl, (need_ok dr hm1 hm3 rfl).symm⟩) (dva_cons (dv_var rfl rs) dva_nil))) (by simp)) (dv_lst (dva_cons (dv_var rfl rt) (dva_cons (dv_var rfl rt) (dva_cons (dv_var rfl rk) dva_nil))) (by simp)) ⟨(sb3 sbt sbt sbs).mono (by decide), (sb3 sbt sbt sbs).mono (by decide)⟩))) (fun h => by rw [not_same (sb3 sbt sbt sbs)] at h; cases h) fun _ G14 H14 e14 => ?_
      have l14 := l13.ext e14
      replace jc := Wd.ext jc e14
      replace rt := e14.rp rt
      replace rd := e14.rp rd
      clear rs rk rh
      show tSeq _ _ _ _ _
      refine ds_seq ?_
      refine dc_app (K := K) (ca := ca) (xs := dueL t) l14.e jc rfl (by rw [dr.len]; omega) dv_str fun G15 H15 e15 _ => ?_
      obtain ⟨_, xs14, hx14, _⟩ := jc
      have l15 := l14.dc n1 n2 hx14 e15
      replace rt := e15.rp rt
      replace rd := e15.rp rd
      dsimp only
      refine ds_seq ?_
      refine ds_if l15.e (dvt_not (dvt_B (dv_call2 (f := fun a b => .bool (sameD a b)) (dv_callX (d := .list (dueL t)) (dva_cons (dv_var rfl (.int _)) (dva_cons (dv_var rfl rt) dva_nil)) rfl ⟨.int m, t.py, rfl, dr.lt60, by omega, by rw [if_pos hma]; show Out.ok _ = (match baseD (m : Int) t.py with | some t => _ | none => _); rw [dr.base (toT_py t)]; rfl⟩) (dv_var rfl rd) ⟨sbd.mono (by decide), sbd.mono (by decide)⟩))) (fun h => by rw [not_same sbd] at h; cases h) fun _ G16 H16 e16 => ?_
      have l16 := l15.ext e16
      replace rt := e16.rp rt
      replace rd := e16.rp rd
      show tSeq _ _ _ _ _
      refine ds_seq ?_
      refine ms_set (K := K) (D := SW p) (m := b4) (R := fun e (b5 : Nat) => ∃ l', e = .list l' ∧ l'.length ≤ 50 ∧ (∀ x ∈ l', Odd x) ∧ b4 ≤ b5 + 6) l16.e l16.j (mv_call (i := p) (mva_raw rfl (mva_cons (mv_dv (dv_call1 (f := id) (dv_var rfl rd) (ltd.mono (by omega))) (mva_nil ⟨rfl, dueL t, rfl, by rw [dr.len]; exact dr.pos, by rw [dr.len]; omega, dr.ent, by omega, fun l' b5 h1 h2 h3 => ⟨l', rfl, h1, h2, h3⟩⟩))))) fun vo od (b5 : Nat) G17 H17 e17 j17 ro hod => ?_
      obtain ⟨l', rfl, hl1, hl2, hb5⟩ := hod
      have l17 := l16.sw e17 j17
      have hok := bent_ok hl1 hl2
      obtain ⟨dm, hT1, hT2, hT3⟩ := bent_told (CM := Y.eM.C) Y hm1 hm3 hok (bent_sb hl1 hl2)
      dsimp only [gName]
      refine ds_seq ?_
      refine ls_set (K := K) (S := LB K P w p (TLs pL pV) m ba b5) l17 (lv_met Y LSt.lb (xv_call (dva_cons (dv_var rfl (.int _)) (dva_cons (dv_var rfl ro) dva_nil)) rfl ⟨.int m, .list l', rfl, hok, rfl⟩) hT1) fun vm G18 H18 e18 l18 rm => ?_
      replace ro := Rp.mono e18 _ _ ro
      dsimp only [gName]
      have sbo : SB 8 (.tuple [.str "code", .list l']) := pair_sb (bent_sb hl1 hl2) (by decide)
      refine ds_if (b := (!sameD dm (.tuple [.str "code", .list l'])) && false) l18.e (dvt_and (dvt_not (dvt_B (dv_call2 (f := fun a b => .bool (sameD a b)) (dv_var rfl rm) (dv_tup2 dv_str (dv_var rfl ro)) ⟨hT2.mono (by decide), sbo.mono (by decide)⟩))) fun h => ?_) (fun h => by simp at h) fun _ G19 H19 e19 => ?_
      · rcases hT3 with rfl | ⟨t', rfl, hr'⟩
        · rw [not_same sbo] at h
          cases h
        · obtain ⟨l2, a1, a2, a3, a4, a5, a6⟩ := readD_ok hok hr'
          cases a1
          exact DvT.is (dvt_not (dvt_B (dv_call (d := .bool true) (dva_cons (dv_var rfl (.int _)) (dva_cons (dv_var rfl rm) (dva_cons (dv_var rfl ro) dva_nil))) rfl ⟨m, t', .list l', l', rfl, a3, a4, cand_val a2, a5, rfl, bent_lt hl1 hl2, a6, rfl⟩))) rfl
      · refine ⟨G19, ⟨⟨b5, ?_, l18.ext e19⟩, ?_, rfl, rfl, rfl, rfl⟩⟩
        · rw [hr5, hrest4]
          omega
        · exact sg5.trans (e7.gg.trans (e8.gg.trans (e9.gg.trans (e10.gg.trans (e12.gg.trans (e13.gg.trans (e14.gg.trans (e15.gg.trans (e16.gg.trans (e17.gg.trans (e18.trans e19.gg)))))))))))
    · rintro σ1 Gc Hc ⟨⟨b, hb, l4⟩, sg5, sl, s1, s2, s12⟩
      have hb' : rest ≤ b := Nat.le_trans (Nat.le_add_left _ _) hb
      have l5 := l4.toLS
      have hma := isMa_nat hm1 hm3
      clear l4 hb
      obtain ⟨t0, t1, t2, t3, t4, t5, t6, t7, t8, t9, t10, t11, t12, t13, t14, t15, rfl⟩ := len16 sl
      cases Option.some.inj s1
      cases Option.some.inj s12
      clear s1 s2 s12 sl
      show tSeq _ _ _ _ _
      refine ds_seq ?_
      have dt0 : ∀ {σ : L2.St} {G H : Hp}, Dv K (tTup tNil) σ G H (.tuple []) := dv_tup dva_nil (Nat.zero_le _)
      refine ds_for l5.e (dvi_row (ds := oddC m) (dv_tup (dva_cons dv_non (dva_cons dv_int (dva_cons dv_str (dva_cons dv_lst0 (dva_cons dt0 (dva_cons dv_newD (dva_cons dv_bl (dva_cons (dv_lst1 dv_lst0) (dva_cons (dv_lst1 dv_non) (dva_cons (dv_lst1 (dv_tup2 dv_str dv_int)) (dva_cons (dv_lst1 (dv_tup2 dv_str (dv_var rfl (.int _)))) (dva_cons (dv_lst2 (dv_tup4 dv_str dv_str dt0 dv_int) (dv_tup2 dv_str dv_int)) (dva_cons (dv_lst (dva_cons (dv_tup3 dv_str dv_int dv_int) (dva_cons (dv_tup2 dv_str dv_int) (dva_cons (dv_tup2 dv_str dv_int) dva_nil))) (by simp)) dva_nil))))))))))))) (by simp)) rfl) fun G6 H6 e6 => ?_
      refine ⟨fun i σ Gc Hc => LS p (TLs pL pV) b Gc Hc ∧ Same G6 Gc ∧ σ.length = 16 ∧ σ[1]? = some (some (.ref p.1)) ∧ σ[12]? = some (some (.int m)), fun i σ Gc Hc ⟨l, h, _⟩ => ⟨h, l.e⟩, ⟨l5.ext e6, Same.refl _, rfl, rfl, rfl⟩, ?_, ?_⟩
      · rintro i d σ1 Gc Hc hd ⟨l6, sg6, sl, s1, s12⟩ x G7 H7 e7 rx
        have hdm := List.mem_of_getElem? hd
        have hno := need_no (CM := Y.eM.C) (CC := Y.eC.C) hm1 hm3 (oddC_none hm1 hm3 hdm)
        have hok := oddC_ok d hdm
        have hsb : SB 5 (.tuple [.str "code", d]) := pair_sb (oddC_sb d hdm) (by decide)
        have htC : Told Y [.int (m : Int), d] (.tuple [.str "code", d]) (.ex Y.eC.C "code" 1) := ⟨"code", d, .c, rfl, rfl⟩
        obtain ⟨t0, t1, t2, t3, t4, t5, t6, t7, t8, t9, t10, t11, t12, t13, t14, t15, rfl⟩ := len16 sl
        cases Option.some.inj s1
        cases Option.some.inj s12
        clear s1 s12 sl
        show tIfS _ _ _ _ _ _
        refine ls_if (b := !true) (l6.ext e7) (lvt_not (lvt_B (lv_call LSt.ls (lva_cons (lv_lst LSt.ls (lva_cons (lv_met Y LSt.ls (xv_call (dva_cons (dv_var rfl (.int _)) (dva_cons (dv_var rfl rx) dva_nil)) rfl ⟨.int m, d, rfl, hok, hno.symm⟩) htC) (lva_cons (lv_met Y LSt.ls (xv_kw (a := .int m) (b := d) (dva_cons (dv_var rfl rx) (dva_cons (dv_var rfl (.int _)) dva_nil)) ⟨.int m, d, rfl, hok, hno.symm⟩) htC) lva_nil)) (by simp)) (lva_cons (lv_dv LSt.ls (Dv.is (dv_rep (k := 2) (dv_lst1 (dv_tup2 dv_str (dv_var rfl rx))) (by omega) (by simp)) rfl)) lva_nil)) rfl (same_ok (n := 70) ((list_sb (by simp) (by simp [hsb]) : SB 6 (.list [.tuple [.str "code", d], .tuple [.str "code", d]])).mono (by decide)))))) (fun h => by cases h) fun _ G8 H8 e8 l8 => ?_
        exact ⟨G8, l8, sg6.trans (e7.gg.trans e8), rfl, rfl, rfl⟩
      · rintro σ1 Gc Hc ⟨l6, sg6, sl, s1, s12⟩
        obtain ⟨t0, t1, t2, t3, t4, t5, t6, t7, t8, t9, t10, t11, t12, t13, t14, t15, rfl⟩ := len16 sl
        cases Option.some.inj s1
        cases Option.some.inj s12
        clear s1 s12 sl
        dsimp only
        refine ds_for l6.e (dvi_row (ds := oddT m) (dv_tup (dva_cons dv_non (dva_cons dv_int (dva_cons dt0 (dva_cons (dv_tup2 dv_str dv_str) (dva_cons (dv_tup4 dv_str dv_str dt0 (dv_tup2 dv_str dv_str)) (dva_cons (dv_tup2 dv_str (dv_var rfl (.int _))) (dva_cons (dv_tup3 dv_str (dv_tup1 dv_str) (dv_tup1 dv_str)) (dva_cons (dv_tup4 dv_str dv_str dt0 (dv_tup2 dv_str dv_str)) dva_nil)))))))) (by simp)) rfl) fun G7 H7 e7 => ?_
        refine ⟨fun i σ Gc Hc => LS p (TLs pL pV) b Gc Hc ∧ Same G7 Gc ∧ σ.length = 16 ∧ σ[1]? = some (some (.ref p.1)) ∧ σ[12]? = some (some (.int m)), fun i σ Gc Hc ⟨l, h, _⟩ => ⟨h, l.e⟩, ⟨l6.ext e7, Same.refl _, rfl, rfl, rfl⟩, ?_, ?_⟩
        · rintro i d σ1 Gc Hc hd ⟨l7, sg7, sl, s1, s12⟩ x G8 H8 e8 rx
          have hdm := List.mem_of_getElem? hd
          have hno := oddT_none hm1 hm3 hdm
          have hlt := oddT_lt d hdm
          have hsb : SB 11 (.tuple [.str "term", d]) := pair_sb hlt.1.sb (by decide)
          have htT : Told Y [.int (m : Int), d] (.tuple [.str "term", d]) (.ex Y.eT.C "term" 1) := ⟨"term", d, .t, rfl, rfl⟩
          obtain ⟨t0, t1, t2, t3, t4, t5, t6, t7, t8, t9, t10, t11, t12, t13, t14, t15, rfl⟩ := len16 sl
          cases Option.some.inj s1
          cases Option.some.inj s12
          clear s1 s12 sl
          show tIfS _ _ _ _ _ _
          refine ls_if (b := !true) (l7.ext e8) (lvt_not (lvt_B (lv_call LSt.ls (lva_cons (lv_met Y LSt.ls (xv_call (dva_cons (dv_var rfl (.int _)) (dva_cons (dv_var rfl rx) dva_nil)) rfl ⟨.int m, d, rfl, hlt.1.mono (by omega), by omega, base_no hm1 hm3 hno⟩) htT) (lva_cons (lv_dv LSt.ls (dv_tup2 dv_str (dv_var rfl rx))) lva_nil)) rfl (same_ok (n := 70) (hsb.mono (by decide)))))) (fun h => by cases h) fun _ G9 H9 e9 l9 => ?_
          exact ⟨G9, l9, sg7.trans (e8.gg.trans e9), rfl, rfl, rfl⟩
        · rintro σ1 Gc Hc ⟨l7, sg7, sl, s1, s12⟩
          refine ⟨Gc, ⟨⟨b, ?_, l7⟩, ?_, sl, s1⟩⟩
          · rw [hr4, hrest]
            exact hb'
          · exact sg2.trans (e5.gg.trans (sg5.trans (e6.gg.trans (sg6.trans (e7.gg.trans sg7)))))
  · rintro σ1 Gc Hc ⟨⟨b, hb, l2⟩, sg2, sl, s1⟩
    obtain ⟨t0, t1, t2, t3, t4, t5, t6, t7, t8, t9, t10, t11, t12, t13, t14, t15, rfl⟩ := len16 sl
    cases Option.some.inj s1
    clear s1 sl
    dsimp only
    have dt0 : ∀ {σ : L2.St} {G H : Hp}, Dv K (tTup tNil) σ G H (.tuple []) := dv_tup dva_nil (Nat.zero_le _)
    have cN : CodeOk .none := fun l hl => by cases hl
    have lN : Lt 60 .none := ⟨by simp [PyData.depth], rfl, rfl⟩
    have h0 : Told Y [.int 0, .none] (.tuple [.str "many", .int 0]) (.ex Y.eM.C "many" 0) := ⟨"many", .int 0, .m, rfl, rfl⟩
    have h1 : Told Y [.bool true, .none] (.tuple [.str "many", .bool true]) (.ex Y.eM.C "many" 0) := ⟨"many", .bool true, .m, rfl, rfl⟩
    have lex : Lt 10 exT.py := Lt.mkT (by simp) (mem3 (lt_str _ _) (Lt.mkT (by simp) (mem4 (lt_str _ _) (lt_str _ _) (k01.lt (.inl rfl) |>.mono (by omega)) (Lt.mkT (by simp) (mem2 (lt_str _ _) (lt_str _ _)) (by simp))) (by simp)) (Lt.mkT (by simp) (mem2 (lt_str _ _) (Lt.int _ _)) (by simp))) (by simp)
    refine ds_seq ?_
    refine ls_set (K := K) (S := LS p (TLs pL pV) b) l2 (lv_lst LSt.ls (lva_cons (lv_met Y LSt.ls (xv_call (dva_cons dv_int (dva_cons dv_non dva_nil)) rfl ⟨.int 0, .none, rfl, lN, by decide, (if_neg (by decide)).symm⟩) h0) (lva_cons (lv_met Y LSt.ls (xv_call (dva_cons dv_bl (dva_cons dv_non dva_nil)) rfl ⟨.bool true, .none, rfl, cN, (if_neg (by decide)).symm⟩) h1) (lva_cons (lv_dv LSt.ls (dv_callX (d := .list (dueL exT)) (dva_cons (dv_int (z := 2)) (dva_cons (Dv.is (d' := exT.py) (dv_tup3 dv_str (dv_tup4 dv_str dv_str dt0 (dv_tup2 dv_str dv_str)) (dv_tup2 dv_str dv_int)) rfl) dva_nil)) rfl ⟨.int 2, exT.py, rfl, lex.mono (by omega), by decide, ex_of (CT := Y.eT.C)⟩)) lva_nil))) (by simp)) fun vf G3 H3 e3 l3 rf => ?_
    dsimp only [gName]
    refine ds_seq ?_
    refine ds_set (K := K) (d := .list [.tuple [.str "many", .int 0], .tuple [.str "many", .bool true], .list (dueL exT)]) l3.e (dv_lst (dva_cons (dv_tup2 dv_str dv_int) (dva_cons (dv_tup2 dv_str dv_bl) (dva_cons (Dv.is (dv_lst (dva_cons (dv_tup3 dv_str dv_int dv_int) (dva_cons (dv_tup4 dv_str dv_str dt0 dv_int) (dva_cons (dv_tup2 dv_str dv_int) (dva_cons (dv_tup2 dv_str dv_int) dva_nil)))) (by simp)) (congrArg PyData.list exT_code.symm)) dva_nil))) (by simp)) fun vd G4 H4 e4 rd => ?_
    have l4 := l3.ext e4
    replace rf := e4.rp rf
    dsimp only [gName]
    refine ds_seq ?_
    refine ds_set (K := K) (d := shared) l4.e (Dv.is (dv_addL (dv_lcA (f := atF) (ds := rints 0 40) (dvi_range1 (n := 40) dv_int (by omega)) (by simp [rints]) fun d hd x G5 H5 e5 rx => ?_) (dv_lst1 (dv_tup2 dv_str dv_int)) (by simp [rints])) shared_eq) fun vs G5 H5 e5 rs => ?_
    · obtain ⟨k, _, rfl⟩ := rints_mem hd
      cases rx
      exact dv_tup3 dv_str (dv_addI dv_int (dv_var rfl (.int _))) (dv_addI dv_int (dv_var rfl (.int _)))
    have l5 := l4.ext e5
    replace rf := e5.rp rf
    replace rd := e5.rp rd
    dsimp only [gName]
    have hsh : needO Y.eM.C Y.eC.C Tm.py (.int 2) shared = .ex Y.eC.C "code" 1 := need_no (m := 2) (by omega) (by omega) (Option.isNone_iff_eq_none.mp shared_no)
    have hts : Told Y [.int 2, shared] (.tuple [.str "code", shared]) (.ex Y.eC.C "code" 1) := ⟨"code", shared, .c, rfl, rfl⟩
    refine ds_seq ?_
    refine ls_if (b := !true) l5 (lvt_not (lvt_B (lv_call LSt.ls (lva_cons (lv_met Y LSt.ls (xv_call (dva_cons dv_int (dva_cons (dv_var rfl rs) dva_nil)) rfl ⟨.int 2, shared, rfl, shared_ok, hsh.symm⟩) hts) (lva_cons (lv_dv LSt.ls (dv_tup2 dv_str (dv_var rfl rs))) lva_nil)) rfl (same_ok (n := 70) ((pair_sb shared_sb (by decide)).mono (by decide)))))) (fun h => by cases h) fun _ G6 H6 e6 l6 => ?_
    replace rf := Rp.mono e6 _ _ rf
    replace rd := Rp.mono e6 _ _ rd
    show tSeq _ _ _ _ _
    refine ds_seq ?_
    have sbf : SB 6 (.list [.tuple [.str "many", .int 0], .tuple [.str "many", .bool true], .list (dueL exT)]) := by
      rw [exT_code]
      simp [SB]
    refine ds_orF l6.e (DvT.is (dvt_not (dvt_B (dv_call2 (f := fun a b => .bool (sameD a b)) (dv_var rfl rf) (dv_var rfl rd) ⟨sbf.mono (by decide), sbf.mono (by decide)⟩))) (not_same sbf)) fun G7 H7 e7 => ?_
    have l7 := l6.ext e7
    refine very_lam (L := L1 (P := P) (w := w) (base := base) T Y) .c l7.t (L1_asks T Y) fun H8 t8 => ⟨true, rfl, ?_⟩
    show tNext _ _ _
    exact very_lam (L := L2' (P := P) (w := w) (base := base) T Y) .t t8 (L2_asks T Y) fun H9 _ => hQ H9
end
end K82

set_option Elab.async false
set_option linter.all false
set_option maxRecDepth 100000
set_option maxHeartbeats 8000000
/-! What the program's top has left (printed by genhead.py). -/
namespace K82
open PySem PySem.Spec PyProof.Rows L2 LamX
abbrev BdT (x q : Str) (st : Stmt) (ps : List Str) : Prop := ∀ (kV doc pm : Value) (an : Option Addr) (cdv ct : Value) (us : List Value), us.length = ps.length → bindArgs (PySem.W.fnOf x q (defArgs st) (defBody st) (defScope st) .none kV doc pm an cdv ct) ⟨us, []⟩ = pure (ps.zip us)
theorem bd_is_list : BdT "is_list" "is_list" s_is_list ["thing"] := fun _ _ _ _ _ _ us hl => match us, hl with | [_], _ => rfl
theorem bd_is_whole : BdT "is_whole" "is_whole" s_is_whole ["thing"] := fun _ _ _ _ _ _ us hl => match us, hl with | [_], _ => rfl
theorem bd_is_number : BdT "is_number" "is_number" s_is_number ["thing"] := fun _ _ _ _ _ _ us hl => match us, hl with | [_], _ => rfl
theorem bd_is_below : BdT "is_below" "is_below" s_is_below ["thing", "most"] := fun _ _ _ _ _ _ us hl => match us, hl with | [_, _], _ => rfl
theorem bd_is_row : BdT "is_row" "is_row" s_is_row ["thing", "many"] := fun _ _ _ _ _ _ us hl => match us, hl with | [_, _], _ => rfl
theorem bd_as_tuples : BdT "as_tuples" "as_tuples" s_as_tuples ["thing"] := fun _ _ _ _ _ _ us hl => match us, hl with | [_], _ => rfl
theorem bd_is_type : BdT "is_type" "is_type" s_is_type ["thing"] := fun _ _ _ _ _ _ us hl => match us, hl with | [_], _ => rfl
theorem bd_kept_type : BdT "kept_type" "kept_type" s_kept_type ["thing"] := fun _ _ _ _ _ _ us hl => match us, hl with | [_], _ => rfl
theorem bd_is_many : BdT "is_many" "is_many" s_is_many ["thing"] := fun _ _ _ _ _ _ us hl => match us, hl with | [_], _ => rfl
theorem bd_check_many : BdT "check_many" "check_many" s_check_many ["many"] := fun _ _ _ _ _ _ us hl => match us, hl with | [_], _ => rfl
theorem bd_is_name : BdT "is_name" "is_name" s_is_name ["thing"] := fun _ _ _ _ _ _ us hl => match us, hl with | [_], _ => rfl
theorem bd_kept_all : BdT "kept_all" "kept_all" s_kept_all ["many", "things"] := fun _ _ _ _ _ _ us hl => match us, hl with | [_, _], _ => rfl
theorem bd_kept_binder : BdT "kept_binder" "kept_binder" s_kept_binder ["many", "thing"] := fun _ _ _ _ _ _ us hl => match us, hl with | [_, _], _ => rfl
theorem bd_kept_case : BdT "kept_case" "kept_case" s_kept_case ["many", "thing"] := fun _ _ _ _ _ _ us hl => match us, hl with | [_, _], _ => rfl
theorem bd_kept_term : BdT "kept_term" "kept_term" s_kept_term ["many", "thing"] := fun _ _ _ _ _ _ us hl => match us, hl with | [_, _], _ => rfl
theorem bd_own_parts : BdT "own_parts" "own_parts" s_own_parts ["term"] := fun _ _ _ _ _ _ us hl => match us, hl with | [_], _ => rfl
theorem bd_joined_type : BdT "joined_type" "joined_type" s_joined_type ["term", "kinds", "names"] := fun _ _ _ _ _ _ us hl => match us, hl with | [_, _, _], _ => rfl
theorem bd_type_within : BdT "type_within" "type_within" s_type_within ["names", "term", "path", "found"] := fun _ _ _ _ _ _ us hl => match us, hl with | [_, _, _, _], _ => rfl
theorem bd_own_type : BdT "own_type" "own_type" s_own_type ["names", "term"] := fun _ _ _ _ _ _ us hl => match us, hl with | [_, _], _ => rfl
theorem bd_base_term : BdT "base_term" "base_term" s_base_term ["many", "thing"] := fun _ _ _ _ _ _ us hl => match us, hl with | [_, _], _ => rfl
theorem bd_put_code : BdT "put_code" "put_code" s_put_code ["term", "bound", "code"] := fun _ _ _ _ _ _ us hl => match us, hl with | [_, _, _], _ => rfl
theorem bd_own_code : BdT "own_code" "own_code" s_own_code ["term"] := fun _ _ _ _ _ _ us hl => match us, hl with | [_], _ => rfl
theorem bd_code_of : BdT "code_of" "code_of" s_code_of ["many", "term"] := fun _ _ _ _ _ _ us hl => match us, hl with | [_, _], _ => rfl
theorem bd_numbers_of : BdT "numbers_of" "numbers_of" s_numbers_of ["thing"] := fun _ _ _ _ _ _ us hl => match us, hl with | [_], _ => rfl
theorem bd_decoded : BdT "decoded" "decoded" s_decoded ["code", "number", "bound"] := fun _ _ _ _ _ _ us hl => match us, hl with | [_, _, _], _ => rfl
theorem bd_read_code : BdT "read_code" "read_code" s_read_code ["many", "code"] := fun _ _ _ _ _ _ us hl => match us, hl with | [_, _], _ => rfl
theorem bd_need_code : BdT "need_code" "need_code" s_need_code ["many", "code"] := fun _ _ _ _ _ _ us hl => match us, hl with | [_, _], _ => rfl
theorem bd_term_of : BdT "term_of" "term_of" s_term_of ["many", "code"] := fun _ _ _ _ _ _ us hl => match us, hl with | [_, _], _ => rfl
theorem bd_law_stream : BdT "_law_stream" "_law_stream" s_law_stream ["script"] := fun _ _ _ _ _ _ us hl => match us, hl with | [_], _ => rfl
theorem bd_law_draw : BdT "_law_draw" "_law_draw" s_law_draw ["stream", "many"] := fun _ _ _ _ _ _ us hl => match us, hl with | [_, _], _ => rfl
theorem bd_law_pick : BdT "_law_pick" "_law_pick" s_law_pick ["stream", "things"] := fun _ _ _ _ _ _ us hl => match us, hl with | [_, _], _ => rfl
theorem bd_law_same : BdT "_law_same" "_law_same" s_law_same ["found", "due"] := fun _ _ _ _ _ _ us hl => match us, hl with | [_, _], _ => rfl
theorem bd_law_copied : BdT "_law_copied" "_law_copied" s_law_copied ["thing"] := fun _ _ _ _ _ _ us hl => match us, hl with | [_], _ => rfl
theorem bd_law_loose : BdT "_law_loose" "_law_loose" s_law_loose ["stream", "thing"] := fun _ _ _ _ _ _ us hl => match us, hl with | [_, _], _ => rfl
theorem bd_law_is_very : BdT "_law_is_very" "_law_is_very" s_law_is_very ["word", "ask"] := fun _ _ _ _ _ _ us hl => match us, hl with | [_, _], _ => rfl
theorem bd_law_bound_name : BdT "_law_bound_name" "_law_bound_name" s_law_bound_name ["stream", "names"] := fun _ _ _ _ _ _ us hl => match us, hl with | [_, _], _ => rfl
theorem bd_law_with : BdT "_law_with" "_law_with" s_law_with ["names", "name", "kind"] := fun _ _ _ _ _ _ us hl => match us, hl with | [_, _, _], _ => rfl
theorem bd_law_called : BdT "_law_called" "_law_called" s_law_called ["stream", "many", "names", "head", "kinds", "size"] := fun _ _ _ _ _ _ us hl => match us, hl with | [_, _, _, _, _, _], _ => rfl
theorem bd_law_heads : BdT "_law_heads" "_law_heads" s_law_heads ["names", "kind"] := fun _ _ _ _ _ _ us hl => match us, hl with | [_, _], _ => rfl
theorem bd_law_small : BdT "_law_small" "_law_small" s_law_small ["stream", "many", "names", "kind"] := fun _ _ _ _ _ _ us hl => match us, hl with | [_, _, _, _], _ => rfl
theorem bd_law_term : BdT "_law_term" "_law_term" s_law_term ["stream", "many", "names", "kind", "size"] := fun _ _ _ _ _ _ us hl => match us, hl with | [_, _, _, _, _], _ => rfl
theorem bd_law_parts : BdT "_law_parts" "_law_parts" s_law_parts ["term"] := fun _ _ _ _ _ _ us hl => match us, hl with | [_], _ => rfl
theorem bd_law_size : BdT "_law_size" "_law_size" s_law_size ["term"] := fun _ _ _ _ _ _ us hl => match us, hl with | [_], _ => rfl
theorem bd_law_free : BdT "_law_free" "_law_free" s_law_free ["term"] := fun _ _ _ _ _ _ us hl => match us, hl with | [_], _ => rfl
theorem bd_law_type_in : BdT "_law_type_in" "_law_type_in" s_law_type_in ["names", "term"] := fun _ _ _ _ _ _ us hl => match us, hl with | [_, _], _ => rfl
theorem bd_law_below : BdT "_law_below" "_law_below" s_law_below ["one", "other"] := fun _ _ _ _ _ _ us hl => match us, hl with | [_, _], _ => rfl
theorem bd_law_all : BdT "_law_all" "_law_all" s_law_all ["book", "many", "kind"] := fun _ _ _ _ _ _ us hl => match us, hl with | [_, _, _], _ => rfl
theorem bd_law_s_is_kind : BdT "_law_s_is_kind" "_law_s_is_kind" s_law_s_is_kind ["thing"] := fun _ _ _ _ _ _ us hl => match us, hl with | [_], _ => rfl
theorem bd_law_s_is_name : BdT "_law_s_is_name" "_law_s_is_name" s_law_s_is_name ["thing"] := fun _ _ _ _ _ _ us hl => match us, hl with | [_], _ => rfl
theorem bd_law_s_is_term : BdT "_law_s_is_term" "_law_s_is_term" s_law_s_is_term ["many", "thing"] := fun _ _ _ _ _ _ us hl => match us, hl with | [_, _], _ => rfl
theorem bd_law_s_is_closed : BdT "_law_s_is_closed" "_law_s_is_closed" s_law_s_is_closed ["many", "kind", "thing"] := fun _ _ _ _ _ _ us hl => match us, hl with | [_, _, _], _ => rfl
theorem bd_law_s_fit_kind : BdT "_law_s_fit_kind" "_law_s_fit_kind" s_law_s_fit_kind ["book", "many", "kind"] := fun _ _ _ _ _ _ us hl => match us, hl with | [_, _, _], _ => rfl
theorem bd_law_s_fits : BdT "_law_s_fits" "_law_s_fits" s_law_s_fits ["book", "many", "names", "term"] := fun _ _ _ _ _ _ us hl => match us, hl with | [_, _, _, _], _ => rfl
theorem bd_law_s_term : BdT "_law_s_term" "_law_s_term" s_law_s_term ["stream", "book", "many", "names", "kind", "size"] := fun _ _ _ _ _ _ us hl => match us, hl with | [_, _, _, _, _, _], _ => rfl
theorem bd_law_s_never : BdT "_law_s_never" "_law_s_never" s_law_s_never ["kind"] := fun _ _ _ _ _ _ us hl => match us, hl with | [_], _ => rfl
theorem bd_law_met : BdT "_law_met" "_law_met" s_law_met ["ask"] := fun _ _ _ _ _ _ us hl => match us, hl with | [_], _ => rfl
theorem bd_law_put_code : BdT "_law_put_code" "_law_put_code" s_law_put_code ["term", "bound", "code"] := fun _ _ _ _ _ _ us hl => match us, hl with | [_, _, _], _ => rfl
theorem bd_law_bent : BdT "_law_bent" "_law_bent" s_law_bent ["stream", "code"] := fun _ _ _ _ _ _ us hl => match us, hl with | [_, _], _ => rfl
theorem bd_law_tupled : BdT "_law_tupled" "_law_tupled" s_law_tupled ["thing"] := fun _ _ _ _ _ _ us hl => match us, hl with | [_], _ => rfl
theorem bd_law_is_of : BdT "_law_is_of" "_law_is_of" s_law_is_of ["many", "thing", "others"] := fun _ _ _ _ _ _ us hl => match us, hl with | [_, _, _], _ => rfl
theorem bd_law_code : BdT "_law_code" "_law_code" s_law_code ["term"] := fun _ _ _ _ _ _ us hl => match us, hl with | [_], _ => rfl
theorem bd_law : BdT "law" "law" s_law ["script"] := fun _ _ _ _ _ _ us hl => match us, hl with | [_], _ => rfl
theorem bd_iM : BdT "__init__" "BadMany.__init__" (iniOf 9) ["self", "many"] := fun _ _ _ _ _ _ us hl => match us, hl with | [_, _], _ => rfl
theorem bd_iT : BdT "__init__" "BadTerm.__init__" (iniOf 10) ["self", "term"] := fun _ _ _ _ _ _ us hl => match us, hl with | [_, _], _ => rfl
theorem bd_iC : BdT "__init__" "BadCode.__init__" (iniOf 12) ["self", "code"] := fun _ _ _ _ _ _ us hl => match us, hl with | [_, _], _ => rfl
section
variable {K : PySem.W.Frag} {mg : Str → Option Value} {h : Heap}
def df_mk (X : K.In h) (G : h.Ns mainGlobals mg) {x : Str} {st : Stmt} {ps : List Str} (hb : BdT x x st ps) {f : Addr} {oc : Value} {od an : Option Addr} {osl : Array (Option Value)} {kV doc pm cdv ct : Value} (a : PySem.W.nsIn K mainGlobals x = some (some (.ref f)))
    (l : K.lookup f = some ⟨oc, od, .func (PySem.W.fnOf x x (defArgs st) (defBody st) (defScope st) .none kV doc pm an cdv ct), osl⟩) (c : PySem.W.codeIn K cdv x = true) (k : PySem.W.keepIn K (.ref f) = true) : Df K mg x st ps :=
  ⟨f, PySem.W.fnOf x x (defArgs st) (defBody st) (defScope st) .none kV doc pm an cdv ct, fun_mk l c k, PySem.W.mg_of X G a, (fun_mk l c k).binds hb⟩
theorem exm_of {C D : Addr} {b : Bool} (h1 : PySem.W.subIn K (.ref D) (.type "BaseException") = some true) (h2 : PySem.W.isClsIn K D = true) (h3 : PySem.W.typeIn K (.ref D) = some (.type "type")) (h4 : PySem.W.subIn K (.ref C) (.ref D) = some b) : PySem.W.exmOne K (.ref C) (.ref D) = some b := by
  unfold PySem.W.exmOne
  rw [h1, if_pos (by rfl)]
  unfold PySem.W.kitCls
  have h2' : (PySem.W.clsIn K D).isSome = true := h2
  simp only [h2', h3, Bool.true_and]
  rw [if_pos (by rfl)]
  exact h4
def ec_mk (X : K.In h) (G : h.Ns mainGlobals mg) {x q f : Str} {st : Stmt} (hb : BdT "__init__" q st ["self", f]) {C fI : Addr} {nm qn : Str} {N : Addr} {bs bm : List Value} {sn : List Str} {sub : List Value} {ab : Bool} {col : Option Bool} {dd : Option Addr} {m0 m1 m2 m3 m5 : Option Value}
    {oc : Value} {od an : Option Addr} {osl : Array (Option Value)} {kV doc pm cdv ct : Value} (aC : PySem.W.nsIn K mainGlobals x = some (some (.ref C)))
    (xL : K.lookup C = some (excClassObj nm qn C N bs bm true sn sub ab col dd m0 m1 m2 m3 m5 "ValueError.__new__")) (hbm : PySem.HandSPX.refsVE bm = true)
    (sa : PySem.W.findIn K (.ref C) "__setattr__" = some (some (.builtin "object.__setattr__"))) (ga : PySem.W.findIn K (.ref C) "__getattribute__" = some (some (.builtin "BaseException.__getattribute__"))) (gg : PySem.W.findIn K (.ref C) "__getattr__" = some none) (no : PySem.W.findIn K (.ref C) f = some none)
    (eC : PySem.W.subIn K (.ref C) (.type "BaseException") = some true) (tC : PySem.W.typeIn K (.ref C) = some (.type "type")) (kC : PySem.W.keepIn K (.ref C) = true) (hC : PySem.W.hasDictIn K C = true)
    (iC : PySem.W.findIn K (.ref C) "__init__" = some (some (.ref fI))) (tI : PySem.W.typeIn K (.ref fI) = some (.type "function"))
    (l : K.lookup fI = some ⟨oc, od, .func (PySem.W.fnOf "__init__" q (defArgs st) (defBody st) (defScope st) .none kV doc pm an cdv ct), osl⟩) (c : PySem.W.codeIn K cdv q = true) (k : PySem.W.keepIn K (.ref fI) = true) : Ec K mg x q f st where
  C := C
  fI := fI
  fd := PySem.W.fnOf "__init__" q (defArgs st) (defBody st) (defScope st) .none kV doc pm an cdv ct
  m := PySem.W.mg_of X G aC
  T := ⟨⟨nm, qn, N, bs, bm, sn, sub, ab, col, dd, m0, m1, m2, m3, m5, xL, hbm⟩, sa, eC, tC, kC⟩
  F := fun_mk l c k
  iC := iC
  tI := tI
  b := (fun_mk l c k).binds hb
  no := no
  xf := ⟨ga, gg, eC, hC⟩
theorem binds_mk {aB : Addr} {od : Option Addr} {t1 t2 n : Nat} {sl : Array (Option Value)} (l : K.lookup aB = some ⟨.type "tuple", od, .seq #[.str "fun" t1, .str "fix" t2] n, sl⟩) : ∀ H : Hp, SqT K H aB [.str "fun", .str "fix"] := fun H =>
  .inr ⟨_, _, _, l, rfl, rfl, by show 2 ≤ sizeLine; decide, .cons ⟨_, rfl⟩ (.cons ⟨_, rfl⟩ .nil)⟩
def txt_mk (X : K.In h) (G : h.Ns mainGlobals mg) (d_is_list : Df K mg "is_list" s_is_list ["thing"]) (d_is_whole : Df K mg "is_whole" s_is_whole ["thing"]) (d_is_number : Df K mg "is_number" s_is_number ["thing"]) (d_is_below : Df K mg "is_below" s_is_below ["thing", "most"]) (d_is_row : Df K mg "is_row" s_is_row ["thing", "many"]) (d_as_tuples : Df K mg "as_tuples" s_as_tuples ["thing"]) (d_is_type : Df K mg "is_type" s_is_type ["thing"]) (d_kept_type : Df K mg "kept_type" s_kept_type ["thing"]) (d_is_many : Df K mg "is_many" s_is_many ["thing"]) (d_check_many : Df K mg "check_many" s_check_many ["many"]) (d_is_name : Df K mg "is_name" s_is_name ["thing"]) (d_kept_all : Df K mg "kept_all" s_kept_all ["many", "things"]) (d_kept_binder : Df K mg "kept_binder" s_kept_binder ["many", "thing"]) (d_kept_case : Df K mg "kept_case" s_kept_case ["many", "thing"]) (d_kept_term : Df K mg "kept_term" s_kept_term ["many", "thing"]) (d_own_parts : Df K mg "own_parts" s_own_parts ["term"]) (d_joined_type : Df K mg "joined_type" s_joined_type ["term", "kinds", "names"]) (d_type_within : Df K mg "type_within" s_type_within ["names", "term", "path", "found"]) (d_own_type : Df K mg "own_type" s_own_type ["names", "term"]) (d_base_term : Df K mg "base_term" s_base_term ["many", "thing"]) (d_put_code : Df K mg "put_code" s_put_code ["term", "bound", "code"]) (d_own_code : Df K mg "own_code" s_own_code ["term"]) (d_code_of : Df K mg "code_of" s_code_of ["many", "term"]) (d_numbers_of : Df K mg "numbers_of" s_numbers_of ["thing"]) (d_decoded : Df K mg "decoded" s_decoded ["code", "number", "bound"]) (d_read_code : Df K mg "read_code" s_read_code ["many", "code"]) (d_need_code : Df K mg "need_code" s_need_code ["many", "code"]) (d_term_of : Df K mg "term_of" s_term_of ["many", "code"]) (d_law_stream : Df K mg "_law_stream" s_law_stream ["script"]) (d_law_draw : Df K mg "_law_draw" s_law_draw ["stream", "many"]) (d_law_pick : Df K mg "_law_pick" s_law_pick ["stream", "things"]) (d_law_same : Df K mg "_law_same" s_law_same ["found", "due"]) (d_law_copied : Df K mg "_law_copied" s_law_copied ["thing"]) (d_law_loose : Df K mg "_law_loose" s_law_loose ["stream", "thing"]) (d_law_is_very : Df K mg "_law_is_very" s_law_is_very ["word", "ask"]) (d_law_bound_name : Df K mg "_law_bound_name" s_law_bound_name ["stream", "names"]) (d_law_with : Df K mg "_law_with" s_law_with ["names", "name", "kind"]) (d_law_called : Df K mg "_law_called" s_law_called ["stream", "many", "names", "head", "kinds", "size"]) (d_law_heads : Df K mg "_law_heads" s_law_heads ["names", "kind"]) (d_law_small : Df K mg "_law_small" s_law_small ["stream", "many", "names", "kind"]) (d_law_term : Df K mg "_law_term" s_law_term ["stream", "many", "names", "kind", "size"]) (d_law_parts : Df K mg "_law_parts" s_law_parts ["term"]) (d_law_size : Df K mg "_law_size" s_law_size ["term"]) (d_law_free : Df K mg "_law_free" s_law_free ["term"]) (d_law_type_in : Df K mg "_law_type_in" s_law_type_in ["names", "term"]) (d_law_below : Df K mg "_law_below" s_law_below ["one", "other"]) (d_law_all : Df K mg "_law_all" s_law_all ["book", "many", "kind"]) (d_law_s_is_kind : Df K mg "_law_s_is_kind" s_law_s_is_kind ["thing"]) (d_law_s_is_name : Df K mg "_law_s_is_name" s_law_s_is_name ["thing"]) (d_law_s_is_term : Df K mg "_law_s_is_term" s_law_s_is_term ["many", "thing"]) (d_law_s_is_closed : Df K mg "_law_s_is_closed" s_law_s_is_closed ["many", "kind", "thing"]) (d_law_s_fit_kind : Df K mg "_law_s_fit_kind" s_law_s_fit_kind ["book", "many", "kind"]) (d_law_s_fits : Df K mg "_law_s_fits" s_law_s_fits ["book", "many", "names", "term"]) (d_law_s_term : Df K mg "_law_s_term" s_law_s_term ["stream", "book", "many", "names", "kind", "size"]) (d_law_s_never : Df K mg "_law_s_never" s_law_s_never ["kind"]) (d_law_met : Df K mg "_law_met" s_law_met ["ask"]) (d_law_put_code : Df K mg "_law_put_code" s_law_put_code ["term", "bound", "code"]) (d_law_bent : Df K mg "_law_bent" s_law_bent ["stream", "code"]) (d_law_tupled : Df K mg "_law_tupled" s_law_tupled ["thing"]) (d_law_is_of : Df K mg "_law_is_of" s_law_is_of ["many", "thing", "others"]) (d_law_code : Df K mg "_law_code" s_law_code ["term"]) (z_isinstance : PySem.W.nsIn K mainGlobals "isinstance" = some none) (z_int : PySem.W.nsIn K mainGlobals "int" = some none) (z_bool : PySem.W.nsIn K mainGlobals "bool" = some none) (z_str : PySem.W.nsIn K mainGlobals "str" = some none) (z_list : PySem.W.nsIn K mainGlobals "list" = some none) (z_tuple : PySem.W.nsIn K mainGlobals "tuple" = some none) (z_dict : PySem.W.nsIn K mainGlobals "dict" = some none) (z_len : PySem.W.nsIn K mainGlobals "len" = some none) (z_all : PySem.W.nsIn K mainGlobals "all" = some none) (z_enumerate : PySem.W.nsIn K mainGlobals "enumerate" = some none) (z_range : PySem.W.nsIn K mainGlobals "range" = some none) (z_zip : PySem.W.nsIn K mainGlobals "zip" = some none) (z_abs : PySem.W.nsIn K mainGlobals "abs" = some none) (z_max : PySem.W.nsIn K mainGlobals "max" = some none) (z_min : PySem.W.nsIn K mainGlobals "min" = some none) (z_sum : PySem.W.nsIn K mainGlobals "sum" = some none) (z_sorted : PySem.W.nsIn K mainGlobals "sorted" = some none) {tS : Tok} (aS : PySem.W.nsIn K mainGlobals "SMALL" = some (some (.str "abcdefghijklmnopqrstuvwxyz" tS))) {aB : Addr} (aB1 : PySem.W.nsIn K mainGlobals "BINDS" = some (some (.ref aB))) {od : Option Addr} {t1 t2 n : Nat} {sl : Array (Option Value)} (lB : K.lookup aB = some ⟨.type "tuple", od, .seq #[.str "fun" t1, .str "fix" t2] n, sl⟩) : Txt K mg where
  is_list := d_is_list
  is_whole := d_is_whole
  is_number := d_is_number
  is_below := d_is_below
  is_row := d_is_row
  as_tuples := d_as_tuples
  is_type := d_is_type
  kept_type := d_kept_type
  is_many := d_is_many
  check_many := d_check_many
  is_name := d_is_name
  kept_all := d_kept_all
  kept_binder := d_kept_binder
  kept_case := d_kept_case
  kept_term := d_kept_term
  own_parts := d_own_parts
  joined_type := d_joined_type
  type_within := d_type_within
  own_type := d_own_type
  base_term := d_base_term
  put_code := d_put_code
  own_code := d_own_code
  code_of := d_code_of
  numbers_of := d_numbers_of
  decoded := d_decoded
  read_code := d_read_code
  need_code := d_need_code
  term_of := d_term_of
  law_stream := d_law_stream
  law_draw := d_law_draw
  law_pick := d_law_pick
  law_same := d_law_same
  law_copied := d_law_copied
  law_loose := d_law_loose
  law_is_very := d_law_is_very
  law_bound_name := d_law_bound_name
  law_with := d_law_with
  law_called := d_law_called
  law_heads := d_law_heads
  law_small := d_law_small
  law_term := d_law_term
  law_parts := d_law_parts
  law_size := d_law_size
  law_free := d_law_free
  law_type_in := d_law_type_in
  law_below := d_law_below
  law_all := d_law_all
  law_s_is_kind := d_law_s_is_kind
  law_s_is_name := d_law_s_is_name
  law_s_is_term := d_law_s_is_term
  law_s_is_closed := d_law_s_is_closed
  law_s_fit_kind := d_law_s_fit_kind
  law_s_fits := d_law_s_fits
  law_s_term := d_law_s_term
  law_s_never := d_law_s_never
  law_met := d_law_met
  law_put_code := d_law_put_code
  law_bent := d_law_bent
  law_tupled := d_law_tupled
  law_is_of := d_law_is_of
  law_code := d_law_code
  z_isinstance := PySem.W.mg_none_of X G z_isinstance
  z_int := PySem.W.mg_none_of X G z_int
  z_bool := PySem.W.mg_none_of X G z_bool
  z_str := PySem.W.mg_none_of X G z_str
  z_list := PySem.W.mg_none_of X G z_list
  z_tuple := PySem.W.mg_none_of X G z_tuple
  z_dict := PySem.W.mg_none_of X G z_dict
  z_len := PySem.W.mg_none_of X G z_len
  z_all := PySem.W.mg_none_of X G z_all
  z_enumerate := PySem.W.mg_none_of X G z_enumerate
  z_range := PySem.W.mg_none_of X G z_range
  z_zip := PySem.W.mg_none_of X G z_zip
  z_abs := PySem.W.mg_none_of X G z_abs
  z_max := PySem.W.mg_none_of X G z_max
  z_min := PySem.W.mg_none_of X G z_min
  z_sum := PySem.W.mg_none_of X G z_sum
  z_sorted := PySem.W.mg_none_of X G z_sorted
  tS := tS
  m_SMALL := PySem.W.mg_of X G aS
  aB := aB
  m_BINDS := PySem.W.mg_of X G aB1
  q_BINDS := binds_mk lB
theorem law_at {l : PySem.W.OpenLaw} {w : World} {fa fL cL pL cV pV : Addr} {oc : Value} {od an : Option Addr} {osl : Array (Option Value)} {kV doc pm ct : Value} (X : K.In h) (G : h.Ns mainGlobals mg) (hfa : mg "law" = some (.ref fa))
    (aL : PySem.W.nsIn K mainGlobals "law" = some (some (.ref fL))) (lL : K.lookup fL = some ⟨oc, od, .func (PySem.W.fnOf "law" "law" (defArgs s_law) (defBody s_law) (defScope s_law) .none kV doc pm an (.ref cL) ct), osl⟩) (coL : PySem.W.codeIn K (.ref cL) "law" = true) (kL : PySem.W.keepIn K (.ref fL) = true)
    (T : Txt K mg) (Y : Txe K mg) (hcV : T.law_is_very.fd.code = .ref cV) (tL : h.get? pL = some { cls := .none, data := .fields #[] }) (tV : h.get? pV = some { cls := .none, data := .fields #[] }) (nL : K.lookup pL = none) (nV : K.lookup pV = none)
    (hL : PySem.W.codeHdIn K cL pL = true) (hV : PySem.W.codeHdIn K cV pV = true) (hne : pL ≠ pV) : LawAtS l w K CX0 193 63 "script" mg fa h := by
  have e := hfa.symm.trans (PySem.W.mg_of X G aL)
  cases e
  have two : ∀ {Q : Addr × Addr → Prop}, Q (cL, pL) → Q (cV, pV) → ∀ p ∈ [(cL, pL), (cV, pV)], Q p := fun h1 h2 p hp => by
    simp only [List.mem_cons, List.not_mem_nil, or_false] at hp
    rcases hp with rfl | rfl
    · exact h1
    · exact h2
  refine ⟨_, [(cL, pL), (cV, pV)], spLaw K pL pV, two tL tV, two nL nV, two (PySem.W.codeHd_of_K X hL) (PySem.W.codeHd_of_K X hV), fun s u => .of_eq (bd_law kV doc pm an (.ref cL) ct [u] rfl), fun H a ns _ _ hH hS => ?_, fun base _ _ TB => ?_⟩
  · refine ⟨rfl, a, ns, rfl, hS, fun q hq => ?_, fun _ => rfl⟩
    simp only [TLs, List.mem_cons, List.not_mem_nil, or_false] at hq
    rcases hq with rfl | rfl
    · exact .nil (hH (cL, pL) (by simp))
    · exact .nil (hH (cV, pV) (by simp))
  · exact ok_law T Y (fun_mk lL coL kL) rfl hcV (TB (cL, pL) (by simp)) (TB (cV, pV) (by simp)) hne
end
end K82

open PySem PySem.W PyProof.Rows
set_option Elab.async false
set_option pp.deepTerms false
set_option pp.maxSteps 300
set_option maxRecDepth 100000 in
set_option maxHeartbeats 0 in
theorem PySem.Challenge.cw_sameinall_k82_whole_code_there_and_back_holds : PySem.Challenge.rw_sameinall_k82_whole_code_there_and_back.Holds := by
  w_on; o_law; k_head; (case hw => w_witness2)
  k_fill
  refine LamX.walk_ofTs (l := PySem.Challenge.rw_sameinall_k82_whole_code_there_and_back) (n := 63) (k := 193) (x := "script") (CX := fun _ => L2.CX0) rfl (by decide) rfl ⟨rfl, by decide, by decide⟩ (fun w h Y => PySem.W.km_in_of Y) ?F (fun _ _ _ _ _ z => z)
  case F =>
    intro w mg fa h Y KX G hmg
    have hT8 := PySem.W.km_tabs_of Y
    refine' K82.law_at KX G hmg ?aL ?lL ?coL ?kL ?T ?Y ?hcV ?tL ?tV ?nL ?nV ?hL ?hV ?hne
    (case aL => k_is); (case lL => k_is); (case coL => k_is); (case kL => k_is)
    case T =>
      refine' K82.txt_mk KX G ?d_is_list ?d_is_whole ?d_is_number ?d_is_below ?d_is_row ?d_as_tuples ?d_is_type ?d_kept_type ?d_is_many ?d_check_many ?d_is_name ?d_kept_all ?d_kept_binder ?d_kept_case ?d_kept_term ?d_own_parts ?d_joined_type ?d_type_within ?d_own_type ?d_base_term ?d_put_code ?d_own_code ?d_code_of ?d_numbers_of ?d_decoded ?d_read_code ?d_need_code ?d_term_of ?d_law_stream ?d_law_draw ?d_law_pick ?d_law_same ?d_law_copied ?d_law_loose ?d_law_is_very ?d_law_bound_name ?d_law_with ?d_law_called ?d_law_heads ?d_law_small ?d_law_term ?d_law_parts ?d_law_size ?d_law_free ?d_law_type_in ?d_law_below ?d_law_all ?d_law_s_is_kind ?d_law_s_is_name ?d_law_s_is_term ?d_law_s_is_closed ?d_law_s_fit_kind ?d_law_s_fits ?d_law_s_term ?d_law_s_never ?d_law_met ?d_law_put_code ?d_law_bent ?d_law_tupled ?d_law_is_of ?d_law_code ?z_isinstance ?z_int ?z_bool ?z_str ?z_list ?z_tuple ?z_dict ?z_len ?z_all ?z_enumerate ?z_range ?z_zip ?z_abs ?z_max ?z_min ?z_sum ?z_sorted ?mS ?mB ?qB
      (case d_is_list => refine' K82.df_mk KX G K82.bd_is_list ?a ?l ?c ?k; (case a => k_is); (case l => k_is); (case c => k_is); (case k => k_is))
      (case d_is_whole => refine' K82.df_mk KX G K82.bd_is_whole ?a ?l ?c ?k; (case a => k_is); (case l => k_is); (case c => k_is); (case k => k_is))
      (case d_is_number => refine' K82.df_mk KX G K82.bd_is_number ?a ?l ?c ?k; (case a => k_is); (case l => k_is); (case c => k_is); (case k => k_is))
      (case d_is_below => refine' K82.df_mk KX G K82.bd_is_below ?a ?l ?c ?k; (case a => k_is); (case l => k_is); (case c => k_is); (case k => k_is))
      (case d_is_row => refine' K82.df_mk KX G K82.bd_is_row ?a ?l ?c ?k; (case a => k_is); (case l => k_is); (case c => k_is); (case k => k_is))
      (case d_as_tuples => refine' K82.df_mk KX G K82.bd_as_tuples ?a ?l ?c ?k; (case a => k_is); (case l => k_is); (case c => k_is); (case k => k_is))
      (case d_is_type => refine' K82.df_mk KX G K82.bd_is_type ?a ?l ?c ?k; (case a => k_is); (case l => k_is); (case c => k_is); (case k => k_is))
      (case d_kept_type => refine' K82.df_mk KX G K82.bd_kept_type ?a ?l ?c ?k; (case a => k_is); (case l => k_is); (case c => k_is); (case k => k_is))
      (case d_is_many => refine' K82.df_mk KX G K82.bd_is_many ?a ?l ?c ?k; (case a => k_is); (case l => k_is); (case c => k_is); (case k => k_is))
      (case d_check_many => refine' K82.df_mk KX G K82.bd_check_many ?a ?l ?c ?k; (case a => k_is); (case l => k_is); (case c => k_is); (case k => k_is))
      (case d_is_name => refine' K82.df_mk KX G K82.bd_is_name ?a ?l ?c ?k; (case a => k_is); (case l => k_is); (case c => k_is); (case k => k_is))
      (case d_kept_all => refine' K82.df_mk KX G K82.bd_kept_all ?a ?l ?c ?k; (case a => k_is); (case l => k_is); (case c => k_is); (case k => k_is))
      (case d_kept_binder => refine' K82.df_mk KX G K82.bd_kept_binder ?a ?l ?c ?k; (case a => k_is); (case l => k_is); (case c => k_is); (case k => k_is))
      (case d_kept_case => refine' K82.df_mk KX G K82.bd_kept_case ?a ?l ?c ?k; (case a => k_is); (case l => k_is); (case c => k_is); (case k => k_is))
      (case d_kept_term => refine' K82.df_mk KX G K82.bd_kept_term ?a ?l ?c ?k; (case a => k_is); (case l => k_is); (case c => k_is); (case k => k_is))
      (case d_own_parts => refine' K82.df_mk KX G K82.bd_own_parts ?a ?l ?c ?k; (case a => k_is); (case l => k_is); (case c => k_is); (case k => k_is))
      (case d_joined_type => refine' K82.df_mk KX G K82.bd_joined_type ?a ?l ?c ?k; (case a => k_is); (case l => k_is); (case c => k_is); (case k => k_is))
      (case d_type_within => refine' K82.df_mk KX G K82.bd_type_within ?a ?l ?c ?k; (case a => k_is); (case l => k_is); (case c => k_is); (case k => k_is))
      (case d_own_type => refine' K82.df_mk KX G K82.bd_own_type ?a ?l ?c ?k; (case a => k_is); (case l => k_is); (case c => k_is); (case k => k_is))
      (case d_base_term => refine' K82.df_mk KX G K82.bd_base_term ?a ?l ?c ?k; (case a => k_is); (case l => k_is); (case c => k_is); (case k => k_is))
      (case d_put_code => refine' K82.df_mk KX G K82.bd_put_code ?a ?l ?c ?k; (case a => k_is); (case l => k_is); (case c => k_is); (case k => k_is))
      (case d_own_code => refine' K82.df_mk KX G K82.bd_own_code ?a ?l ?c ?k; (case a => k_is); (case l => k_is); (case c => k_is); (case k => k_is))
      (case d_code_of => refine' K82.df_mk KX G K82.bd_code_of ?a ?l ?c ?k; (case a => k_is); (case l => k_is); (case c => k_is); (case k => k_is))
      (case d_numbers_of => refine' K82.df_mk KX G K82.bd_numbers_of ?a ?l ?c ?k; (case a => k_is); (case l => k_is); (case c => k_is); (case k => k_is))
      (case d_decoded => refine' K82.df_mk KX G K82.bd_decoded ?a ?l ?c ?k; (case a => k_is); (case l => k_is); (case c => k_is); (case k => k_is))
      (case d_read_code => refine' K82.df_mk KX G K82.bd_read_code ?a ?l ?c ?k; (case a => k_is); (case l => k_is); (case c => k_is); (case k => k_is))
      (case d_need_code => refine' K82.df_mk KX G K82.bd_need_code ?a ?l ?c ?k; (case a => k_is); (case l => k_is); (case c => k_is); (case k => k_is))
      (case d_term_of => refine' K82.df_mk KX G K82.bd_term_of ?a ?l ?c ?k; (case a => k_is); (case l => k_is); (case c => k_is); (case k => k_is))
      (case d_law_stream => refine' K82.df_mk KX G K82.bd_law_stream ?a ?l ?c ?k; (case a => k_is); (case l => k_is); (case c => k_is); (case k => k_is))
      (case d_law_draw => refine' K82.df_mk KX G K82.bd_law_draw ?a ?l ?c ?k; (case a => k_is); (case l => k_is); (case c => k_is); (case k => k_is))
      (case d_law_pick => refine' K82.df_mk KX G K82.bd_law_pick ?a ?l ?c ?k; (case a => k_is); (case l => k_is); (case c => k_is); (case k => k_is))
      (case d_law_same => refine' K82.df_mk KX G K82.bd_law_same ?a ?l ?c ?k; (case a => k_is); (case l => k_is); (case c => k_is); (case k => k_is))
      (case d_law_copied => refine' K82.df_mk KX G K82.bd_law_copied ?a ?l ?c ?k; (case a => k_is); (case l => k_is); (case c => k_is); (case k => k_is))
      (case d_law_loose => refine' K82.df_mk KX G K82.bd_law_loose ?a ?l ?c ?k; (case a => k_is); (case l => k_is); (case c => k_is); (case k => k_is))
      (case d_law_is_very => refine' K82.df_mk KX G K82.bd_law_is_very ?a ?l ?c ?k; (case a => k_is); (case l => k_is); (case c => k_is); (case k => k_is))
      (case d_law_bound_name => refine' K82.df_mk KX G K82.bd_law_bound_name ?a ?l ?c ?k; (case a => k_is); (case l => k_is); (case c => k_is); (case k => k_is))
      (case d_law_with => refine' K82.df_mk KX G K82.bd_law_with ?a ?l ?c ?k; (case a => k_is); (case l => k_is); (case c => k_is); (case k => k_is))
      (case d_law_called => refine' K82.df_mk KX G K82.bd_law_called ?a ?l ?c ?k; (case a => k_is); (case l => k_is); (case c => k_is); (case k => k_is))
      (case d_law_heads => refine' K82.df_mk KX G K82.bd_law_heads ?a ?l ?c ?k; (case a => k_is); (case l => k_is); (case c => k_is); (case k => k_is))
      (case d_law_small => refine' K82.df_mk KX G K82.bd_law_small ?a ?l ?c ?k; (case a => k_is); (case l => k_is); (case c => k_is); (case k => k_is))
      (case d_law_term => refine' K82.df_mk KX G K82.bd_law_term ?a ?l ?c ?k; (case a => k_is); (case l => k_is); (case c => k_is); (case k => k_is))
      (case d_law_parts => refine' K82.df_mk KX G K82.bd_law_parts ?a ?l ?c ?k; (case a => k_is); (case l => k_is); (case c => k_is); (case k => k_is))
      (case d_law_size => refine' K82.df_mk KX G K82.bd_law_size ?a ?l ?c ?k; (case a => k_is); (case l => k_is); (case c => k_is); (case k => k_is))
      (case d_law_free => refine' K82.df_mk KX G K82.bd_law_free ?a ?l ?c ?k; (case a => k_is); (case l => k_is); (case c => k_is); (case k => k_is))
      (case d_law_type_in => refine' K82.df_mk KX G K82.bd_law_type_in ?a ?l ?c ?k; (case a => k_is); (case l => k_is); (case c => k_is); (case k => k_is))
      (case d_law_below => refine' K82.df_mk KX G K82.bd_law_below ?a ?l ?c ?k; (case a => k_is); (case l => k_is); (case c => k_is); (case k => k_is))
      (case d_law_all => refine' K82.df_mk KX G K82.bd_law_all ?a ?l ?c ?k; (case a => k_is); (case l => k_is); (case c => k_is); (case k => k_is))
      (case d_law_s_is_kind => refine' K82.df_mk KX G K82.bd_law_s_is_kind ?a ?l ?c ?k; (case a => k_is); (case l => k_is); (case c => k_is); (case k => k_is))
      (case d_law_s_is_name => refine' K82.df_mk KX G K82.bd_law_s_is_name ?a ?l ?c ?k; (case a => k_is); (case l => k_is); (case c => k_is); (case k => k_is))
      (case d_law_s_is_term => refine' K82.df_mk KX G K82.bd_law_s_is_term ?a ?l ?c ?k; (case a => k_is); (case l => k_is); (case c => k_is); (case k => k_is))
      (case d_law_s_is_closed => refine' K82.df_mk KX G K82.bd_law_s_is_closed ?a ?l ?c ?k; (case a => k_is); (case l => k_is); (case c => k_is); (case k => k_is))
      (case d_law_s_fit_kind => refine' K82.df_mk KX G K82.bd_law_s_fit_kind ?a ?l ?c ?k; (case a => k_is); (case l => k_is); (case c => k_is); (case k => k_is))
      (case d_law_s_fits => refine' K82.df_mk KX G K82.bd_law_s_fits ?a ?l ?c ?k; (case a => k_is); (case l => k_is); (case c => k_is); (case k => k_is))
      (case d_law_s_term => refine' K82.df_mk KX G K82.bd_law_s_term ?a ?l ?c ?k; (case a => k_is); (case l => k_is); (case c => k_is); (case k => k_is))
      (case d_law_s_never => refine' K82.df_mk KX G K82.bd_law_s_never ?a ?l ?c ?k; (case a => k_is); (case l => k_is); (case c => k_is); (case k => k_is))
      (case d_law_met => refine' K82.df_mk KX G K82.bd_law_met ?a ?l ?c ?k; (case a => k_is); (case l => k_is); (case c => k_is); (case k => k_is))
      (case d_law_put_code => refine' K82.df_mk KX G K82.bd_law_put_code ?a ?l ?c ?k; (case a => k_is); (case l => k_is); (case c => k_is); (case k => k_is))
      (case d_law_bent => refine' K82.df_mk KX G K82.bd_law_bent ?a ?l ?c ?k; (case a => k_is); (case l => k_is); (case c => k_is); (case k => k_is))
      (case d_law_tupled => refine' K82.df_mk KX G K82.bd_law_tupled ?a ?l ?c ?k; (case a => k_is); (case l => k_is); (case c => k_is); (case k => k_is))
      (case d_law_is_of => refine' K82.df_mk KX G K82.bd_law_is_of ?a ?l ?c ?k; (case a => k_is); (case l => k_is); (case c => k_is); (case k => k_is))
      (case d_law_code => refine' K82.df_mk KX G K82.bd_law_code ?a ?l ?c ?k; (case a => k_is); (case l => k_is); (case c => k_is); (case k => k_is))
      (case z_isinstance => k_is)
      (case z_int => k_is)
      (case z_bool => k_is)
      (case z_str => k_is)
      (case z_list => k_is)
      (case z_tuple => k_is)
      (case z_dict => k_is)
      (case z_len => k_is)
      (case z_all => k_is)
      (case z_enumerate => k_is)
      (case z_range => k_is)
      (case z_zip => k_is)
      (case z_abs => k_is)
      (case z_max => k_is)
      (case z_min => k_is)
      (case z_sum => k_is)
      (case z_sorted => k_is)
      (case mS => k_is); (case mB => k_is); (case qB => k_is)
    case Y =>
      refine' { eM := ?eM, eT := ?eT, eC := ?eC, mm := ?mm, tm := ?tm, tt := ?tt, cm := ?cm, ct := ?ct, cc := ?cc }
      (case eM => refine' K82.ec_mk KX G K82.bd_iM ?aC_M ?xL_M ?hbm_M ?sa_M ?ga_M ?gg_M ?no_M ?eC_M ?tC_M ?kC_M ?hC_M ?iC_M ?tI_M ?l_M ?c_M ?k_M; (case aC_M => k_is); (case xL_M => k_is); (case hbm_M => decide +kernel); (case sa_M => k_is); (case ga_M => k_is); (case gg_M => k_is); (case no_M => k_is); (case eC_M => k_is); (case tC_M => k_is); (case kC_M => k_is); (case hC_M => k_is); (case iC_M => k_is); (case tI_M => k_is); (case l_M => k_is); (case c_M => k_is); (case k_M => k_is))
      (case eT => refine' K82.ec_mk KX G K82.bd_iT ?aC_T ?xL_T ?hbm_T ?sa_T ?ga_T ?gg_T ?no_T ?eC_T ?tC_T ?kC_T ?hC_T ?iC_T ?tI_T ?l_T ?c_T ?k_T; (case aC_T => k_is); (case xL_T => k_is); (case hbm_T => decide +kernel); (case sa_T => k_is); (case ga_T => k_is); (case gg_T => k_is); (case no_T => k_is); (case eC_T => k_is); (case tC_T => k_is); (case kC_T => k_is); (case hC_T => k_is); (case iC_T => k_is); (case tI_T => k_is); (case l_T => k_is); (case c_T => k_is); (case k_T => k_is))
      (case eC => refine' K82.ec_mk KX G K82.bd_iC ?aC_C ?xL_C ?hbm_C ?sa_C ?ga_C ?gg_C ?no_C ?eC_C ?tC_C ?kC_C ?hC_C ?iC_C ?tI_C ?l_C ?c_C ?k_C; (case aC_C => k_is); (case xL_C => k_is); (case hbm_C => decide +kernel); (case sa_C => k_is); (case ga_C => k_is); (case gg_C => k_is); (case no_C => k_is); (case eC_C => k_is); (case tC_C => k_is); (case kC_C => k_is); (case hC_C => k_is); (case iC_C => k_is); (case tI_C => k_is); (case l_C => k_is); (case c_C => k_is); (case k_C => k_is))
      (case mm => refine' K82.exm_of ?h1mm ?h2mm ?h3mm ?h4mm; (case h1mm => first | k_is | (dsimp only [K82.ec_mk]; k_is)); (case h2mm => first | k_is | (dsimp only [K82.ec_mk]; k_is)); (case h3mm => first | k_is | (dsimp only [K82.ec_mk]; k_is)); (case h4mm => first | rfl | k_is | (dsimp only [K82.ec_mk]; k_is)))
      (case tm => refine' K82.exm_of ?h1tm ?h2tm ?h3tm ?h4tm; (case h1tm => first | k_is | (dsimp only [K82.ec_mk]; k_is)); (case h2tm => first | k_is | (dsimp only [K82.ec_mk]; k_is)); (case h3tm => first | k_is | (dsimp only [K82.ec_mk]; k_is)); (case h4tm => first | rfl | k_is | (dsimp only [K82.ec_mk]; k_is)))
      (case tt => refine' K82.exm_of ?h1tt ?h2tt ?h3tt ?h4tt; (case h1tt => first | k_is | (dsimp only [K82.ec_mk]; k_is)); (case h2tt => first | k_is | (dsimp only [K82.ec_mk]; k_is)); (case h3tt => first | k_is | (dsimp only [K82.ec_mk]; k_is)); (case h4tt => first | rfl | k_is | (dsimp only [K82.ec_mk]; k_is)))
      (case cm => refine' K82.exm_of ?h1cm ?h2cm ?h3cm ?h4cm; (case h1cm => first | k_is | (dsimp only [K82.ec_mk]; k_is)); (case h2cm => first | k_is | (dsimp only [K82.ec_mk]; k_is)); (case h3cm => first | k_is | (dsimp only [K82.ec_mk]; k_is)); (case h4cm => first | rfl | k_is | (dsimp only [K82.ec_mk]; k_is)))
      (case ct => refine' K82.exm_of ?h1ct ?h2ct ?h3ct ?h4ct; (case h1ct => first | k_is | (dsimp only [K82.ec_mk]; k_is)); (case h2ct => first | k_is | (dsimp only [K82.ec_mk]; k_is)); (case h3ct => first | k_is | (dsimp only [K82.ec_mk]; k_is)); (case h4ct => first | rfl | k_is | (dsimp only [K82.ec_mk]; k_is)))
      (case cc => refine' K82.exm_of ?h1cc ?h2cc ?h3cc ?h4cc; (case h1cc => first | k_is | (dsimp only [K82.ec_mk]; k_is)); (case h2cc => first | k_is | (dsimp only [K82.ec_mk]; k_is)); (case h3cc => first | k_is | (dsimp only [K82.ec_mk]; k_is)); (case h4cc => first | rfl | k_is | (dsimp only [K82.ec_mk]; k_is)))
    case hcV => rfl
    (case tL => exact hT8 462 (by k_mem)); (case tV => exact hT8 305 (by k_mem)); (case nL => kernel_rfl); (case nV => kernel_rfl); (case hL => kernel_rfl); (case hV => kernel_rfl); (case hne => decide)

