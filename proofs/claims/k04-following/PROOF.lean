import PyProof.Rows.All
import Wide.All
import OpenK.AllK
import Wide.FinOn
import HandS.ForMost
import HandS.Exc
import HandS.ExcOwn
import HandS.TryOnly
import HandS.WordsExc
import HandS.TupAny
import HandS.Wide
import HandS.IsInst
import HandS.Deep
import HandS.SortInts
import HandS.Style
import HandS.CallSlots
import HandS.Walk
import HandS.SortKw
import HandS.Iter
import HandS.TupMul
import HandS.TupLe
import HandS.Star
import KE.DataCmp
import KE.GoesEnumKw
import KE.GoesMore
import HandS.Set
import HandS.SetFor
import HandS.SetBool
import HandS.TupSets
import HandS.Strs
import HandS.Ends
import PyProof.ReprRoads
import HandS.Conv
import KE.GoesEnum
import HandS.Small
import HandS.Dict
import KE.KIndexOf
import PySem.Challenge.RW_followrows_k04_following
section
set_option Elab.async false
set_option linter.all false
set_option maxRecDepth 100000
set_option maxHeartbeats 4000000
/-! Ev0: the layer's rules that lack: tuples repeated never or once, the order of data, is of truth values, dict displays with different keys. -/
namespace EvS
open PySem PySem.Spec L2 PyProof.Rows
theorem tuple_mul_same (l : Addr) (items : Array Value) (n : Nat) (sl : Array (Option Value)) (dd : Option Addr) (x : Int) (u : Tok) (c0 : (decide (x < -(2 ^ 63)) || decide (x ≥ 2 ^ 63)) = false) (c1 : (items.isEmpty || x == 1) = true) :
    Meets (Builtin.«tuple.__mul__» ⟨[.ref l, .int x u], []⟩) (fun _ R s => s.heap.get? l = some { cls := .type "tuple", dict := dd, data := .seq items n, slots := sl } ∧
      R (.ok (.ret (Value.ref l))) s) :=
  .of_wp fun prog w A R s h => by
    obtain ⟨hp, g, d, tk, os⟩ := s
    obtain ⟨hl, h⟩ := h
    have f1 := AutoSeq1.idx_int
    wp_walk using wpAny_loadPart' hl
    repeat (first
      | (refine wpAny_ite_false (decide_eq_false (by rw [c0]; exact Bool.false_ne_true)) ?_; wp_walk using wpAny_loadPart' hl)
      | (refine wpAny_ite_true (decide_eq_true (by rw [c1])) ?_; wp_walk using wpAny_loadPart' hl))
    exact ⟨_, rfl, h⟩
theorem tuple_mul_none (l : Addr) (items : Array Value) (n : Nat) (dd : Option Addr) (sl : Array (Option Value)) (x : Int) (u : Tok) (c0 : (decide (x < -(2 ^ 63)) || decide (x ≥ 2 ^ 63)) = false) (c1 : (items.isEmpty || x == 1) = false) (c2 : (decide (x ≤ 0) || items.isEmpty) = true) :
    Meets (Builtin.«tuple.__mul__» ⟨[.ref l, .int x u], []⟩) (fun _ R s => s.heap.get? l = some { cls := .type "tuple", dict := dd, data := .seq items n, slots := sl } ∧
      R (.ok (.ret (Value.ref s.heap.objs.size))) { s with heap := s.heap.push { cls := Value.type "tuple", data := Data.seq #[] }, toks := s.toks }) :=
  .of_wp fun prog w A R s h => by
    obtain ⟨hp, g, d, tk, os⟩ := s
    obtain ⟨hl, h⟩ := h
    have f1 := AutoSeq1.idx_int
    wp_walk using wpAny_loadPart' hl
    repeat (first
      | (refine wpAny_ite_false (decide_eq_false (by rw [c0]; exact Bool.false_ne_true)) ?_; wp_walk using wpAny_loadPart' hl)
      | (refine wpAny_ite_false (decide_eq_false (by rw [c1]; exact Bool.false_ne_true)) ?_; wp_walk using wpAny_loadPart' hl)
      | (refine wpAny_ite_true (decide_eq_true (by rw [c2])) ?_; wp_walk using wpAny_loadPart' hl))
    exact ⟨_, rfl, h⟩
section
variable {X : Cx}
/-- a tuple once, or never -/
def rRepS (K : PySem.W.Frag) : R2 := fun x y H Q => ∃ l k xs, x = .ref l ∧ y = .int k ∧ SqT K H l xs ∧ -(2 ^ 63) ≤ k ∧ k < 2 ^ 63 ∧ ((xs = [] ∨ k = 1) ∧ Q (.ref l) H ∨ xs ≠ [] ∧ k ≤ 0 ∧ ∀ p, H p = none → Q (.ref p) (upd H p (.tup [])))
theorem op_repS : OpR X (binaryOp .Mult) (rRepS X.K) := by
  intro pins s σ H x y v u Q I rx ry h
  obtain ⟨l, k, xs, rfl, rfl, hT, h1, h2, h⟩ := h
  cases rx
  obtain ⟨t, rfl⟩ := ry
  obtain ⟨its, r, ⟨⟨cls, dd, data, sl⟩, ho, hc, n, hd⟩, hs⟩ := I.tuple hT
  simp only at hc hd
  subst hc hd
  have hle : its.length = xs.length := r.length.symm
  have c0 : (decide (k < -(2 ^ 63)) || decide (k ≥ 2 ^ 63)) = false := by
    rw [decide_eq_false (by omega), decide_eq_false (by omega)] <;> rfl
  rcases h with ⟨hk, q⟩ | ⟨hn, hk, q⟩
  · have c1 : (its.toArray.isEmpty || k == 1) = true := by
      rcases hk with hk | hk
      · subst hk
        have : its = [] := List.eq_nil_of_length_eq_zero hle
        subst this; rfl
      · subst hk; simp
    refine wpAny_binaryOp_repeat_ref (T := "tuple") (U := "int") (by decide) ⟨_, ho, rfl⟩ (fun s' => typeIs_int s' k t) noFill_tuple_mul F.fills_int_mul F.slot_int_rmul repeat_tuple F.slot_int_index.lookup
      (call_meets F.slot_int_rmul (typeIs_int s k t) F.entry_int_rmul (F.args_int_rmul_2 _ _) (int_rmul_tuple k t l its.toArray n dd sl)
        ⟨ho, rfl, ⟨_, ho, rfl⟩, call_meets F.slot_tuple_mul ⟨_, ho, rfl⟩ F.entry_tuple_mul (F.args_tuple_mul_2 _ _) (tuple_mul_same l its.toArray n sl dd k t c0 c1) ⟨ho, ?_⟩⟩)
    exact ⟨.ref l, H, I.tok _, rfl, q⟩
  · have hni : its ≠ [] := fun e => hn (by rw [e] at hle; exact List.eq_nil_of_length_eq_zero hle.symm)
    have hi : its.toArray.isEmpty = false := by
      cases its with
      | nil => exact absurd rfl hni
      | cons a b => rfl
    have c1 : (its.toArray.isEmpty || k == 1) = false := by
      rw [hi, Bool.false_or]
      exact beq_eq_false_iff_ne.mpr (by omega)
    have c2 : (decide (k ≤ 0) || its.toArray.isEmpty) = true := by
      rw [decide_eq_true hk, Bool.true_or]
    refine wpAny_binaryOp_repeat_ref (T := "tuple") (U := "int") (by decide) ⟨_, ho, rfl⟩ (fun s' => typeIs_int s' k t) noFill_tuple_mul F.fills_int_mul F.slot_int_rmul repeat_tuple F.slot_int_index.lookup
      (call_meets F.slot_int_rmul (typeIs_int s k t) F.entry_int_rmul (F.args_int_rmul_2 _ _) (int_rmul_tuple k t l its.toArray n dd sl)
        ⟨ho, rfl, ⟨_, ho, rfl⟩, call_meets F.slot_tuple_mul ⟨_, ho, rfl⟩ F.entry_tuple_mul (F.args_tuple_mul_2 _ _) (tuple_mul_none l its.toArray n dd sl k t c0 c1 c2) ⟨ho, ?_⟩⟩)
    refine ⟨.ref s.heap.objs.size, _, I.laid (t' := s.toks) (o := .tup []) (fun b ob q => Heap.get?_push_of_some _ q) (Nat.le_refl _) ?_, rfl, q _ (I.hok.fresh (Nat.le_refl _))⟩
    exact ⟨Nat.zero_le _, _, .nil, IsTup.new _ _⟩
/-- the order of data -/
def rLtD (K : PySem.W.Frag) : R2 := fun x y H Q => ∃ d e, Dp K H x d ∧ Dp K H y e ∧ PySem.W.alike d e = true ∧ d ≠ .none ∧ min d.depth e.depth < 60 ∧ Q (.bl (PySem.W.dataLt d e)) H
theorem op_ltD (hu : X.A.units + 64 < cLine) : OpR X (compareOp .Lt) (rLtD X.K) := by
  intro pins s σ H x y v u Q I rx ry h
  obtain ⟨d, e, hd, he, ha, hn, hm, q⟩ := h
  obtain ⟨as, r1⟩ := Dp.reads I d x v hd rx
  obtain ⟨bs, r2⟩ := Dp.reads I e y u he ry
  exact PySem.W.lt_data r1 r2 ha hn (by omega) ⟨.bl _, H, I, rfl, q⟩
/-- is of None and truth values -/
def rIsB (neg : Bool) : R2 := fun x y H Q => (∃ a b, x = .bl a ∧ y = .bl b ∧ Q (.bl (neg != decide (a = b))) H) ∨ ∃ b, x = .non ∧ y = .bl b ∧ Q (.bl neg) H
theorem op_isB : OpR X (compareOp .Is) (rIsB false) := by
  intro pins s σ H x y v u Q I rx ry h
  rcases h with ⟨a, b, rfl, rfl, q⟩ | ⟨b, rfl, rfl, q⟩
  · exact op_is_bl pins s σ H _ _ v u Q I rx ry ⟨a, b, rfl, rfl, by simpa using q⟩
  · cases (show v = Value.none from rx)
    cases (show u = Value.bool b from ry)
    exact wpAny_is_other rfl (fun z => nomatch z) ⟨.bl false, H, I, rfl, q⟩
theorem op_isNB : OpR X (compareOp .IsNot) (rIsB true) := by
  intro pins s σ H x y v u Q I rx ry h
  rcases h with ⟨a, b, rfl, rfl, q⟩ | ⟨b, rfl, rfl, q⟩
  · exact op_isnot_bl pins s σ H _ _ v u Q I rx ry ⟨a, b, rfl, rfl, by simpa using q⟩
  · cases (show v = Value.none from rx)
    cases (show u = Value.bool b from ry)
    exact wpAny_isNot_other rfl (fun z => nomatch z) ⟨.bl true, H, I, rfl, q⟩
end
theorem mergeK_nodup : ∀ (more kvs : List (Key × V)), ((kvs ++ more).map (·.1)).Nodup → mergeK kvs more = kvs ++ more
  | [], kvs, _ => by rw [List.append_nil]; rfl
  | p :: r, kvs, h => by
    have e : putK kvs p.1 p.2 = kvs ++ [p] := by
      refine putK_new p.2 ?_
      rw [List.map_append, List.map_cons, List.nodup_append] at h
      have hn : p.1 ∉ kvs.map (·.1) := fun m => h.2.2 _ m _ List.mem_cons_self rfl
      clear h
      induction kvs with
      | nil => rfl
      | cons q kvs ih =>
        rw [List.map_cons] at hn
        rw [valV_neg fun z => hn (by rw [z]; exact List.mem_cons_self)]
        exact ih fun m => hn (List.mem_cons_of_mem _ m)
    show mergeK (putK kvs p.1 p.2) r = _
    rw [e, mergeK_nodup r (kvs ++ [p]) (by rw [List.append_assoc]; exact h), List.append_assoc]
    rfl
end EvS
end
section
set_option Elab.async false
set_option linter.all false
set_option maxRecDepth 100000
set_option maxHeartbeats 4000000
/-! Ev1: data, the relation to the abstract heap, results. -/
namespace Ev
open PySem PySem.Spec L2
abbrev Slots := L2.St

/-- data, by value -/
inductive D where
  | non | bl (b : Bool) | int (i : Int) | str (x : Str) | tup (ds : List D) | lst (ds : List D) | scr (ds : List D) | ty (n : String) | gl (x : Str) | dct (ks : List Key) (ds : List D)

/-- a slot: a datum, or a mutable object of the heap -/
inductive SV where
  | val (d : D) | loc (n : Nat)
/-- a mutable object -/
inductive Cell where
  | dead | lst (ds : List D) | lls (rows : List (List D)) | dct (ks : List Key) (ds : List D)
abbrev Hs := List Cell
abbrev Nv := List (Option SV)
/-- an exception: its class by its global name, its fields -/
structure Exc where
  cls : Str
  fs : List (Str × D)
/-- an expression's value: a datum, or a new list that nobody else holds -/
inductive RV where
  | val (d : D) | fresh (ds : List D)
def RV.vl : RV → D
  | .val d => d
  | .fresh ds => .lst ds
inductive Res (α : Type) where
  | ok (a : α) (h : Hs) | exc (x : Exc) (h : Hs) | bad
inductive SRes where
  | nx (e : Nv) (h : Hs) | rt (v : RV) (h : Hs) | bk (e : Nv) (h : Hs) | ct (e : Nv) (h : Hs) | exc (x : Exc) (e : Nv) (h : Hs) | bad

/-- who owns which addresses: the n-th object's -/
structure Own where
  /-- lists that grow just now: none of the data may be one -/
  fb : List Addr
  /-- the n-th object's addresses -/
  cs : List (List Addr)
def COwned (ρ : Own) (a : Addr) : Prop := ∃ (n : Nat) (l : List Addr), ρ.cs[n]? = some l ∧ a ∈ l
def Owned (ρ : Own) (a : Addr) : Prop := COwned ρ a ∨ a ∈ ρ.fb

/-- a list that never changes: the script, an object of the module -/
def SqF (K : PySem.W.Frag) (H : Hp) (a : Addr) (xs : List V) : Prop := (∃ o : Obj, H a = some (.frz o (.lst xs))) ∨
  ∃ (o : Obj) (its : Array Value) (n : Nat), K.lookup a = some o ∧ o.cls = .type "list" ∧ o.dict = none ∧ o.data = .seq its n ∧ its.size ≤ sizeLine ∧ Vals xs its.toList
theorem SqF.l {K : PySem.W.Frag} {H : Hp} {a : Addr} {xs : List V} (s : SqF K H a xs) : SqL K H a xs := s.elim (fun z => .inl (.inr z)) .inr
theorem SqF.at {K : PySem.W.Frag} {H H' : Hp} {a : Addr} {xs : List V} (s : SqF K H a xs) (k : ∀ o, H a = some (.frz o (.lst xs)) → H' a = some (.frz o (.lst xs))) : SqF K H' a xs := s.elim (fun ⟨o, z⟩ => .inl ⟨o, k o z⟩) .inr

section
variable (K : PySem.W.Frag) (mg : Str → Option Value)
mutual
inductive RD (ρ : Own) (H : Hp) : D → V → Prop
  | non : RD ρ H .non .non
  | bl (b : Bool) : RD ρ H (.bl b) (.bl b)
  | int (i : Int) : RD ρ H (.int i) (.int i)
  | str (x : Str) : RD ρ H (.str x) (.str x)
  | ty (n : String) : RD ρ H (.ty n) (.ty n)
  | gl {x : Str} {a : Addr} : mg x = some (.ref a) → RD ρ H (.gl x) (.ref a)
  | tup {a : Addr} {ds : List D} {vs : List V} : SqT K H a vs → RDs ρ H ds vs → RD ρ H (.tup ds) (.ref a)
  | lst {a : Addr} {ds : List D} {vs : List V} : H a = some (.lst vs) → ¬ Owned ρ a → RDs ρ H ds vs → RD ρ H (.lst ds) (.ref a)
  | scr {a : Addr} {ds : List D} {vs : List V} : SqF K H a vs → RDs ρ H ds vs → RD ρ H (.scr ds) (.ref a)
  | dct {a : Addr} {ks : List Key} {ds : List D} {vs : List V} : H a = some (.dK (ks.zip vs)) → ks.length = vs.length → ¬ Owned ρ a → RDs ρ H ds vs → RD ρ H (.dct ks ds) (.ref a)
inductive RDs (ρ : Own) (H : Hp) : List D → List V → Prop
  | nil : RDs ρ H [] []
  | cons {d : D} {v : V} {ds : List D} {vs : List V} : RD ρ H d v → RDs ρ H ds vs → RDs ρ H (d :: ds) (v :: vs)
end

/-- lists of a cell's own, within a list of it -/
inductive Inners (ρ : Own) (H : Hp) : List (List D) → List Addr → Prop
  | nil : Inners ρ H [] []
  | cons {a : Addr} {ds : List D} {vs : List V} {rows : List (List D)} {as : List Addr} : H a = some (.lst vs) → RDs K mg ρ H ds vs → Inners ρ H rows as → Inners ρ H (ds :: rows) (a :: as)
inductive CellOk (ρ : Own) (H : Hp) : Cell → List Addr → Prop
  | dead : CellOk ρ H .dead []
  | lls {p : Addr} {rows : List (List D)} {as : List Addr} : H p = some (.lst (as.map V.ref)) → Inners K mg ρ H rows as → (p :: as).Nodup → CellOk ρ H (.lls rows) (p :: as)
  | dct {p : Addr} {ks : List Key} {ds : List D} {vs : List V} : H p = some (.dK (ks.zip vs)) → ks.length = vs.length → RDs K mg ρ H ds vs → CellOk ρ H (.dct ks ds) [p]
  | lst {p : Addr} {ds : List D} {vs : List V} : H p = some (.lst vs) → RDs K mg ρ H ds vs → CellOk ρ H (.lst ds) [p]

/-- what grows: a list, or a dict -/
inductive GrO where
  | lst (xs : List V) | dK (kvs : List (Key × V))
abbrev GrO.ho : GrO → HO
  | .lst xs => .lst xs
  | .dK kvs => .dK kvs
structure HeapOk (ρ : Own) (h : Hs) (H : Hp) : Prop where
  len : ρ.cs.length = h.length
  nd : ∀ (n m : Nat) (l k : List Addr) (a : Addr), ρ.cs[n]? = some l → ρ.cs[m]? = some k → a ∈ l → a ∈ k → n = m
  mutb : ∀ a, COwned ρ a → Mut (H a)
  fbd : ∀ a ∈ ρ.fb, ¬ COwned ρ a ∧ ∃ xs : GrO, H a = some xs.ho
  cell : ∀ (n : Nat) (c : Cell), h[n]? = some c → ∃ l, ρ.cs[n]? = some l ∧ CellOk K mg ρ H c l

/-- from one state to a later one -/
structure Step (ρ : Own) (H : Hp) (ρ' : Own) (H' : Hp) : Prop where
  keep : ∀ a o, H a = some o → ¬ COwned ρ a → H' a = some o
  own : ∀ a, COwned ρ' a → COwned ρ a ∨ H a = none
  pre : ∀ (n : Nat) (l : List Addr), ρ.cs[n]? = some l → ρ'.cs[n]? = some l ∨ ρ'.cs[n]? = some []
  fbi : ∀ a ∈ ρ.fb, a ∈ ρ'.fb
  fbo : ∀ a ∈ ρ'.fb, Owned ρ a ∨ H a = none

def SVOk (ρ : Own) (H : Hp) : SV → V → Prop
  | .val d, v => RD K mg ρ H d v
  | .loc n, v => ∃ l, ρ.cs[n]? = some l ∧ ∀ p r, l = p :: r → v = .ref p

structure EnvOk (ρ : Own) (env : Nv) (σ : Slots) (H : Hp) : Prop where
  len : env.length = σ.length
  at_ : ∀ (i : Nat) (sv : SV), env[i]? = some (some sv) → ∃ v, σ[i]? = some (some v) ∧ SVOk K mg ρ H sv v

structure Rel (ρ : Own) (env : Nv) (h : Hs) (σ : Slots) (H : Hp) : Prop where
  hp : HeapOk K mg ρ h H
  env : EnvOk K mg ρ env σ H
end

theorem Step.refl (ρ : Own) (H : Hp) : Step ρ H ρ H := ⟨fun _ _ e _ => e, fun _ o => .inl o, fun _ _ e => .inl e, fun _ h => h, fun _ h => .inl (.inr h)⟩
theorem Step.trans {ρ ρ1 ρ2 : Own} {H H1 H2 : Hp} (a : Step ρ H ρ1 H1) (b : Step ρ1 H1 ρ2 H2) : Step ρ H ρ2 H2 where
  keep := fun x o e no => b.keep x o (a.keep x o e no) fun z => by
    rcases a.own x z with q | q
    · exact no q
    · rw [e] at q; cases q
  own := fun x o => by
    rcases b.own x o with q | q
    · exact a.own x q
    · by_cases z : COwned ρ x
      · exact .inl z
      · refine .inr ?_
        cases e : H x with
        | none => rfl
        | some u => rw [a.keep x u e z] at q; cases q
  pre := fun n l e => by
    rcases a.pre n l e with q | q
    · exact b.pre n l q
    · rcases b.pre n [] q with z | z <;> exact .inr z
  fbi := fun x hx => b.fbi x (a.fbi x hx)
  fbo := fun x hx => by
    rcases b.fbo x hx with (q | q) | q
    · rcases a.own x q with z | z
      · exact .inl (.inl z)
      · exact .inr z
    · exact a.fbo x q
    · by_cases z : COwned ρ x
      · exact .inl (.inl z)
      · refine .inr ?_
        cases e : H x with
        | none => rfl
        | some u => rw [a.keep x u e z] at q; cases q

section
variable {K : PySem.W.Frag} {mg : Str → Option Value} {ρ ρ' : Own} {H H' : Hp}

theorem not_owned_tup (hm : ∀ a, COwned ρ a → Mut (H a)) {a : Addr} {vs : List V} (h : Rd H a (.tup vs)) : ¬ COwned ρ a := fun o => by
  have q := hm a o
  rcases h with h | ⟨_, h⟩ <;> (rw [h] at q; exact q)
theorem Rd.step (S : Step ρ H ρ' H') {a : Addr} {u : HO} (h : Rd H a u) (no : ¬ COwned ρ a) : Rd H' a u := by
  rcases h with h | ⟨o, h⟩
  · exact .inl (S.keep a _ h no)
  · exact .inr ⟨o, S.keep a _ h no⟩
theorem SqT.step (hm : ∀ a, COwned ρ a → Mut (H a)) (S : Step ρ H ρ' H') {a : Addr} {vs : List V} (h : SqT K H a vs) : SqT K H' a vs := by
  rcases h with h | h
  · exact .inl (Rd.step S h (not_owned_tup hm h))
  · exact .inr h
theorem not_owned_step (S : Step ρ H ρ' H') {a : Addr} {u : HO} (h : H a = some u) (no : ¬ Owned ρ a) : ¬ Owned ρ' a := fun o => by
  rcases o with o | o
  · rcases S.own a o with q | q
    · exact no (.inl q)
    · rw [q] at h; cases h
  · rcases S.fbo a o with q | q
    · exact no q
    · rw [q] at h; cases h
theorem not_owned_frz (hm : ∀ a, COwned ρ a → Mut (H a)) {a : Addr} {o : Obj} {u : HO} (h : H a = some (.frz o u)) : ¬ COwned ρ a := fun z => by
  have q := hm a z
  rw [h] at q; exact q
mutual
theorem RD.step (hm : ∀ a, COwned ρ a → Mut (H a)) (S : Step ρ H ρ' H') : ∀ {d : D} {v : V}, RD K mg ρ H d v → RD K mg ρ' H' d v
  | _, _, .non => .non
  | _, _, .bl b => .bl b
  | _, _, .int i => .int i
  | _, _, .str x => .str x
  | _, _, .ty n => .ty n
  | _, _, .gl e => .gl e
  | _, _, .tup h hs => .tup (SqT.step hm S h) (RDs.step hm S hs)
  | _, _, .lst h no hs => .lst (S.keep _ _ h fun z => no (.inl z)) (not_owned_step S h no) (RDs.step hm S hs)
  | _, _, .scr h hs => .scr (h.at fun o z => S.keep _ _ z (not_owned_frz hm z)) (RDs.step hm S hs)
  | _, _, .dct h l no hs => .dct (S.keep _ _ h fun z => no (.inl z)) l (not_owned_step S h no) (RDs.step hm S hs)
theorem RDs.step (hm : ∀ a, COwned ρ a → Mut (H a)) (S : Step ρ H ρ' H') : ∀ {ds : List D} {vs : List V}, RDs K mg ρ H ds vs → RDs K mg ρ' H' ds vs
  | _, _, .nil => .nil
  | _, _, .cons h hs => .cons (RD.step hm S h) (RDs.step hm S hs)
end
/-- a later state, where the lists that grow may have changed -/
structure StepW (ρ : Own) (H : Hp) (ρ' : Own) (H' : Hp) : Prop where
  keep : ∀ a o, H a = some o → ¬ Owned ρ a → H' a = some o
  own : ∀ a, COwned ρ' a → COwned ρ a ∨ H a = none
  fbo : ∀ a ∈ ρ'.fb, Owned ρ a ∨ H a = none
theorem Step.w (S : Step ρ H ρ' H') : StepW ρ H ρ' H' := ⟨fun a o e no => S.keep a o e fun z => no (.inl z), S.own, S.fbo⟩
theorem not_owned_stepW (S : StepW ρ H ρ' H') {a : Addr} {u : HO} (h : H a = some u) (no : ¬ Owned ρ a) : ¬ Owned ρ' a := fun o => by
  rcases o with o | o
  · rcases S.own a o with q | q
    · exact no (.inl q)
    · rw [q] at h; cases h
  · rcases S.fbo a o with q | q
    · exact no q
    · rw [q] at h; cases h
theorem Step.thenW {ρ1 : Own} {H1 : Hp} (a : Step ρ H ρ1 H1) (b : StepW ρ1 H1 ρ' H') : StepW ρ H ρ' H' where
  keep := fun x o e no => b.keep x o (a.keep x o e fun z => no (.inl z)) (not_owned_step a e no)
  own := fun x o => by
    rcases b.own x o with q | q
    · exact a.own x q
    · by_cases z : COwned ρ x
      · exact .inl z
      · refine .inr ?_
        cases e : H x with
        | none => rfl
        | some u => rw [a.keep x u e z] at q; cases q
  fbo := fun x hx => by
    rcases b.fbo x hx with (q | q) | q
    · rcases a.own x q with z | z
      · exact .inl (.inl z)
      · exact .inr z
    · exact a.fbo x q
    · by_cases z : COwned ρ x
      · exact .inl (.inl z)
      · refine .inr ?_
        cases e : H x with
        | none => rfl
        | some u => rw [a.keep x u e z] at q; cases q
theorem not_owned_mut (hm : ∀ a, Owned ρ a → Mut (H a)) {a : Addr} {u : HO} (h : H a = some u) (n : ¬ Mut (some u)) : ¬ Owned ρ a := fun o => n (h ▸ hm a o)
theorem SqT.stepW (hm : ∀ a, Owned ρ a → Mut (H a)) (S : StepW ρ H ρ' H') {a : Addr} {vs : List V} (h : SqT K H a vs) : SqT K H' a vs := by
  rcases h with (h | ⟨o, h⟩) | h
  · exact .inl (.inl (S.keep a _ h (not_owned_mut hm h id)))
  · exact .inl (.inr ⟨o, S.keep a _ h (not_owned_mut hm h id)⟩)
  · exact .inr h
mutual
theorem RD.stepW (hm : ∀ a, Owned ρ a → Mut (H a)) (S : StepW ρ H ρ' H') : ∀ {d : D} {v : V}, RD K mg ρ H d v → RD K mg ρ' H' d v
  | _, _, .non => .non
  | _, _, .bl b => .bl b
  | _, _, .int i => .int i
  | _, _, .str x => .str x
  | _, _, .ty n => .ty n
  | _, _, .gl e => .gl e
  | _, _, .tup h hs => .tup (SqT.stepW hm S h) (RDs.stepW hm S hs)
  | _, _, .lst h no hs => .lst (S.keep _ _ h no) (not_owned_stepW S h no) (RDs.stepW hm S hs)
  | _, _, .scr h hs => .scr (h.at fun o z => S.keep _ _ z (not_owned_mut hm z id)) (RDs.stepW hm S hs)
  | _, _, .dct h l no hs => .dct (S.keep _ _ h no) l (not_owned_stepW S h no) (RDs.stepW hm S hs)
theorem RDs.stepW (hm : ∀ a, Owned ρ a → Mut (H a)) (S : StepW ρ H ρ' H') : ∀ {ds : List D} {vs : List V}, RDs K mg ρ H ds vs → RDs K mg ρ' H' ds vs
  | _, _, .nil => .nil
  | _, _, .cons h hs => .cons (RD.stepW hm S h) (RDs.stepW hm S hs)
end
theorem HeapOk.mutA {h : Hs} (ok : HeapOk K mg ρ h H) : ∀ a, Owned ρ a → Mut (H a) := fun a o => o.elim (ok.mutb a) fun z => by
  obtain ⟨_, xs, e⟩ := ok.fbd a z
  rw [e]; cases xs <;> exact True.intro
mutual
theorem RD.less (hl : ∀ a, Owned ρ' a → Owned ρ a) : ∀ {d : D} {v : V}, RD K mg ρ H d v → RD K mg ρ' H d v
  | _, _, .non => .non
  | _, _, .bl b => .bl b
  | _, _, .int i => .int i
  | _, _, .str x => .str x
  | _, _, .ty n => .ty n
  | _, _, .gl e => .gl e
  | _, _, .tup h hs => .tup h (RDs.less hl hs)
  | _, _, .lst h no hs => .lst h (fun o => no (hl _ o)) (RDs.less hl hs)
  | _, _, .scr h hs => .scr h (RDs.less hl hs)
  | _, _, .dct h l no hs => .dct h l (fun o => no (hl _ o)) (RDs.less hl hs)
theorem RDs.less (hl : ∀ a, Owned ρ' a → Owned ρ a) : ∀ {ds : List D} {vs : List V}, RDs K mg ρ H ds vs → RDs K mg ρ' H ds vs
  | _, _, .nil => .nil
  | _, _, .cons h hs => .cons (RD.less hl h) (RDs.less hl hs)
end
theorem RDs.length : ∀ {ds : List D} {vs : List V}, RDs K mg ρ H ds vs → ds.length = vs.length
  | _, _, .nil => rfl
  | _, _, .cons _ hs => congrArg (· + 1) (RDs.length hs)
theorem RDs.get : ∀ {ds : List D} {vs : List V} {i : Nat} {d : D}, RDs K mg ρ H ds vs → ds[i]? = some d → ∃ v, vs[i]? = some v ∧ RD K mg ρ H d v
  | _, _, _, _, .nil, e => by simp at e
  | _, _, 0, _, .cons h _, e => by simp at e; subst e; exact ⟨_, rfl, h⟩
  | _, _, i + 1, _, .cons _ hs, e => by
    obtain ⟨v, h1, h2⟩ := RDs.get (i := i) hs (by simpa using e)
    exact ⟨v, by simpa using h1, h2⟩
theorem RDs.append : ∀ {ds es : List D} {vs ws : List V}, RDs K mg ρ H ds vs → RDs K mg ρ H es ws → RDs K mg ρ H (ds ++ es) (vs ++ ws)
  | _, _, _, _, .nil, s => s
  | _, _, _, _, .cons h t, s => .cons h (RDs.append t s)
theorem RDs.take : ∀ {ds : List D} {vs : List V} (n : Nat), RDs K mg ρ H ds vs → RDs K mg ρ H (ds.take n) (vs.take n)
  | _, _, 0, _ => .nil
  | _, _, _ + 1, .nil => .nil
  | _, _, n + 1, .cons r t => .cons r (RDs.take n t)
theorem RDs.drop : ∀ {ds : List D} {vs : List V} (n : Nat), RDs K mg ρ H ds vs → RDs K mg ρ H (ds.drop n) (vs.drop n)
  | _, _, 0, r => r
  | _, _, _ + 1, .nil => .nil
  | _, _, n + 1, .cons _ t => RDs.drop n t
theorem RDs.set {d : D} {v : V} (r : RD K mg ρ H d v) : ∀ {ds : List D} {vs : List V} (i : Nat), RDs K mg ρ H ds vs → RDs K mg ρ H (ds.set i d) (vs.set i v)
  | _, _, _, .nil => .nil
  | _, _, 0, .cons _ t => .cons r t
  | _, _, i + 1, .cons q t => .cons q (RDs.set r i t)
theorem RDs.reverse : ∀ {ds : List D} {vs : List V}, RDs K mg ρ H ds vs → RDs K mg ρ H ds.reverse vs.reverse
  | _, _, .nil => .nil
  | _, _, .cons h hs => by
    rw [List.reverse_cons, List.reverse_cons]
    exact RDs.append (RDs.reverse hs) (.cons h .nil)

theorem Inners.step (hm : ∀ a, COwned ρ a → Mut (H a)) (S : Step ρ H ρ' H') : ∀ {rows : List (List D)} {as : List Addr}, Inners K mg ρ H rows as → (∀ a ∈ as, H' a = H a) → Inners K mg ρ' H' rows as
  | _, _, .nil, _ => .nil
  | _, _, .cons e r rs, hl => .cons (by rw [hl _ List.mem_cons_self]; exact e) (RDs.step hm S r) (Inners.step hm S rs fun a ha => hl a (List.mem_cons_of_mem _ ha))
theorem CellOk.step (hm : ∀ a, COwned ρ a → Mut (H a)) (S : Step ρ H ρ' H') {c : Cell} {l : List Addr} (h : CellOk K mg ρ H c l) (hl : ∀ a ∈ l, H' a = H a) : CellOk K mg ρ' H' c l := by
  cases h with
  | dead => exact .dead
  | lst e r => exact .lst (by rw [hl _ List.mem_cons_self]; exact e) (RDs.step hm S r)
  | lls e r nd => exact .lls (by rw [hl _ List.mem_cons_self]; exact e) (Inners.step hm S r fun a ha => hl a (List.mem_cons_of_mem _ ha)) nd
  | dct e l r => exact .dct (by rw [hl _ List.mem_cons_self]; exact e) l (RDs.step hm S r)

/-- a new object is laid: what is related stays so -/
theorem upd_keep {p : Addr} {o : HO} (hp : H p = none) : ∀ a u, H a = some u → upd H p o a = some u := fun a u e => by
  rw [upd_ne (ne_of_none e hp)]; exact e
theorem step_new {p : Addr} {o : HO} (hp : H p = none) : Step ρ H ρ (upd H p o) := ⟨fun a u e _ => upd_keep hp a u e, fun _ o => .inl o, fun _ _ e => .inl e, fun _ h => h, fun _ h => .inl (.inr h)⟩
theorem HeapOk.notC {h : Hs} (ok : HeapOk K mg ρ h H) {p : Addr} (hp : H p = none) : ¬ COwned ρ p := fun o => by
  have q := ok.mutb p o
  rw [hp] at q; exact q
theorem HeapOk.notOwned {h : Hs} (ok : HeapOk K mg ρ h H) {p : Addr} (hp : H p = none) : ¬ Owned ρ p := fun o => by
  rcases o with o | o
  · exact ok.notC hp o
  · obtain ⟨_, xs, e⟩ := ok.fbd p o
    rw [hp] at e; cases e
theorem HeapOk.new {h : Hs} (ok : HeapOk K mg ρ h H) {p : Addr} {o : HO} (hp : H p = none) : HeapOk K mg ρ h (upd H p o) where
  len := ok.len
  nd := ok.nd
  mutb := fun a oa => by
    have ne : a ≠ p := fun e => by subst e; exact ok.notC hp oa
    rw [upd_ne ne]; exact ok.mutb a oa
  fbd := fun a ha => by
    obtain ⟨h1, xs, h2⟩ := ok.fbd a ha
    exact ⟨h1, xs, upd_keep hp a _ h2⟩
  cell := fun n c e => by
    obtain ⟨l, e1, e2⟩ := ok.cell n c e
    exact ⟨l, e1, e2.step ok.mutb (step_new hp) fun a ha => upd_ne fun z => ok.notC hp (z ▸ ⟨n, l, e1, ha⟩)⟩
theorem RD.lt {h : Hs} (ok : HeapOk K mg ρ h H) {d : D} {v : V} (r : RD K mg ρ H d v) (S : Step ρ H ρ' H') : RD K mg ρ' H' d v := r.step ok.mutb S

theorem SVOk.step {h : Hs} (ok : HeapOk K mg ρ h H) (S : Step ρ H ρ' H') {sv : SV} {v : V} (r : SVOk K mg ρ H sv v) : SVOk K mg ρ' H' sv v := by
  cases sv with
  | val d => exact RD.step ok.mutb S r
  | loc n =>
    obtain ⟨l, e, q⟩ := r
    rcases S.pre n l e with z | z
    · exact ⟨l, z, q⟩
    · exact ⟨[], z, fun _ _ e => by cases e⟩
theorem EnvOk.step {h : Hs} {env : Nv} {σ : Slots} (ok : HeapOk K mg ρ h H) (S : Step ρ H ρ' H') (r : EnvOk K mg ρ env σ H) : EnvOk K mg ρ' env σ H' :=
  ⟨r.len, fun i sv e => let ⟨v, e1, q⟩ := r.at_ i sv e; ⟨v, e1, q.step ok S⟩⟩
theorem EnvOk.set {env : Nv} {σ : Slots} {sv : SV} {v : V} (r : EnvOk K mg ρ env σ H) (q : SVOk K mg ρ H sv v) (i : Nat) : EnvOk K mg ρ (env.set i (some sv)) (σ.set i (some v)) H :=
  ⟨by rw [List.length_set, List.length_set]; exact r.len, fun j sw e => by
    by_cases hj : i = j
    · subst hj
      by_cases hl : i < env.length
      · rw [List.getElem?_set_self hl] at e
        have e' : sv = sw := Option.some.inj (Option.some.inj e)
        subst e'
        exact ⟨v, by rw [List.getElem?_set_self (by rw [← r.len]; exact hl)], q⟩
      · rw [List.getElem?_eq_none (by simpa using hl)] at e; cases e
    · rw [List.getElem?_set_ne hj] at e
      obtain ⟨w, e1, e2⟩ := r.at_ j sw e
      exact ⟨w, by rw [List.getElem?_set_ne hj]; exact e1, e2⟩⟩
end

/-! ### what is wanted of a result -/
section
variable (K : PySem.W.Frag) (mg : Str → Option Value)
/-- of a value -/
def Post (ρ : Own) (H : Hp) (h' : Hs) (Q : VK) : RV → Prop
  | .val d => ∀ ρ' H' v, HeapOk K mg ρ' h' H' → Step ρ H ρ' H' → RD K mg ρ' H' d v → Q v H'
  | .fresh ds => ∀ ρ' H' p vs, HeapOk K mg ρ' h' H' → Step ρ H ρ' H' → H' p = none → RDs K mg ρ' H' ds vs → Q (.ref p) (upd H' p (.lst vs))
/-- of an exception -/
def EPost (ρ : Own) (H : Hp) (h' : Hs) (E : XK) (x : Exc) : Prop :=
  ∀ ρ' H' C, HeapOk K mg ρ' h' H' → Step ρ H ρ' H' → mg x.cls = some (.ref C) → x.fs = [] → E (.ref C) none H'
def Good (ρ : Own) (H : Hp) (Q : VK) (E : XK) : Res RV → Prop
  | .ok rv h' => Post K mg ρ H h' Q rv
  | .exc x h' => EPost K mg ρ H h' E x
  | .bad => False
end
abbrev Ex := Nv → Hs → Res RV
/-- the reading of an expression -/
def Tr (K : PySem.W.Frag) (mg : Str → Option Value) (W : WX) (m : Ex) : TE := fun σ H Q => ∃ ρ env h, Rel K mg ρ env h σ H ∧ Good K mg ρ H Q (fun c d H' => W c d σ H') (m env h)

section
variable {K : PySem.W.Frag} {mg : Str → Option Value} {ρ ρ1 : Own} {H H1 : Hp} {Q Q' : VK} {E E' : XK} {h' : Hs}
theorem Post.toVal {ds : List D} (p : Post K mg ρ H h' Q (.val (.lst ds))) : Post K mg ρ H h' Q (.fresh ds) := fun ρ' H' a vs ok S ha rs =>
  p ρ' _ (.ref a) (ok.new ha) (S.trans (step_new ha)) (.lst upd_same (ok.notOwned ha) (rs.step ok.mutb (step_new ha)))
theorem Post.ofVl {rv : RV} (p : Post K mg ρ H h' Q (.val rv.vl)) : Post K mg ρ H h' Q rv := by
  cases rv with
  | val d => exact p
  | fresh ds => exact Post.toVal p
theorem Post.later (S : Step ρ H ρ1 H1) {rv : RV} (p : Post K mg ρ H h' Q rv) : Post K mg ρ1 H1 h' Q rv := by
  cases rv with
  | val d => exact fun ρ' H' v ok S' r => p ρ' H' v ok (S.trans S') r
  | fresh ds => exact fun ρ' H' a vs ok S' ha rs => p ρ' H' a vs ok (S.trans S') ha rs
theorem EPost.later (S : Step ρ H ρ1 H1) {x : Exc} (p : EPost K mg ρ H h' E x) : EPost K mg ρ1 H1 h' E x := fun ρ' H' C ok S' r e => p ρ' H' C ok (S.trans S') r e
theorem Good.later (S : Step ρ H ρ1 H1) {r : Res RV} (g : Good K mg ρ H Q E r) : Good K mg ρ1 H1 Q E r := by
  cases r with
  | ok rv h => exact Post.later S g
  | exc x h => exact EPost.later S g
  | bad => exact g
theorem Post.imp (hq : ∀ v H, Q v H → Q' v H) {rv : RV} (p : Post K mg ρ H h' Q rv) : Post K mg ρ H h' Q' rv := by
  cases rv with
  | val d => exact fun ρ' H' v ok S' r => hq _ _ (p ρ' H' v ok S' r)
  | fresh ds => exact fun ρ' H' a vs ok S' ha rs => hq _ _ (p ρ' H' a vs ok S' ha rs)
theorem Good.imp (hq : ∀ v H, Q v H → Q' v H) {r : Res RV} (g : Good K mg ρ H Q E r) : Good K mg ρ H Q' E r := by
  cases r with
  | ok rv h => exact Post.imp hq g
  | exc x h => exact g
  | bad => exact g
end

/-! ### one after another -/
def bindV (m : Ex) (k : D → Hs → Res RV) : Ex := fun env h => match m env h with
  | .ok rv h1 => k rv.vl h1
  | .exc x h1 => .exc x h1
  | .bad => .bad
/-- the state behind a value -/
structure At (K : PySem.W.Frag) (mg : Str → Option Value) (ρ : Own) (env : Nv) (σ : Slots) (H : Hp) (d : D) (v : V) (ρ1 : Own) (h1 : Hs) (H1 : Hp) : Prop where
  rel : Rel K mg ρ1 env h1 σ H1
  st : Step ρ H ρ1 H1
  rd : RD K mg ρ1 H1 d v
theorem Tr.bind {K : PySem.W.Frag} {mg : Str → Option Value} {W : WX} {m : Ex} {k : D → Hs → Res RV} {ρ : Own} {env : Nv} {h : Hs} {σ : Slots} {H : Hp} {Q : VK} (R : Rel K mg ρ env h σ H)
    (g : Good K mg ρ H Q (fun c d H' => W c d σ H') (bindV m k env h)) {Z : VK}
    (hz : ∀ d v ρ1 h1 H1, At K mg ρ env σ H d v ρ1 h1 H1 → Good K mg ρ1 H1 Q (fun c d H' => W c d σ H') (k d h1) → Z v H1) : Tr K mg W m σ H Z := by
  refine ⟨ρ, env, h, R, ?_⟩
  unfold bindV at g
  cases e : m env h with
  | ok rv h1 =>
    rw [e] at g
    refine Post.ofVl fun ρ' H' v ok S r => hz rv.vl v ρ' h1 H' ⟨⟨ok, R.env.step R.hp S⟩, S, r⟩ (Good.later S g)
  | exc x h1 => rw [e] at g; exact g
  | bad => rw [e] at g; exact g

/-! ### names, constants -/
def eVar (i : Nat) : Ex := fun env h => match env[i]? with
  | some (some (.val d)) => .ok (.val d) h
  | _ => .bad
def eC (d : D) : Ex := fun _ h => .ok (.val d) h
section
variable {X : Cx} {W : WX} {pos : Pos}
abbrev PV (X : Cx) (W : WX) (e : Expr) (m : Ex) : Prop := PE X e (Tr X.K X.mg W m)
theorem PE.imp {e : Expr} {t t' : TE} (p : PE X e t) (h : ∀ σ H Q, t' σ H Q → t σ H Q) : PE X e t' := ⟨fun pins s σ H Q I q => p.run pins s σ H Q I (h σ H Q q)⟩
theorem v_var (i : Nat) {x : Str} (hN : X.N[i]? = some x := by rfl) (hv : Vis X.env.scope x := by first | exact Or.inl rfl | exact Or.inr (Or.inl rfl) | exact Or.inr (Or.inr rfl)) (hd : (x == ("__debug__" : Str)) = false := by decide)
    (hcd : (x == ("__classdict__" : Str)) = false := by decide) : PV X W (.Name x pos) (eVar i) := by
  refine PE.imp (pe_var hN hv hd hcd) fun σ H Q ⟨ρ, env, h, R, g⟩ => ?_
  unfold eVar at g
  split at g
  · rename_i d e
    obtain ⟨v, e1, r⟩ := R.env.at_ i _ e
    exact ⟨v, e1, g ρ H v R.hp (Step.refl ρ H) r⟩
  · exact False.elim g
theorem v_const {e : Expr} {d : D} {v : V} (p : PE X e (tC v)) (r : ∀ ρ H, RD X.K X.mg ρ H d v) : PV X W e (eC d) :=
  PE.imp p fun σ H Q ⟨ρ, env, h, R, g⟩ => g ρ H v R.hp (Step.refl ρ H) (r ρ H)
theorem v_int {i j} : PV X W (.Constant (.int i) j pos) (eC (.int i)) := v_const pe_int fun _ _ => .int i
theorem v_bl {b j} : PV X W (.Constant (.bool b) j pos) (eC (.bl b)) := v_const pe_bl fun _ _ => .bl b
theorem v_non {j} : PV X W (.Constant .none j pos) (eC .non) := v_const pe_non fun _ _ => .non
theorem v_str {x j} : PV X W (.Constant (.str x) j pos) (eC (.str x)) := v_const pe_str fun _ _ => .str x
theorem v_bltn {x : Str} {n : String} (hg : Gl X x) (hm : X.mg x = none) (hv : bootBuiltins x = some (.type n)) (hn : x ≠ "__name__" := by decide) (hd : (x == ("__debug__" : Str)) = false := by decide) : PV X W (.Name x pos) (eC (.ty n)) :=
  v_const (v := .ty n) (pe_bltn hg hm hv rfl hn hd) fun _ _ => .ty n
theorem v_gl {x : Str} {a : Addr} (hg : Gl X x) (hm : X.mg x = some (.ref a)) (hd : (x == ("__debug__" : Str)) = false := by decide) : PV X W (.Name x pos) (eC (.gl x)) :=
  v_const (v := .ref a) (pe_glob hg hm rfl hd) fun _ _ => .gl hm
theorem v_glInt {x : Str} {i : Int} {t : Tok} (hg : Gl X x) (hm : X.mg x = some (.int i t)) (hd : (x == ("__debug__" : Str)) = false := by decide) : PV X W (.Name x pos) (eC (.int i)) :=
  v_const (v := .int i) (pe_glob hg hm ⟨_, rfl⟩ hd) fun _ _ => .int i

/-! ### operands: a value, or a name whose object may change until it is used -/
inductive OV where
  | vl (d : D) | sl (i : Nat)
abbrev Ox := Nv → Hs → Res OV
/-- what a name holds now -/
def deref (env : Nv) (h : Hs) (i : Nat) : Option D := match env[i]? with
  | some (some (.val d)) => some d
  | some (some (.loc n)) => (match h[n]? with
    | some (.lst ds) => some (.lst ds)
    | _ => none)
  | _ => none
def force (env : Nv) (h : Hs) : OV → Option D
  | .vl d => some d
  | .sl i => deref env h i
/-- a datum, or a list that is owned -/
def RB (K : PySem.W.Frag) (mg : Str → Option Value) (ρ : Own) (H : Hp) (d : D) (v : V) : Prop := RD K mg ρ H d v ∨ ∃ a ds vs, d = .lst ds ∧ v = .ref a ∧ H a = some (.lst vs) ∧ RDs K mg ρ H ds vs
theorem RB.rd {K : PySem.W.Frag} {mg : Str → Option Value} {ρ : Own} {H : Hp} {d : D} {v : V} (r : RB K mg ρ H d v) (hd : ∀ ds, d ≠ .lst ds) : RD K mg ρ H d v := by
  rcases r with r | ⟨a, ds, vs, e, _⟩
  · exact r
  · exact absurd e (hd ds)
theorem RB.lst {K : PySem.W.Frag} {mg : Str → Option Value} {ρ : Own} {H : Hp} {ds : List D} {v : V} (r : RB K mg ρ H (.lst ds) v) : ∃ a vs, v = .ref a ∧ H a = some (.lst vs) ∧ RDs K mg ρ H ds vs := by
  rcases r with r | ⟨a, es, vs, e, h1, h2, h3⟩
  · cases r with
    | lst e1 n1 r1 => exact ⟨_, _, rfl, e1, r1⟩
  · cases e; exact ⟨a, vs, h1, h2, h3⟩
section
variable {K : PySem.W.Frag} {mg : Str → Option Value} {ρ : Own} {H : Hp} {v : V}
theorem RB.vNon (r : RB K mg ρ H .non v) : v = .non := by cases r.rd nofun; rfl
theorem RB.vBl {b : Bool} (r : RB K mg ρ H (.bl b) v) : v = .bl b := by cases r.rd nofun; rfl
theorem RB.vInt {i : Int} (r : RB K mg ρ H (.int i) v) : v = .int i := by cases r.rd nofun; rfl
theorem RB.vStr {x : Str} (r : RB K mg ρ H (.str x) v) : v = .str x := by cases r.rd nofun; rfl
theorem RB.vTy {n : String} (r : RB K mg ρ H (.ty n) v) : v = .ty n := by cases r.rd nofun; rfl
theorem RB.vTup {ds : List D} (r : RB K mg ρ H (.tup ds) v) : ∃ a vs, v = .ref a ∧ SqT K H a vs ∧ RDs K mg ρ H ds vs := by
  cases r.rd nofun with
  | tup h hs => exact ⟨_, _, rfl, h, hs⟩
theorem RB.vScr {ds : List D} (r : RB K mg ρ H (.scr ds) v) : ∃ a vs, v = .ref a ∧ SqL K H a vs ∧ RDs K mg ρ H ds vs := by
  cases r.rd nofun with
  | scr h hs => exact ⟨_, _, rfl, h.l, hs⟩
theorem RB.vDct {ks : List Key} {ds : List D} (r : RB K mg ρ H (.dct ks ds) v) : ∃ a kvs, v = .ref a ∧ H a = some (.dK kvs) := by
  cases r.rd nofun with
  | dct h l no hs => exact ⟨_, _, rfl, h⟩
end
def RO (K : PySem.W.Frag) (mg : Str → Option Value) (ρ : Own) (env : Nv) (H : Hp) : OV → V → Prop
  | .vl d, v => RD K mg ρ H d v
  | .sl i, v => ∃ sv, env[i]? = some (some sv) ∧ SVOk K mg ρ H sv v
theorem RO.step {K : PySem.W.Frag} {mg : Str → Option Value} {ρ ρ' : Own} {env : Nv} {h : Hs} {H H' : Hp} (ok : HeapOk K mg ρ h H) (S : Step ρ H ρ' H') {o : OV} {v : V} (r : RO K mg ρ env H o v) : RO K mg ρ' env H' o v := by
  cases o with
  | vl d => exact RD.step ok.mutb S r
  | sl i =>
    obtain ⟨sv, e, q⟩ := r
    exact ⟨sv, e, q.step ok S⟩
theorem RO.force {K : PySem.W.Frag} {mg : Str → Option Value} {ρ : Own} {env : Nv} {h : Hs} {H : Hp} (ok : HeapOk K mg ρ h H) {o : OV} {v : V} {d : D} (r : RO K mg ρ env H o v) (e : force env h o = some d) : RB K mg ρ H d v := by
  cases o with
  | vl x => cases e; exact .inl r
  | sl i =>
    obtain ⟨sv, e1, q⟩ := r
    have e : deref env h i = some d := e
    unfold deref at e
    rw [e1] at e
    cases sv with
    | val x => cases e; exact .inl q
    | loc n =>
      dsimp only at e
      split at e
      · rename_i ds e2
        cases e
        obtain ⟨l, h1, h2⟩ := ok.cell n _ e2
        obtain ⟨l', h3, h4⟩ := q
        rw [h1] at h3; cases h3
        cases h2 with
        | lst e3 rs => exact .inr ⟨_, ds, _, rfl, h4 _ _ rfl, e3, rs⟩
      · cases e
def GoodO (K : PySem.W.Frag) (mg : Str → Option Value) (ρ : Own) (env : Nv) (H : Hp) (Q : VK) (E : XK) : Res OV → Prop
  | .ok o h' => ∀ ρ' H' v, HeapOk K mg ρ' h' H' → Step ρ H ρ' H' → RO K mg ρ' env H' o v → Q v H'
  | .exc x h' => EPost K mg ρ H h' E x
  | .bad => False
def TrO (K : PySem.W.Frag) (mg : Str → Option Value) (W : WX) (m : Ox) : TE := fun σ H Q => ∃ ρ env h, Rel K mg ρ env h σ H ∧ GoodO K mg ρ env H Q (fun c d H' => W c d σ H') (m env h)
abbrev PO' (X : Cx) (W : WX) (e : Expr) (m : Ox) : Prop := PE X e (TrO X.K X.mg W m)
/-- a value as an operand -/
def xO (m : Ex) : Ox := fun env h => match m env h with
  | .ok rv h1 => .ok (.vl rv.vl) h1
  | .exc x h1 => .exc x h1
  | .bad => .bad
/-- a name as an operand -/
def nO (i : Nat) : Ox := fun env h => match env[i]? with
  | some (some _) => .ok (.sl i) h
  | _ => .bad
theorem o_x {e : Expr} {m : Ex} (p : PV X W e m) : PO' X W e (xO m) := by
  refine PE.imp p fun σ H Q ⟨ρ, env, h, R, g⟩ => ⟨ρ, env, h, R, ?_⟩
  unfold xO at g
  cases q : m env h with
  | ok rv h1 => rw [q] at g; exact Post.ofVl fun ρ' H' v ok S r => g ρ' H' v ok S r
  | exc x h1 => rw [q] at g; exact g
  | bad => rw [q] at g; exact g
theorem o_n (i : Nat) {x : Str} (hN : X.N[i]? = some x := by rfl) (hv : Vis X.env.scope x := by first | exact Or.inl rfl | exact Or.inr (Or.inl rfl) | exact Or.inr (Or.inr rfl)) (hd : (x == ("__debug__" : Str)) = false := by decide)
    (hcd : (x == ("__classdict__" : Str)) = false := by decide) : PO' X W (.Name x pos) (nO i) := by
  refine PE.imp (pe_var hN hv hd hcd) fun σ H Q ⟨ρ, env, h, R, g⟩ => ?_
  unfold nO at g
  split at g
  · rename_i sv e
    obtain ⟨v, e1, r⟩ := R.env.at_ i _ e
    exact ⟨v, e1, g ρ H v R.hp (Step.refl ρ H) ⟨sv, e, r⟩⟩
  · exact False.elim g
def bindO (m : Ox) (k : OV → Hs → Res RV) : Ex := fun env h => match m env h with
  | .ok o h1 => k o h1
  | .exc x h1 => .exc x h1
  | .bad => .bad
structure AtO (K : PySem.W.Frag) (mg : Str → Option Value) (ρ : Own) (env : Nv) (σ : Slots) (H : Hp) (o : OV) (v : V) (ρ1 : Own) (h1 : Hs) (H1 : Hp) : Prop where
  rel : Rel K mg ρ1 env h1 σ H1
  st : Step ρ H ρ1 H1
  ro : RO K mg ρ1 env H1 o v
theorem TrO.bind {m : Ox} {k : OV → Hs → Res RV} {ρ : Own} {env : Nv} {h : Hs} {σ : Slots} {H : Hp} {Q : VK} (R : Rel X.K X.mg ρ env h σ H)
    (g : Good X.K X.mg ρ H Q (fun c d H' => W c d σ H') (bindO m k env h)) {Z : VK}
    (hz : ∀ o v ρ1 h1 H1, AtO X.K X.mg ρ env σ H o v ρ1 h1 H1 → Good X.K X.mg ρ1 H1 Q (fun c d H' => W c d σ H') (k o h1) → Z v H1) : TrO X.K X.mg W m σ H Z := by
  refine ⟨ρ, env, h, R, ?_⟩
  unfold bindO at g
  cases e : m env h with
  | ok o h1 =>
    rw [e] at g
    exact fun ρ' H' v ok S r => hz o v ρ' h1 H' ⟨⟨ok, R.env.step R.hp S⟩, S, r⟩ (Good.later S g)
  | exc x h1 => rw [e] at g; exact g
  | bad => rw [e] at g; exact g

/-! ### operators -/
def liftO (o : Option RV) (h : Hs) : Res RV := match o with
  | some rv => .ok rv h
  | none => .bad
/-- two data, the wanted end of what op makes of them -/
def r2 (K : PySem.W.Frag) (mg : Str → Option Value) (op : D → D → Option RV) : R2 := fun x y H Q => ∃ ρ h d e rv, HeapOk K mg ρ h H ∧ RB K mg ρ H d x ∧ RB K mg ρ H e y ∧ op d e = some rv ∧ Post K mg ρ H h Q rv
/-- f does what op says -/
abbrev OpV (X : Cx) (f : Value → Value → Sem Value) (op : D → D → Option RV) : Prop := OpR X f (r2 X.K X.mg op)
theorem OpV.of {op : D → D → Option RV} {f : Value → Value → Sem Value} {r : R2} (hr : OpR X f r)
    (h : ∀ (H : Hp) (Q : VK) (ρ : Own) (h : Hs) (d e : D) (x y : V) (rv : RV), HeapOk X.K X.mg ρ h H → RB X.K X.mg ρ H d x → RB X.K X.mg ρ H e y → op d e = some rv → Post X.K X.mg ρ H h Q rv → r x y H Q) : OpV X f op :=
  fun pins s σ H x y u w Q I ru rw' ⟨ρ, hs, d, e, rv, ok, rd, re, ho, p⟩ => hr pins s σ H x y u w Q I ru rw' (h H Q ρ hs d e x y rv ok rd re ho p)
theorem OpV.or {op1 op2 : D → D → Option RV} {f : Value → Value → Sem Value} (h1 : OpV X f op1) (h2 : OpV X f op2) : OpV X f (fun d e => (op1 d e).or (op2 d e)) :=
  fun pins s σ H x y u w Q I ru rw' ⟨ρ, hs, d, e, rv, ok, rd, re, ho, p⟩ => by
    dsimp only at ho
    cases q : op1 d e with
    | some z => rw [q] at ho; exact h1 pins s σ H x y u w Q I ru rw' ⟨ρ, hs, d, e, rv, ok, rd, re, q.trans ho, p⟩
    | none => rw [q] at ho; exact h2 pins s σ H x y u w Q I ru rw' ⟨ρ, hs, d, e, rv, ok, rd, re, ho, p⟩
def op2 (op : D → D → Option RV) (env : Nv) (h : Hs) (x y : OV) : Res RV := match force env h x, force env h y with
  | some d, some e => liftO (op d e) h
  | _, _ => .bad
def eBin (op : D → D → Option RV) (a b : Ox) : Ex := fun env h => bindO a (fun x h1 => bindO b (fun y h2 => op2 op env h2 x y) env h1) env h
variable {a b c : Expr} {ma mb mc : Ox} {op op' : D → D → Option RV}
theorem op2_read {ρ : Own} {env : Nv} {h : Hs} {H : Hp} {Q : VK} {E : XK} {x y : OV} {v w : V} (ok : HeapOk X.K X.mg ρ h H) (rx : RO X.K X.mg ρ env H x v) (ry : RO X.K X.mg ρ env H y w)
    (g : Good X.K X.mg ρ H Q E (op2 op env h x y)) : r2 X.K X.mg op v w H Q := by
  unfold op2 at g
  split at g
  · rename_i d e h1 h2
    cases hrv : op d e with
    | none => rw [hrv] at g; exact g.elim
    | some rv =>
      rw [hrv] at g
      exact ⟨ρ, h, d, e, rv, ok, rx.force ok h1, ry.force ok h2, hrv, g⟩
  · exact g.elim
theorem bin_read {σ : Slots} {H : Hp} {Q : VK} (t : Tr X.K X.mg W (eBin op ma mb) σ H Q) : tOp (r2 X.K X.mg op) (TrO X.K X.mg W ma) (TrO X.K X.mg W mb) σ H Q := by
  obtain ⟨ρ, env, h, R, g⟩ := t
  exact TrO.bind R g fun x v ρ1 h1 H1 A1 g1 => TrO.bind A1.rel g1 fun y w ρ2 h2 H2 A2 g2 => op2_read A2.rel.hp (A1.ro.step A1.rel.hp A2.st) A2.ro g2
theorem v_bin {o : Operator} (ho : OpV X (binaryOp o) op) (ha : PO' X W a ma) (hb : PO' X W b mb) : PV X W (.BinOp a o b pos) (eBin op ma mb) :=
  PE.imp (pe_op ho ha hb) fun σ H Q t => bin_read t
theorem v_cmp {o : CmpOp} (ho : OpV X (compareOp o) op) (ha : PO' X W a ma) (hb : PO' X W b mb) (hm : behindInMarks o b = false := by first | exact nobehind _ (by decide) (by decide) | rfl) : PV X W (.Compare a [o] [b] pos) (eBin op ma mb) :=
  PE.imp (pe_cmpR ho ha hb hm) fun σ H Q t => bin_read t
theorem v_ix (ho : IxR X (r2 X.K X.mg op)) (ha : PO' X W a ma) (hb : PO' X W b mb) (hs : PlainIx b := by intro _ _; rfl) : PV X W (.Subscript a b pos) (eBin op ma mb) :=
  PE.imp (pe_ix ho ha hb hs) fun σ H Q t => bin_read t
/-- a < b < c -/
def eChain (op op' : D → D → Option RV) (a b c : Ox) : Ex := fun env h => bindO a (fun x h1 => bindO b (fun y h2 => match op2 op env h2 x y with
  | .ok (.val (.bl true)) _ => bindO c (fun z h3 => op2 op' env h3 y z) env h2
  | .ok (.val (.bl false)) _ => .ok (.val (.bl false)) h2
  | _ => .bad) env h1) env h
theorem chain_read {σ : Slots} {H : Hp} {Q : VK} (t : Tr X.K X.mg W (eChain op op' ma mb mc) σ H Q) : tChain (r2 X.K X.mg op) (r2 X.K X.mg op') (TrO X.K X.mg W ma) (TrO X.K X.mg W mb) (TrO X.K X.mg W mc) σ H Q := by
  obtain ⟨ρ, env, h, R, g⟩ := t
  refine TrO.bind R g fun x v ρ1 h1 H1 A1 g1 => TrO.bind A1.rel g1 fun y w ρ2 h2 H2 A2 g2 => ?_
  have key : ∀ (k : Bool), (∀ ρ' H', HeapOk X.K X.mg ρ' h2 H' → Step ρ2 H2 ρ' H' → if k = true then TrO X.K X.mg W mc σ H' (fun w' H4 => r2 X.K X.mg op' w w' H4 Q) else Q (.bl false) H') → op2 op env h2 x y = .ok (.val (.bl k)) h2 →
      r2 X.K X.mg op v w H2 (fun z H3 => ∃ k, z = .bl k ∧ if k = true then TrO X.K X.mg W mc σ H3 (fun w' H4 => r2 X.K X.mg op' w w' H4 Q) else Q (.bl false) H3) := fun k hk he => by
    refine op2_read (E := fun _ _ _ => False) A2.rel.hp (A1.ro.step A1.rel.hp A2.st) A2.ro ?_
    rw [he]
    intro ρ' H' z ok S r
    cases r
    exact ⟨k, rfl, hk ρ' H' ok S⟩
  unfold op2 at g2 key
  cases q1 : force env h2 x with
  | none => rw [q1] at g2; exact g2.elim
  | some d =>
    cases q2 : force env h2 y with
    | none => rw [q1, q2] at g2; exact g2.elim
    | some e =>
      rw [q1, q2] at g2
      dsimp only at g2
      cases q3 : op d e with
      | none => rw [q3] at g2; exact g2.elim
      | some rv =>
        rw [q3] at g2
        cases rv with
        | fresh ds => exact g2.elim
        | val z =>
          cases z with
          | bl k =>
            refine key k (fun ρ' H' ok S => ?_) (by rw [q1, q2]; dsimp only; rw [q3]; rfl)
            have R' : Rel X.K X.mg ρ' env h2 σ H' := ⟨ok, A2.rel.env.step A2.rel.hp S⟩
            cases k with
            | false =>
              rw [if_neg Bool.false_ne_true]
              exact g2 ρ' H' _ ok S (.bl false)
            | true =>
              rw [if_pos rfl]
              exact TrO.bind R' (Good.later S g2) fun z w' ρ3 h3 H3 A3 g3 => op2_read A3.rel.hp ((A2.ro.step A2.rel.hp S).step ok A3.st) A3.ro g3
          | _ => exact g2.elim
theorem v_chain {o o' : CmpOp} (ho : OpV X (compareOp o) op) (ho' : OpV X (compareOp o') op') (ha : PO' X W a ma) (hb : PO' X W b mb) (hc : PO' X W c mc) (hm : lastMarks [o, o'] [b, c] = false := by with_unfolding_all rfl) : PV X W (.Compare a [o, o'] [b, c] pos) (eChain op op' ma mb mc) :=
  PE.imp (pe_chain ho ho' ha hb hc hm) fun σ H Q t => chain_read t
/-- one operand -/
def op1 (op : D → Option RV) (env : Nv) (h : Hs) (x : OV) : Res RV := match force env h x with
  | some d => liftO (op d) h
  | none => .bad
def eUn (op : D → Option RV) (a : Ox) : Ex := fun env h => bindO a (fun x h1 => op1 op env h1 x) env h
def r1 (K : PySem.W.Frag) (mg : Str → Option Value) (op : D → Option RV) : V → Hp → VK → Prop := fun x H Q => ∃ ρ h d rv, HeapOk K mg ρ h H ∧ RB K mg ρ H d x ∧ op d = some rv ∧ Post K mg ρ H h Q rv
theorem op1_read {op : D → Option RV} {ρ : Own} {env : Nv} {h : Hs} {H : Hp} {Q : VK} {E : XK} {x : OV} {v : V} (ok : HeapOk X.K X.mg ρ h H) (rx : RO X.K X.mg ρ env H x v)
    (g : Good X.K X.mg ρ H Q E (op1 op env h x)) : r1 X.K X.mg op v H Q := by
  unfold op1 at g
  split at g
  · rename_i d h1
    cases hrv : op d with
    | none => rw [hrv] at g; exact g.elim
    | some rv =>
      rw [hrv] at g
      exact ⟨ρ, h, d, rv, ok, rx.force ok h1, hrv, g⟩
  · exact g.elim
theorem v_un {o : UnaryOp} {op : D → Option RV} (ho : UnR X (unaryOp o) (r1 X.K X.mg op)) (ha : PO' X W a ma) : PV X W (.UnaryOp o a pos) (eUn op ma) :=
  PE.imp (pe_un ho ha) fun σ H Q ⟨ρ, env, h, R, g⟩ => TrO.bind R g fun x v ρ1 h1 H1 A1 g1 => op1_read A1.rel.hp A1.ro g1

/-! ### tests -/
/-- the reading of a test -/
def GoodB (K : PySem.W.Frag) (mg : Str → Option Value) (ρ : Own) (H : Hp) (Q : Bool → Hp → Prop) (E : XK) : Res Bool → Prop
  | .ok b h' => ∀ ρ' H', HeapOk K mg ρ' h' H' → Step ρ H ρ' H' → Q b H'
  | .exc x h' => EPost K mg ρ H h' E x
  | .bad => False
abbrev Tx := Nv → Hs → Res Bool
def TrB (K : PySem.W.Frag) (mg : Str → Option Value) (W : WX) (m : Tx) : TT := fun σ H Q => ∃ ρ env h, Rel K mg ρ env h σ H ∧ GoodB K mg ρ H Q (fun c d H' => W c d σ H') (m env h)
abbrev PB (X : Cx) (W : WX) (e : Expr) (m : Tx) : Prop := PT X e (TrB X.K X.mg W m)
abbrev PBW (X : Cx) (W : WX) (e : Expr) (m : Tx) : Prop := PW X e (TrB X.K X.mg W m)
theorem PT.imp {e : Expr} {t t' : TT} (p : PT X e t) (h : ∀ σ H Q, t' σ H Q → t σ H Q) : PT X e t' := ⟨fun pins s σ H Q I q => p.run pins s σ H Q I (h σ H Q q)⟩
theorem PW.imp {e : Expr} {t t' : TT} (p : PW X e t) (h : ∀ σ H Q, t' σ H Q → t σ H Q) : PW X e t' := ⟨fun wh pins s σ H Q I q => p.run wh pins s σ H Q I (h σ H Q q)⟩
theorem GoodB.later {ρ ρ1 : Own} {H H1 : Hp} {Q : Bool → Hp → Prop} {E : XK} (S : Step ρ H ρ1 H1) {r : Res Bool} (g : GoodB X.K X.mg ρ H Q E r) : GoodB X.K X.mg ρ1 H1 Q E r := by
  cases r with
  | ok b h => exact fun ρ' H' ok S' => g ρ' H' ok (S.trans S')
  | exc x h => exact EPost.later S g
  | bad => exact g
/-- a value that is a bool -/
def bOf (m : Ex) : Tx := fun env h => match m env h with
  | .ok (.val (.bl b)) h1 => .ok b h1
  | .exc x h1 => .exc x h1
  | _ => .bad
variable {ea eb : Ex}
theorem bOf_read {ma : Ex} {ρ : Own} {env : Nv} {h : Hs} {σ : Slots} {H : Hp} {Q : Bool → Hp → Prop} (R : Rel X.K X.mg ρ env h σ H) (g : GoodB X.K X.mg ρ H Q (fun c d H' => W c d σ H') (bOf ma env h)) :
    Tr X.K X.mg W ma σ H (fun x H1 => ∃ c, x = .bl c ∧ Q c H1) := by
  refine ⟨ρ, env, h, R, ?_⟩
  unfold bOf at g
  cases e : ma env h with
  | ok rv h1 =>
    rw [e] at g
    cases rv with
    | fresh ds => exact g.elim
    | val d =>
      cases d with
      | bl b => exact fun ρ' H' v ok S r => by cases r; exact ⟨b, rfl, g ρ' H' ok S⟩
      | _ => exact g.elim
  | exc x h1 => rw [e] at g; exact g
  | bad => rw [e] at g; exact g
theorem t_val {ma : Ex} (h : PV X W a ma) (he : ∀ whole, isTrue a X.env whole = (do let v ← whole; standAt a.pos; holding [v] (truthy v)) := by intro _; rfl) : PB X W a (bOf ma) :=
  PT.imp (pt_val h he) fun σ H Q ⟨ρ, env, hs, R, g⟩ => bOf_read R g
theorem t_cmp {o : CmpOp} (ho : OpV X (compareOp o) op) (ha : PO' X W a ma) (hb : PO' X W b mb) (hm : behindInMarks o b = false := by first | exact nobehind _ (by decide) (by decide) | rfl) : PB X W (.Compare a [o] [b] pos) (bOf (eBin op ma mb)) := by
  refine PT.imp (pt_cmpR ho ha hb hm) fun σ H Q ⟨ρ, env, hs, R, g⟩ => ?_
  obtain ⟨ρ', env', h', R', g'⟩ := bOf_read R g
  exact bin_read ⟨ρ', env', h', R', g'⟩
theorem t_chain {op' : D → D → Option RV} {o o' : CmpOp} {c : Expr} {mc : Ox} (ho : OpV X (compareOp o) op) (ho' : OpV X (compareOp o') op') (ha : PO' X W a ma) (hb : PO' X W b mb) (hc : PO' X W c mc) (hm : lastMarks [o, o'] [b, c] = false := by with_unfolding_all rfl) : PB X W (.Compare a [o, o'] [b, c] pos) (bOf (eChain op op' ma mb mc)) := by
  refine PT.imp (pt_chain ho ho' ha hb hc hm) fun σ H Q ⟨ρ, env, hs, R, g⟩ => ?_
  exact chain_read (bOf_read R g)
/-- as a value by its truth -/
def vOf (m : Tx) : Ex := fun env h => match m env h with
  | .ok b h1 => .ok (.val (.bl b)) h1
  | .exc x h1 => .exc x h1
  | .bad => .bad
def tNotE (m : Tx) : Tx := fun env h => match m env h with
  | .ok b h1 => .ok (!b) h1
  | .exc x h1 => .exc x h1
  | .bad => .bad
def tAndE (m k : Tx) : Tx := fun env h => match m env h with
  | .ok true h1 => k env h1
  | .ok false h1 => .ok false h1
  | .exc x h1 => .exc x h1
  | .bad => .bad
def tOrE (m k : Tx) : Tx := fun env h => match m env h with
  | .ok true h1 => .ok true h1
  | .ok false h1 => k env h1
  | .exc x h1 => .exc x h1
  | .bad => .bad
variable {tm tk : Tx} {rest : List Expr}
theorem t_not (h : PB X W a tm) : PB X W (.UnaryOp .Not a pos) (tNotE tm) := by
  refine PT.imp (pt_not h) fun σ H Q ⟨ρ, env, hs, R, g⟩ => ⟨ρ, env, hs, R, ?_⟩
  unfold tNotE at g
  cases e : tm env hs with
  | ok b h1 => rw [e] at g; exact g
  | exc x h1 => rw [e] at g; exact g
  | bad => rw [e] at g; exact g
theorem w_and1 (h : PB X W a tm) : PBW X W (.BoolOp .And [a] pos) tm := pw_and1 h
theorem w_or1 (h : PB X W a tm) : PBW X W (.BoolOp .Or [a] pos) tm := pw_or1 h
theorem w_and (h : PB X W a tm) (h2 : PBW X W (.BoolOp .And (b :: rest) pos) tk) : PBW X W (.BoolOp .And (a :: b :: rest) pos) (tAndE tm tk) := by
  refine PW.imp (pw_and h h2) fun σ H Q ⟨ρ, env, hs, R, g⟩ => ⟨ρ, env, hs, R, ?_⟩
  unfold tAndE at g
  cases e : tm env hs with
  | ok c h1 =>
    rw [e] at g
    intro ρ' H' ok S
    have R' : Rel X.K X.mg ρ' env h1 σ H' := ⟨ok, R.env.step R.hp S⟩
    cases c with
    | true => rw [if_pos rfl]; exact ⟨ρ', env, h1, R', GoodB.later S g⟩
    | false => rw [if_neg Bool.false_ne_true]; exact g ρ' H' ok S
  | exc x h1 => rw [e] at g; exact g
  | bad => rw [e] at g; exact g
theorem w_or (h : PB X W a tm) (h2 : PBW X W (.BoolOp .Or (b :: rest) pos) tk) : PBW X W (.BoolOp .Or (a :: b :: rest) pos) (tOrE tm tk) := by
  refine PW.imp (pw_or h h2) fun σ H Q ⟨ρ, env, hs, R, g⟩ => ⟨ρ, env, hs, R, ?_⟩
  unfold tOrE at g
  cases e : tm env hs with
  | ok c h1 =>
    rw [e] at g
    intro ρ' H' ok S
    have R' : Rel X.K X.mg ρ' env h1 σ H' := ⟨ok, R.env.step R.hp S⟩
    cases c with
    | true => rw [if_pos rfl]; exact g ρ' H' ok S
    | false => rw [if_neg Bool.false_ne_true]; exact ⟨ρ', env, h1, R', GoodB.later S g⟩
  | exc x h1 => rw [e] at g; exact g
  | bad => rw [e] at g; exact g
theorem t_of (h : PBW X W a tm) : PB X W a tm := h.pt
/-- and, or, not as values -/
def eAndE (m k : Ex) : Ex := fun env h => match m env h with
  | .ok (.val (.bl true)) h1 => k env h1
  | .ok (.val (.bl false)) h1 => .ok (.val (.bl false)) h1
  | .exc x h1 => .exc x h1
  | _ => .bad
def eOrE (m k : Ex) : Ex := fun env h => match m env h with
  | .ok (.val (.bl true)) h1 => .ok (.val (.bl true)) h1
  | .ok (.val (.bl false)) h1 => k env h1
  | .exc x h1 => .exc x h1
  | _ => .bad
def eNotE (m : Ex) : Ex := fun env h => match m env h with
  | .ok (.val (.bl b)) h1 => .ok (.val (.bl (!b))) h1
  | .exc x h1 => .exc x h1
  | _ => .bad
theorem v_one {ma : Ex} {o : BoolOp} (h : PV X W a ma) : PV X W (.BoolOp o [a] pos) ma := pe_one h
theorem v_and {ma mb : Ex} (h : PV X W a ma) (h2 : PV X W (.BoolOp .And (b :: rest) pos) mb) : PV X W (.BoolOp .And (a :: b :: rest) pos) (eAndE ma mb) := by
  refine PE.imp (pe_and h h2) fun σ H Q ⟨ρ, env, hs, R, g⟩ => ⟨ρ, env, hs, R, ?_⟩
  unfold eAndE at g
  cases e : ma env hs with
  | ok rv h1 =>
    rw [e] at g
    cases rv with
    | fresh ds => exact g.elim
    | val d =>
      cases d with
      | bl c =>
        intro ρ' H' v ok S r
        cases r
        refine ⟨c, rfl, ?_⟩
        have R' : Rel X.K X.mg ρ' env h1 σ H' := ⟨ok, R.env.step R.hp S⟩
        cases c with
        | true => rw [if_pos rfl]; exact ⟨ρ', env, h1, R', Good.later S g⟩
        | false => rw [if_neg Bool.false_ne_true]; exact g ρ' H' _ ok S (.bl false)
      | _ => exact g.elim
  | exc x h1 => rw [e] at g; exact g
  | bad => rw [e] at g; exact g
theorem v_or {ma mb : Ex} (h : PV X W a ma) (h2 : PV X W (.BoolOp .Or (b :: rest) pos) mb) : PV X W (.BoolOp .Or (a :: b :: rest) pos) (eOrE ma mb) := by
  refine PE.imp (pe_or h h2) fun σ H Q ⟨ρ, env, hs, R, g⟩ => ⟨ρ, env, hs, R, ?_⟩
  unfold eOrE at g
  cases e : ma env hs with
  | ok rv h1 =>
    rw [e] at g
    cases rv with
    | fresh ds => exact g.elim
    | val d =>
      cases d with
      | bl c =>
        intro ρ' H' v ok S r
        cases r
        refine ⟨c, rfl, ?_⟩
        have R' : Rel X.K X.mg ρ' env h1 σ H' := ⟨ok, R.env.step R.hp S⟩
        cases c with
        | true => rw [if_pos rfl]; exact g ρ' H' _ ok S (.bl true)
        | false => rw [if_neg Bool.false_ne_true]; exact ⟨ρ', env, h1, R', Good.later S g⟩
      | _ => exact g.elim
  | exc x h1 => rw [e] at g; exact g
  | bad => rw [e] at g; exact g
theorem v_not {ma : Ex} (h : PV X W a ma) : PV X W (.UnaryOp .Not a pos) (eNotE ma) := by
  refine PE.imp (pe_not h) fun σ H Q ⟨ρ, env, hs, R, g⟩ => ⟨ρ, env, hs, R, ?_⟩
  unfold eNotE at g
  cases e : ma env hs with
  | ok rv h1 =>
    rw [e] at g
    cases rv with
    | fresh ds => exact g.elim
    | val d =>
      cases d with
      | bl c =>
        intro ρ' H' v ok S r
        cases r
        exact ⟨c, rfl, g ρ' H' _ ok S (.bl (!c))⟩
      | _ => exact g.elim
  | exc x h1 => rw [e] at g; exact g
  | bad => rw [e] at g; exact g
/-- a if t else b -/
def eIf (t : Tx) (m k : Ex) : Ex := fun env h => match t env h with
  | .ok true h1 => m env h1
  | .ok false h1 => k env h1
  | .exc x h1 => .exc x h1
  | .bad => .bad
theorem v_if {ma mb : Ex} (ht : PB X W c tm) (ha : PV X W a ma) (hb : PV X W b mb) : PV X W (.IfExp c a b pos) (eIf tm ma mb) := by
  refine PE.imp (pe_ifExp ht ha hb) fun σ H Q ⟨ρ, env, hs, R, g⟩ => ⟨ρ, env, hs, R, ?_⟩
  unfold eIf at g
  cases e : tm env hs with
  | ok c h1 =>
    rw [e] at g
    intro ρ' H' ok S
    have R' : Rel X.K X.mg ρ' env h1 σ H' := ⟨ok, R.env.step R.hp S⟩
    cases c with
    | true => rw [if_pos rfl]; exact ⟨ρ', env, h1, R', Good.later S g⟩
    | false => rw [if_neg Bool.false_ne_true]; exact ⟨ρ', env, h1, R', Good.later S g⟩
  | exc x h1 => rw [e] at g; exact g
  | bad => rw [e] at g; exact g
end
end Ev
end
section
set_option Elab.async false
set_option linter.all false
set_option maxRecDepth 100000
set_option maxHeartbeats 4000000
/-! Ev2: operations on data. -/
namespace Ev
open PySem PySem.Spec L2

section
variable {X : Cx} {ρ : Own} {H : Hp} {h : Hs} {Q : VK} {K : PySem.W.Frag} {mg : Str → Option Value}
theorem Post.int {i : Int} (p : Post K mg ρ H h Q (.val (.int i))) (ok : HeapOk K mg ρ h H) : Q (.int i) H := p ρ H _ ok (Step.refl ρ H) (.int i)
theorem Post.bl {b : Bool} (p : Post K mg ρ H h Q (.val (.bl b))) (ok : HeapOk K mg ρ h H) : Q (.bl b) H := p ρ H _ ok (Step.refl ρ H) (.bl b)
theorem Post.str {x : Str} (p : Post K mg ρ H h Q (.val (.str x))) (ok : HeapOk K mg ρ h H) : Q (.str x) H := p ρ H _ ok (Step.refl ρ H) (.str x)
theorem Post.non (p : Post K mg ρ H h Q (.val .non)) (ok : HeapOk K mg ρ h H) : Q .non H := p ρ H _ ok (Step.refl ρ H) .non
theorem Post.rd {d : D} {v : V} (p : Post K mg ρ H h Q (.val d)) (ok : HeapOk K mg ρ h H) (r : RD K mg ρ H d v) : Q v H := p ρ H v ok (Step.refl ρ H) r
theorem Post.newTup {ds : List D} {vs : List V} (p : Post K mg ρ H h Q (.val (.tup ds))) (ok : HeapOk K mg ρ h H) (r : RDs K mg ρ H ds vs) : ∀ a, H a = none → Q (.ref a) (upd H a (.tup vs)) := fun a ha =>
  p ρ _ _ (ok.new ha) (step_new ha) (.tup (SqT.of upd_same) (r.step ok.mutb (step_new ha)))
theorem Post.newLst {ds : List D} {vs : List V} (p : Post K mg ρ H h Q (.fresh ds)) (ok : HeapOk K mg ρ h H) (r : RDs K mg ρ H ds vs) : ∀ a, H a = none → Q (.ref a) (upd H a (.lst vs)) := fun a ha =>
  p ρ H a vs ok (Step.refl ρ H) ha r

/-! ### ints -/
def oInt (C : Int → Int → Bool) (g : Int → Int → Int) : D → D → Option RV
  | .int i, .int j => if C i j then some (.val (.int (g i j))) else none
  | _, _ => none
def oIntB (g : Int → Int → Bool) : D → D → Option RV
  | .int i, .int j => some (.val (.bl (g i j)))
  | _, _ => none
theorem OpV.int {f : Value → Value → Sem Value} {C : Int → Int → Prop} {c : Int → Int → Bool} {g : Int → Int → Int} (hr : OpR X f (rI C fun i j => .int (g i j))) (hc : ∀ i j, c i j = true → C i j) : OpV X f (oInt c g) :=
  OpV.of hr fun H Q ρ h d e x y rv ok rd re ho p => by
    unfold oInt at ho
    split at ho
    · rename_i i j
      split at ho
      · rename_i z
        cases ho; cases rd.vInt; cases re.vInt
        exact ⟨i, j, rfl, rfl, hc i j z, p.int ok⟩
      · cases ho
    · cases ho
theorem OpV.int0 {f : Value → Value → Sem Value} {g : Int → Int → Int} (hr : OpR X f (rI0 fun i j => .int (g i j))) : OpV X f (oInt (fun _ _ => true) g) :=
  OpV.of hr fun H Q ρ h d e x y rv ok rd re ho p => by
    unfold oInt at ho
    split at ho
    · rename_i i j
      rw [if_pos rfl] at ho
      cases ho; cases rd.vInt; cases re.vInt
      exact ⟨i, j, rfl, rfl, p.int ok⟩
    · cases ho
theorem OpV.intB {f : Value → Value → Sem Value} {g : Int → Int → Bool} (hr : OpR X f (rI0 fun i j => .bl (g i j))) : OpV X f (oIntB g) :=
  OpV.of hr fun H Q ρ h d e x y rv ok rd re ho p => by
    unfold oIntB at ho
    split at ho
    · rename_i i j
      cases ho; cases rd.vInt; cases re.vInt
      exact ⟨i, j, rfl, rfl, p.bl ok⟩
    · cases ho
abbrev iAdd := oInt (fun _ _ => true) (fun i j => i + j)
abbrev iSub := oInt (fun _ _ => true) (fun i j => i - j)
abbrev iMul := oInt (fun i j => decide (i.natAbs.log2 + j.natAbs.log2 < 1000000)) (fun i j => i * j)
abbrev iDiv := oInt (fun _ j => decide (0 < j) && decide (j.natAbs.log2 < 9000)) (fun i j => i / j)
abbrev iMod := oInt (fun _ j => decide (0 < j)) (fun i j => i % j)
abbrev iPow := oInt (fun i j => decide (0 ≤ j) && decide (j ≤ 1000000) && decide (i.natAbs < 2 ^ 64)) (fun i j => i ^ j.toNat)
abbrev iShl := oInt (fun i j => decide (0 ≤ j) && decide (j ≤ 1000000) && decide (i.natAbs < 2 ^ 64)) (fun i j => i * 2 ^ j.toNat)
abbrev iShr := oInt (fun _ j => decide (0 ≤ j)) (fun i j => i / 2 ^ j.toNat)
abbrev iAnd := oInt (fun _ _ => true) Builtin.bitAnd
abbrev iOr := oInt (fun _ _ => true) Builtin.bitOr
theorem o_iAdd : OpV X (binaryOp .Add) iAdd := OpV.int0 op_add
theorem o_sub : OpV X (binaryOp .Sub) iSub := OpV.int0 op_sub
theorem o_iMul : OpV X (binaryOp .Mult) iMul := OpV.int op_mulW fun i j h => (show i.natAbs.log2 + j.natAbs.log2 < 1000000 from of_decide_eq_true h)
theorem o_div : OpV X (binaryOp .FloorDiv) iDiv := OpV.int op_fdivW fun i j h => by
  rw [Bool.and_eq_true] at h
  exact ⟨of_decide_eq_true h.1, of_decide_eq_true h.2⟩
theorem o_mod : OpV X (binaryOp .Mod) iMod := OpV.int op_mod fun i j h => of_decide_eq_true h
theorem o_pow : OpV X (binaryOp .Pow) iPow := OpV.int op_pow fun i j h => by
  rw [Bool.and_eq_true, Bool.and_eq_true] at h
  exact ⟨of_decide_eq_true h.1.1, of_decide_eq_true h.1.2, of_decide_eq_true h.2⟩
theorem o_shl : OpV X (binaryOp .LShift) iShl := OpV.int op_shl fun i j h => by
  rw [Bool.and_eq_true, Bool.and_eq_true] at h
  exact ⟨of_decide_eq_true h.1.1, of_decide_eq_true h.1.2, of_decide_eq_true h.2⟩
theorem o_shr : OpV X (binaryOp .RShift) iShr := OpV.int op_shr fun i j h => of_decide_eq_true h
theorem o_and : OpV X (binaryOp .BitAnd) iAnd := OpV.int0 op_and
theorem o_or : OpV X (binaryOp .BitOr) iOr := OpV.int0 op_or
abbrev cLt := oIntB (fun i j => decide (i < j))
abbrev cLe := oIntB (fun i j => decide (i ≤ j))
abbrev cGt := oIntB (fun i j => decide (j < i))
abbrev cGe := oIntB (fun i j => decide (j ≤ i))
theorem o_lt : OpV X (compareOp .Lt) cLt := OpV.intB op_lt
theorem o_le : OpV X (compareOp .LtE) cLe := OpV.intB op_le
theorem o_gt : OpV X (compareOp .Gt) cGt := OpV.intB op_gt
theorem o_ge : OpV X (compareOp .GtE) cGe := OpV.intB op_ge
def uNeg : D → Option RV
  | .int i => some (.val (.int (-i)))
  | _ => none
theorem u_neg : UnR X (unaryOp .USub) (r1 X.K X.mg uNeg) := fun pins s σ H x v Q I rx ⟨ρ, h, d, rv, ok, rd, ho, p⟩ => by
  unfold uNeg at ho
  split at ho
  · rename_i i
    cases ho; cases rd.vInt
    exact un_neg pins s σ H _ v Q I rx ⟨i, rfl, p.int ok⟩
  · cases ho

/-! ### texts, lists, tuples -/
def sAdd : D → D → Option RV
  | .str x, .str y => if x.length + y.length ≤ sizeLine then some (.val (.str (x ++ y))) else none
  | _, _ => none
theorem o_sAdd : OpV X (binaryOp .Add) sAdd := OpV.of op_add_str fun H Q ρ h d e x y rv ok rd re ho p => by
  unfold sAdd at ho
  split at ho
  · split at ho
    · cases ho; cases rd.vStr; cases re.vStr
      exact ⟨_, _, rfl, rfl, by assumption, p.str ok⟩
    · cases ho
  · cases ho
def lAdd : D → D → Option RV
  | .lst xs, .lst ys => if xs.length + ys.length ≤ sizeLine then some (.fresh (xs ++ ys)) else none
  | _, _ => none
theorem o_lAdd : OpV X (binaryOp .Add) lAdd := OpV.of op_cat fun H Q ρ h d e x y rv ok rd re ho p => by
  unfold lAdd at ho
  split at ho
  · split at ho
    · cases ho
      obtain ⟨a1, v1, rfl, e1, r1⟩ := rd.lst
      obtain ⟨a2, v2, rfl, e2, r2⟩ := re.lst
      refine ⟨_, _, _, _, rfl, rfl, e1, e2, ?_, p.newLst ok (RDs.append r1 r2)⟩
      rw [← r1.length, ← r2.length]
      assumption
    · cases ho
  · cases ho
def tAdd : D → D → Option RV
  | .tup xs, .tup ys => if xs.length + ys.length ≤ sizeLine then some (.val (.tup (xs ++ ys))) else none
  | _, _ => none
theorem o_tAdd : OpV X (binaryOp .Add) tAdd := OpV.of op_catA fun H Q ρ h d e x y rv ok rd re ho p => by
  unfold tAdd at ho
  split at ho
  · rename_i xs ys
    split at ho
    · cases ho
      obtain ⟨a1, v1, rfl, s1, r1⟩ := rd.vTup
      obtain ⟨a2, v2, rfl, s2, r2⟩ := re.vTup
      refine ⟨_, _, _, _, rfl, rfl, s1, s2, ?_, fun e1 => ?_, fun _ e2 => ?_, fun _ _ => p.newTup ok (RDs.append r1 r2)⟩
      · rw [← r1.length, ← r2.length]
        assumption
      · subst e1
        cases r1
        exact p.rd ok (.tup s2 r2)
      · subst e2
        cases r2
        rw [List.append_nil] at p
        exact p.rd ok (.tup s1 r1)
    · cases ho
  · cases ho
/-- + of anything -/
def dAdd : D → D → Option RV := fun d e => (iAdd d e).or (((lAdd d e).or ((tAdd d e).or (sAdd d e))))
theorem o_add : OpV X (binaryOp .Add) dAdd := OpV.or o_iAdd (OpV.or o_lAdd (OpV.or o_tAdd o_sAdd))
def lMul : D → D → Option RV
  | .lst xs, .int k => if -(2 ^ 63) ≤ k ∧ k < 2 ^ 63 ∧ xs.length * k.toNat ≤ sizeLine then some (.fresh (List.replicate k.toNat xs).flatten) else none
  | _, _ => none
theorem RDs.rep {ds : List D} {vs : List V} (r : RDs K mg ρ H ds vs) : ∀ n : Nat, RDs K mg ρ H (List.replicate n ds).flatten (List.replicate n vs).flatten
  | 0 => .nil
  | n + 1 => by
    rw [List.replicate_succ, List.replicate_succ, List.flatten_cons, List.flatten_cons]
    exact RDs.append r (RDs.rep r n)
theorem o_lMul : OpV X (binaryOp .Mult) lMul := OpV.of op_rep fun H Q ρ h d e x y rv ok rd re ho p => by
  unfold lMul at ho
  split at ho
  · split at ho
    · rename_i z
      cases ho
      obtain ⟨a1, v1, rfl, e1, r1⟩ := rd.lst
      cases re.vInt
      refine ⟨_, _, _, rfl, rfl, e1, z.1, z.2.1, ?_, p.newLst ok (RDs.rep r1 _)⟩
      rw [← r1.length]
      exact z.2.2
    · cases ho
  · cases ho
def tMul : D → D → Option RV
  | .tup xs, .int k => if -1000 ≤ k ∧ k ≤ 1000 ∧ xs.length ≤ 1000 then some (.val (.tup (List.replicate k.toNat xs).flatten)) else none
  | _, _ => none
theorem o_tMul : OpV X (binaryOp .Mult) tMul := fun pins s σ H x y u w Q I ru rw' ⟨ρ, hs, d, e, rv, ok, rd, re, ho, p⟩ => by
  unfold tMul at ho
  split at ho
  · rename_i xs k
    split at ho
    · rename_i z
      cases ho
      obtain ⟨a, vs, rfl, sq, rs⟩ := rd.vTup
      cases re.vInt
      have hl := rs.length
      by_cases c1 : vs = [] ∨ k = 1
      · refine EvS.op_repS pins s σ H _ _ u w Q I ru rw' ⟨a, k, vs, rfl, rfl, sq, by omega, by omega, .inl ⟨c1, ?_⟩⟩
        refine p.rd ok (.tup sq ?_)
        rcases c1 with c1 | c1
        · subst c1
          cases rs
          have : (List.replicate k.toNat ([] : List D)).flatten = [] := by simp
          rw [this]; exact .nil
        · subst c1
          simpa using rs
      · have hne : vs ≠ [] := fun z => c1 (.inl z)
        by_cases c2 : k ≤ 0
        · refine EvS.op_repS pins s σ H _ _ u w Q I ru rw' ⟨a, k, vs, rfl, rfl, sq, by omega, by omega, .inr ⟨hne, c2, ?_⟩⟩
          have : k.toNat = 0 := by omega
          rw [this] at p
          exact p.newTup ok .nil
        · refine op_repT pins s σ H _ _ u w Q I ru rw' ⟨a, k, vs, rfl, rfl, sq, hne, by omega, by omega, by omega, ?_⟩
          exact p.newTup ok (rs.rep _)
    · cases ho
  · cases ho
def dMul : D → D → Option RV := fun d e => (iMul d e).or ((lMul d e).or (tMul d e))
theorem o_mul : OpV X (binaryOp .Mult) dMul := OpV.or o_iMul (OpV.or o_lMul o_tMul)

/-! ### == -/
mutual
def toPy : D → Option PyData
  | .non => some .none
  | .bl b => some (.bool b)
  | .int i => some (.int i)
  | .str x => some (.str x)
  | .tup ds => match toPys ds with | some ps => some (.tuple ps) | none => none
  | .lst ds => match toPys ds with | some ps => some (.list ps) | none => none
  | .scr ds => match toPys ds with | some ps => some (.list ps) | none => none
  | .ty _ => none
  | .gl _ => none
  | .dct _ _ => none
def toPys : List D → Option (List PyData)
  | [] => some []
  | d :: ds => match toPy d, toPys ds with | some p, some ps => some (p :: ps) | _, _ => none
end
mutual
theorem RD.dp : ∀ {d : D} {v : V} {p : PyData}, RD K mg ρ H d v → toPy d = some p → Dp K H v p
  | _, _, _, .non, e => by cases e; exact .non
  | _, _, _, .bl b, e => by cases e; exact .bl b
  | _, _, _, .int b, e => by cases e; exact .int b
  | _, _, _, .str b, e => by cases e; exact .str b
  | _, _, _, .tup s r, e => by
    unfold toPy at e
    split at e
    · cases e; exact .tup s (RDs.dp r (by assumption))
    · cases e
  | _, _, _, .lst s _ r, e => by
    unfold toPy at e
    split at e
    · cases e; exact .lst (SqL.of s) (RDs.dp r (by assumption))
    · cases e
  | _, _, _, .scr s r, e => by
    unfold toPy at e
    split at e
    · cases e; exact .lst s.l (RDs.dp r (by assumption))
    · cases e
  | _, _, _, .ty n, e => by cases e
  | _, _, _, .gl n, e => by cases e
  | _, _, _, .dct _ _ _ _, e => by cases e
theorem RDs.dp : ∀ {ds : List D} {vs : List V} {ps : List PyData}, RDs K mg ρ H ds vs → toPys ds = some ps → DpAll K H vs ps
  | _, _, _, .nil, e => by cases e; exact .nil
  | _, _, _, .cons h hs, e => by
    unfold toPys at e
    split at e
    · cases e; exact .cons (RD.dp h (by assumption)) (RDs.dp hs (by assumption))
    · cases e
end
theorem RB.dp {d : D} {v : V} {p : PyData} (r : RB K mg ρ H d v) (e : toPy d = some p) : Dp K H v p := by
  rcases r with r | ⟨a, ds, vs, rfl, rfl, e1, rs⟩
  · exact RD.dp r e
  · unfold toPy at e
    split at e
    · cases e; exact .lst (SqL.of e1) (RDs.dp rs (by assumption))
    · cases e
/-- == of data, where both are plain and not too deep -/
def dEq? (d e : D) : Option Bool := match toPy d, toPy e with
  | some p, some q => if SeqAt.shaped p && SeqAt.shaped q then some (PyData.eqv p q) else none
  | _, _ => none
def dEq (d e : D) : Option RV := (dEq? d e).map fun b => .val (.bl b)
def dNe (d e : D) : Option RV := (dEq? d e).map fun b => .val (.bl (!b))
theorem o_eq (hu : X.A.units + 64 < cLine) : OpV X (compareOp .Eq) dEq := OpV.of (op_eqD hu) fun H Q ρ h d e x y rv ok rd re ho p => by
  unfold dEq dEq? at ho
  split at ho
  · rename_i p1 q1 e1 e2
    split at ho
    · rename_i z
      rw [Bool.and_eq_true] at z
      cases ho
      exact ⟨_, _, rd.dp e1, re.dp e2, z.1, z.2, p.bl ok⟩
    · cases ho
  · cases ho
theorem o_ne (hu : X.A.units + 64 < cLine) : OpV X (compareOp .NotEq) dNe := OpV.of (op_neD hu) fun H Q ρ h d e x y rv ok rd re ho p => by
  unfold dNe dEq? at ho
  split at ho
  · rename_i p1 q1 e1 e2
    split at ho
    · rename_i z
      rw [Bool.and_eq_true] at z
      cases ho
      exact ⟨_, _, rd.dp e1, re.dp e2, z.1, z.2, p.bl ok⟩
    · cases ho
  · cases ho
/-- is None -/
def dIsN : D → D → Option RV
  | .non, .non => some (.val (.bl true))
  | .bl _, .non => some (.val (.bl false))
  | .int _, .non => some (.val (.bl false))
  | .str _, .non => some (.val (.bl false))
  | .tup _, .non => some (.val (.bl false))
  | .lst _, .non => some (.val (.bl false))
  | _, _ => none
theorem o_is : OpV X (compareOp .Is) dIsN := OpV.of op_isN fun H Q ρ h d e x y rv ok rd re ho p => by
  unfold dIsN at ho
  split at ho <;> first
    | (cases ho; cases re.vNon; obtain ⟨a1, v1, rfl, e1, r1⟩ := rd.lst; exact ⟨rfl, p.bl ok⟩)
    | (cases ho; cases re.vNon; cases rd.rd nofun; exact ⟨rfl, p.bl ok⟩)
    | cases ho
def dNotN : D → D → Option RV
  | .non, .non => some (.val (.bl false))
  | .bl _, .non => some (.val (.bl true))
  | .int _, .non => some (.val (.bl true))
  | .str _, .non => some (.val (.bl true))
  | .tup _, .non => some (.val (.bl true))
  | .lst _, .non => some (.val (.bl true))
  | _, _ => none
theorem o_isNot : OpV X (compareOp .IsNot) dNotN := OpV.of op_notN fun H Q ρ h d e x y rv ok rd re ho p => by
  unfold dNotN at ho
  split at ho <;> first
    | (cases ho; cases re.vNon; obtain ⟨a1, v1, rfl, e1, r1⟩ := rd.lst; exact ⟨rfl, p.bl ok⟩)
    | (cases ho; cases re.vNon; cases rd.rd nofun; exact ⟨rfl, p.bl ok⟩)
    | cases ho

/-! ### in, of lists and (flat) tuples -/
def flatD : D → Bool
  | .non => true
  | .bl _ => true
  | .int _ => true
  | .str _ => true
  | _ => false
theorem flat_rd {d : D} {v : V} (r : RD K mg ρ H d v) (f : flatD d = true) : flatV v = true := by
  cases r <;> first | rfl | cases f
theorem flats_rd : ∀ {ds : List D} {vs : List V}, RDs K mg ρ H ds vs → ds.all flatD = true → vs.all flatV = true
  | _, _, .nil, _ => rfl
  | _, _, .cons h hs, f => by
    rw [List.all_cons, Bool.and_eq_true] at f ⊢
    exact ⟨flat_rd h f.1, flats_rd hs f.2⟩
def eqF : D → D → Bool
  | .non, .non => true
  | .bl a, .bl b => a == b
  | .bl a, .int b => (if a then 1 else 0) == b
  | .int a, .bl b => a == (if b then 1 else 0)
  | .int a, .int b => a == b
  | .str a, .str b => a == b
  | _, _ => false
theorem eqF_rd {d e : D} {v w : V} (r : RD K mg ρ H d v) (q : RD K mg ρ H e w) (f : flatD d = true) (g : flatD e = true) : eqV v w = eqF d e := by
  cases r <;> first | (cases f; done) | (cases q <;> first | (cases g; done) | rfl)
def inF (x : D) (xs : List D) : Bool := xs.any fun y => eqF y x
theorem inF_rd {d : D} {v : V} (r : RD K mg ρ H d v) (f : flatD d = true) : ∀ {ds : List D} {vs : List V}, RDs K mg ρ H ds vs → ds.all flatD = true → inV v vs = inF d ds
  | _, _, .nil, _ => rfl
  | _, _, .cons h hs, g => by
    rw [List.all_cons, Bool.and_eq_true] at g
    have ih := inF_rd r f hs g.2
    unfold inV inF at ih ⊢
    rw [List.any_cons, List.any_cons, eqF_rd h r g.1 f, ih]
def items? : D → Option (List D)
  | .lst ds => some ds
  | .scr ds => some ds
  | .tup ds => some ds
  | _ => none
theorem items_rd0 {d : D} {v : V} {ds : List D} (r : RD K mg ρ H d v) (e : items? d = some ds) : ∃ a vs, v = .ref a ∧ (SqL K H a vs ∨ SqT K H a vs) ∧ RDs K mg ρ H ds vs := by
  cases r <;> first
    | (rename_i h _ hs; cases e; exact ⟨_, _, rfl, .inl (SqL.of h), hs⟩)
    | (rename_i h hs; cases e; first | exact ⟨_, _, rfl, .inr h, hs⟩ | exact ⟨_, _, rfl, .inl h.l, hs⟩)
    | cases e
theorem items_rd {d : D} {v : V} {ds : List D} (r : RB K mg ρ H d v) (e : items? d = some ds) : ∃ a vs, v = .ref a ∧ (SqL K H a vs ∨ SqT K H a vs) ∧ RDs K mg ρ H ds vs := by
  rcases r with r | ⟨a, es, vs, rfl, rfl, e1, rs⟩
  · exact items_rd0 r e
  · cases e; exact ⟨a, vs, rfl, .inl (SqL.of e1), rs⟩
theorem flat_ne {d : D} (f : flatD d = true) : ∀ ds, d ≠ .lst ds := fun ds e => by subst e; cases f
def inS (d e : D) : Option Bool := match items? e with
  | some ds => if flatD d && ds.all flatD then some (inF d ds) else none
  | none => none
def dInF (d e : D) : Option RV := (inS d e).map fun b => .val (.bl b)
def dNotInF (d e : D) : Option RV := (inS d e).map fun b => .val (.bl (!b))
theorem o_inF : OpV X (compareOp .In) dInF := OpV.of op_in_seq fun H Q ρ h d e x y rv ok rd re ho p => by
  unfold dInF inS at ho
  split at ho
  · rename_i ds e1
    split at ho
    · rename_i z
      rw [Bool.and_eq_true] at z
      cases ho
      obtain ⟨a, vs, rfl, q, rs⟩ := items_rd re e1
      refine ⟨a, vs, rfl, q, flat_rd (rd.rd (flat_ne z.1)) z.1, flats_rd rs z.2, ?_⟩
      rw [inF_rd (rd.rd (flat_ne z.1)) z.1 rs z.2]
      exact p.bl ok
    · cases ho
  · cases ho
theorem o_notInF : OpV X (compareOp .NotIn) dNotInF := OpV.of op_notIn_seq fun H Q ρ h d e x y rv ok rd re ho p => by
  unfold dNotInF inS at ho
  split at ho
  · rename_i ds e1
    split at ho
    · rename_i z
      rw [Bool.and_eq_true] at z
      cases ho
      obtain ⟨a, vs, rfl, q, rs⟩ := items_rd re e1
      refine ⟨a, vs, rfl, q, flat_rd (rd.rd (flat_ne z.1)) z.1, flats_rd rs z.2, ?_⟩
      rw [inF_rd (rd.rd (flat_ne z.1)) z.1 rs z.2]
      exact p.bl ok
    · cases ho
  · cases ho
/-- in a list of data of any depth -/
def inL (d e : D) : Option Bool := match e with
  | .lst ds => match toPy d, toPys ds with
    | some p, some ps => if SeqAt.shaped p && SeqAt.shaped (.list ps) then some (ps.any fun z => PyData.eqv z p) else none
    | _, _ => none
  | _ => none
def dInL (d e : D) : Option RV := (inL d e).map fun b => .val (.bl b)
def dNotInL (d e : D) : Option RV := (inL d e).map fun b => .val (.bl (!b))
theorem inL_rd {d e : D} {x y : V} {b : Bool} (rd : RB K mg ρ H d x) (re : RB K mg ρ H e y) (ho : inL d e = some b) :
    ∃ p ps, Dp K H x p ∧ Dp K H y (.list ps) ∧ SeqAt.shaped p = true ∧ SeqAt.shaped (.list ps) = true ∧ (ps.any fun z => PyData.eqv z p) = b := by
  unfold inL at ho
  split at ho
  · split at ho
    · rename_i p ps e1 e2
      split at ho
      · rename_i z
        rw [Bool.and_eq_true] at z
        cases ho
        refine ⟨p, ps, rd.dp e1, re.dp ?_, z.1, z.2, rfl⟩
        unfold toPy
        rw [e2]
      · cases ho
    · cases ho
  · cases ho
theorem o_inL (hu : X.A.units + 65 < cLine) : OpV X (compareOp .In) dInL := OpV.of (op_inD hu) fun H Q ρ h d e x y rv ok rd re ho p => by
  unfold dInL at ho
  cases q : inL d e with
  | none => rw [q] at ho; cases ho
  | some b =>
    rw [q] at ho; cases ho
    obtain ⟨p1, ps, h1, h2, h3, h4, h5⟩ := inL_rd rd re q
    exact ⟨p1, ps, h1, h2, h3, h4, by rw [h5]; exact p.bl ok⟩
theorem o_notInL (hu : X.A.units + 65 < cLine) : OpV X (compareOp .NotIn) dNotInL := OpV.of (op_notInD hu) fun H Q ρ h d e x y rv ok rd re ho p => by
  unfold dNotInL at ho
  cases q : inL d e with
  | none => rw [q] at ho; cases ho
  | some b =>
    rw [q] at ho; cases ho
    obtain ⟨p1, ps, h1, h2, h3, h4, h5⟩ := inL_rd rd re q
    exact ⟨p1, ps, h1, h2, h3, h4, by rw [h5]; exact p.bl ok⟩
def dIn (d e : D) : Option RV := (dInF d e).or (dInL d e)
def dNotIn (d e : D) : Option RV := (dNotInF d e).or (dNotInL d e)
theorem o_in (hu : X.A.units + 65 < cLine) : OpV X (compareOp .In) dIn := OpV.or o_inF (o_inL hu)
theorem o_notIn (hu : X.A.units + 65 < cLine) : OpV X (compareOp .NotIn) dNotIn := OpV.or o_notInF (o_notInL hu)

/-! ### subscripts -/
def dIx : D → D → Option RV
  | .lst ds, .int i => (atI ds i).map .val
  | .scr ds, .int i => (atI ds i).map .val
  | .tup ds, .int i => (atI ds i).map .val
  | .str z, .int i => if z.length ≤ sizeLine then (atI z.cps.toList i).map fun c => .val (.str ⟨#[c]⟩) else none
  | _, _ => none
theorem atI_rd {ds : List D} {vs : List V} {i : Int} {d : D} (r : RDs K mg ρ H ds vs) (e : atI ds i = some d) : ∃ v, atI vs i = some v ∧ RD K mg ρ H d v := by
  unfold atI at e ⊢
  rw [← r.length]
  cases q : ixN ds.length i with
  | none => rw [q] at e; cases e
  | some j =>
    rw [q] at e
    exact r.get e
theorem o_ix : IxR X (r2 X.K X.mg dIx) := fun value slice pins s σ H x y v u Q I rx ry ⟨ρ, h, d, e, rv, ok, rd, re, ho, p⟩ hs => by
  refine ix_seq value slice pins s σ H x y v u Q I rx ry ?_ hs
  unfold dIx at ho
  split at ho
  · rename_i ds i
    cases re.vInt
    obtain ⟨a1, v1, rfl, e1, rs⟩ := rd.lst
    cases q : atI ds i with
    | none => rw [q] at ho; cases ho
    | some d =>
      rw [q] at ho; cases ho
      obtain ⟨w, e2, r2⟩ := atI_rd rs q
      exact .inl ⟨_, _, i, w, rfl, rfl, SqL.of e1, e2, p.rd ok r2⟩
  · rename_i ds i
    cases re.vInt
    obtain ⟨a1, v1, rfl, e1, rs⟩ := rd.vScr
    cases q : atI ds i with
    | none => rw [q] at ho; cases ho
    | some d =>
      rw [q] at ho; cases ho
      obtain ⟨w, e2, r2⟩ := atI_rd rs q
      exact .inl ⟨_, _, i, w, rfl, rfl, e1, e2, p.rd ok r2⟩
  · rename_i ds i
    cases re.vInt
    obtain ⟨a1, v1, rfl, e1, rs⟩ := rd.vTup
    cases q : atI ds i with
    | none => rw [q] at ho; cases ho
    | some d =>
      rw [q] at ho; cases ho
      obtain ⟨w, e2, r2⟩ := atI_rd rs q
      exact .inr (.inl ⟨_, _, i, w, rfl, rfl, e1, e2, p.rd ok r2⟩)
  · rename_i z i
    cases re.vInt; cases rd.vStr
    split at ho
    · cases q : atI z.cps.toList i with
      | none => rw [q] at ho; cases ho
      | some c =>
        rw [q] at ho; cases ho
        exact .inr (.inr ⟨z, i, c, rfl, rfl, by assumption, q, p.str ok⟩)
    · cases ho
  · cases ho
end
end Ev
end
section
set_option Elab.async false
set_option linter.all false
set_option maxRecDepth 100000
set_option maxHeartbeats 4000000
/-! Ev3: slices, arguments, displays, calls. -/
namespace Ev
open PySem PySem.Spec L2

section
variable {X : Cx} {W : WX} {K : PySem.W.Frag} {mg : Str → Option Value} {ρ : Own} {H : Hp} {h : Hs} {Q : VK} {pos : Pos}

/-! ### slices -/
def cutD (xs : List D) (lo hi : Option Int) : List D := (xs.drop (HT.sIx xs.length 0 lo)).take (HT.sIx xs.length xs.length hi - HT.sIx xs.length 0 lo)
theorem cut_rd {ds : List D} {vs : List V} (r : RDs K mg ρ H ds vs) (lo hi : Option Int) : RDs K mg ρ H (cutD ds lo hi) (cutV vs lo hi) := by
  unfold cutD cutV
  rw [← r.length]
  exact RDs.take _ (RDs.drop _ r)
def dSl : D → Option Int → Option Int → Option RV
  | .lst ds, lo, hi => some (.fresh (cutD ds lo hi))
  | .scr ds, lo, hi => some (.fresh (cutD ds lo hi))
  | .tup ds, lo, hi => some (.val (.tup (cutD ds lo hi)))
  | .str z, lo, hi => if z.length ≤ sizeLine then some (.val (.str (cutS z lo hi))) else none
  | _, _, _ => none
theorem cut_all (ds : List D) {lo hi : Option Int} (e : HT.sIx ds.length 0 lo = 0 ∧ HT.sIx ds.length ds.length hi = ds.length) : cutD ds lo hi = ds := by
  unfold cutD
  rw [e.1, e.2, List.drop_zero, Nat.sub_zero, List.take_length]
def rS (K : PySem.W.Frag) (mg : Str → Option Value) : V → Option Int → Option Int → Hp → VK → Prop := fun x lo hi H Q => ∃ ρ h d rv, HeapOk K mg ρ h H ∧ RB K mg ρ H d x ∧ dSl d lo hi = some rv ∧ Post K mg ρ H h Q rv
theorem o_sl : SlR X (rS X.K X.mg) := fun pins s σ H x v vl vu lo hi sl Q I rx hs pl pu ⟨ρ, h, d, rv, ok, rd, ho, p⟩ => by
  unfold dSl at ho
  split at ho
  · cases ho
    obtain ⟨a, vs, rfl, e, rs⟩ := rd.lst
    exact sl_list pins s σ H _ v vl vu _ _ sl Q I rx hs pl pu ⟨a, vs, rfl, SqL.of e, p.newLst ok (cut_rd rs _ _)⟩
  · cases ho
    obtain ⟨a, vs, rfl, e, rs⟩ := rd.vScr
    exact sl_list pins s σ H _ v vl vu _ _ sl Q I rx hs pl pu ⟨a, vs, rfl, e, p.newLst ok (cut_rd rs _ _)⟩
  · cases ho
    obtain ⟨a, vs, rfl, e, rs⟩ := rd.vTup
    refine sl_tupA pins s σ H _ v vl vu _ _ sl Q I rx hs pl pu ⟨a, vs, rfl, e, fun z => ?_, fun _ => p.newTup ok (cut_rd rs _ _)⟩
    rw [← rs.length] at z
    rw [cut_all _ z] at p
    exact p.rd ok (.tup e rs)
  · split at ho
    · cases ho
      cases rd.vStr
      exact sl_str pins s σ H _ v vl vu _ _ sl Q I rx hs pl pu ⟨_, rfl, by assumption, p.str ok⟩
    · cases ho
  · cases ho
abbrev Px := Nv → Hs → Res (Option Int)
def GoodP (K : PySem.W.Frag) (mg : Str → Option Value) (ρ : Own) (H : Hp) (Q : Option Int → Hp → Prop) (E : XK) : Res (Option Int) → Prop
  | .ok o h' => ∀ ρ' H', HeapOk K mg ρ' h' H' → Step ρ H ρ' H' → Q o H'
  | .exc x h' => EPost K mg ρ H h' E x
  | .bad => False
def TrP (K : PySem.W.Frag) (mg : Str → Option Value) (W : WX) (m : Px) : TO := fun σ H Q => ∃ ρ env h, Rel K mg ρ env h σ H ∧ GoodP K mg ρ H Q (fun c d H' => W c d σ H') (m env h)
abbrev PPt (X : Cx) (W : WX) (e : Option Expr) (m : Px) : Prop := PO X e (TrP X.K X.mg W m)
theorem PO.imp {e : Option Expr} {t t' : TO} (p : PO X e t) (h : ∀ σ H Q, t' σ H Q → t σ H Q) : PO X e t' := ⟨fun pins s σ H Q I q => p.run pins s σ H Q I (h σ H Q q)⟩
def pNo : Px := fun _ h => .ok none h
def pAt (m : Ex) : Px := fun env h => match m env h with
  | .ok (.val (.int i)) h1 => .ok (some i) h1
  | .exc x h1 => .exc x h1
  | _ => .bad
theorem p_no : PPt X W none pNo := PO.imp po_none fun σ H Q ⟨ρ, env, h, R, g⟩ => g ρ H R.hp (Step.refl ρ H)
theorem p_at {e : Expr} {m : Ex} (p : PV X W e m) : PPt X W (some e) (pAt m) := PO.imp (po_some p) fun σ H Q ⟨ρ, env, h, R, g⟩ => ⟨ρ, env, h, R, by
  unfold pAt at g
  cases q : m env h with
  | ok rv h1 =>
    rw [q] at g
    cases rv with
    | fresh ds => exact g.elim
    | val d =>
      cases d with
      | int i => exact fun ρ' H' v ok S r => by cases r; exact ⟨i, rfl, g ρ' H' ok S⟩
      | _ => exact g.elim
  | exc x h1 => rw [q] at g; exact g
  | bad => rw [q] at g; exact g⟩
def bindP (m : Px) (k : Option Int → Hs → Res RV) : Ex := fun env h => match m env h with
  | .ok o h1 => k o h1
  | .exc x h1 => .exc x h1
  | .bad => .bad
theorem TrP.bind {m : Px} {k : Option Int → Hs → Res RV} {env : Nv} {σ : Slots} (R : Rel X.K X.mg ρ env h σ H)
    (g : Good X.K X.mg ρ H Q (fun c d H' => W c d σ H') (bindP m k env h)) {Z : Option Int → Hp → Prop}
    (hz : ∀ o ρ1 h1 H1, Rel X.K X.mg ρ1 env h1 σ H1 → Step ρ H ρ1 H1 → Good X.K X.mg ρ1 H1 Q (fun c d H' => W c d σ H') (k o h1) → Z o H1) : TrP X.K X.mg W m σ H Z := by
  refine ⟨ρ, env, h, R, ?_⟩
  unfold bindP at g
  cases e : m env h with
  | ok o h1 =>
    rw [e] at g
    exact fun ρ' H' ok S => hz o ρ' h1 H' ⟨ok, R.env.step R.hp S⟩ S (Good.later S g)
  | exc x h1 => rw [e] at g; exact g
  | bad => rw [e] at g; exact g
def opS (lo hi : Option Int) (env : Nv) (h : Hs) (x : OV) : Res RV := match force env h x with
  | some d => liftO (dSl d lo hi) h
  | none => .bad
def eSl (a : Ox) (lo hi : Px) : Ex := fun env h => bindO a (fun x h1 => bindP lo (fun l h2 => bindP hi (fun u h3 => opS l u env h3 x) env h2) env h1) env h
theorem v_sl {e : Expr} {lo hi : Option Expr} {ma : Ox} {ml mh : Px} {p2 : Pos} (ha : PO' X W e ma) (hl : PPt X W lo ml) (hh : PPt X W hi mh) : PV X W (.Subscript e (.Slice lo hi none p2) pos) (eSl ma ml mh) :=
  PE.imp (pe_slice o_sl ha hl hh) fun σ H Q ⟨ρ, env, h, R, g⟩ => TrO.bind R g fun x v ρ1 h1 H1 A1 g1 => TrP.bind A1.rel g1 fun l ρ2 h2 H2 R2 S2 g2 => TrP.bind R2 g2 fun u ρ3 h3 H3 R3 S3 g3 => by
    unfold opS at g3
    split at g3
    · rename_i d h1
      cases hrv : dSl d l u with
      | none => rw [hrv] at g3; exact g3.elim
      | some rv =>
        rw [hrv] at g3
        exact ⟨ρ3, h3, d, rv, R3.hp, ((A1.ro.step A1.rel.hp S2).step R2.hp S3).force R3.hp h1, hrv, g3⟩
    · exact g3.elim

/-! ### arguments -/
abbrev As := Nv → Hs → Res (List OV)
def GoodA (K : PySem.W.Frag) (mg : Str → Option Value) (ρ : Own) (env : Nv) (H : Hp) (Q : List V → Hp → Prop) (E : XK) : Res (List OV) → Prop
  | .ok os h' => ∀ ρ' H' vs, HeapOk K mg ρ' h' H' → Step ρ H ρ' H' → Paired (RO K mg ρ' env H') os vs → Q vs H'
  | .exc x h' => EPost K mg ρ H h' E x
  | .bad => False
def TrA (K : PySem.W.Frag) (mg : Str → Option Value) (W : WX) (m : As) : TA := fun σ H Q => ∃ ρ env h, Rel K mg ρ env h σ H ∧ GoodA K mg ρ env H Q (fun c d H' => W c d σ H') (m env h)
abbrev PAs (X : Cx) (W : WX) (es : List Expr) (m : As) : Prop := PA X es (TrA X.K X.mg W m)
theorem PA.imp {es : List Expr} {t t' : TA} (p : PA X es t) (h : ∀ σ H Q, t' σ H Q → t σ H Q) : PA X es t' := ⟨fun pos pins s σ H Q I q => p.run pos pins s σ H Q I (h σ H Q q)⟩
theorem GoodA.later {ρ1 : Own} {H1 : Hp} {env : Nv} {Q : List V → Hp → Prop} {E : XK} (S : Step ρ H ρ1 H1) {r : Res (List OV)} (g : GoodA K mg ρ env H Q E r) : GoodA K mg ρ1 env H1 Q E r := by
  cases r with
  | ok b h => exact fun ρ' H' vs ok S' => g ρ' H' vs ok (S.trans S')
  | exc x h => exact EPost.later S g
  | bad => exact g
def aNil : As := fun _ h => .ok [] h
def aCons (m : Ox) (r : As) : As := fun env h => match m env h with
  | .ok o h1 => (match r env h1 with
    | .ok os h2 => .ok (o :: os) h2
    | .exc x h2 => .exc x h2
    | .bad => .bad)
  | .exc x h1 => .exc x h1
  | .bad => .bad
theorem a_nil : PAs X W [] aNil := PA.imp pa_nil fun σ H Q ⟨ρ, env, h, R, g⟩ => g ρ H [] R.hp (Step.refl ρ H) .nil
theorem a_cons {e : Expr} {es : List Expr} {m : Ox} {r : As} (ha : PO' X W e m) (hr : PAs X W es r) (hs : starEach (e :: es) X.env = (false, eval e X.env) :: starEach es X.env := by rfl) : PAs X W (e :: es) (aCons m r) := by
  refine PA.imp (pa_cons ha hr hs) fun σ H Q ⟨ρ, env, h, R, g⟩ => ⟨ρ, env, h, R, ?_⟩
  unfold aCons at g
  cases q : m env h with
  | ok o h1 =>
    rw [q] at g
    intro ρ' H' v ok S ro
    have R' : Rel X.K X.mg ρ' env h1 σ H' := ⟨ok, R.env.step R.hp S⟩
    refine ⟨ρ', env, h1, R', ?_⟩
    dsimp only at g
    cases q2 : r env h1 with
    | ok os h2 =>
      rw [q2] at g
      exact fun ρ2 H2 vs ok2 S2 ros => g ρ2 H2 (v :: vs) ok2 (S.trans S2) (.cons (ro.step ok S2) ros)
    | exc x h2 =>
      rw [q2] at g
      have g' : EPost X.K X.mg ρ H h2 (fun c d H' => W c d σ H') x := g
      exact EPost.later S g'
    | bad => rw [q2] at g; exact g.elim
  | exc x h1 => rw [q] at g; exact g
  | bad => rw [q] at g; exact g
def bindA (m : As) (k : List OV → Hs → Res RV) : Ex := fun env h => match m env h with
  | .ok os h1 => k os h1
  | .exc x h1 => .exc x h1
  | .bad => .bad
structure AtA (K : PySem.W.Frag) (mg : Str → Option Value) (ρ : Own) (env : Nv) (σ : Slots) (H : Hp) (os : List OV) (vs : List V) (ρ1 : Own) (h1 : Hs) (H1 : Hp) : Prop where
  rel : Rel K mg ρ1 env h1 σ H1
  st : Step ρ H ρ1 H1
  ros : Paired (RO K mg ρ1 env H1) os vs
theorem TrA.bind {m : As} {k : List OV → Hs → Res RV} {env : Nv} {σ : Slots} (R : Rel X.K X.mg ρ env h σ H)
    (g : Good X.K X.mg ρ H Q (fun c d H' => W c d σ H') (bindA m k env h)) {Z : List V → Hp → Prop}
    (hz : ∀ os vs ρ1 h1 H1, AtA X.K X.mg ρ env σ H os vs ρ1 h1 H1 → Good X.K X.mg ρ1 H1 Q (fun c d H' => W c d σ H') (k os h1) → Z vs H1) : TrA X.K X.mg W m σ H Z := by
  refine ⟨ρ, env, h, R, ?_⟩
  unfold bindA at g
  cases e : m env h with
  | ok os h1 =>
    rw [e] at g
    exact fun ρ' H' vs ok S r => hz os vs ρ' h1 H' ⟨⟨ok, R.env.step R.hp S⟩, S, r⟩ (Good.later S g)
  | exc x h1 => rw [e] at g; exact g
  | bad => rw [e] at g; exact g
def forces (env : Nv) (h : Hs) : List OV → Option (List D)
  | [] => some []
  | o :: os => match force env h o, forces env h os with
    | some d, some ds => some (d :: ds)
    | _, _ => none
def plains : List OV → Option (List D)
  | [] => some []
  | .vl d :: os => match plains os with
    | some ds => some (d :: ds)
    | none => none
  | .sl _ :: _ => none
theorem forces_rb {env : Nv} (ok : HeapOk K mg ρ h H) : ∀ {os : List OV} {vs : List V} {ds : List D}, Paired (RO K mg ρ env H) os vs → forces env h os = some ds → Paired (RB K mg ρ H) ds vs
  | _, _, _, .nil, e => by cases e; exact .nil
  | _, _, _, .cons r rs, e => by
    unfold forces at e
    split at e
    · cases e; exact .cons (r.force ok (by assumption)) (forces_rb ok rs (by assumption))
    · cases e
theorem plains_rd {env : Nv} : ∀ {os : List OV} {vs : List V} {ds : List D}, Paired (RO K mg ρ env H) os vs → plains os = some ds → RDs K mg ρ H ds vs
  | _, _, _, .nil, e => by cases e; exact .nil
  | .vl d :: _, _, _, .cons r rs, e => by
    unfold plains at e
    split at e
    · cases e; exact .cons r (plains_rd rs (by assumption))
    · cases e
  | .sl _ :: _, _, _, .cons r rs, e => by cases e

/-! ### displays -/
def eTup (m : As) : Ex := bindA m fun os h => match plains os with
  | some ds => if ds.length ≤ sizeLine then .ok (.val (.tup ds)) h else .bad
  | none => .bad
def eLst (m : As) : Ex := bindA m fun os h => match plains os with
  | some ds => if ds.length ≤ sizeLine then .ok (.fresh ds) h else .bad
  | none => .bad
theorem v_tup {es : List Expr} {m : As} {x1} (ha : PAs X W es m) : PV X W (.Tuple es x1 pos) (eTup m) :=
  PE.imp (pe_tup ha) fun σ H Q ⟨ρ, env, h, R, g⟩ => TrA.bind R g fun os vs ρ1 h1 H1 A1 g1 => by
    split at g1
    · rename_i ds e
      split at g1
      · have rs := plains_rd A1.ros e
        refine ⟨by rw [← rs.length]; assumption, Post.newTup g1 A1.rel.hp rs⟩
      · exact g1.elim
    · exact g1.elim
theorem v_lst {es : List Expr} {m : As} (ha : PAs X W es m) : PV X W (.List es pos) (eLst m) :=
  PE.imp (pe_lst ha) fun σ H Q ⟨ρ, env, h, R, g⟩ => TrA.bind R g fun os vs ρ1 h1 H1 A1 g1 => by
    split at g1
    · rename_i ds e
      split at g1
      · have rs := plains_rd A1.ros e
        refine ⟨by rw [← rs.length]; assumption, Post.newLst g1 A1.rel.hp rs⟩
      · exact g1.elim
    · exact g1.elim

/-! ### built-in functions and types -/
def opN (op : List D → Option RV) (env : Nv) (h : Hs) (os : List OV) : Res RV := match forces env h os with
  | some ds => liftO (op ds) h
  | none => .bad
def eB (op : List D → Option RV) (m : As) : Ex := fun env h => bindA m (fun os h1 => opN op env h1 os) env h
def rN (K : PySem.W.Frag) (mg : Str → Option Value) (op : List D → Option RV) : List V → Hp → VK → Prop := fun vs H Q => ∃ ρ h ds rv, HeapOk K mg ρ h H ∧ Paired (RB K mg ρ H) ds vs ∧ op ds = some rv ∧ Post K mg ρ H h Q rv
abbrev CallV (X : Cx) (f : Value) (op : List D → Option RV) : Prop := CallR X f (rN X.K X.mg op)
theorem callB_read {op : List D → Option RV} {m : As} {σ : Slots} (t : Tr X.K X.mg W (eB op m) σ H Q) : tCB (rN X.K X.mg op) (TrA X.K X.mg W m) σ H Q := by
  obtain ⟨ρ, env, h, R, g⟩ := t
  refine TrA.bind R g fun os vs ρ1 h1 H1 A1 g1 => ?_
  unfold opN at g1
  split at g1
  · rename_i ds e
    cases hrv : op ds with
    | none => rw [hrv] at g1; exact g1.elim
    | some rv =>
      rw [hrv] at g1
      exact ⟨ρ1, h1, ds, rv, A1.rel.hp, forces_rb A1.rel.hp A1.ros e, hrv, g1⟩
  · exact g1.elim
theorem v_B {x : Str} {p : Pos} {e : Expr} {es : List Expr} {id : String} {op : List D → Option RV} {m : As} (hc : CallV X (.builtin id) op) (hm : X.mg x = none) (hv : bootBuiltins x = some (.builtin id)) (ha : PAs X W (e :: es) m) (hg : Gl X x := by rfl) (hn : x ≠ "__name__" := by decide) (hdb : (x == ("__debug__" : Str)) = false := by decide)
    (he : starEach (e :: es) X.env = (false, eval e X.env) :: starEach es X.env := by rfl) (hpl : (backTo pos (starEach es X.env)).any (·.1) = false := by rfl) : PV X W (.Call (.Name x p) (e :: es) [] pos) (eB op m) :=
  PE.imp (pe_callB hc hg hm hv ha hn hdb he hpl) fun σ H Q t => callB_read t
theorem v_T {x : Str} {p : Pos} {e : Expr} {es : List Expr} {T : String} {op : List D → Option RV} {m : As} (hc : CallV X (.type T) op) (hm : X.mg x = none) (hv : bootBuiltins x = some (.type T)) (ha : PAs X W (e :: es) m) (hg : Gl X x := by rfl) (hn : x ≠ "__name__" := by decide) (hdb : (x == ("__debug__" : Str)) = false := by decide)
    (he : starEach (e :: es) X.env = (false, eval e X.env) :: starEach es X.env := by rfl) (hpl : (backTo pos (starEach es X.env)).any (·.1) = false := by rfl) : PV X W (.Call (.Name x p) (e :: es) [] pos) (eB op m) :=
  PE.imp (pe_callTy hc hg hm hv ha hn hdb he hpl) fun σ H Q t => callB_read t
theorem CallV.of {f : Value} {op : List D → Option RV} {r : List V → Hp → VK → Prop} (hr : CallR X f r)
    (h : ∀ (H : Hp) (Q : VK) (ρ : Own) (h : Hs) (ds : List D) (vs : List V) (rv : RV), HeapOk X.K X.mg ρ h H → Paired (RB X.K X.mg ρ H) ds vs → op ds = some rv → Post X.K X.mg ρ H h Q rv → r vs H Q) : CallV X f op :=
  fun pins s σ H vs us Q I rv ⟨ρ, hs, ds, rv', ok, rd, ho, p⟩ => hr pins s σ H vs us Q I rv (h H Q ρ hs ds vs rv' ok rd ho p)
theorem one {op : D → Option RV} {f : Value} {r : List V → Hp → VK → Prop} (hr : CallR X f r)
    (h : ∀ (H : Hp) (Q : VK) (ρ : Own) (h : Hs) (d : D) (v : V) (rv : RV), HeapOk X.K X.mg ρ h H → RB X.K X.mg ρ H d v → op d = some rv → Post X.K X.mg ρ H h Q rv → r [v] H Q) : CallV X f (fun ds => match ds with | [d] => op d | _ => none) :=
  CallV.of hr fun H Q ρ h' ds vs rv ok rd ho p => by
    split at ho
    · rename_i d
      cases rd with
      | cons r1 r2 => cases r2; exact h H Q ρ h' d _ rv ok r1 ho p
    · cases ho
/-- len -/
def fLen : D → Option RV
  | .lst ds => some (.val (.int ds.length))
  | .scr ds => some (.val (.int ds.length))
  | .tup ds => some (.val (.int ds.length))
  | .str z => if z.length ≤ sizeLine then some (.val (.int z.length)) else none
  | _ => none
abbrev bLen : List D → Option RV := fun ds => match ds with | [d] => fLen d | _ => none
theorem c_len : CallV X (.builtin "len") bLen := one call_len fun H Q ρ h d v rv ok rd ho p => by
  unfold fLen at ho
  split at ho
  · cases ho
    obtain ⟨a, vs, rfl, e, rs⟩ := rd.lst
    exact ⟨_, _, rfl, .inl ⟨vs, SqL.of e, rs.length⟩, p.int ok⟩
  · cases ho
    obtain ⟨a, vs, rfl, e, rs⟩ := rd.vScr
    exact ⟨_, _, rfl, .inl ⟨vs, e, rs.length⟩, p.int ok⟩
  · cases ho
    obtain ⟨a, vs, rfl, e, rs⟩ := rd.vTup
    exact ⟨_, _, rfl, .inr ⟨vs, e, rs.length⟩, p.int ok⟩
  · split at ho
    · cases ho
      cases rd.vStr
      exact ⟨_, _, rfl, ⟨by assumption, rfl⟩, p.int ok⟩
    · cases ho
  · cases ho
def fAbs : D → Option RV
  | .int i => some (.val (.int (if i < 0 then -i else i)))
  | _ => none
abbrev bAbs : List D → Option RV := fun ds => match ds with | [d] => fAbs d | _ => none
theorem c_abs : CallV X (.builtin "abs") bAbs := one call_abs fun H Q ρ h d v rv ok rd ho p => by
  unfold fAbs at ho
  split at ho
  · cases ho; cases rd.vInt
    exact ⟨_, rfl, p.int ok⟩
  · cases ho
def fInt : D → Option RV
  | .int i => some (.val (.int i))
  | .bl b => some (.val (.int (if b then 1 else 0)))
  | _ => none
abbrev bInt : List D → Option RV := fun ds => match ds with | [d] => fInt d | _ => none
theorem c_int : CallV X (.type "int") bInt := one call_int1 fun H Q ρ h d v rv ok rd ho p => by
  unfold fInt at ho
  split at ho
  · cases ho; cases rd.vInt
    exact .inl ⟨_, rfl, p.int ok⟩
  · cases ho; cases rd.vBl
    exact .inr ⟨_, rfl, p.int ok⟩
  · cases ho
def bMin : List D → Option RV
  | [.int i, .int j] => some (.val (.int (if j < i then j else i)))
  | _ => none
def bMax : List D → Option RV
  | [.int i, .int j] => some (.val (.int (if j > i then j else i)))
  | _ => none
theorem c_min (hc : X.calm = true) : CallV X (.builtin "min") bMin := CallV.of (call_min2 hc) fun H Q ρ h ds vs rv ok rd ho p => by
  unfold bMin at ho
  split at ho
  · cases ho
    cases rd with
    | cons r1 rd => cases rd with
      | cons r2 rd => cases rd; cases r1.vInt; cases r2.vInt; exact ⟨_, _, rfl, p.int ok⟩
  · cases ho
theorem c_max (hc : X.calm = true) : CallV X (.builtin "max") bMax := CallV.of (call_max2 hc) fun H Q ρ h ds vs rv ok rd ho p => by
  unfold bMax at ho
  split at ho
  · cases ho
    cases rd with
    | cons r1 rd => cases rd with
      | cons r2 rd => cases rd; cases r1.vInt; cases r2.vInt; exact ⟨_, _, rfl, p.int ok⟩
  · cases ho
def fList : D → Option RV
  | .lst ds => some (.fresh ds)
  | .scr ds => some (.fresh ds)
  | .tup ds => some (.fresh ds)
  | _ => none
abbrev bList : List D → Option RV := fun ds => match ds with | [d] => fList d | _ => none
theorem c_list : CallV X (.type "list") bList := one call_list_of fun H Q ρ h d v rv ok rd ho p => by
  unfold fList at ho
  split at ho
  · cases ho
    obtain ⟨a, vs, rfl, e, rs⟩ := rd.lst
    exact ⟨_, _, rfl, .inl (SqL.of e), p.newLst ok rs⟩
  · cases ho
    obtain ⟨a, vs, rfl, e, rs⟩ := rd.vScr
    exact ⟨_, _, rfl, .inl (e), p.newLst ok rs⟩
  · cases ho
    obtain ⟨a, vs, rfl, e, rs⟩ := rd.vTup
    exact ⟨_, _, rfl, .inr e, p.newLst ok rs⟩
  · cases ho
def fTuple : D → Option RV
  | .lst ds => some (.val (.tup ds))
  | .scr ds => some (.val (.tup ds))
  | .tup ds => some (.val (.tup ds))
  | _ => none
abbrev bTuple : List D → Option RV := fun ds => match ds with | [d] => fTuple d | _ => none
theorem c_tuple : CallV X (.type "tuple") bTuple := one call_tuple_of fun H Q ρ h d v rv ok rd ho p => by
  unfold fTuple at ho
  split at ho
  · cases ho
    obtain ⟨a, vs, rfl, e, rs⟩ := rd.lst
    exact ⟨_, _, rfl, .inl ⟨SqL.of e, p.newTup ok rs⟩⟩
  · cases ho
    obtain ⟨a, vs, rfl, e, rs⟩ := rd.vScr
    exact ⟨_, _, rfl, .inl ⟨e, p.newTup ok rs⟩⟩
  · cases ho
    obtain ⟨a, vs, rfl, e, rs⟩ := rd.vTup
    exact ⟨_, _, rfl, .inr ⟨e, p.rd ok (.tup e rs)⟩⟩
  · cases ho
/-- ints, bools out of data -/
def intsOf : List D → Option (List Int)
  | [] => some []
  | .int i :: ds => match intsOf ds with
    | some ns => some (i :: ns)
    | none => none
  | _ :: _ => none
def boolsOf : List D → Option (List Bool)
  | [] => some []
  | .bl i :: ds => match boolsOf ds with
    | some ns => some (i :: ns)
    | none => none
  | _ :: _ => none
theorem intsOf_eq : ∀ {ds : List D} {ns : List Int}, intsOf ds = some ns → ds = ns.map D.int
  | [], _, e => by cases e; rfl
  | .int i :: ds, ns, e => by
    unfold intsOf at e
    split at e
    · rename_i ms q
      cases e; rw [intsOf_eq q]; rfl
    · cases e
theorem boolsOf_eq : ∀ {ds : List D} {ns : List Bool}, boolsOf ds = some ns → ds = ns.map D.bl
  | [], _, e => by cases e; rfl
  | .bl i :: ds, ns, e => by
    unfold boolsOf at e
    split at e
    · rename_i ms q
      cases e; rw [boolsOf_eq q]; rfl
    · cases e
theorem ints_rd : ∀ {ns : List Int} {vs : List V}, RDs K mg ρ H (ns.map D.int) vs → vs = ns.map V.int
  | [], _, .nil => rfl
  | n :: ns, _, .cons r rs => by cases r; rw [ints_rd rs]; rfl
theorem bools_rd : ∀ {ns : List Bool} {vs : List V}, RDs K mg ρ H (ns.map D.bl) vs → vs = ns.map V.bl
  | [], _, .nil => rfl
  | n :: ns, _, .cons r rs => by cases r; rw [bools_rd rs]; rfl
theorem rd_ints : ∀ (ns : List Int), RDs K mg ρ H (ns.map D.int) (ns.map V.int)
  | [] => .nil
  | n :: ns => .cons (.int n) (rd_ints ns)
def lst? : D → Option (List D)
  | .lst ds => some ds
  | .scr ds => some ds
  | _ => none
theorem lst_rd {d : D} {v : V} {ds : List D} (r : RB K mg ρ H d v) (e : lst? d = some ds) : ∃ a vs, v = .ref a ∧ SqL K H a vs ∧ RDs K mg ρ H ds vs := by
  unfold lst? at e
  split at e
  · cases e
    obtain ⟨a, vs, rfl, e, rs⟩ := r.lst
    exact ⟨a, vs, rfl, SqL.of e, rs⟩
  · cases e
    obtain ⟨a, vs, rfl, e, rs⟩ := r.vScr
    exact ⟨a, vs, rfl, e, rs⟩
  · cases e
def fSum (d : D) : Option RV := match lst? d with
  | some ds => (intsOf ds).map fun ns => .val (.int ns.sum)
  | none => none
def fAll (d : D) : Option RV := match lst? d with
  | some ds => (boolsOf ds).map fun bs => .val (.bl (bs.all id))
  | none => none
def fAny (d : D) : Option RV := match lst? d with
  | some ds => (boolsOf ds).map fun bs => .val (.bl (bs.any id))
  | none => none
abbrev bSum : List D → Option RV := fun ds => match ds with | [d] => fSum d | _ => none
abbrev bAll : List D → Option RV := fun ds => match ds with | [d] => fAll d | _ => none
abbrev bAny : List D → Option RV := fun ds => match ds with | [d] => fAny d | _ => none
theorem c_sum (hc : X.calm = true) : CallV X (.builtin "sum") bSum := one (cr_sum hc) fun H Q ρ h d v rv ok rd ho p => by
  unfold fSum at ho
  split at ho
  · rename_i ds e
    cases q : intsOf ds with
    | none => rw [q] at ho; cases ho
    | some ns =>
      rw [q] at ho; cases ho
      obtain ⟨a, vs, rfl, e1, rs⟩ := lst_rd rd e
      rw [intsOf_eq q] at rs
      cases ints_rd rs
      exact ⟨a, ns, rfl, e1, p.int ok⟩
  · cases ho
theorem c_all (hc : X.calm = true) : CallV X (.builtin "all") bAll := one (cr_all hc) fun H Q ρ h d v rv ok rd ho p => by
  unfold fAll at ho
  split at ho
  · rename_i ds e
    cases q : boolsOf ds with
    | none => rw [q] at ho; cases ho
    | some ns =>
      rw [q] at ho; cases ho
      obtain ⟨a, vs, rfl, e1, rs⟩ := lst_rd rd e
      rw [boolsOf_eq q] at rs
      cases bools_rd rs
      exact ⟨a, ns, rfl, e1, p.bl ok⟩
  · cases ho
theorem c_any (hc : X.calm = true) : CallV X (.builtin "any") bAny := one (cr_any hc) fun H Q ρ h d v rv ok rd ho p => by
  unfold fAny at ho
  split at ho
  · rename_i ds e
    cases q : boolsOf ds with
    | none => rw [q] at ho; cases ho
    | some ns =>
      rw [q] at ho; cases ho
      obtain ⟨a, vs, rfl, e1, rs⟩ := lst_rd rd e
      rw [boolsOf_eq q] at rs
      cases bools_rd rs
      exact ⟨a, ns, rfl, e1, p.bl ok⟩
  · cases ho
/-- sorted of ints -/
def insI (n : Int) : List Int → List Int
  | [] => [n]
  | m :: ms => if n ≤ m then n :: m :: ms else m :: insI n ms
def sortI : List Int → List Int
  | [] => []
  | n :: ns => insI n (sortI ns)
theorem insI_perm (n : Int) : ∀ ms : List Int, (insI n ms).Perm (n :: ms)
  | [] => .refl _
  | m :: ms => by
    unfold insI
    split
    · exact .refl _
    · exact ((insI_perm n ms).cons m).trans (.swap n m ms)
theorem sortI_perm : ∀ ns : List Int, (sortI ns).Perm ns
  | [] => .refl _
  | n :: ns => (insI_perm n _).trans ((sortI_perm ns).cons n)
theorem insI_sorted (n : Int) : ∀ ms : List Int, ms.Pairwise (· ≤ ·) → (insI n ms).Pairwise (· ≤ ·)
  | [], _ => by simp [insI]
  | m :: ms, h => by
    rw [List.pairwise_cons] at h
    unfold insI
    split
    · rename_i z
      rw [List.pairwise_cons]
      refine ⟨fun a ha => ?_, by rw [List.pairwise_cons]; exact h⟩
      rcases List.mem_cons.mp ha with e | e
      · rw [e]; exact z
      · exact Int.le_trans z (h.1 a e)
    · rename_i z
      rw [List.pairwise_cons]
      refine ⟨fun a ha => ?_, insI_sorted n ms h.2⟩
      rcases List.mem_cons.mp ((insI_perm n ms).mem_iff.mp ha) with e | e
      · rw [e]; omega
      · exact h.1 a e
theorem sortI_sorted : ∀ ns : List Int, (sortI ns).Pairwise (· ≤ ·)
  | [] => .nil
  | n :: ns => insI_sorted n _ (sortI_sorted ns)
theorem sorted_unique : ∀ {a b : List Int}, a.Perm b → a.Pairwise (· ≤ ·) → b.Pairwise (· ≤ ·) → a = b := fun p ha hb => List.Perm.eq_of_pairwise (le := (· ≤ ·)) (fun _ _ _ _ h1 h2 => Int.le_antisymm h1 h2) ha hb p
def fSorted (d : D) : Option RV := match lst? d with
  | some ds => (intsOf ds).map fun ns => .fresh ((sortI ns).map D.int)
  | none => none
abbrev bSorted : List D → Option RV := fun ds => match ds with | [d] => fSorted d | _ => none
theorem c_sorted : CallV X (.builtin "sorted") bSorted := one cr_sortedI fun H Q ρ h d v rv ok rd ho p => by
  unfold fSorted at ho
  split at ho
  · rename_i ds e
    cases q : intsOf ds with
    | none => rw [q] at ho; cases ho
    | some ns =>
      rw [q] at ho; cases ho
      obtain ⟨a, vs, rfl, e1, rs⟩ := lst_rd rd e
      rw [intsOf_eq q] at rs
      cases ints_rd rs
      refine ⟨a, ns, rfl, e1, fun ns' q' pm so hq => ?_⟩
      have e2 : ns' = sortI ns := sorted_unique (pm.trans (sortI_perm ns).symm) so (sortI_sorted ns)
      rw [e2]
      exact p.newLst ok (rd_ints _) q' hq
  · cases ho
/-- isinstance of built-in types -/
def tyOf : D → Option String
  | .non => some "NoneType"
  | .bl _ => some "bool"
  | .int _ => some "int"
  | .str _ => some "str"
  | .tup _ => some "tuple"
  | .lst _ => some "list"
  | .scr _ => some "list"
  | .dct _ _ => some "dict"
  | _ => none
def isB (a b : String) : Option Bool := if a = b then some true else if a = "bool" ∧ b = "int" then some true
  else if (["NoneType", "bool", "int", "str", "tuple", "list", "dict"].contains a && ["bool", "int", "str", "tuple", "list", "dict"].contains b) then some false else none
theorem tyOf_rd {d : D} {v : V} {T : String} (r : RB K mg ρ H d v) (e : tyOf d = some T) : TyX K H v (.type T) := by
  unfold tyOf at e
  split at e
  · cases e; cases r.vNon; exact .base .non
  · cases e; cases r.vBl; exact .base (.bl _)
  · cases e; cases r.vInt; exact .base (.int _)
  · cases e; cases r.vStr; exact .base (.str _)
  · cases e
    obtain ⟨a, vs, rfl, s, rs⟩ := r.vTup
    rcases s with (s | ⟨o, s⟩) | ⟨o, _, _, k, c, _⟩
    · exact .base (.tup s)
    · exact .fTuple s
    · exact .kTuple k c
  · cases e
    obtain ⟨a, vs, rfl, e, rs⟩ := r.lst
    exact .base (.lst e)
  · cases e
    obtain ⟨a, vs, rfl, e, rs⟩ := r.vScr
    rcases e with (s | ⟨o, s⟩) | ⟨o, _, _, k, c, _⟩
    · exact .base (.lst s)
    · exact .base (.frz s)
    · exact .kList k c
  · cases e
    obtain ⟨a, kvs, rfl, e⟩ := r.vDct
    exact .base (.dK e)
  · cases e
end
end Ev
end
section
set_option Elab.async false
set_option linter.all false
set_option maxRecDepth 100000
set_option maxHeartbeats 4000000
/-! Ev4: calls of defs, statements, bodies. -/
namespace Ev
open PySem PySem.Spec L2

/-! ### what a def promises -/
abbrev Fx := List SV → Hs → Res RV
def spOf (K : PySem.W.Frag) (mg : Str → Option Value) (n : Nat) (m : Fx) : Sp := fun vs H Q E => vs.length = n ∧ ∃ ρ h svs, HeapOk K mg ρ h H ∧ Paired (SVOk K mg ρ H) svs vs ∧ Good K mg ρ H Q E (m svs h)
def svOf (env : Nv) : OV → Option SV
  | .vl d => some (.val d)
  | .sl i => match env[i]? with
    | some (some sv) => some sv
    | _ => none
def svsOf (env : Nv) : List OV → Option (List SV)
  | [] => some []
  | o :: os => match svOf env o, svsOf env os with
    | some s, some ss => some (s :: ss)
    | _, _ => none
section
variable {K : PySem.W.Frag} {mg : Str → Option Value} {ρ ρ' : Own} {H H' : Hp} {h h' : Hs} {Q : VK}
theorem svOf_ok {env : Nv} {o : OV} {v : V} {s : SV} (r : RO K mg ρ env H o v) (e : svOf env o = some s) : SVOk K mg ρ H s v := by
  cases o with
  | vl d => cases e; exact r
  | sl i =>
    obtain ⟨sv, e1, q⟩ := r
    unfold svOf at e
    dsimp only at e
    rw [e1] at e
    cases e; exact q
theorem svsOf_ok {env : Nv} : ∀ {os : List OV} {vs : List V} {ss : List SV}, Paired (RO K mg ρ env H) os vs → svsOf env os = some ss → Paired (SVOk K mg ρ H) ss vs
  | _, _, _, .nil, e => by cases e; exact .nil
  | _, _, _, .cons r rs, e => by
    unfold svsOf at e
    split at e
    · cases e; exact .cons (svOf_ok r (by assumption)) (svsOf_ok rs (by assumption))
    · cases e
theorem Paired.append' {α β : Type} {F : α → β → Prop} : ∀ {a c : List α} {b d : List β}, Paired F a b → Paired F c d → Paired F (a ++ c) (b ++ d)
  | _, _, _, _, .nil, s => s
  | _, _, _, _, .cons h t, s => .cons h (Paired.append' t s)

/-- the objects beyond n are dropped -/
abbrev Own.tk (ρ : Own) (n : Nat) : Own := { ρ with cs := ρ.cs.take n }
theorem cowned_take {n : Nat} {a : Addr} (o : COwned (ρ.tk n) a) : COwned ρ a := by
  obtain ⟨i, l, e, ha⟩ := o
  have e : (ρ.cs.take n)[i]? = some l := e
  rw [List.getElem?_take] at e
  split at e
  · exact ⟨i, l, e, ha⟩
  · cases e
theorem owned_take {n : Nat} {a : Addr} (o : Owned (ρ.tk n) a) : Owned ρ a := by
  rcases o with o | o
  · exact .inl (cowned_take o)
  · exact .inr o
theorem Inners.less {ρ' : Own} (k : ∀ a, Owned ρ' a → Owned ρ a) : ∀ {rows : List (List D)} {as : List Addr}, Inners K mg ρ H rows as → Inners K mg ρ' H rows as
  | _, _, .nil => .nil
  | _, _, .cons e r rs => .cons e (r.less k) (Inners.less k rs)
theorem HeapOk.take (ok : HeapOk K mg ρ h H) (n : Nat) : HeapOk K mg (ρ.tk n) (h.take n) H where
  len := by
    show (ρ.cs.take n).length = (h.take n).length
    rw [List.length_take, List.length_take, ok.len]
  nd := fun i j l k a e1 e2 ha hb => by
    have e1 : (ρ.cs.take n)[i]? = some l := e1
    have e2 : (ρ.cs.take n)[j]? = some k := e2
    rw [List.getElem?_take] at e1 e2
    split at e1 <;> split at e2 <;> first | cases e1 | cases e2 | skip
    exact ok.nd i j l k a e1 e2 ha hb
  mutb := fun a o => ok.mutb a (cowned_take o)
  fbd := fun a ha => ⟨fun o => (ok.fbd a ha).1 (cowned_take o), (ok.fbd a ha).2⟩
  cell := fun i c e => by
    rw [List.getElem?_take] at e
    split at e
    · rename_i hi
      obtain ⟨l, e1, e2⟩ := ok.cell i c e
      refine ⟨l, (by rw [List.getElem?_take, if_pos hi]; exact e1 : (ρ.cs.take n)[i]? = some l), ?_⟩
      cases e2 with
      | dead => exact .dead
      | lst e3 rs => exact .lst e3 (rs.less fun a o => owned_take o)
      | lls e3 rs nd => exact .lls e3 (Inners.less (fun a o => owned_take o) rs) nd
      | dct e3 l rs => exact .dct e3 l (rs.less fun a o => owned_take o)
    · cases e
theorem Step.take {n : Nat} (S : Step ρ H ρ' H') (hn : ρ.cs.length ≤ n) : Step ρ H (ρ'.tk n) H' where
  keep := S.keep
  own := fun a o => S.own a (cowned_take o)
  pre := fun i l e => by
    have hi : i < n := Nat.lt_of_lt_of_le (List.getElem?_eq_some_iff.mp e).1 hn
    show (ρ'.cs.take n)[i]? = some l ∨ (ρ'.cs.take n)[i]? = some []
    rw [List.getElem?_take, if_pos hi]
    exact S.pre i l e
  fbi := S.fbi
  fbo := S.fbo
theorem Post.untake {n : Nat} (hn : ρ.cs.length ≤ n) {rv : RV} (p : Post K mg ρ H (h'.take n) Q rv) : Post K mg ρ H h' Q rv := by
  cases rv with
  | val d => exact fun ρ' H' v ok S r => p _ H' v (ok.take n) (S.take hn) (r.less fun a o => owned_take o)
  | fresh ds => exact fun ρ' H' a vs ok S ha rs => p _ H' a vs (ok.take n) (S.take hn) ha (rs.less fun a o => owned_take o)
end

/-! ### statements -/
abbrev Sx := Nv → Hs → SRes
def SGood (K : PySem.W.Frag) (mg : Str → Option Value) (W : WX) (ρ : Own) (H : Hp) (D : Ends) : SRes → Prop
  | .nx env h => ∀ ρ' σ' H', Rel K mg ρ' env h σ' H' → Step ρ H ρ' H' → D.nx σ' H'
  | .ct env h => ∀ ρ' σ' H', Rel K mg ρ' env h σ' H' → Step ρ H ρ' H' → D.ct σ' H'
  | .bk env h => ∀ ρ' σ' H', Rel K mg ρ' env h σ' H' → Step ρ H ρ' H' → D.bk σ' H'
  | .rt rv h => Post K mg ρ H h D.rt rv
  | .exc x env h => ∀ ρ' σ' H' C, Rel K mg ρ' env h σ' H' → Step ρ H ρ' H' → mg x.cls = some (.ref C) → x.fs = [] → W (.ref C) none σ' H'
  | .bad => False
def TrS (K : PySem.W.Frag) (mg : Str → Option Value) (W : WX) (m : Sx) : TS := fun D σ H => ∃ ρ env h, Rel K mg ρ env h σ H ∧ SGood K mg W ρ H D (m env h)
section
variable {X : Cx} {W : WX} {pos : Pos} {ρ ρ1 : Own} {H H1 : Hp}
abbrev VS (X : Cx) (W : WX) (st : Stmt) (m : Sx) : Prop := PS X st (TrS X.K X.mg W m)
abbrev VSs (X : Cx) (W : WX) (st : List Stmt) (m : Sx) : Prop := PSs X st (TrS X.K X.mg W m)
theorem PS.imp {st : Stmt} {t t' : TS} (p : PS X st t) (h : ∀ D σ H, t' D σ H → t D σ H) : PS X st t' := ⟨fun pins s σ H D I q => p.run pins s σ H D I (h D σ H q)⟩
theorem PSs.imp {st : List Stmt} {t t' : TS} (p : PSs X st t) (h : ∀ D σ H, t' D σ H → t D σ H) : PSs X st t' := ⟨fun pins s σ H D I q => p.run pins s σ H D I (h D σ H q)⟩
theorem SGood.later {K : PySem.W.Frag} {mg : Str → Option Value} {D : Ends} (S : Step ρ H ρ1 H1) {r : SRes} (g : SGood K mg W ρ H D r) : SGood K mg W ρ1 H1 D r := by
  cases r with
  | nx env h => exact fun ρ' σ' H' R S' => g ρ' σ' H' R (S.trans S')
  | ct env h => exact fun ρ' σ' H' R S' => g ρ' σ' H' R (S.trans S')
  | bk env h => exact fun ρ' σ' H' R S' => g ρ' σ' H' R (S.trans S')
  | rt rv h => exact Post.later S g
  | exc x env h => exact fun ρ' σ' H' C R S' => g ρ' σ' H' C R (S.trans S')
  | bad => exact g
/-- an exception of an expression is the statement's -/
theorem exc_read {D : Ends} {ρ : Own} {env : Nv} {h h1 : Hs} {σ : Slots} {H : Hp} {x : Exc} (R : Rel X.K X.mg ρ env h σ H) (g : SGood X.K X.mg W ρ H D (.exc x env h1)) : EPost X.K X.mg ρ H h1 (fun c d H' => W c d σ H') x :=
  fun ρ' H' C ok S e1 e2 => g ρ' σ H' C ⟨ok, R.env.step R.hp S⟩ S e1 e2
def sNx : Sx := fun env h => .nx env h
def sSeq (m k : Sx) : Sx := fun env h => match m env h with
  | .nx e1 h1 => k e1 h1
  | r => r
theorem s_nil : VSs X W [] sNx := PSs.imp pss_nil fun D σ H ⟨ρ, env, h, R, g⟩ => g ρ σ H R (Step.refl ρ H)
theorem s_cons {st : Stmt} {rest : List Stmt} {m k : Sx} (h1 : VS X W st m) (h2 : VSs X W rest k) : VSs X W (st :: rest) (sSeq m k) :=
  PSs.imp (pss_cons h1 h2) fun D σ H ⟨ρ, env, h, R, g⟩ => ⟨ρ, env, h, R, by
    unfold sSeq at g
    cases q : m env h with
    | nx e1 h1 => rw [q] at g; exact fun ρ' σ' H' R' S => ⟨ρ', e1, h1, R', SGood.later S g⟩
    | ct env h => rw [q] at g; exact g
    | bk env h => rw [q] at g; exact g
    | rt rv h => rw [q] at g; exact g
    | exc x env h => rw [q] at g; exact g
    | bad => rw [q] at g; exact g⟩
theorem s_one {st : Stmt} {m : Sx} (h1 : VS X W st m) : VSs X W [st] m := pss_one h1
theorem s_pass : VS X W (.Pass pos) sNx := PS.imp ps_pass fun D σ H ⟨ρ, env, h, R, g⟩ => g ρ σ H R (Step.refl ρ H)
def sBk : Sx := fun env h => .bk env h
def sCt : Sx := fun env h => .ct env h
theorem s_break : VS X W (.Break pos) sBk := PS.imp ps_break fun D σ H ⟨ρ, env, h, R, g⟩ => g ρ σ H R (Step.refl ρ H)
theorem s_continue : VS X W (.Continue pos) sCt := PS.imp ps_continue fun D σ H ⟨ρ, env, h, R, g⟩ => g ρ σ H R (Step.refl ρ H)
/-- an expression, then a statement's end -/
def bindS (m : Ex) (k : RV → Nv → Hs → SRes) : Sx := fun env h => match m env h with
  | .ok rv h1 => k rv env h1
  | .exc x h1 => .exc x env h1
  | .bad => .bad
theorem TrS.val {m : Ex} {k : D → Nv → Hs → SRes} {ρ : Own} {env : Nv} {h : Hs} {σ : Slots} {H : Hp} {D' : Ends} (R : Rel X.K X.mg ρ env h σ H)
    (g : SGood X.K X.mg W ρ H D' (bindS m (fun rv => k rv.vl) env h)) {Z : VK}
    (hz : ∀ d v ρ1 h1 H1, At X.K X.mg ρ env σ H d v ρ1 h1 H1 → SGood X.K X.mg W ρ1 H1 D' (k d env h1) → Z v H1) : Tr X.K X.mg W m σ H Z := by
  refine ⟨ρ, env, h, R, ?_⟩
  unfold bindS at g
  cases e : m env h with
  | ok rv h1 =>
    rw [e] at g
    exact Post.ofVl fun ρ' H' v ok S r => hz rv.vl v ρ' h1 H' ⟨⟨ok, R.env.step R.hp S⟩, S, r⟩ (SGood.later S g)
  | exc x h1 => rw [e] at g; exact exc_read R g
  | bad => rw [e] at g; exact g
/-- name = e, a datum -/
def sSet (i : Nat) (m : Ex) : Sx := bindS m fun rv env h => .nx (env.set i (some (.val rv.vl))) h
theorem s_set {i : Nat} {x : Str} {e : Expr} {m : Ex} {pos' : Pos} (hN : X.N.Nodup) (he : PV X W e m) (hi : X.N[i]? = some x := by rfl) (hx : Loc X.env.scope x := by first | exact .inl rfl | exact .inr rfl) (hs : swapsWith e (some (.Name x pos')) pos.line X.env = pure false := by rfl) (hf : X.fn x = true ∨ X.env.scope.names.lookup x = some .local := by first | exact .inl rfl | exact .inr rfl) :
    VS X W (.Assign [.Name x pos'] e pos) (sSet i m) :=
  PS.imp (ps_set hN hi hx he hs hf) fun D σ H ⟨ρ, env, h, R, g⟩ => TrS.val (k := fun d env h => .nx (env.set i (some (.val d))) h) R g fun d v ρ1 h1 H1 A g1 => g1 ρ1 _ H1 ⟨A.rel.hp, A.rel.env.set (sv := .val d) A.rd i⟩ (Step.refl ρ1 H1)
/-- a new list is taken in -/
abbrev Own.add (ρ : Own) (l : List Addr) : Own := { ρ with cs := ρ.cs ++ [l] }
theorem own_append {ρ : Own} {p a : Addr} : COwned (ρ.add [p]) a ↔ COwned ρ a ∨ a = p := by
  constructor
  · rintro ⟨n, l, e, ha⟩
    have e : (ρ.cs ++ [[p]])[n]? = some l := e
    by_cases hn : n < ρ.cs.length
    · rw [List.getElem?_append_left hn] at e; exact .inl ⟨n, l, e, ha⟩
    · rw [List.getElem?_append_right (by omega)] at e
      cases q : n - ρ.cs.length with
      | zero => rw [q] at e; cases e; exact .inr (by simpa using ha)
      | succ k => rw [q] at e; simp at e
  · rintro (⟨n, l, e, ha⟩ | rfl)
    · exact ⟨n, l, (by rw [List.getElem?_append_left (List.getElem?_eq_some_iff.mp e).1]; exact e : (ρ.cs ++ [[p]])[n]? = some l), ha⟩
    · exact ⟨ρ.cs.length, [a], by simp, by simp⟩
theorem push_ok {K : PySem.W.Frag} {mg : Str → Option Value} {ρ : Own} {h : Hs} {H : Hp} {p : Addr} {ds : List D} {vs : List V} (ok : HeapOk K mg ρ h H) (hp : H p = none) (rs : RDs K mg ρ H ds vs) :
    HeapOk K mg (ρ.add [p]) (h ++ [.lst ds]) (upd H p (.lst vs)) ∧ Step ρ H (ρ.add [p]) (upd H p (.lst vs)) := by
  have S : Step ρ H (ρ.add [p]) (upd H p (.lst vs)) := by
    refine ⟨fun a o e _ => upd_keep hp a o e, fun a o => ?_, fun n l e => .inl ?_, fun _ h => h, fun _ h => .inl (.inr h)⟩
    · rcases own_append.mp o with q | rfl
      · exact .inl q
      · exact .inr hp
    · show (ρ.cs ++ [[p]])[n]? = some l
      rw [List.getElem?_append_left (List.getElem?_eq_some_iff.mp e).1]; exact e
  refine ⟨⟨by simp [ok.len], fun n m l k a e1 e2 ha hb => ?_, fun a o => ?_, fun a ha => ?_, fun n c e => ?_⟩, S⟩
  · have fr : ∀ (i : Nat) (l : List Addr), (ρ.cs ++ [[p]])[i]? = some l → a ∈ l → (i < ρ.cs.length ∧ ρ.cs[i]? = some l) ∨ (i = ρ.cs.length ∧ a = p) := fun i l e ha => by
      by_cases hi : i < ρ.cs.length
      · rw [List.getElem?_append_left hi] at e; exact .inl ⟨hi, e⟩
      · rw [List.getElem?_append_right (by omega)] at e
        cases q : i - ρ.cs.length with
        | zero => rw [q] at e; cases e; exact .inr ⟨by omega, by simpa using ha⟩
        | succ k => rw [q] at e; simp at e
    rcases fr n l e1 ha with ⟨h1, q1⟩ | ⟨h1, rfl⟩
    · rcases fr m k e2 hb with ⟨h2, q2⟩ | ⟨h2, rfl⟩
      · exact ok.nd n m l k a q1 q2 ha hb
      · exact absurd ⟨n, l, q1, ha⟩ (ok.notC hp)
    · rcases fr m k e2 hb with ⟨h2, q2⟩ | ⟨h2, _⟩
      · exact absurd ⟨m, k, q2, hb⟩ (ok.notC hp)
      · omega
  · rcases own_append.mp o with q | rfl
    · have ne : a ≠ p := fun e => by subst e; exact ok.notC hp q
      rw [upd_ne ne]; exact ok.mutb a q
    · rw [upd_same]; trivial
  · obtain ⟨h1, xs, h2⟩ := ok.fbd a ha
    refine ⟨fun o => ?_, xs, upd_keep hp a _ h2⟩
    rcases own_append.mp o with q | rfl
    · exact h1 q
    · rw [hp] at h2; cases h2
  · by_cases hn : n < h.length
    · rw [List.getElem?_append_left hn] at e
      obtain ⟨l, e1, e2⟩ := ok.cell n c e
      refine ⟨l, (by rw [List.getElem?_append_left (List.getElem?_eq_some_iff.mp e1).1]; exact e1 : (ρ.cs ++ [[p]])[n]? = some l), e2.step ok.mutb S fun a ha => upd_ne fun z => ?_⟩
      subst z
      exact ok.notC hp ⟨n, l, e1, ha⟩
    · rw [List.getElem?_append_right (by omega)] at e
      cases q : n - h.length with
      | zero =>
        rw [q] at e; cases e
        exact ⟨[p], by rw [show n = ρ.cs.length by rw [ok.len]; omega]; simp, .lst upd_same (rs.step ok.mutb S)⟩
      | succ k => rw [q] at e; simp at e
/-- name = e, a new list that will change -/
def sNew (i : Nat) (m : Ex) : Sx := bindS m fun rv env h => match rv with
  | .fresh ds => .nx (env.set i (some (.loc h.length))) (h ++ [.lst ds])
  | .val _ => .bad
theorem TrS.new {m : Ex} {i : Nat} {ρ : Own} {env : Nv} {h : Hs} {σ : Slots} {H : Hp} {D' : Ends} (R : Rel X.K X.mg ρ env h σ H) (g : SGood X.K X.mg W ρ H D' (sNew i m env h)) : Tr X.K X.mg W m σ H (fun v H1 => D'.nx (σ.set i (some v)) H1) := by
  refine ⟨ρ, env, h, R, ?_⟩
  unfold sNew bindS at g
  cases e : m env h with
  | ok rv h1 =>
    rw [e] at g
    cases rv with
    | val d => exact g.elim
    | fresh ds =>
      intro ρ' H' p vs ok S hp rs
      obtain ⟨ok2, S2⟩ := push_ok ok hp rs
      have en := (R.env.step R.hp S).step ok S2
      refine g _ _ _ ⟨ok2, en.set (sv := .loc h1.length) ⟨[p], by rw [← ok.len]; simp, fun _ _ e => by cases e; rfl⟩ i⟩ (S.trans S2)
  | exc x h1 => rw [e] at g; exact exc_read R g
  | bad => rw [e] at g; exact g
theorem s_new {i : Nat} {x : Str} {e : Expr} {m : Ex} {pos' : Pos} (hN : X.N.Nodup) (he : PV X W e m) (hi : X.N[i]? = some x := by rfl) (hx : Loc X.env.scope x := by first | exact .inl rfl | exact .inr rfl) (hs : swapsWith e (some (.Name x pos')) pos.line X.env = pure false := by rfl) (hf : X.fn x = true ∨ X.env.scope.names.lookup x = some .local := by first | exact .inl rfl | exact .inr rfl) :
    VS X W (.Assign [.Name x pos'] e pos) (sNew i m) :=
  PS.imp (ps_set hN hi hx he hs hf) fun D σ H ⟨ρ, env, h, R, g⟩ => TrS.new R g
def sExpr (m : Ex) : Sx := bindS m fun _ env h => .nx env h
theorem s_expr {e : Expr} {m : Ex} (he : PV X W e m) (hs : swapsWith e none pos.line X.env = pure false := by rfl) : VS X W (.Expr e pos) (sExpr m) :=
  PS.imp (ps_expr he hs) fun D σ H ⟨ρ, env, h, R, g⟩ => TrS.val (k := fun _ env h => .nx env h) R g fun d v ρ1 h1 H1 A g1 => g1 ρ1 _ H1 A.rel (Step.refl ρ1 H1)
def sRet (m : Ex) : Sx := bindS m fun rv _ h => .rt rv h
theorem s_ret {e : Expr} {m : Ex} (he : PV X W e m) : VS X W (.Return (some e) pos) (sRet m) :=
  PS.imp (ps_ret he) fun D σ H ⟨ρ, env, h, R, g⟩ => ⟨ρ, env, h, R, by
    unfold sRet bindS at g
    cases q : m env h with
    | ok rv h1 => rw [q] at g; exact g
    | exc x h1 => rw [q] at g; exact exc_read R g
    | bad => rw [q] at g; exact g⟩
def sRetN : Sx := fun _ h => .rt (.val .non) h
theorem s_retN : VS X W (.Return none pos) sRetN := PS.imp ps_retN fun D σ H ⟨ρ, env, h, R, g⟩ => g ρ H .non R.hp (Step.refl ρ H) .non
def sIf (t : Tx) (a b : Sx) : Sx := fun env h => match t env h with
  | .ok true h1 => a env h1
  | .ok false h1 => b env h1
  | .exc x h1 => .exc x env h1
  | .bad => .bad
theorem s_if {c : Expr} {a b : List Stmt} {t : Tx} {ma mb : Sx} (hc : PB X W c t) (ha : VSs X W a ma) (hb : VSs X W b mb) : VS X W (.If c a b pos) (sIf t ma mb) :=
  PS.imp (ps_if hc ha hb) fun D σ H ⟨ρ, env, h, R, g⟩ => ⟨ρ, env, h, R, by
    unfold sIf at g
    cases q : t env h with
    | ok k h1 =>
      rw [q] at g
      intro ρ' H' ok S
      have R' : Rel X.K X.mg ρ' env h1 σ H' := ⟨ok, R.env.step R.hp S⟩
      cases k with
      | true => rw [if_pos rfl]; exact ⟨ρ', env, h1, R', SGood.later S g⟩
      | false => rw [if_neg Bool.false_ne_true]; exact ⟨ρ', env, h1, R', SGood.later S g⟩
    | exc x h1 => rw [q] at g; exact exc_read R g
    | bad => rw [q] at g; exact g⟩
/-- code that is never reached -/
def sBad : Sx := fun _ _ => .bad
theorem s_never {st : Stmt} : VS X W st sBad := PS.imp ps_never fun D σ H ⟨ρ, env, h, R, g⟩ => g

/-! ### a def's body -/
def fin (n : Nat) : SRes → Res RV
  | .nx _ h => .ok (.val .non) (h.take n)
  | .rt rv h => .ok rv (h.take n)
  | .exc x _ h => .exc x (h.take n)
  | _ => .bad
def fnE (n : Nat) (m : Sx) : Fx := fun svs h => fin h.length (m (svs.map some ++ List.replicate (n - svs.length) none) h)
theorem env_start {K : PySem.W.Frag} {mg : Str → Option Value} {ρ : Own} {H : Hp} {svs : List SV} {vs : List V} (N : List Str) (r : Paired (SVOk K mg ρ H) svs vs) : EnvOk K mg ρ (svs.map some ++ List.replicate (N.length - svs.length) none) (L2.start N vs) H := by
  have hl : svs.length = vs.length := Paired.length r
  refine ⟨by unfold L2.start; simp [hl], fun i sv e => ?_⟩
  have get : ∀ {svs : List SV} {vs : List V} {i : Nat} {sv : SV}, Paired (SVOk K mg ρ H) svs vs → svs[i]? = some sv → ∃ v, vs[i]? = some v ∧ SVOk K mg ρ H sv v := by
    intro svs vs i sv r
    induction r generalizing i with
    | nil => intro e; simp at e
    | cons a b ih =>
      intro e
      cases i with
      | zero => simp at e; subst e; exact ⟨_, rfl, a⟩
      | succ i => obtain ⟨v, h1, h2⟩ := ih (by simpa using e); exact ⟨v, by simpa using h1, h2⟩
  by_cases hi : i < svs.length
  · rw [List.getElem?_append_left (by simpa using hi), List.getElem?_map] at e
    cases q : svs[i]? with
    | none => rw [q] at e; cases e
    | some sw =>
      rw [q] at e
      have e' : sw = sv := Option.some.inj (Option.some.inj e)
      subst e'
      obtain ⟨v, h1, h2⟩ := get r q
      refine ⟨v, ?_, h2⟩
      unfold L2.start
      rw [List.getElem?_append_left (by simpa [hl] using hi), List.getElem?_map, h1]
      rfl
  · rw [List.getElem?_append_right (by simpa using hi), List.getElem?_replicate] at e
    split at e <;> cases e
variable {P : Program} {w : World} {K : PySem.W.Frag} {mg : Str → Option Value} {base : Heap}
theorem fn_ok {x qual : Str} {st : Stmt} {f : Addr} {fd : FuncData} {N ps : List Str} {k : Nat} {m : Sx} (F : Fun K x qual st f fd) (S : FnScope N ps (defScope st))
    (hbody : ∀ (cdv : Value) (A : Around) (outer : List PySem.Env) (s : Shared) (H : Hp) (E : XK), Room k (A.deeper (PyProof.Rows.envOfC qual (defScope st) s.heap.objs.size f cdv)) →
      VSs (cxOf (L2.CX P w) P w K mg base N qual (defScope st) f cdv A outer s H E) (fun c d _ H => E c d H) (defBody st) m) : FnOk P w K mg base (L2.CX P w) (k + 1) f fd ps (spOf K mg ps.length (fnE N.length m)) := by
  refine F.okX S (fun vs H Q E h => h.1) fun cdv A outer s H vs Q E hr h => ?_
  obtain ⟨hl, ρ, h0, svs, ok, r, g⟩ := h
  refine ⟨_, hbody cdv A outer s H E hr, ρ, _, h0, ⟨ok, env_start N r⟩, ?_⟩
  have hn : ρ.cs.length ≤ h0.length := Nat.le_of_eq ok.len
  unfold fnE at g
  cases q : m (svs.map some ++ List.replicate (N.length - svs.length) none) h0 with
  | nx e1 h1 =>
    rw [q] at g
    exact fun ρ' σ' H' R S => g _ H' .non (R.hp.take _) (S.take hn) .non
  | rt rv h1 =>
    rw [q] at g
    exact Post.untake hn g
  | exc x e1 h1 =>
    rw [q] at g
    exact fun ρ' σ' H' C R S e1 e2 => g _ H' C (R.hp.take _) (S.take hn) e1 e2
  | ct e1 h1 => rw [q] at g; exact g.elim
  | bk e1 h1 => rw [q] at g; exact g.elim
  | bad => rw [q] at g; exact g.elim
theorem FnOk.eq {f : Addr} {fd : FuncData} {ps : List Str} {k n : Nat} {m m' : Fx} (F : FnOk P w K mg base (L2.CX P w) k f fd ps (spOf K mg n m)) (h : ∀ svs hs, svs.length = n → m' svs hs = .bad ∨ m svs hs = m' svs hs) : FnOk P w K mg base (L2.CX P w) k f fd ps (spOf K mg n m') :=
  F.imp fun vs H Q E ⟨hl, ρ, h0, svs, ok, r, g⟩ => ⟨hl, ρ, h0, svs, ok, r, by
    rcases h svs h0 (by rw [Paired.length r, hl]) with e | e
    · rw [e] at g; exact g.elim
    · rw [e]; exact g⟩

/-! ### a def called -/
def eCall (n : Nat) (m : Fx) (dd : List D) (as : As) : Ex := fun env h => bindA as (fun os h1 => match svsOf env os with
  | some svs => if svs.length + dd.length = n then m (svs ++ dd.map .val) h1 else .bad
  | none => .bad) env h
theorem v_call {y : Str} {p : Pos} {e : Expr} {es : List Expr} {k n : Nat} {f : Addr} {fd : FuncData} {ps : List Str} {m : Fx} {as : As} {dvs : List V} {ds : List Value} {dd : List D}
    (F : FnOk X.prog X.w X.K X.mg X.base (L2.CX X.prog X.w) k f fd ps (spOf X.K X.mg n m)) (hr : Room k X.A) (hm : X.mg y = some (.ref f)) (hk : PySem.W.keepIn X.K (.ref f) = true) (hb : Binds X.K fd ps ds) (hd : Vals dvs ds)
    (hdd : ∀ ρ H, Paired (SVOk X.K X.mg ρ H) (dd.map .val) dvs) (tk : Takes X W) (ha : PAs X W (e :: es) as) (hg : Gl X y := by rfl) (hdb : (y == ("__debug__" : Str)) = false := by decide)
    (he : starEach (e :: es) X.env = (false, eval e X.env) :: starEach es X.env := by rfl) (hpl : (backTo pos (starEach es X.env)).any (·.1) = false := by rfl) : PV X W (.Call (.Name y p) (e :: es) [] pos) (eCall n m dd as) := by
  refine ⟨fun pins s σ H Q I h => ?_⟩
  refine (pe_callSD F hr hg hm hk hb hd (fun σ => passAt tk σ) ha hdb he hpl).run pins s σ H Q I ?_
  obtain ⟨ρ, env, h, R, g⟩ := h
  refine TrA.bind R g fun os vs ρ1 h1 H1 A1 g1 => ?_
  split at g1
  · rename_i svs e1
    split at g1
    · rename_i hl
      have r := Paired.append' (svsOf_ok A1.ros e1) (hdd ρ1 H1)
      refine ⟨?_, ρ1, h1, _, A1.rel.hp, r, g1⟩
      rw [← Paired.length r, List.length_append, List.length_map]
      exact hl
    · exact g1.elim
  · exact g1.elim
end
end Ev
end
section
set_option Elab.async false
set_option linter.all false
set_option maxRecDepth 100000
set_option maxHeartbeats 4000000
/-! Ev5: what is walked, targets, loops, comprehensions. -/
namespace Ev
open PySem PySem.Spec L2

section
variable {X : Cx} {W : WX} {K : PySem.W.Frag} {mg : Str → Option Value} {ρ ρ1 : Own} {H H1 : Hp} {h : Hs} {Q : VK} {pos : Pos}

/-! ### what is walked -/
def WalksD (K : PySem.W.Frag) (mg : Str → Option Value) (J : It) (ρ1 : Own) (H1 : Hp) (ds : List D) : Prop :=
  ∀ ρ h H, HeapOk K mg ρ h H → StepW ρ1 H1 ρ H → J.stop ds.length H ∧
    ∀ i d, ds[i]? = some d → J.go i H ∧ ∀ x H', J.yld i H x H' → HeapOk K mg ρ h H' ∧ Step ρ H ρ H' ∧ RD K mg ρ H' d x
theorem WalksD.later {J : It} {ds : List D} (w : WalksD K mg J ρ H ds) (S : Step ρ H ρ1 H1) : WalksD K mg J ρ1 H1 ds := fun ρ' h' H' ok S' => w ρ' h' H' ok (S.thenW S')
/-- the frame of the walk may also be a block's, where a list grows -/
abbrev Ix := Nv → Hs → Res (List D)
def GoodI (K : PySem.W.Frag) (mg : Str → Option Value) (ρ : Own) (H : Hp) (R : It → Hp → Prop) (E : XK) : Res (List D) → Prop
  | .ok ds h' => ∀ ρ' H' J, HeapOk K mg ρ' h' H' → Step ρ H ρ' H' → WalksD K mg J ρ' H' ds → R J H'
  | .exc x h' => EPost K mg ρ H h' E x
  | .bad => False
def TrI (K : PySem.W.Frag) (mg : Str → Option Value) (W : WX) (m : Ix) : TI := fun σ H R => ∃ ρ env h, Rel K mg ρ env h σ H ∧ GoodI K mg ρ H R (fun c d H' => W c d σ H') (m env h)
abbrev PIx (X : Cx) (W : WX) (tg e : Expr) (m : Ix) : Prop := PI X tg e (TrI X.K X.mg W m)
theorem PI.imp {tg e : Expr} {t t' : TI} (p : PI X tg e t) (h : ∀ σ H Q, t' σ H Q → t σ H Q) : PI X tg e t' := ⟨fun pins s σ H Q I q => p.run pins s σ H Q I (h σ H Q q)⟩
theorem PI.or {tg e : Expr} {t t' : TI} (p : PI X tg e t) (q : PI X tg e t') : PI X tg e (fun σ H R => t σ H R ∨ t' σ H R) := ⟨fun pins s σ H R I z => z.elim (fun z => p.run pins s σ H R I z) fun z => q.run pins s σ H R I z⟩
def iVal (m : Ex) : Ix := fun env h => match m env h with
  | .ok rv h1 => (match rv.vl with
    | .lst ds => .ok ds h1
    | .scr ds => .ok ds h1
    | .tup ds => .ok ds h1
    | _ => .bad)
  | .exc x h1 => .exc x h1
  | .bad => .bad
theorem walks_list {a : Addr} {vs : List V} {ds : List D} (hm : ∀ ρ h H, HeapOk K mg ρ h H → StepW ρ1 H1 ρ H → SqL K H a vs) (rs : RDs K mg ρ1 H1 ds vs) (ok1 : HeapOk K mg ρ1 h H1) : WalksD K mg (Itl K a) ρ1 H1 ds := fun ρ h' H ok S => by
  have s := hm ρ h' H ok S
  have r := rs.stepW ok1.mutA S
  refine ⟨⟨vs, s, Nat.le_of_eq rs.length.symm⟩, fun i d e => ?_⟩
  obtain ⟨v, e1, r1⟩ := r.get e
  refine ⟨⟨vs, v, s, e1⟩, fun x H' y => ?_⟩
  obtain ⟨rfl, y⟩ := y
  have y' := y vs s
  rw [e1] at y'
  cases y'
  exact ⟨ok, Step.refl _ _, r1⟩
theorem walks_tup {a : Addr} {vs : List V} {ds : List D} (s1 : SqT K H1 a vs) (rs : RDs K mg ρ1 H1 ds vs) (ok1 : HeapOk K mg ρ1 h H1) : WalksD K mg (Itt K a) ρ1 H1 ds := fun ρ h' H ok S => by
  have s := SqT.stepW ok1.mutA S s1
  have r := rs.stepW ok1.mutA S
  refine ⟨⟨vs, s, Nat.le_of_eq rs.length.symm⟩, fun i d e => ?_⟩
  obtain ⟨v, e1, r1⟩ := r.get e
  refine ⟨⟨vs, v, s, e1⟩, fun x H' y => ?_⟩
  obtain ⟨rfl, y⟩ := y
  have y' := y vs s
  rw [e1] at y'
  cases y'
  exact ⟨ok, Step.refl _ _, r1⟩
theorem i_val {tg e : Expr} {m : Ex} (p : PV X W e m) : PIx X W tg e (iVal m) := by
  refine PI.imp (PI.or (pi_list p) (pi_tup p)) fun σ H R ⟨ρ, env, h, Rl, g⟩ => ?_
  unfold iVal at g
  cases q : m env h with
  | ok rv h1 =>
    rw [q] at g
    dsimp only at g
    split at g
    · rename_i ds e1
      refine .inl ⟨ρ, env, h, Rl, ?_⟩
      rw [q]
      refine Post.ofVl ?_
      rw [e1]
      intro ρ' H' v ok S r
      cases r with
      | lst e2 n2 rs =>
        exact ⟨_, rfl, ⟨_, SqL.of e2⟩, g ρ' H' _ ok S (walks_list (fun ρ2 h2 H2 ok2 S2 => SqL.of (S2.keep _ _ e2 n2)) rs ok)⟩
    · rename_i ds e1
      refine .inl ⟨ρ, env, h, Rl, ?_⟩
      rw [q]
      refine Post.ofVl ?_
      rw [e1]
      intro ρ' H' v ok S r
      cases r with
      | scr e2 rs =>
        exact ⟨_, rfl, ⟨_, e2.l⟩, g ρ' H' _ ok S (walks_list (fun ρ2 h2 H2 ok2 S2 => (e2.at fun o z => S2.keep _ _ z (not_owned_mut ok.mutA z id)).l) rs ok)⟩
    · rename_i ds e1
      refine .inr ⟨ρ, env, h, Rl, ?_⟩
      rw [q]
      refine Post.ofVl ?_
      rw [e1]
      intro ρ' H' v ok S r
      cases r with
      | tup e2 rs => exact ⟨_, rfl, ⟨_, e2⟩, g ρ' H' _ ok S (walks_tup e2 rs ok)⟩
    · exact g.elim
  | exc x h1 => rw [q] at g; exact .inl ⟨ρ, env, h, Rl, by rw [q]; exact g⟩
  | bad => rw [q] at g; exact g.elim
/-- range -/
def rangeD (lo : Int) (n : Nat) : List D := (List.range n).map fun i => D.int (lo + (i : Nat))
theorem walks_range {lo : Int} {n : Nat} : WalksD K mg (Itr lo n) ρ1 H1 (rangeD lo n) := fun ρ h' H ok S => by
  unfold rangeD
  refine ⟨by show n ≤ _; simp, fun i d e => ?_⟩
  rw [List.getElem?_map] at e
  cases q : (List.range n)[i]? with
  | none => rw [q] at e; cases e
  | some j =>
    rw [q] at e; cases e
    obtain ⟨hi, ej⟩ := List.getElem?_eq_some_iff.mp q
    rw [List.getElem_range] at ej
    subst ej
    rw [List.length_range] at hi
    refine ⟨hi, fun x H' y => ?_⟩
    obtain ⟨rfl, rfl⟩ := y
    exact ⟨ok, Step.refl _ _, .int _⟩
def small62 (i : Int) : Bool := decide (-(2 ^ 62) ≤ i) && decide (i < 2 ^ 62)
def range1? : List D → Option (List D)
  | [.int j] => if small62 j then some (rangeD 0 j.toNat) else none
  | _ => none
def range2? : List D → Option (List D)
  | [.int i, .int j] => if small62 i && small62 j then some (rangeD i (j - i).toNat) else none
  | _ => none
def iRange (f : List D → Option (List D)) (m : As) : Ix := fun env h => match m env h with
  | .ok os h1 => (match forces env h1 os with
    | some ds => (match f ds with
      | some es => .ok es h1
      | none => .bad)
    | none => .bad)
  | .exc x h1 => .exc x h1
  | .bad => .bad
theorem range_read {f : List D → Option (List D)} {m : As} {σ : Slots} {R : It → Hp → Prop} {Z : List V → Hp → Prop} (t : TrI X.K X.mg W (iRange f m) σ H R)
    (hz : ∀ ds es vs ρ' h' H', HeapOk X.K X.mg ρ' h' H' → Paired (RB X.K X.mg ρ' H') ds vs → f ds = some es → (∀ J, WalksD X.K X.mg J ρ' H' es → R J H') → Z vs H') : TrA X.K X.mg W m σ H Z := by
  obtain ⟨ρ, env, h, Rl, g⟩ := t
  refine ⟨ρ, env, h, Rl, ?_⟩
  unfold iRange at g
  cases q : m env h with
  | ok os h1 =>
    rw [q] at g
    intro ρ' H' vs ok S ros
    dsimp only at g
    cases q2 : forces env h1 os with
    | none => rw [q2] at g; exact g.elim
    | some ds =>
      rw [q2] at g
      dsimp only at g
      cases q3 : f ds with
      | none => rw [q3] at g; exact g.elim
      | some es =>
        rw [q3] at g
        exact hz ds es vs ρ' h1 H' ok (forces_rb ok ros q2) q3 fun J w => g ρ' H' J ok S w
  | exc x h1 => rw [q] at g; exact g
  | bad => rw [q] at g; exact g.elim
theorem i_range1 {tg a : Expr} {m : As} {p pos : Pos} (hm : X.mg "range" = none) (ha : PAs X W [a] m) (hg : Gl X "range" := by rfl) (hs : starEach [a] X.env = [(false, eval a X.env)] := by rfl) : PIx X W tg (.Call (.Name "range" p) [a] [] pos) (iRange range1? m) :=
  PI.imp (pi_range1 hg hm ha hs) fun σ H R t => range_read t fun ds es vs ρ' h' H' ok rs e w => by
    unfold range1? at e
    split at e
    · rename_i j
      split at e
      · rename_i z
        unfold small62 at z
        rw [Bool.and_eq_true] at z
        cases e
        cases rs with
        | cons r rs =>
          cases rs
          cases r.vInt
          exact ⟨j, rfl, of_decide_eq_true z.1, of_decide_eq_true z.2, w _ walks_range⟩
      · cases e
    · cases e
theorem i_range2 {tg a b : Expr} {m : As} {p pos : Pos} (hm : X.mg "range" = none) (ha : PAs X W [a, b] m) (hg : Gl X "range" := by rfl) (hs : starEach [a, b] X.env = [(false, eval a X.env), (false, eval b X.env)] := by rfl) (hs2 : starEach [b] X.env = [(false, eval b X.env)] := by rfl) :
    PIx X W tg (.Call (.Name "range" p) [a, b] [] pos) (iRange range2? m) :=
  PI.imp (pi_range2 hg hm ha hs hs2) fun σ H R t => range_read t fun ds es vs ρ' h' H' ok rs e w => by
    unfold range2? at e
    split at e
    · rename_i i j
      split at e
      · rename_i z
        unfold small62 at z
        rw [Bool.and_eq_true, Bool.and_eq_true, Bool.and_eq_true] at z
        cases e
        cases rs with
        | cons r rs =>
          cases rs with
          | cons r2 rs =>
            cases rs
            cases r.vInt
            cases r2.vInt
            exact ⟨i, j, rfl, ⟨of_decide_eq_true z.1.1, of_decide_eq_true z.1.2, of_decide_eq_true z.2.1, of_decide_eq_true z.2.2⟩, w _ walks_range⟩
      · cases e
    · cases e

/-! ### targets -/
abbrev Gx := D → Nv → Option Nv
abbrev Gxs := List D → Nv → Option Nv
theorem wipe_set1 {σ : Slots} {i : Nat} {x : Option V} : ∀ vs : List Nat, (wipe (σ.set i x) vs).set i none = (wipe σ vs).set i none
  | [] => by unfold wipe; rw [List.set_set]
  | v :: vs => by
    unfold wipe
    by_cases hv : v = i
    · subst hv
      rw [wipe_set1 vs]
    · rw [List.set_comm _ _ hv, wipe_set1 vs, List.set_comm _ _ hv]
theorem wipe_set {σ : Slots} {i : Nat} {x : Option V} : ∀ {vs : List Nat}, i ∈ vs → wipe (σ.set i x) vs = wipe σ vs
  | v :: vs, h => by
    unfold wipe
    by_cases hv : v = i
    · subst hv
      exact wipe_set1 vs
    · rw [wipe_set (vs := vs) ((List.mem_cons.mp h).resolve_left fun e => hv e.symm)]
def TrG (K : PySem.W.Frag) (mg : Str → Option Value) (ix : List Nat) (g : Gx) : TG := fun v σ H Q => ∃ ρ env h d env', Rel K mg ρ env h σ H ∧ RD K mg ρ H d v ∧ g d env = some env' ∧
  ∀ σ', Rel K mg ρ env' h σ' H → (∀ vs : List Nat, (∀ i ∈ ix, i ∈ vs) → wipe σ' vs = wipe σ vs) → Q σ' H
def TrGs (K : PySem.W.Frag) (mg : Str → Option Value) (ix : List Nat) (g : Gxs) : TGs := fun v σ H Q => ∃ ρ env h d env', Rel K mg ρ env h σ H ∧ RDs K mg ρ H d v ∧ g d env = some env' ∧
  ∀ σ', Rel K mg ρ env' h σ' H → (∀ vs : List Nat, (∀ i ∈ ix, i ∈ vs) → wipe σ' vs = wipe σ vs) → Q σ' H
abbrev PGx (X : Cx) (tg : Expr) (ix : List Nat) (g : Gx) : Prop := PG X tg (TrG X.K X.mg ix g)
abbrev PGxs (X : Cx) (tgs : List Expr) (ix : List Nat) (g : Gxs) : Prop := PGs X tgs (TrGs X.K X.mg ix g)
theorem PG.imp {tg : Expr} {t t' : TG} (p : PG X tg t) (h : ∀ v σ H Q, t' v σ H Q → t v σ H Q) : PG X tg t' := ⟨fun pins s σ H v u Q I r q => p.run pins s σ H v u Q I r (h v σ H Q q)⟩
theorem PGs.imp {tg : List Expr} {t t' : TGs} (p : PGs X tg t) (h : ∀ v σ H Q, t' v σ H Q → t v σ H Q) : PGs X tg t' := ⟨fun pins s σ H v u Q I r q => p.run pins s σ H v u Q I r (h v σ H Q q)⟩
def gNm (i : Nat) : Gx := fun d env => some (env.set i (some (.val d)))
def gNil' : Gxs := fun ds env => match ds with
  | [] => some env
  | _ => none
def gCons' (g : Gx) (r : Gxs) : Gxs := fun ds env => match ds with
  | d :: ds => (match g d env with
    | some e1 => r ds e1
    | none => none)
  | [] => none
def gTp (n : Nat) (r : Gxs) : Gx := fun d env => match d with
  | .tup ds => if ds.length = n then r ds env else none
  | _ => none
theorem g_name {i : Nat} {x : Str} (hN : X.N.Nodup) (hi : X.N[i]? = some x := by rfl) (hx : Loc X.env.scope x := by first | exact .inl rfl | exact .inr rfl) (hf : X.fn x = true ∨ X.env.scope.names.lookup x = some .local := by first | exact .inl rfl | exact .inr rfl) : PGx X (.Name x pos) [i] (gNm i) :=
  PG.imp (pg_name hN hi hx hf) fun v σ H Q ⟨ρ, env, h, d, env', R, rd, e, q⟩ => by
    cases e
    exact q _ ⟨R.hp, R.env.set (sv := .val d) rd i⟩ fun vs hv => wipe_set (hv i (by simp))
theorem gs_nil : PGxs X [] [] gNil' := PGs.imp pgs_nil fun v σ H Q ⟨ρ, env, h, d, env', R, rd, e, q⟩ => by
  unfold gNil' at e
  split at e
  · cases e; cases rd
    exact ⟨rfl, q σ R fun _ _ => rfl⟩
  · cases e
theorem gs_cons {t : Expr} {ts : List Expr} {ix jx : List Nat} {g : Gx} {r : Gxs} (h1 : PGx X t ix g) (h2 : PGxs X ts jx r) (hs : (assignEach (t :: ts) X.env).map (·.2) = assign t X.env :: (assignEach ts X.env).map (·.2) := by rfl) : PGxs X (t :: ts) (ix ++ jx) (gCons' g r) :=
  PGs.imp (pgs_cons h1 h2 hs) fun v σ H Q ⟨ρ, env, h, d, env', R, rd, e, q⟩ => by
    unfold gCons' at e
    split at e
    · rename_i d ds
      cases rd with
      | cons r1 rs =>
        split at e
        · rename_i e1 he
          refine ⟨_, _, rfl, ρ, env, h, d, e1, R, r1, he, fun σ1 R1 w1 => ⟨ρ, e1, h, ds, env', R1, rs, e, fun σ2 R2 w2 => q σ2 R2 fun vs hv => ?_⟩⟩
          rw [w2 vs fun i hi => hv i (List.mem_append_right _ hi), w1 vs fun i hi => hv i (List.mem_append_left _ hi)]
        · cases e
    · cases e
theorem g_tup {ts : List Expr} {k : Nat} {ix : List Nat} {r : Gxs} {n : Nat} (hc : X.calm = true) (h : PGxs X ts ix r) (hn : (assignEach ts X.env).length = n := by rfl) (hst : (assignEach ts X.env).findIdx? (·.1) = none := by rfl) : PGx X (.Tuple ts k pos) ix (gTp n r) :=
  PG.imp (pg_tup hc h hn hst) fun v σ H Q ⟨ρ, env, h, d, env', R, rd, e, q⟩ => by
    unfold gTp at e
    split at e
    · rename_i ds
      split at e
      · cases rd with
        | tup s rs => exact ⟨_, _, rfl, s, by rw [← rs.length]; assumption, ρ, env, h, ds, env', R, rs, e, q⟩
      · cases e
    · cases e
/-- target = e -/
def sAsg (g : Gx) (m : Ex) : Sx := bindS m fun rv env h => match g rv.vl env with
  | some e1 => .nx e1 h
  | none => .bad
theorem s_asg {tg e : Expr} {m : Ex} {ix : List Nat} {g : Gx} (he : PV X W e m) (hg : PGx X tg ix g) (hs : swapsWithSole [tg] e pos.line X.env = pure false := by rfl) (hw : swappedStores [tg] e X.env = pure none := by rfl)
    (h1 : (assignEach [tg] X.env).map (·.2) = [assign tg X.env] := by rfl) : VS X W (.Assign [tg] e pos) (sAsg g m) :=
  PS.imp (ps_asg he hg hs hw h1) fun D σ H ⟨ρ, env, h, R, gd⟩ => TrS.val (k := fun d env h => match g d env with
    | some e1 => .nx e1 h
    | none => .bad) R gd fun d v ρ1 h1 H1 A g1 => by
      split at g1
      · rename_i e1 he1
        exact ⟨ρ1, env, h1, d, e1, A.rel, A.rd, he1, fun σ' R' _ => g1 ρ1 σ' H1 R' (Step.refl ρ1 H1)⟩
      · exact g1.elim

/-! ### for -/
def forL (g : Gx) (b : Sx) : List D → Nv → Hs → SRes
  | [], env, h => .nx env h
  | d :: ds, env, h => match g d env with
    | some e1 => (match b e1 h with
      | .nx e2 h2 => forL g b ds e2 h2
      | .ct e2 h2 => forL g b ds e2 h2
      | .bk e2 h2 => .nx e2 h2
      | .rt rv h2 => .rt rv h2
      | .exc x e2 h2 => .exc x e2 h2
      | .bad => .bad)
    | none => .bad
def sFor (it : Ix) (g : Gx) (b : Sx) : Sx := fun env h => match it env h with
  | .ok ds h1 => forL g b ds env h1
  | .exc x h1 => .exc x env h1
  | .bad => .bad
theorem s_for {tg iter : Expr} {body : List Stmt} {it : Ix} {ix : List Nat} {g : Gx} {b : Sx} (hp : PassesOwn (model X.prog X.w) X.A X.env X.xe) (hc : X.calm = true) (hi : PIx X W tg iter it) (hg : PGx X tg ix g) (hb : VSs X W body b)
    (hs : ∀ x, foldedSetIterable iter X.env x = pure x := by intro _; rfl) : VS X W (.For tg iter body [] pos) (sFor it g b) := by
  refine PS.imp (ps_for hp hc hi hg hb hs) fun D σ H ⟨ρ, env, h, R, gd⟩ => ⟨ρ, env, h, R, ?_⟩
  unfold sFor at gd
  cases q : it env h with
  | exc x h1 => rw [q] at gd; exact exc_read R gd
  | bad => rw [q] at gd; exact gd.elim
  | ok ds h1 =>
    rw [q] at gd
    intro ρ1 H1 J ok S wk
    refine ⟨fun i m σ H => m = ds.length - i ∧ i ≤ ds.length ∧ ∃ ρ' env h, Rel X.K X.mg ρ' env h σ H ∧ Step ρ1 H1 ρ' H ∧ SGood X.K X.mg W ρ' H D (forL g b (ds.drop i) env h),
      ⟨ds.length, rfl, Nat.zero_le _, ρ1, env, h1, ⟨ok, R.env.step R.hp S⟩, Step.refl _ _, by rw [List.drop_zero]; exact SGood.later S gd⟩, ?_⟩
    rintro i m σ2 H2 ⟨rfl, hi, ρ2, env2, h2, R2, S2, g2⟩
    obtain ⟨stop, turns⟩ := wk ρ2 h2 H2 R2.hp S2.w
    by_cases hlt : i < ds.length
    · have ei : ds[i]? = some ds[i] := List.getElem?_eq_getElem hlt
      obtain ⟨go, yl⟩ := turns i _ ei
      rw [List.drop_eq_getElem_cons hlt] at g2
      unfold forL at g2
      refine .inr ⟨go, fun σ' H' => ∃ ρ' env h, Rel X.K X.mg ρ' env h σ' H' ∧ Step ρ1 H1 ρ' H' ∧ SGood X.K X.mg W ρ' H' D (forL g b (ds.drop (i + 1)) env h),
        fun σ' H' z => ⟨ds.length - (i + 1), by omega, rfl, hlt, z⟩, fun x H' y => ?_⟩
      obtain ⟨ok', S', rd⟩ := yl x H' y
      cases q2 : g ds[i] env2 with
      | none => rw [q2] at g2; exact g2.elim
      | some e1 =>
        rw [q2] at g2
        refine ⟨ρ2, env2, h2, ds[i], e1, ⟨ok', R2.env.step R2.hp S'⟩, rd, q2, fun σ3 R3 _ => ⟨ρ2, e1, h2, R3, ?_⟩⟩
        have g3 := SGood.later S' g2
        dsimp only at g3
        cases q3 : b e1 h2 with
        | nx e2 h3 => rw [q3] at g3; exact fun ρ4 σ4 H4 R4 S4 => ⟨ρ4, e2, h3, R4, (S2.trans S').trans S4, SGood.later S4 g3⟩
        | ct e2 h3 => rw [q3] at g3; exact fun ρ4 σ4 H4 R4 S4 => ⟨ρ4, e2, h3, R4, (S2.trans S').trans S4, SGood.later S4 g3⟩
        | bk e2 h3 => rw [q3] at g3; exact g3
        | rt rv h3 => rw [q3] at g3; exact g3
        | exc x e2 h3 => rw [q3] at g3; exact g3
        | bad => rw [q3] at g3; exact g3.elim
    · have e : i = ds.length := by omega
      subst e
      rw [List.drop_length] at g2
      exact .inl ⟨stop, g2 ρ2 σ2 H2 R2 (Step.refl _ _)⟩

/-! ### while -/
def whileL (t : Tx) (b : Sx) : Nat → Nv → Hs → SRes
  | 0, _, _ => .bad
  | n + 1, env, h => match t env h with
    | .ok true h1 => (match b env h1 with
      | .nx e2 h2 => whileL t b n e2 h2
      | .ct e2 h2 => whileL t b n e2 h2
      | .bk e2 h2 => .nx e2 h2
      | .rt rv h2 => .rt rv h2
      | .exc x e2 h2 => .exc x e2 h2
      | .bad => .bad)
    | .ok false h1 => .nx env h1
    | .exc x h1 => .exc x env h1
    | .bad => .bad
def sWhile (f : Nv → Hs → Nat) (t : Tx) (b : Sx) : Sx := fun env h => whileL t b (f env h) env h
theorem s_while {c : Expr} {body : List Stmt} {t : Tx} {b : Sx} {f : Nv → Hs → Nat} (hp : PassesOwn (model X.prog X.w) X.A X.env X.xe) (hc : PB X W c t) (hb : VSs X W body b) : VS X W (.While c body [] pos) (sWhile f t b) := by
  refine PS.imp (ps_while hp hc hb) fun D σ H ⟨ρ, env, h, R, gd⟩ => ?_
  refine ⟨fun m σ H => ∃ ρ env h, Rel X.K X.mg ρ env h σ H ∧ SGood X.K X.mg W ρ H D (whileL t b m env h), ⟨f env h, ρ, env, h, R, gd⟩, ?_⟩
  rintro m σ2 H2 ⟨ρ2, env2, h2, R2, g2⟩
  cases m with
  | zero => exact g2.elim
  | succ n =>
    unfold whileL at g2
    refine ⟨ρ2, env2, h2, R2, ?_⟩
    cases q : t env2 h2 with
    | exc x h1 => rw [q] at g2; exact exc_read R2 g2
    | bad => rw [q] at g2; exact g2.elim
    | ok k h1 =>
      rw [q] at g2
      intro ρ3 H3 ok S
      have R3 : Rel X.K X.mg ρ3 env2 h1 σ2 H3 := ⟨ok, R2.env.step R2.hp S⟩
      cases k with
      | false =>
        rw [if_neg Bool.false_ne_true]
        exact g2 ρ3 σ2 H3 R3 S
      | true =>
        rw [if_pos rfl]
        refine ⟨fun σ' H' => ∃ ρ env h, Rel X.K X.mg ρ env h σ' H' ∧ SGood X.K X.mg W ρ H' D (whileL t b n env h), fun σ' H' z => ⟨n, Nat.lt_succ_self n, z⟩, ρ3, env2, h1, R3, ?_⟩
        have g3 := SGood.later S g2
        dsimp only at g3
        cases q3 : b env2 h1 with
        | nx e2 h3 => rw [q3] at g3; exact fun ρ4 σ4 H4 R4 S4 => ⟨ρ4, e2, h3, R4, SGood.later S4 g3⟩
        | ct e2 h3 => rw [q3] at g3; exact fun ρ4 σ4 H4 R4 S4 => ⟨ρ4, e2, h3, R4, SGood.later S4 g3⟩
        | bk e2 h3 => rw [q3] at g3; exact g3
        | rt rv h3 => rw [q3] at g3; exact g3
        | exc x e2 h3 => rw [q3] at g3; exact g3
        | bad => rw [q3] at g3; exact g3.elim
end
end Ev
end
section
set_option Elab.async false
set_option linter.all false
set_option maxRecDepth 100000
set_option maxHeartbeats 4000000
/-! Ev6: comprehensions, methods of lists, what is taken. -/
namespace Ev
open PySem PySem.Spec L2

section
variable {X : Cx} {W : WX} {K : PySem.W.Frag} {mg : Str → Option Value} {ρ ρ1 ρ' : Own} {H H1 H' : Hp} {h h' : Hs} {Q : VK} {pos : Pos}

/-! ### a list that grows -/
abbrev Own.ad (ρ : Own) (p : Addr) : Own := { ρ with fb := p :: ρ.fb }
abbrev Own.rm (ρ : Own) (p : Addr) : Own := { ρ with fb := ρ.fb.filter fun a => decide (a ≠ p) }
def era (H : Hp) (p : Addr) : Hp := fun a => if a = p then none else H a
theorem era_same {p : Addr} : era H p p = none := if_pos rfl
theorem era_ne {p a : Addr} (h : a ≠ p) : era H p a = H a := if_neg h
theorem upd_era {p : Addr} {o : HO} : upd (era H p) p o = upd H p o := by
  funext b
  unfold upd era
  split <;> rfl
theorem era_upd {p : Addr} {o : HO} (hp : H p = none) : era (upd H p o) p = H := by
  funext b
  by_cases e : b = p
  · subst e; rw [era_same, hp]
  · rw [era_ne e, upd_ne e]
theorem upd_self {p : Addr} {o : HO} (hp : H p = some o) : upd (era H p) p o = H := by
  funext b
  unfold upd era
  split
  · rename_i e; rw [e, hp]
  · rfl
theorem owned_ad {p a : Addr} : Owned (ρ.ad p) a ↔ Owned ρ a ∨ a = p := by
  constructor
  · rintro (o | o)
    · exact .inl (.inl o)
    · rcases List.mem_cons.mp o with e | e
      · exact .inr e
      · exact .inl (.inr e)
  · rintro ((o | o) | o)
    · exact .inl o
    · exact .inr (List.mem_cons_of_mem _ o)
    · exact .inr (by rw [o]; exact List.mem_cons_self)
theorem rd_tup_ne {K : PySem.W.Frag} {p a : Addr} {xs vs : List V} {o : HO} (hp : H p = none) (s : SqT K H a vs) : SqT K (upd H p o) a vs := by
  rcases s with (s | ⟨u, s⟩) | s
  · exact .inl (.inl (upd_keep hp a _ s))
  · exact .inl (.inr ⟨u, upd_keep hp a _ s⟩)
  · exact .inr s
mutual
theorem RD.fbIn {p : Addr} {o : HO} (hp : H p = none) : ∀ {d : D} {v : V}, RD K mg ρ H d v → RD K mg (ρ.ad p) (upd H p o) d v
  | _, _, .non => .non
  | _, _, .bl b => .bl b
  | _, _, .int i => .int i
  | _, _, .str x => .str x
  | _, _, .ty n => .ty n
  | _, _, .gl e => .gl e
  | _, _, .tup h hs => .tup (rd_tup_ne (xs := []) hp h) (RDs.fbIn hp hs)
  | _, _, .lst h no hs => .lst (upd_keep hp _ _ h) (fun z => (owned_ad.mp z).elim no fun e => by subst e; rw [hp] at h; cases h) (RDs.fbIn hp hs)
  | _, _, .scr h hs => .scr (h.at fun o z => upd_keep hp _ _ z) (RDs.fbIn hp hs)
  | _, _, .dct h l no hs => .dct (upd_keep hp _ _ h) l (fun z => (owned_ad.mp z).elim no fun e => by subst e; rw [hp] at h; cases h) (RDs.fbIn hp hs)
theorem RDs.fbIn {p : Addr} {o : HO} (hp : H p = none) : ∀ {ds : List D} {vs : List V}, RDs K mg ρ H ds vs → RDs K mg (ρ.ad p) (upd H p o) ds vs
  | _, _, .nil => .nil
  | _, _, .cons h hs => .cons (RD.fbIn hp h) (RDs.fbIn hp hs)
end
theorem Inners.fbIn {p : Addr} {o : HO} (hp : H p = none) : ∀ {rows : List (List D)} {as : List Addr}, Inners K mg ρ H rows as → Inners K mg (ρ.ad p) (upd H p o) rows as
  | _, _, .nil => .nil
  | _, _, .cons e r rs => .cons (upd_keep hp _ _ e) (r.fbIn hp) (Inners.fbIn hp rs)
theorem HeapOk.fbIn {p : Addr} {xs : List V} (ok : HeapOk K mg ρ h H) (hp : H p = none) : HeapOk K mg (ρ.ad p) h (upd H p (.lst xs)) where
  len := ok.len
  nd := ok.nd
  mutb := (ok.new hp).mutb
  fbd := fun a ha => by
    rcases List.mem_cons.mp ha with e | e
    · subst e; exact ⟨ok.notC hp, .lst xs, upd_same⟩
    · obtain ⟨h1, ys, h2⟩ := ok.fbd a e
      exact ⟨h1, ys, upd_keep hp a _ h2⟩
  cell := fun n c e => by
    obtain ⟨l, e1, e2⟩ := ok.cell n c e
    refine ⟨l, e1, ?_⟩
    cases e2 with
    | dead => exact .dead
    | lst e3 rs => exact .lst (upd_keep hp _ _ e3) (rs.fbIn hp)
    | lls e3 rs nd => exact .lls (upd_keep hp _ _ e3) (Inners.fbIn hp rs) nd
    | dct e3 l rs => exact .dct (upd_keep hp _ _ e3) l (rs.fbIn hp)
theorem HeapOk.fbInG {p : Addr} (g : GrO) (ok : HeapOk K mg ρ h H) (hp : H p = none) : HeapOk K mg (ρ.ad p) h (upd H p g.ho) where
  len := ok.len
  nd := ok.nd
  mutb := (ok.new hp).mutb
  fbd := fun a ha => by
    rcases List.mem_cons.mp ha with e | e
    · subst e; exact ⟨ok.notC hp, g, upd_same⟩
    · obtain ⟨h1, ys, h2⟩ := ok.fbd a e
      exact ⟨h1, ys, upd_keep hp a _ h2⟩
  cell := fun n c e => by
    obtain ⟨l, e1, e2⟩ := ok.cell n c e
    refine ⟨l, e1, ?_⟩
    cases e2 with
    | dead => exact .dead
    | lst e3 rs => exact .lst (upd_keep hp _ _ e3) (rs.fbIn hp)
    | lls e3 rs nd => exact .lls (upd_keep hp _ _ e3) (Inners.fbIn hp rs) nd
    | dct e3 l rs => exact .dct (upd_keep hp _ _ e3) l (rs.fbIn hp)
theorem SVOk.fbIn {p : Addr} {o : HO} (hp : H p = none) {s : SV} {v : V} (r : SVOk K mg ρ H s v) : SVOk K mg (ρ.ad p) (upd H p o) s v := by
  cases s with
  | val d => exact RD.fbIn hp r
  | loc n => exact r
theorem EnvOk.fbIn {p : Addr} {o : HO} (hp : H p = none) {env : Nv} {σ : Slots} (r : EnvOk K mg ρ env σ H) : EnvOk K mg (ρ.ad p) env σ (upd H p o) :=
  ⟨r.len, fun i s e => let ⟨v, e1, q⟩ := r.at_ i s e; ⟨v, e1, q.fbIn hp⟩⟩
theorem Step.fbIn {p : Addr} {o : HO} (S : Step ρ1 H1 ρ H) (h1 : H1 p = none) (hp : H p = none) : Step ρ1 H1 (ρ.ad p) (upd H p o) where
  keep := fun a u e no => upd_keep hp a u (S.keep a u e no)
  own := S.own
  pre := S.pre
  fbi := fun a ha => List.mem_cons_of_mem _ (S.fbi a ha)
  fbo := fun a ha => by
    rcases List.mem_cons.mp ha with e | e
    · rw [e]; exact .inr h1
    · exact S.fbo a e
/-- out of it again -/
structure Out (ρ : Own) (H : Hp) (p : Addr) : Prop where
  mem : p ∈ ρ.fb
  nc : ¬ COwned ρ p
  lst : ∃ xs : GrO, H p = some xs.ho
mutual
theorem RD.fbOut {p : Addr} (o : Out ρ H p) : ∀ {d : D} {v : V}, RD K mg ρ H d v → RD K mg (ρ.rm p) (era H p) d v
  | _, _, .non => .non
  | _, _, .bl b => .bl b
  | _, _, .int i => .int i
  | _, _, .str x => .str x
  | _, _, .ty n => .ty n
  | _, _, .gl e => .gl e
  | _, _, .tup (a := a) h hs => by
    refine .tup ?_ (RDs.fbOut o hs)
    obtain ⟨xs, e⟩ := o.lst
    rcases h with (s | ⟨u, s⟩) | s
    · have ne : a ≠ p := fun z => by subst z; rw [e] at s; cases xs <;> cases s
      exact .inl (.inl ((era_ne ne).trans s))
    · have ne : a ≠ p := fun z => by subst z; rw [e] at s; cases xs <;> cases s
      exact .inl (.inr ⟨u, (era_ne ne).trans s⟩)
    · exact .inr s
  | _, _, .lst (a := a) h no hs => by
    have ne : a ≠ p := fun z => by subst z; exact no (.inr o.mem)
    refine .lst ((era_ne ne).trans h) (fun z => no ?_) (RDs.fbOut o hs)
    rcases z with z | z
    · exact .inl z
    · exact .inr (List.mem_filter.mp z).1
  | _, _, .scr (a := a) h hs => by
    obtain ⟨xs, e⟩ := o.lst
    exact .scr (h.at fun u q => (era_ne fun z => by subst z; rw [e] at q; cases xs <;> cases q).trans q) (RDs.fbOut o hs)
  | _, _, .dct (a := a) h l no hs => by
    have ne : a ≠ p := fun z => by subst z; exact no (.inr o.mem)
    refine .dct ((era_ne ne).trans h) l (fun z => no ?_) (RDs.fbOut o hs)
    rcases z with z | z
    · exact .inl z
    · exact .inr (List.mem_filter.mp z).1
theorem RDs.fbOut {p : Addr} (o : Out ρ H p) : ∀ {ds : List D} {vs : List V}, RDs K mg ρ H ds vs → RDs K mg (ρ.rm p) (era H p) ds vs
  | _, _, .nil => .nil
  | _, _, .cons h hs => .cons (RD.fbOut o h) (RDs.fbOut o hs)
end
theorem Inners.fbOut {p : Addr} (o : Out ρ H p) : ∀ {rows : List (List D)} {as : List Addr}, Inners K mg ρ H rows as → (∀ a ∈ as, a ≠ p) → Inners K mg (ρ.rm p) (era H p) rows as
  | _, _, .nil, _ => .nil
  | _, _, .cons e r rs, ne => .cons ((era_ne (ne _ List.mem_cons_self)).trans e) (r.fbOut o) (Inners.fbOut o rs fun a ha => ne a (List.mem_cons_of_mem _ ha))
theorem HeapOk.fbOut {p : Addr} (ok : HeapOk K mg ρ h H) (o : Out ρ H p) : HeapOk K mg (ρ.rm p) h (era H p) where
  len := ok.len
  nd := ok.nd
  mutb := fun a oa => by
    have ne : a ≠ p := fun z => by subst z; exact o.nc oa
    rw [era_ne ne]; exact ok.mutb a oa
  fbd := fun a ha => by
    obtain ⟨h1, h2⟩ := List.mem_filter.mp ha
    obtain ⟨h3, xs, h4⟩ := ok.fbd a h1
    exact ⟨h3, xs, (era_ne (of_decide_eq_true h2)).trans h4⟩
  cell := fun n c e => by
    obtain ⟨l, e1, e2⟩ := ok.cell n c e
    refine ⟨l, e1, ?_⟩
    cases e2 with
    | dead => exact .dead
    | lst e3 rs =>
      rename_i q ds vs
      have ne : q ≠ p := fun z => by subst z; exact o.nc ⟨n, _, e1, by simp⟩
      exact .lst ((era_ne ne).trans e3) (rs.fbOut o)
    | lls e3 rs nd =>
      exact .lls ((era_ne fun z => by subst z; exact o.nc ⟨n, _, e1, List.mem_cons_self⟩).trans e3) (Inners.fbOut o rs fun a ha z => by subst z; exact o.nc ⟨n, _, e1, List.mem_cons_of_mem _ ha⟩) nd
    | dct e3 l rs =>
      exact .dct ((era_ne fun z => by subst z; exact o.nc ⟨n, _, e1, List.mem_cons_self⟩).trans e3) l (rs.fbOut o)
theorem Step.fbOut {p : Addr} {o : HO} (S : Step (ρ.ad p) (upd H p o) ρ' H') (hp : H p = none) (hf : p ∉ ρ.fb) : Step ρ H (ρ'.rm p) (era H' p) where
  keep := fun a u e no => by
    have ne : a ≠ p := ne_of_none e hp
    rw [era_ne ne]
    exact S.keep a u (upd_keep hp a u e) no
  own := fun a o => by
    rcases S.own a o with q | q
    · exact .inl q
    · by_cases e : a = p
      · subst e; rw [upd_same] at q; cases q
      · rw [upd_ne e] at q; exact .inr q
  pre := S.pre
  fbi := fun a ha => List.mem_filter.mpr ⟨S.fbi a (List.mem_cons_of_mem _ ha), decide_eq_true fun e => by subst e; exact hf ha⟩
  fbo := fun a ha => by
    obtain ⟨h1, h2⟩ := List.mem_filter.mp ha
    have ne : a ≠ p := of_decide_eq_true h2
    rcases S.fbo a h1 with q | q
    · rcases owned_ad.mp q with z | z
      · exact .inl z
      · exact absurd z ne
    · rw [upd_ne ne] at q; exact .inr q
theorem out_of {p : Addr} {xs : List V} (S : Step (ρ.ad p) (upd H p (.lst xs)) ρ' H') (ok : HeapOk K mg ρ' h' H') (nc : ¬ COwned ρ p) : Out ρ' H' p ∧ H' p = some (.lst xs) := by
  have m : p ∈ ρ'.fb := S.fbi p List.mem_cons_self
  obtain ⟨h1, h2⟩ := ok.fbd p m
  exact ⟨⟨m, h1, h2⟩, S.keep p _ upd_same nc⟩

theorem out_ofG {p : Addr} {o : HO} (S : Step (ρ.ad p) (upd H p o) ρ' H') (ok : HeapOk K mg ρ' h' H') (nc : ¬ COwned ρ p) : Out ρ' H' p ∧ H' p = some o := by
  have m : p ∈ ρ'.fb := S.fbi p List.mem_cons_self
  obtain ⟨h1, h2⟩ := ok.fbd p m
  exact ⟨⟨m, h1, h2⟩, S.keep p _ upd_same nc⟩

theorem wipe_wipe {σ : Slots} {ws : List Nat} : ∀ vs : List Nat, (∀ i ∈ vs, i ∈ ws) → wipe (wipe σ vs) ws = wipe σ ws
  | [], _ => rfl
  | v :: vs, h => by
    have e : wipe (wipe σ (v :: vs)) ws = wipe ((wipe σ vs).set v none) ws := rfl
    rw [e, wipe_set (h v (by simp)), wipe_wipe vs fun i hi => h i (List.mem_cons_of_mem _ hi)]
/-! ### comprehensions -/
def wipeE (env : Nv) : List Nat → Nv
  | [] => env
  | v :: vs => (wipeE env vs).set v none
theorem EnvOk.wipe {env : Nv} {σ : Slots} (r : EnvOk K mg ρ env σ H) : ∀ vs : List Nat, EnvOk K mg ρ (wipeE env vs) (wipe σ vs) H
  | [] => r
  | v :: vs => by
    have ih := EnvOk.wipe r vs
    unfold wipeE L2.wipe
    refine ⟨by rw [List.length_set, List.length_set]; exact ih.len, fun i s e => ?_⟩
    by_cases hi : v = i
    · subst hi
      by_cases hl : v < (wipeE env vs).length
      · rw [List.getElem?_set_self hl] at e; cases e
      · rw [List.getElem?_eq_none (by simpa using hl)] at e; cases e
    · rw [List.getElem?_set_ne hi] at e
      obtain ⟨w, e1, q⟩ := ih.at_ i s e
      exact ⟨w, by rw [List.getElem?_set_ne hi]; exact e1, q⟩
def compL (g : Gx) (t : Tx) (e : Ex) (env : Nv) : List D → List D → Hs → Res (List D)
  | acc, [], h => .ok acc h
  | acc, d :: ds, h => match g d env with
    | some e1 => (match t e1 h with
      | .ok true h1 => (match e e1 h1 with
        | .ok rv h2 => compL g t e env (acc ++ [rv.vl]) ds h2
        | _ => .bad)
      | .ok false h1 => compL g t e env acc ds h1
      | _ => .bad)
    | none => .bad
def eComp (vs : List Nat) (it : Ix) (g : Gx) (t : Tx) (e : Ex) : Ex := fun env h => match it env h with
  | .ok ds h1 => if ds.length < sizeLine then (match compL g t e (wipeE env vs) [] ds h1 with
    | .ok rs h2 => .ok (.fresh rs) h2
    | _ => .bad) else .bad
  | .exc x h1 => .exc x h1
  | .bad => .bad
abbrev W0 : WX := fun _ _ _ _ => False
def tYesE : Tx := fun _ h => .ok true h
abbrev PTx (X : Cx) (W : WX) (ifs : List Expr) (m : Tx) : Prop := PTs X ifs (TrB X.K X.mg W m)
theorem ts_nil : PTx X W [] tYesE := ⟨fun pins s σ H Q I ⟨ρ, env, h, R, g⟩ => pts_nil.run pins s σ H Q I (g ρ H R.hp (Step.refl _ _))⟩
theorem ts_one {c : Expr} {m : Tx} (h : PB X W c m) : PTx X W [c] m := pts_one h
theorem comp_read {it : Ix} {ix vs : List Nat} {g : Gx} {t : Tx} {e : Ex} {σ : Slots} {Q : VK} (hix : ∀ i ∈ ix, i ∈ vs) (tr : Tr X.K X.mg W (eComp vs it g t e) σ H Q) :
    tLc (TrI X.K X.mg W it) (TrG X.K X.mg ix g) (TrB X.K X.mg W0 t) (Tr X.K X.mg W0 e) vs σ H Q := by
  obtain ⟨ρ, env, h, R, gd⟩ := tr
  refine ⟨ρ, env, h, R, ?_⟩
  unfold eComp at gd
  cases q : it env h with
  | exc x h1 => rw [q] at gd; exact gd
  | bad => rw [q] at gd; exact gd.elim
  | ok ds h1 =>
    rw [q] at gd
    dsimp only at gd
    split at gd
    case isFalse => exact gd.elim
    rename_i hsz
    intro ρ1 H1 J ok S wk p hp
    have en1 : EnvOk X.K X.mg ρ1 env σ H1 := R.env.step R.hp S
    let Fin : Own → Hp → Res (List D) → Prop := fun ρ' H' r => match r with
      | .ok rs h2 => Post X.K X.mg ρ' H' h2 Q (.fresh rs)
      | _ => False
    have later : ∀ {ρ' ρ2 : Own} {H' H2 : Hp} {r : Res (List D)}, Step ρ' H' ρ2 H2 → Fin ρ' H' r → Fin ρ2 H2 r := fun {ρ' ρ2 H' H2 r} S f => by
      cases r with
      | ok rs h2 => exact Post.later S (show Post X.K X.mg ρ' H' h2 Q (.fresh rs) from f)
      | exc x h2 => exact f
      | bad => exact f
    have start : Fin ρ1 H1 (compL g t e (wipeE env vs) [] ds h1) := by
      cases q2 : compL g t e (wipeE env vs) [] ds h1 with
      | ok rs h2 => rw [q2] at gd; exact Post.later S gd
      | exc x h2 => rw [q2] at gd; exact gd.elim
      | bad => rw [q2] at gd; exact gd.elim
    refine ⟨fun i m H => m = ds.length - i ∧ i ≤ ds.length ∧ ∃ (ρ' : Own) (h : Hs) (Hx : Hp) (acc : List V) (rs : List D), H = upd Hx p (.lst acc) ∧ Hx p = none ∧ p ∉ ρ'.fb ∧ HeapOk X.K X.mg ρ' h Hx ∧ Step ρ1 H1 ρ' Hx ∧ RDs X.K X.mg ρ' Hx rs acc ∧ rs.length ≤ i ∧
      Fin ρ' Hx (compL g t e (wipeE env vs) rs (ds.drop i) h), ⟨ds.length, rfl, Nat.zero_le _, ρ1, h1, H1, [], [], rfl, hp, ?_, ok, Step.refl _ _, .nil, Nat.le_refl _, by rw [List.drop_zero]; exact start⟩, ?_⟩
    · intro hf
      obtain ⟨_, xs, e⟩ := ok.fbd p hf
      rw [hp] at e; cases e
    rintro i m H2 ⟨rfl, hi, ρ2, h2, Hx, acc, rs, rfl, hx, hf, ok2, S2, rds, hl, f2⟩
    have okA := ok2.fbIn (xs := acc) hx
    have SA : Step ρ1 H1 (ρ2.ad p) (upd Hx p (.lst acc)) := S2.fbIn hp hx
    have nc := ok2.notC hx
    obtain ⟨stop, turns⟩ := wk _ h2 _ okA SA.w
    by_cases hlt : i < ds.length
    · have ei : ds[i]? = some ds[i] := List.getElem?_eq_getElem hlt
      obtain ⟨go, yl⟩ := turns i _ ei
      rw [List.drop_eq_getElem_cons hlt] at f2
      unfold compL at f2
      refine .inr ⟨go, fun H' => ∃ (ρ' : Own) (h : Hs) (Hx : Hp) (acc : List V) (rs : List D), H' = upd Hx p (.lst acc) ∧ Hx p = none ∧ p ∉ ρ'.fb ∧ HeapOk X.K X.mg ρ' h Hx ∧ Step ρ1 H1 ρ' Hx ∧ RDs X.K X.mg ρ' Hx rs acc ∧ rs.length ≤ i + 1 ∧
        Fin ρ' Hx (compL g t e (wipeE env vs) rs (ds.drop (i + 1)) h), fun H' z => ⟨ds.length - (i + 1), by omega, rfl, hlt, z⟩, fun x H' y => ?_⟩
      obtain ⟨okB, SB, rd⟩ := yl x H' y
      have enB : EnvOk X.K X.mg (ρ2.ad p) (wipeE env vs) (wipe σ vs) H' := ((((en1.step ok S2).fbIn (o := .lst acc) hx)).step okA SB).wipe vs
      cases q2 : g ds[i] (wipeE env vs) with
      | none => rw [q2] at f2; exact f2.elim
      | some e1 =>
        rw [q2] at f2
        dsimp only at f2
        refine ⟨ρ2.ad p, wipeE env vs, h2, ds[i], e1, ⟨okB, enB⟩, rd, q2, fun σ3 R3 w3 => ⟨(w3 vs hix).trans (wipe_wipe vs fun _ h => h), ρ2.ad p, e1, h2, R3, ?_⟩⟩
        -- a turn's end
        have done : ∀ {ρ4 : Own} {h4 : Hs} {H4 : Hp}, HeapOk X.K X.mg ρ4 h4 H4 → Step (ρ2.ad p) (upd Hx p (.lst acc)) ρ4 H4 → ∀ (rs' : List D) (acc' : List V), RDs X.K X.mg (ρ4.rm p) (era H4 p) rs' acc' → rs'.length ≤ i + 1 →
            Fin ρ2 Hx (compL g t e (wipeE env vs) rs' (ds.drop (i + 1)) h4) → ∀ H5, H5 = upd (era H4 p) p (.lst acc') →
            ∃ (ρ' : Own) (h : Hs) (Hx : Hp) (acc : List V) (rs : List D), H5 = upd Hx p (.lst acc) ∧ Hx p = none ∧ p ∉ ρ'.fb ∧ HeapOk X.K X.mg ρ' h Hx ∧ Step ρ1 H1 ρ' Hx ∧ RDs X.K X.mg ρ' Hx rs acc ∧ rs.length ≤ i + 1 ∧ Fin ρ' Hx (compL g t e (wipeE env vs) rs (ds.drop (i + 1)) h) :=
          fun {ρ4 h4 H4} ok4 S4 rs' acc' rds' hl' f' H5 e5 => by
            obtain ⟨o4, _⟩ := out_of S4 ok4 nc
            have SX := S4.fbOut hx hf
            exact ⟨ρ4.rm p, h4, era H4 p, acc', rs', e5, era_same, fun z => (of_decide_eq_true (List.mem_filter.mp z).2) rfl, ok4.fbOut o4, S2.trans SX, rds', hl', later SX f'⟩
        cases q3 : t e1 h2 with
        | exc x h3 => rw [q3] at f2; exact f2.elim
        | bad => rw [q3] at f2; exact f2.elim
        | ok k h3 =>
          rw [q3] at f2
          intro ρ4 H4 ok4 S4
          have S4' := SB.trans S4
          have R4 : Rel X.K X.mg ρ4 e1 h3 σ3 H4 := ⟨ok4, R3.env.step R3.hp S4⟩
          cases k with
          | false =>
            rw [if_neg Bool.false_ne_true]
            obtain ⟨o4, e4⟩ := out_of S4' ok4 nc
            have SX := S4'.fbOut hx hf
            exact done ok4 S4' rs acc (rds.step ok2.mutb SX) (by omega) f2 H4 (upd_self e4).symm
          | true =>
            rw [if_pos rfl]
            refine ⟨ρ4, e1, h3, R4, ?_⟩
            dsimp only at f2
            cases q5 : e e1 h3 with
            | exc x h5 => rw [q5] at f2; exact f2.elim
            | bad => rw [q5] at f2; exact f2.elim
            | ok rv h5 =>
              rw [q5] at f2
              refine Post.ofVl fun ρ6 H6 v ok6 S6 r6 => ?_
              have S6' := S4'.trans S6
              obtain ⟨o6, e6⟩ := out_of S6' ok6 nc
              have SX := S6'.fbOut hx hf
              refine ⟨acc, e6, ?_, done ok6 S6' (rs ++ [rv.vl]) (acc ++ [v]) (RDs.append (rds.step ok2.mutb SX) (.cons (r6.fbOut o6) .nil)) (by simp; omega) f2 _ upd_era.symm⟩
              rw [← rds.length]; omega
    · have e : i = ds.length := by omega
      subst e
      rw [List.drop_length] at f2
      unfold compL at f2
      exact .inl ⟨stop, f2 ρ2 Hx p acc ok2 (Step.refl _ _) hx rds⟩
theorem v_comp {elt tg iter : Expr} {ifs : List Expr} {scope : Scope} {own : List (Str × Nat)} {it : Ix} {ix : List Nat} {g : Gx} {t : Tx} {e : Ex} (hc : X.calm = true) (hN : X.N.Nodup) (hi : PIx X W tg iter it) (ok : BlkOk X.N X.env.scope scope own) (hix : ∀ i ∈ ix, i ∈ own.map (·.2))
    (hg : ∀ (s : Shared) (H : Hp) (C : Addr) (cl : List (Str × Addr)) (fp : List Addr), PGx (X.blk s H scope (compEnvC scope cl C X.env) fp) tg ix g) (ht : ∀ (s : Shared) (H : Hp) (C : Addr) (cl : List (Str × Addr)) (fp : List Addr), PTx (X.blk s H scope (compEnvC scope cl C X.env) fp) W0 ifs t)
    (he : ∀ (s : Shared) (H : Hp) (C : Addr) (cl : List (Str × Addr)) (fp : List Addr), PV (X.blk s H scope (compEnvC scope cl C X.env) fp) W0 elt e) (hs : ∀ x, foldedSetIterable iter X.env x = pure x := by intro _; rfl) :
    PV X W (.ListComp elt [⟨tg, iter, ifs, 0⟩] scope pos) (eComp (own.map (·.2)) it g t e) :=
  PE.imp (pe_lc hc hN hi ok hg ht he hs) fun σ H Q tr => comp_read hix tr
/-- name = [..] -/
theorem s_setLc {i : Nat} {y : Str} {py spos : Pos} {elt tg iter : Expr} {ifs : List Expr} {scope : Scope} {own : List (Str × Nat)} {it : Ix} {ix : List Nat} {g : Gx} {t : Tx} {e : Ex} (hc : X.calm = true) (hN : X.N.Nodup) (hi : PIx X W tg iter it) (ok : BlkOk X.N X.env.scope scope own) (hix : ∀ i ∈ ix, i ∈ own.map (·.2))
    (hg : ∀ (s : Shared) (H : Hp) (C : Addr) (cl : List (Str × Addr)) (fp : List Addr), PGx (X.blk s H scope (compEnvC scope cl C X.env) fp) tg ix g) (ht : ∀ (s : Shared) (H : Hp) (C : Addr) (cl : List (Str × Addr)) (fp : List Addr), PTx (X.blk s H scope (compEnvC scope cl C X.env) fp) W0 ifs t)
    (he : ∀ (s : Shared) (H : Hp) (C : Addr) (cl : List (Str × Addr)) (fp : List Addr), PV (X.blk s H scope (compEnvC scope cl C X.env) fp) W0 elt e) (hy : X.N[i]? = some y := by rfl) (hyl : X.env.scope.names.lookup y = some .local := by rfl)
    (hsw : swapsWith (.ListComp elt [⟨tg, iter, ifs, 0⟩] scope pos) (some (.Name y py)) spos.line X.env = pure true := by exact sw_true rfl rfl rfl (by decide +kernel)) (hs : ∀ x, foldedSetIterable iter X.env x = pure x := by intro _; rfl) :
    VS X W (.Assign [.Name y py] (.ListComp elt [⟨tg, iter, ifs, 0⟩] scope pos) spos) (sSet i (eComp (own.map (·.2)) it g t e)) :=
  PS.imp (ps_setLc hc hN hy hyl hsw hi ok hg ht he hs) fun D σ H ⟨ρ, env, h, R, gd⟩ => comp_read hix (TrS.val (k := fun d env h => .nx (env.set i (some (.val d))) h) R gd fun d v ρ1 h1 H1 A g1 => g1 ρ1 _ H1 ⟨A.rel.hp, A.rel.env.set (sv := .val d) A.rd i⟩ (Step.refl ρ1 H1))
theorem s_newLc {i : Nat} {y : Str} {py spos : Pos} {elt tg iter : Expr} {ifs : List Expr} {scope : Scope} {own : List (Str × Nat)} {it : Ix} {ix : List Nat} {g : Gx} {t : Tx} {e : Ex} (hc : X.calm = true) (hN : X.N.Nodup) (hi : PIx X W tg iter it) (ok : BlkOk X.N X.env.scope scope own) (hix : ∀ i ∈ ix, i ∈ own.map (·.2))
    (hg : ∀ (s : Shared) (H : Hp) (C : Addr) (cl : List (Str × Addr)) (fp : List Addr), PGx (X.blk s H scope (compEnvC scope cl C X.env) fp) tg ix g) (ht : ∀ (s : Shared) (H : Hp) (C : Addr) (cl : List (Str × Addr)) (fp : List Addr), PTx (X.blk s H scope (compEnvC scope cl C X.env) fp) W0 ifs t)
    (he : ∀ (s : Shared) (H : Hp) (C : Addr) (cl : List (Str × Addr)) (fp : List Addr), PV (X.blk s H scope (compEnvC scope cl C X.env) fp) W0 elt e) (hy : X.N[i]? = some y := by rfl) (hyl : X.env.scope.names.lookup y = some .local := by rfl)
    (hsw : swapsWith (.ListComp elt [⟨tg, iter, ifs, 0⟩] scope pos) (some (.Name y py)) spos.line X.env = pure true := by exact sw_true rfl rfl rfl (by decide +kernel)) (hs : ∀ x, foldedSetIterable iter X.env x = pure x := by intro _; rfl) :
    VS X W (.Assign [.Name y py] (.ListComp elt [⟨tg, iter, ifs, 0⟩] scope pos) spos) (sNew i (eComp (own.map (·.2)) it g t e)) :=
  PS.imp (ps_setLc hc hN hy hyl hsw hi ok hg ht he hs) fun D σ H ⟨ρ, env, h, R, gd⟩ => comp_read hix (TrS.new R gd)
end
end Ev
end
section
set_option Elab.async false
set_option linter.all false
set_option maxRecDepth 100000
set_option maxHeartbeats 4000000
/-! Ev7: what is taken, methods of lists, stores, several targets, raise, isinstance. -/
namespace Ev
open PySem PySem.Spec L2

section
variable {X : Cx} {W : WX} {K : PySem.W.Frag} {mg : Str → Option Value} {ρ ρ1 ρ' : Own} {H H1 H' : Hp} {h h' : Hs} {Q : VK} {pos : Pos}

/-! ### a list is given away -/
def eTake (i : Nat) : Ex := fun env h => match env[i]? with
  | some (some (.loc n)) => (match h[n]? with
    | some (.lst ds) => .ok (.fresh ds) (h.set n .dead)
    | _ => .bad)
  | _ => .bad
theorem take_ok {n : Nat} {p : Addr} {ds : List D} {vs : List V} (ok : HeapOk K mg ρ h H) (hn : h[n]? = some (.lst ds)) (hp : ρ.cs[n]? = some [p]) (e : H p = some (.lst vs)) :
    HeapOk K mg { ρ with cs := ρ.cs.set n [] } (h.set n .dead) (era H p) ∧ Step ρ H { ρ with cs := ρ.cs.set n [] } (era H p) := by
  have hlt : n < ρ.cs.length := (List.getElem?_eq_some_iff.mp hp).1
  have hlt' : n < h.length := (List.getElem?_eq_some_iff.mp hn).1
  have co : COwned ρ p := ⟨n, [p], hp, by simp⟩
  have sub : ∀ a, COwned { ρ with cs := ρ.cs.set n [] } a → COwned ρ a ∧ a ≠ p := fun a ⟨m, l, e1, ha⟩ => by
    have e1 : (ρ.cs.set n [])[m]? = some l := e1
    by_cases hm : n = m
    · subst hm
      rw [List.getElem?_set_self hlt] at e1
      cases e1; cases ha
    · rw [List.getElem?_set_ne hm] at e1
      exact ⟨⟨m, l, e1, ha⟩, fun z => hm (ok.nd n m [p] l p hp e1 (by simp) (z ▸ ha))⟩
  have S : Step ρ H { ρ with cs := ρ.cs.set n [] } (era H p) := by
    refine ⟨fun a o e1 no => ?_, fun a o => .inl (sub a o).1, fun m l e1 => ?_, fun _ h => h, fun _ h => .inl (.inr h)⟩
    · have ne : a ≠ p := fun z => by subst z; exact no co
      rw [era_ne ne]; exact e1
    · show (ρ.cs.set n [])[m]? = some l ∨ (ρ.cs.set n [])[m]? = some []
      by_cases hm : n = m
      · subst hm; exact .inr (by rw [List.getElem?_set_self hlt])
      · exact .inl (by rw [List.getElem?_set_ne hm]; exact e1)
  refine ⟨⟨by simp [ok.len], fun i j l k a e1 e2 ha hb => ?_, fun a oa => ?_, fun a ha => ?_, fun m c e1 => ?_⟩, S⟩
  · have e1 : (ρ.cs.set n [])[i]? = some l := e1
    have e2 : (ρ.cs.set n [])[j]? = some k := e2
    have fr : ∀ (i : Nat) (l : List Addr), (ρ.cs.set n [])[i]? = some l → a ∈ l → ρ.cs[i]? = some l := fun i l e ha => by
      by_cases hm : n = i
      · subst hm; rw [List.getElem?_set_self hlt] at e; cases e; cases ha
      · rw [List.getElem?_set_ne hm] at e; exact e
    exact ok.nd i j l k a (fr i l e1 ha) (fr j k e2 hb) ha hb
  · obtain ⟨q, ne⟩ := sub a oa
    rw [era_ne ne]; exact ok.mutb a q
  · obtain ⟨h1, xs, h2⟩ := ok.fbd a ha
    have ne : a ≠ p := fun z => by subst z; exact h1 co
    exact ⟨fun o => h1 (sub a o).1, xs, (era_ne ne).trans h2⟩
  · by_cases hm : n = m
    · subst hm
      rw [List.getElem?_set_self hlt'] at e1
      cases e1
      exact ⟨[], (by rw [List.getElem?_set_self hlt] : (ρ.cs.set n [])[n]? = some []), .dead⟩
    · rw [List.getElem?_set_ne hm] at e1
      obtain ⟨l, e2, e3⟩ := ok.cell m c e1
      refine ⟨l, (by rw [List.getElem?_set_ne hm]; exact e2 : (ρ.cs.set n [])[m]? = some l), e3.step ok.mutb S fun a ha => era_ne fun z => ?_⟩
      exact hm (ok.nd n m [p] l p hp e2 (by simp) (z ▸ ha))
theorem loc_at {env : Nv} {σ : Slots} {i n : Nat} {ds : List D} (R : Rel K mg ρ env h σ H) (e : env[i]? = some (some (.loc n))) (hn : h[n]? = some (.lst ds)) :
    ∃ p vs, σ[i]? = some (some (.ref p)) ∧ ρ.cs[n]? = some [p] ∧ H p = some (.lst vs) ∧ RDs K mg ρ H ds vs := by
  obtain ⟨v, e1, l, e2, q⟩ := R.env.at_ i _ e
  obtain ⟨l', e3, c⟩ := R.hp.cell n _ hn
  rw [e2] at e3; cases e3
  cases c with
  | lst e4 rs => exact ⟨_, _, by rw [e1, q _ _ rfl], e2, e4, rs⟩
theorem v_take (i : Nat) {x : Str} (hN : X.N[i]? = some x := by rfl) (hv : Vis X.env.scope x := by first | exact Or.inl rfl | exact Or.inr (Or.inl rfl) | exact Or.inr (Or.inr rfl)) (hd : (x == ("__debug__" : Str)) = false := by decide)
    (hcd : (x == ("__classdict__" : Str)) = false := by decide) : PV X W (.Name x pos) (eTake i) := by
  refine PE.imp (pe_var hN hv hd hcd) fun σ H Q ⟨ρ, env, h, R, g⟩ => ?_
  unfold eTake at g
  split at g
  · rename_i n e
    split at g
    · rename_i ds hn
      obtain ⟨p, vs, e1, e2, e3, rs⟩ := loc_at R e hn
      obtain ⟨ok', S⟩ := take_ok R.hp hn e2 e3
      refine ⟨_, e1, ?_⟩
      have q := g _ (era H p) p vs ok' S era_same (rs.step R.hp.mutb S)
      rw [upd_self e3] at q
      exact q
    · exact g.elim
  · exact g.elim

/-! ### a list is changed -/
theorem cell_set {n : Nat} {p : Addr} {ds' : List D} {vs' : List V} (ok : HeapOk K mg ρ h H) (hn : n < h.length) (hp : ρ.cs[n]? = some [p]) (rs : RDs K mg ρ H ds' vs') :
    HeapOk K mg ρ (h.set n (.lst ds')) (upd H p (.lst vs')) ∧ Step ρ H ρ (upd H p (.lst vs')) := by
  have co : COwned ρ p := ⟨n, [p], hp, by simp⟩
  have S : Step ρ H ρ (upd H p (.lst vs')) := by
    refine ⟨fun a o e1 no => ?_, fun a o => .inl o, fun m l e1 => .inl e1, fun _ h => h, fun _ h => .inl (.inr h)⟩
    have ne : a ≠ p := fun z => by subst z; exact no co
    rw [upd_ne ne]; exact e1
  refine ⟨⟨by simp [ok.len], ok.nd, fun a oa => ?_, fun a ha => ?_, fun m c e1 => ?_⟩, S⟩
  · by_cases e : a = p
    · subst e; rw [upd_same]; trivial
    · rw [upd_ne e]; exact ok.mutb a oa
  · obtain ⟨h1, xs, h2⟩ := ok.fbd a ha
    have ne : a ≠ p := fun z => by subst z; exact h1 co
    exact ⟨h1, xs, by rw [upd_ne ne]; exact h2⟩
  · by_cases hm : n = m
    · subst hm
      rw [List.getElem?_set_self hn] at e1
      cases e1
      exact ⟨[p], hp, .lst upd_same (rs.step ok.mutb S)⟩
    · rw [List.getElem?_set_ne hm] at e1
      obtain ⟨l, e2, e3⟩ := ok.cell m c e1
      refine ⟨l, e2, e3.step ok.mutb S fun a ha => upd_ne fun z => ?_⟩
      exact hm (ok.nd n m [p] l p hp e2 (by simp) (z ▸ ha))
/-- what a method makes of a list and its arguments -/
def MethV (X : Cx) (id : String) (op : List D → List D → Option (List D × D)) : Prop :=
  ∃ r, MtR X id r ∧ ∀ (ρ : Own) (h : Hs) (H : Hp) (Q : VK) (p : Addr) (ds : List D) (vs : List V) (as : List D) (xs : List V) (ds' : List D) (d : D), HeapOk X.K X.mg ρ h H → H p = some (.lst vs) → RDs X.K X.mg ρ H ds vs → RDs X.K X.mg ρ H as xs →
    op ds as = some (ds', d) → (∀ vs' v, RDs X.K X.mg ρ H ds' vs' → RD X.K X.mg ρ H d v → Q v (upd H p (.lst vs'))) → r (.ref p) xs H Q
def onList (op : List D → List D → Option (List D × D)) (env : Nv) (i : Nat) (as : List D) (h : Hs) : Res RV := match env[i]? with
  | some (some (.loc n)) => (match h[n]? with
    | some (.lst ds) => (match op ds as with
      | some (ds', d) => .ok (.val d) (h.set n (.lst ds'))
      | none => .bad)
    | _ => .bad)
  | _ => .bad
def eMeth (op : List D → List D → Option (List D × D)) (i : Nat) (m : As) : Ex := fun env h => bindA m (fun os h1 => match plains os with
  | some as => onList op env i as h1
  | none => .bad) env h
theorem onList_read {op : List D → List D → Option (List D × D)} {env : Nv} {σ : Slots} {i : Nat} {as : List D} {xs : List V} {E : XK} {r : V → List V → Hp → VK → Prop} {x : V}
    (hr : ∀ (ρ : Own) (h : Hs) (H : Hp) (Q : VK) (p : Addr) (ds : List D) (vs : List V) (as : List D) (xs : List V) (ds' : List D) (d : D), HeapOk X.K X.mg ρ h H → H p = some (.lst vs) → RDs X.K X.mg ρ H ds vs → RDs X.K X.mg ρ H as xs →
      op ds as = some (ds', d) → (∀ vs' v, RDs X.K X.mg ρ H ds' vs' → RD X.K X.mg ρ H d v → Q v (upd H p (.lst vs'))) → r (.ref p) xs H Q)
    (R : Rel X.K X.mg ρ env h σ H) (hx : σ[i]? = some (some x)) (ras : RDs X.K X.mg ρ H as xs) (g : Good X.K X.mg ρ H Q E (onList op env i as h)) : r x xs H Q := by
  unfold onList at g
  split at g
  · rename_i n e
    split at g
    · rename_i ds hn
      split at g
      · rename_i ds' d ho
        obtain ⟨p, vs, e1, e2, e3, rs⟩ := loc_at R e hn
        rw [hx] at e1; cases e1
        refine hr ρ h H Q p ds vs as xs ds' d R.hp e3 rs ras ho fun vs' v r1 r2 => ?_
        obtain ⟨ok', S⟩ := cell_set R.hp (List.getElem?_eq_some_iff.mp hn).1 e2 r1
        exact g ρ _ v ok' S (r2.step R.hp.mutb S)
      · exact g.elim
    · exact g.elim
  · exact g.elim
theorem tyV_loc {env : Nv} {σ : Slots} {i n : Nat} {x : V} (R : Rel K mg ρ env h σ H) (e : env[i]? = some (some (.loc n))) {ds : List D} (hn : h[n]? = some (.lst ds)) (hx : σ[i]? = some (some x)) : tyV K "list" x H := by
  obtain ⟨p, vs, e1, e2, e3, rs⟩ := loc_at R e hn
  rw [hx] at e1; cases e1
  exact .inl ⟨rfl, vs, SqL.of e3⟩
/-- the list at the start of a call of its method -/
def eList (op : List D → List D → Option (List D × D)) (i : Nat) (m : As) : Ex := fun env h => match env[i]? with
  | some (some (.loc n)) => (match h[n]? with
    | some (.lst _) => eMeth op i m env h
    | _ => .bad)
  | _ => .bad
theorem v_meth {op : List D → List D → Option (List D × D)} {i : Nat} {x name : Str} {id : String} {e : Expr} {es : List Expr} {m : As} {p1 apos cpos : Pos} (hm : MethV X id op) (slot : Slot "list" name id) (hty : typeOf (.builtin id) = pure (.type "method_descriptor")) (ha : PAs X W (e :: es) m)
    (hN : X.N[i]? = some x := by rfl) (hv : Vis X.env.scope x := by first | exact Or.inl rfl | exact Or.inr (Or.inl rfl) | exact Or.inr (Or.inr rfl)) (hd : (x == ("__debug__" : Str)) = false := by decide) (hcd : (x == ("__classdict__" : Str)) = false := by decide)
    (hbase : attributeBase (.Name x p1) name X.env (eval (.Name x p1) X.env) = eval (.Name x p1) X.env := by rfl)
    (hfew : ((backTo cpos (starEach (e :: es) X.env)).all (fun x => !x.1) && (backToKw cpos (keywordEach [] X.env)).all (fun x => x.1.isSome)
      && decide ((e :: es).length + ([] : List Keyword).length + (if ([] : List Keyword).isEmpty then 0 else 1) < 30)) = true := by rfl)
    (hline : (apos.endLine == cpos.line) = true := by rfl) (hs : starEach (e :: es) X.env = (false, eval e X.env) :: starEach es X.env := by rfl) (hplain : (backTo cpos (starEach es X.env)).any (·.1) = false := by rfl) :
    PV X W (.Call (.Attribute (.Name x p1) name apos) (e :: es) [] cpos) (eList op i m) := by
  obtain ⟨r, mr, hr⟩ := hm
  refine PE.imp (pe_bm PySem.F.plainAttrs_list slot hty mr (pe_var hN hv hd hcd) ha hbase hfew hline hs hplain) fun σ H Q ⟨ρ, env, h, R, g⟩ => ?_
  unfold eList at g
  split at g
  · rename_i n e0
    split at g
    · rename_i ds hn
      obtain ⟨p, vs, e1, e2, e3, rs⟩ := loc_at R e0 hn
      refine ⟨_, e1, tyV_loc R e0 hn e1, ?_⟩
      refine TrA.bind R g fun os xs ρ1 h1 H1 A1 g1 => ?_
      split at g1
      · rename_i as ha
        exact onList_read hr A1.rel e1 (plains_rd A1.ros ha) g1
      · exact g1.elim
    · exact g.elim
  · exact g.elim
theorem v_meth0 {op : List D → List D → Option (List D × D)} {i : Nat} {x name : Str} {id : String} {p1 apos cpos : Pos} (hm : MethV X id op) (slot : Slot "list" name id) (hty : typeOf (.builtin id) = pure (.type "method_descriptor"))
    (hN : X.N[i]? = some x := by rfl) (hv : Vis X.env.scope x := by first | exact Or.inl rfl | exact Or.inr (Or.inl rfl) | exact Or.inr (Or.inr rfl)) (hd : (x == ("__debug__" : Str)) = false := by decide) (hcd : (x == ("__classdict__" : Str)) = false := by decide)
    (hbase : attributeBase (.Name x p1) name X.env (eval (.Name x p1) X.env) = eval (.Name x p1) X.env := by rfl) (hline : (apos.endLine == cpos.line) = true := by rfl) :
    PV X W (.Call (.Attribute (.Name x p1) name apos) [] [] cpos) (eList op i aNil) := by
  obtain ⟨r, mr, hr⟩ := hm
  refine PE.imp (pe_bm0 PySem.F.plainAttrs_list slot hty mr (pe_var hN hv hd hcd) hbase hline) fun σ H Q ⟨ρ, env, h, R, g⟩ => ?_
  unfold eList at g
  split at g
  · rename_i n e0
    split at g
    · rename_i ds hn
      obtain ⟨p, vs, e1, e2, e3, rs⟩ := loc_at R e0 hn
      exact ⟨_, e1, tyV_loc R e0 hn e1, onList_read hr R e1 .nil g⟩
    · exact g.elim
  · exact g.elim
def mApp : List D → List D → Option (List D × D)
  | ds, [d] => if ds.length < sizeLine then some (ds ++ [d], .non) else none
  | _, _ => none
theorem m_app : MethV X "list.append" mApp := ⟨_, mt_append, fun ρ h H Q p ds vs as xs ds' d ok e rs ras ho q => by
  unfold mApp at ho
  split at ho
  · split at ho
    · cases ho
      cases ras with
      | cons r1 r2 =>
        cases r2
        exact ⟨p, vs, _, rfl, rfl, e, by rw [← rs.length]; assumption, q _ _ (RDs.append rs (.cons r1 .nil)) .non⟩
    · cases ho
  · cases ho⟩
def mExt : List D → List D → Option (List D × D)
  | ds, [.lst es] => if ds.length + es.length ≤ sizeLine then some (ds ++ es, .non) else none
  | _, _ => none
theorem m_ext : MethV X "list.extend" mExt := ⟨_, mt_extend, fun ρ h H Q p ds vs as xs ds' d ok e rs ras ho q => by
  unfold mExt at ho
  split at ho
  · split at ho
    · cases ho
      cases ras with
      | cons r1 r2 =>
        cases r2
        cases r1 with
        | lst e2 n2 rs2 => exact ⟨p, _, vs, _, rfl, rfl, e, e2, by rw [← rs.length, ← rs2.length]; assumption, q _ _ (RDs.append rs rs2) .non⟩
    · cases ho
  · cases ho⟩
def mPop : List D → List D → Option (List D × D)
  | ds, [] => (ds[ds.length - 1]?).map fun d => (ds.dropLast, d)
  | _, _ => none
theorem RDs.dropLast {ds : List D} {vs : List V} (r : RDs K mg ρ H ds vs) : RDs K mg ρ H ds.dropLast vs.dropLast := by
  rw [List.dropLast_eq_take, List.dropLast_eq_take, r.length]
  exact r.take _
theorem m_pop : MethV X "list.pop" mPop := ⟨_, mt_pop, fun ρ h H Q p ds vs as xs ds' d ok e rs ras ho q => by
  unfold mPop at ho
  split at ho
  · cases z : ds[ds.length - 1]? with
    | none => rw [z] at ho; cases ho
    | some d =>
      rw [z] at ho; cases ho
      cases ras
      obtain ⟨v, e1, r1⟩ := rs.get z
      exact ⟨p, vs, v, rfl, rfl, e, by rw [← rs.length]; exact e1, q _ _ rs.dropLast r1⟩
  · cases ho⟩
def mPopAt : List D → List D → Option (List D × D)
  | ds, [.int i] => if -(2 ^ 63) ≤ i ∧ i < 2 ^ 63 then (match seqIndex? i ds.length with
    | some k => (ds[k]?).map fun d => (ds.eraseIdx k, d)
    | none => none) else none
  | _, _ => none
theorem RDs.eraseIdx : ∀ {ds : List D} {vs : List V} (k : Nat), RDs K mg ρ H ds vs → RDs K mg ρ H (ds.eraseIdx k) (vs.eraseIdx k)
  | _, _, _, .nil => .nil
  | _, _, 0, .cons _ t => t
  | _, _, k + 1, .cons r t => .cons r (RDs.eraseIdx k t)
theorem m_popAt : MethV X "list.pop" mPopAt := ⟨_, mt_popAt, fun ρ h H Q p ds vs as xs ds' d ok e rs ras ho q => by
  unfold mPopAt at ho
  split at ho
  · rename_i i
    split at ho
    · rename_i hi
      split at ho
      · rename_i k hk
        cases z : ds[k]? with
        | none => rw [z] at ho; cases ho
        | some d =>
          rw [z] at ho; cases ho
          cases ras with
          | cons r1 r2 =>
            cases r2; cases r1
            obtain ⟨v, e1, r1⟩ := rs.get z
            exact ⟨p, vs, i, k, v, rfl, rfl, e, hi.1, hi.2, by rw [← rs.length]; exact hk, e1, q _ _ (rs.eraseIdx k) r1⟩
      · cases ho
    · cases ho
  · cases ho⟩
def mClear : List D → List D → Option (List D × D)
  | _, [] => some ([], .non)
  | _, _ => none
theorem m_clear : MethV X "list.clear" mClear := ⟨_, mt_clear, fun ρ h H Q p ds vs as xs ds' d ok e rs ras ho q => by
  unfold mClear at ho
  split at ho
  · cases ho
    cases ras
    exact ⟨p, vs, rfl, rfl, e, q _ _ .nil .non⟩
  · cases ho⟩

/-- x[i] = e of a list -/
def storeAt (n : Nat) (d : D) (rv : RV) (env : Nv) (h : Hs) : SRes := match rv with
  | .val (.int k) => (match h[n]? with
    | some (.lst ds) => (match ixN ds.length k with
      | some j => .nx env (h.set n (.lst (ds.set j d)))
      | none => .bad)
    | _ => .bad)
  | _ => .bad
def sStore (i : Nat) (mi m : Ex) : Sx := fun env h => match env[i]? with
  | some (some (.loc n)) => bindS m (fun rv env h1 => bindS mi (storeAt n rv.vl) env h1) env h
  | _ => .bad
theorem s_store {i : Nat} {x : Str} {ie e : Expr} {mi m : Ex} {p1 p2 : Pos} (he : PV X W e m) (hi : PV X W ie mi)
    (hN : X.N[i]? = some x := by rfl) (hv : Vis X.env.scope x := by first | exact Or.inl rfl | exact Or.inr (Or.inl rfl) | exact Or.inr (Or.inr rfl)) (hd : (x == ("__debug__" : Str)) = false := by decide) (hcd : (x == ("__classdict__" : Str)) = false := by decide)
    (hsub : ∀ v, assign (.Subscript (.Name x p1) ie p2) X.env v = (do
      let ov ← holding [v] (eval (.Name x p1) X.env)
      let iv ← holding [v, ov] (eval ie X.env)
      standAt p2
      holding [v, ov, iv] (setItem ov iv v)
      release [v, ov, iv] []) := by intro _; rfl)
    (hs : swapsWithSole [.Subscript (.Name x p1) ie p2] e pos.line X.env = pure false := by rfl) (hw : swappedStores [.Subscript (.Name x p1) ie p2] e X.env = pure none := by rfl)
    (h1 : (assignEach [.Subscript (.Name x p1) ie p2] X.env).map (·.2) = [assign (.Subscript (.Name x p1) ie p2) X.env] := by rfl) : VS X W (.Assign [.Subscript (.Name x p1) ie p2] e pos) (sStore i mi m) := by
  refine PS.imp (ps_asg he (pg_sub (pe_var hN hv hd hcd) hi set_list hsub) hs hw h1) fun D σ H ⟨ρ, env, h, R, g⟩ => ?_
  unfold sStore at g
  split at g
  · rename_i n e0
    refine TrS.val (k := fun d env h1 => bindS mi (storeAt n d) env h1) R g fun d v ρ1 h1 H1 A1 g1 => ?_
    obtain ⟨v0, e1, q0⟩ := R.env.at_ i _ e0
    refine ⟨v0, e1, ρ1, env, h1, A1.rel, ?_⟩
    unfold bindS at g1
    cases q : mi env h1 with
    | exc x h2 => rw [q] at g1; exact exc_read A1.rel g1
    | bad => rw [q] at g1; exact g1.elim
    | ok ri h2 =>
      rw [q] at g1
      dsimp only at g1
      unfold storeAt at g1
      split at g1
      · rename_i k
        intro ρ2 H2 w ok2 S2 rw'
        cases rw'
        split at g1
        · rename_i ds hn
          split at g1
          · rename_i j hj
            have R2 : Rel X.K X.mg ρ2 env h2 σ H2 := ⟨ok2, A1.rel.env.step A1.rel.hp S2⟩
            obtain ⟨p, vs, f1, f2, f3, rs⟩ := loc_at R2 e0 hn
            rw [e1] at f1; cases f1
            obtain ⟨ok', S⟩ := cell_set ok2 (List.getElem?_eq_some_iff.mp hn).1 f2 (RDs.set (A1.rd.step A1.rel.hp.mutb S2) j rs)
            refine ⟨p, vs, k, j, rfl, rfl, f3, by rw [← rs.length]; exact hj, ?_⟩
            exact g1 ρ2 σ _ ⟨ok', R2.env.step ok2 S⟩ (S2.trans S)
          · exact g1.elim
        · exact g1.elim
      · exact g1.elim
  · exact g.elim

/-! ### several targets -/
abbrev Ps := Nv → Hs → Res (List SV)
def put (nw : Bool) (rv : RV) (h : Hs) : Option (SV × Hs) := if nw then (match rv with
  | .fresh ds => some (.loc h.length, h ++ [.lst ds])
  | .val _ => none) else some (.val rv.vl, h)
theorem put_read {nw : Bool} {m : Ex} {E : XK} {Z : VK} {ρ : Own} {H : Hp} {h1 : Hs} {rv : RV}
    (hz : ∀ sv h2, put nw rv h1 = some (sv, h2) → ∀ ρ2 H2 v, HeapOk K mg ρ2 h2 H2 → Step ρ H ρ2 H2 → SVOk K mg ρ2 H2 sv v → Z v H2) (hp : put nw rv h1 ≠ none) : Post K mg ρ H h1 Z rv := by
  unfold put at hz hp
  cases nw with
  | false =>
    refine Post.ofVl fun ρ' H' v ok S r => hz _ _ (if_neg (by simp)) ρ' H' v ok S r
  | true =>
    cases rv with
    | val d => exact absurd (if_pos rfl) hp
    | fresh ds =>
      intro ρ' H' p vs ok S ha rs
      obtain ⟨ok2, S2⟩ := push_ok ok ha rs
      exact hz _ _ (if_pos rfl) _ _ _ ok2 (S.trans S2) ⟨[p], by rw [← ok.len]; simp, fun _ _ e => by cases e; rfl⟩
def GoodPs (K : PySem.W.Frag) (mg : Str → Option Value) (ρ : Own) (H : Hp) (Q : List V → Hp → Prop) (E : XK) : Res (List SV) → Prop
  | .ok os h' => ∀ ρ' H' vs, HeapOk K mg ρ' h' H' → Step ρ H ρ' H' → Paired (SVOk K mg ρ' H') os vs → Q vs H'
  | .exc x h' => EPost K mg ρ H h' E x
  | .bad => False
def TrPs (K : PySem.W.Frag) (mg : Str → Option Value) (W : WX) (m : Ps) : TA := fun σ H Q => ∃ ρ env h, Rel K mg ρ env h σ H ∧ GoodPs K mg ρ H Q (fun c d H' => W c d σ H') (m env h)
abbrev PPs (X : Cx) (W : WX) (es : List Expr) (m : Ps) : Prop := PA X es (TrPs X.K X.mg W m)
def pNil : Ps := fun _ h => .ok [] h
def pCons (nw : Bool) (m : Ex) (r : Ps) : Ps := fun env h => match m env h with
  | .ok rv h1 => (match put nw rv h1 with
    | some (sv, h2) => (match r env h2 with
      | .ok svs h3 => .ok (sv :: svs) h3
      | .exc x h3 => .exc x h3
      | .bad => .bad)
    | none => .bad)
  | .exc x h1 => .exc x h1
  | .bad => .bad
theorem ps_nil' : PPs X W [] pNil := PA.imp pa_nil fun σ H Q ⟨ρ, env, h, R, g⟩ => g ρ H [] R.hp (Step.refl ρ H) .nil
theorem ps_cons' {nw : Bool} {e : Expr} {es : List Expr} {m : Ex} {r : Ps} (ha : PV X W e m) (hr : PPs X W es r) (hs : starEach (e :: es) X.env = (false, eval e X.env) :: starEach es X.env := by rfl) : PPs X W (e :: es) (pCons nw m r) := by
  refine PA.imp (pa_cons ha hr hs) fun σ H Q ⟨ρ, env, h, R, g⟩ => ⟨ρ, env, h, R, ?_⟩
  unfold pCons at g
  cases q : m env h with
  | exc x h1 => rw [q] at g; exact g
  | bad => rw [q] at g; exact g.elim
  | ok rv h1 =>
    rw [q] at g
    dsimp only at g
    refine put_read (m := m) (E := fun _ _ _ => False) (nw := nw) (fun sv h2 hp ρ2 H2 v ok S sok => ?_) (fun hp => by rw [hp] at g; exact g.elim)
    rw [hp] at g
    have R2 : Rel X.K X.mg ρ2 env h2 σ H2 := ⟨ok, R.env.step R.hp S⟩
    refine ⟨ρ2, env, h2, R2, ?_⟩
    dsimp only at g
    cases q2 : r env h2 with
    | ok svs h3 =>
      rw [q2] at g
      exact fun ρ3 H3 vs ok3 S3 ros => g ρ3 H3 (v :: vs) ok3 (S.trans S3) (.cons (sok.step ok S3) ros)
    | exc x h3 =>
      rw [q2] at g
      have g' : EPost X.K X.mg ρ H h3 (fun c d H' => W c d σ H') x := g
      exact EPost.later S g'
    | bad => rw [q2] at g; exact g.elim
def setsE : List Nat → List SV → Nv → Option Nv
  | [], [], env => some env
  | i :: is, s :: ss, env => setsE is ss (env.set i (some s))
  | _, _, _ => none
def sMulti (is : List Nat) (m : Ps) : Sx := fun env h => match m env h with
  | .ok svs h1 => (match setsE is svs env with
    | some e1 => .nx e1 h1
    | none => .bad)
  | .exc x h1 => .exc x env h1
  | .bad => .bad
theorem multi_read {is : List Nat} {m : Ps} {σ : Slots} {D : Ends} {Z : List V → Hp → Prop} (t : TrS X.K X.mg W (sMulti is m) D σ H)
    (hz : ∀ (ρ : Own) (env e1 : Nv) (h1 : Hs) (svs : List SV) (vs : List V) (H1 : Hp), HeapOk X.K X.mg ρ h1 H1 → EnvOk X.K X.mg ρ env σ H1 → Paired (SVOk X.K X.mg ρ H1) svs vs → setsE is svs env = some e1 → (∀ ρ' σ' H', Rel X.K X.mg ρ' e1 h1 σ' H' → Step ρ H1 ρ' H' → D.nx σ' H') → Z vs H1) :
    TrPs X.K X.mg W m σ H Z := by
  obtain ⟨ρ, env, h, R, g⟩ := t
  refine ⟨ρ, env, h, R, ?_⟩
  unfold sMulti at g
  cases q : m env h with
  | exc x h1 => rw [q] at g; exact exc_read R g
  | bad => rw [q] at g; exact g.elim
  | ok svs h1 =>
    rw [q] at g
    dsimp only at g
    cases q2 : setsE is svs env with
    | none => rw [q2] at g; exact g.elim
    | some e1 =>
      rw [q2] at g
      exact fun ρ' H' vs ok S r => hz ρ' env e1 h1 svs vs H' ok (R.env.step R.hp S) r q2 fun ρ2 σ2 H2 R2 S2 => g ρ2 σ2 H2 R2 (S.trans S2)
/-- a, b = e1, e2: local names -/
theorem s_par {i j : Nat} {x y : Str} {a b : Expr} {m : Ps} {px py pt : Pos} {kt k2 pt2} (hc : X.calm = true) (hN : X.N.Nodup) (ha : PPs X W [a, b] m) (hi : X.N[i]? = some x := by rfl) (hj : X.N[j]? = some y := by rfl) (hij : i ≠ j := by decide)
    (hx : X.env.scope.names.lookup x = some .local := by rfl) (hy : X.env.scope.names.lookup y = some .local := by rfl)
    (hw : swappedStores [.Tuple [.Name x px, .Name y py] kt pt] (.Tuple [a, b] k2 pt2) X.env = pure (some [x, y]) := by rfl)
    (hs : swapsWithSole [.Tuple [.Name x px, .Name y py] kt pt] (.Tuple [a, b] k2 pt2) pos.line X.env = pure false := by rfl) :
    VS X W (.Assign [.Tuple [.Name x px, .Name y py] kt pt] (.Tuple [a, b] k2 pt2) pos) (sMulti [i, j] m) :=
  PS.imp (ps_par hc hN hi hj hij hx hy ha hw hs) fun D σ H t => multi_read t fun ρ env e1 h1 svs vs H1 ok en r e g => by
    cases r with
    | nil => cases e
    | cons r1 r => cases r with
      | nil => cases e
      | cons r2 r => cases r with
        | cons r3 r => cases e
        | nil =>
          cases e
          exact ⟨_, _, rfl, g ρ _ H1 ⟨ok, (en.set r1 i).set r2 j⟩ (Step.refl _ _)⟩

/-! ### raise, isinstance -/
def sRaise (x : Str) : Sx := fun env h => .exc ⟨x, []⟩ env h
theorem s_raise {x m : Str} {C : Addr} {bmB : List Value} {B newId initId : String} {j : Nat} {p p2 p3 : Pos} (hc : X.calm = true) (tk : Takes X W) (F : ExcBaseFacts B newId initId bmB) (q : PySem.W.excIn X.K C bmB newId = true) (gC : X.mg x = some (.ref C)) (kC : PySem.W.keepIn X.K (.ref C) = true) (r : Raises X (.ref C)) (hg : Gl X x := by rfl)
    (hdb : (x == ("__debug__" : Str)) = false := by decide) : VS X W (.Raise (some (.Call (.Name x p) [.Constant (.str m) j p2] [] p3)) none pos) (sRaise x) :=
  PS.imp (ps_raise hc tk (pmk_own F q gC kC r hg hdb)) fun D σ H ⟨ρ, env, h, R, g⟩ => g ρ σ H C R (Step.refl _ _) gC rfl
def bIsi : List D → Option RV
  | [d, .ty T] => (match tyOf d with
    | some a => (isB a T).map fun b => .val (.bl b)
    | none => none)
  | _ => none
theorem isB_all : (["NoneType", "bool", "int", "str", "tuple", "list", "dict"].all fun a => ["bool", "int", "str", "tuple", "list", "dict"].all fun b => decide (isB a b = kitB a b)) = true := by decide +kernel
theorem isB_bi : kitB "bool" "int" = some true := by decide +kernel
theorem isB_ok {a b : String} {r : Bool} (h : isB a b = some r) : kitB a b = some r := by
  have h0 := h
  unfold isB at h
  split at h
  · rename_i e
    subst e
    cases h
    unfold kitB
    rw [if_pos (by simp)]
  · split at h
    · rename_i e
      obtain ⟨rfl, rfl⟩ := e
      cases h
      exact isB_bi
    · split at h
      · rename_i e
        rw [Bool.and_eq_true] at e
        have q := List.all_eq_true.mp isB_all a (by simpa using e.1)
        have q2 := List.all_eq_true.mp q b (by simpa using e.2)
        rw [← of_decide_eq_true q2]
        exact h0
      · cases h
theorem c_isi : CallV X (.builtin "isinstance") bIsi := CallV.of call_isi fun H Q ρ h ds vs rv ok rd ho p => by
  unfold bIsi at ho
  split at ho
  · rename_i d T
    cases q : tyOf d with
    | none => rw [q] at ho; cases ho
    | some a =>
      rw [q] at ho
      dsimp only at ho
      cases q2 : isB a T with
      | none => rw [q2] at ho; cases ho
      | some b =>
        rw [q2] at ho; cases ho
        cases rd with
        | cons r1 rd => cases rd with
          | cons r2 rd =>
            cases rd
            cases r2.vTy
            exact ⟨_, _, _, _, b, rfl, .ty T, tyOf_rd r1 q, kit_ty (isB_ok q2), p.bl ok⟩
  · cases ho
/-- name op= e -/
def sAug (i : Nat) (op : D → D → Option RV) (m : Ex) : Sx := fun env h => match env[i]? with
  | some (some (.val d)) => bindS m (fun rv env h1 => match op d rv.vl with
    | some r => .nx (env.set i (some (.val r.vl))) h1
    | none => .bad) env h
  | _ => .bad
theorem s_aug {i : Nat} {x : Str} {e : Expr} {m : Ex} {o : Operator} {op : D → D → Option RV} {pos' : Pos} (hN : X.N.Nodup) (ho : OpV X (inplaceOp o) op) (he : PV X W e m) (hi : X.N[i]? = some x := by rfl) (hx : Loc X.env.scope x := by first | exact .inl rfl | exact .inr rfl) (hf : X.fn x = true ∨ X.env.scope.names.lookup x = some .local := by first | exact .inl rfl | exact .inr rfl) :
    VS X W (.AugAssign (.Name x pos') o e pos) (sAug i op m) :=
  PS.imp (ps_aug hN hi hx he (ti := r2 X.K X.mg op) ho hf) fun D σ H ⟨ρ, env, h, R, g⟩ => by
    unfold sAug at g
    split at g
    · rename_i d e0
      obtain ⟨v, e1, r⟩ := R.env.at_ i _ e0
      refine ⟨v, e1, TrS.val (k := fun y env h1 => match op d y with
        | some r => .nx (env.set i (some (.val r.vl))) h1
        | none => .bad) R g fun y w ρ1 h1 H1 A1 g1 => ?_⟩
      cases q : op d y with
      | none => rw [q] at g1; exact g1.elim
      | some rv =>
        rw [q] at g1
        refine ⟨ρ1, h1, d, y, rv, A1.rel.hp, .inl (RD.step R.hp.mutb A1.st r), .inl A1.rd, q, Post.ofVl fun ρ2 H2 z ok2 S2 rz => ?_⟩
        exact g1 ρ2 _ H2 ⟨ok2, (A1.rel.env.step A1.rel.hp S2).set (sv := .val rv.vl) rz i⟩ S2
    · exact g.elim
theorem o_iaddI : OpV X (inplaceOp .Add) iAdd := OpV.int0 iop_add
theorem o_isub : OpV X (inplaceOp .Sub) iSub := OpV.int0 iop_sub
theorem o_ior : OpV X (inplaceOp .BitOr) iOr := OpV.int0 iop_or
end
end Ev
end
section
set_option Elab.async false
set_option linter.all false
set_option maxRecDepth 100000
set_option maxHeartbeats 4000000
/-! Ev8: zip(a, b, strict=True) of two things as long as each other. -/
namespace ZS
open PySem
open PySem.Sem (wp)

section
variable {prog : Program} {w : World} {A : Around} {E : Value → Shared → Prop} {s : Shared}
theorem nextOrEnd_item {it : Addr} {fp : List Addr} {n i : Nat} {P : Nat → Value → Prop} {St : Nat → Heap → Prop} {Q : Option Value → Shared → Prop} (D : Draws prog w A it fp n P St) (hi : i < n) (st : St i s.heap)
    (hQ : ∀ x h' tk, P i x → St (i + 1) h' → Heap.SameBut it s.heap h' → Q (some x) { s with heap := h', toks := tk }) : wpAny (model prog w) A (Builtin.SmallTypes.nextOrEnd (.ref it)) Q E s := by
  unfold Builtin.SmallTypes.nextOrEnd
  exact wpAny_bind (wpAny_attempt (D.item i s _ _ hi st fun x h' tk a b c => wpAny_pure (hQ x h' tk a b c)))
theorem nextOrEnd_end {it : Addr} {fp : List Addr} {n : Nat} {P : Nat → Value → Prop} {St : Nat → Heap → Prop} {Q : Option Value → Shared → Prop} (D : Draws prog w A it fp n P St) (st : St n s.heap)
    (hQ : ∀ h', Heap.ExtBut it s.heap h' → Q none { s with heap := h' }) : wpAny (model prog w) A (Builtin.SmallTypes.nextOrEnd (.ref it)) Q E s := by
  unfold Builtin.SmallTypes.nextOrEnd
  refine wpAny_bind (wpAny_attempt (D.done s _ _ st fun h' e a he => ?_))
  obtain ⟨o, ho, hc⟩ := he
  refine wpAny_bind (wpAny_isInstance (T := "StopIteration") (b := true) ⟨o, ho, hc⟩ isSubtype_stop ?_)
  exact wpAny_pure (hQ _ a)
/-- StopIteration, raised -/
theorem stopIteration_ {α : Type} {Q : α → Shared → Prop} (hh : A.handled = none) (hE : ∀ h' e, (∀ b o, s.heap.get? b = some o → h'.get? b = some o) → (∃ o, h'.get? e = some o ∧ o.cls = .type "StopIteration") → E (.ref e) { s with heap := h' }) :
    wpAny (model prog w) A (Builtin.SmallTypes.stopIteration : Sem α) Q E s := by
  unfold Builtin.SmallTypes.stopIteration
  show wpAny _ _ (newExc (.type "StopIteration") [] >>= _) _ _ _
  refine wpAny_bind ?_
  simp only [newExc, newTuple]
  refine wpAny_bind (wpAny_newObj_type ?_ (by size_fits))
  refine wpAny_bind (m := firstArgMember _ _) (wpAny_of_eq (a := Value.none) (by first | rfl | (simp only [firstArgMember]; rfl)) ?_)
  refine wpAny_newObj_type ?_ (by size_fits)
  simp only [raiseNew]
  refine wpAny_bind (wpAny_handled ?_)
  first | rw [show A.in1.handled = none from hh] | rw [hh]
  refine wpAny_bind (wpAny_pure (wpAny_throw ?_))
  exact hE _ _ (fun b o e => Heap.get?_push_of_some _ (Heap.get?_push_of_some _ e)) ⟨_, Heap.get?_push_size _ rfl, rfl⟩

abbrev IsZipS (h : Heap) (z TI TO : Addr) (f0 : Value) : Prop :=
  h.get? z = some { cls := .type "zip", dict := none, data := .fields #[f0, .bool false, .bool true, .ref TI, .ref TO], slots := #[] }

variable {z TI TO i1 i2 : Addr} {fp1 fp2 : List Addr} {n i : Nat} {P1 P2 : Nat → Value → Prop} {St1 St2 : Nat → Heap → Prop} {a1 a2 : Value}

theorem next_item {Q : Value → Shared → Prop} (S : ZipSep2 z TI TO i1 i2 fp1 fp2) (D1 : Draws prog w A i1 fp1 n P1 St1) (D2 : Draws prog w A i2 fp2 n P2 St2)
    (hz : IsZipS s.heap z TI TO .none) (hTI : IsTupOf2 s.heap TI (.ref i1) (.ref i2)) (hTO : IsTupOf2 s.heap TO a1 a2) (st1 : St1 i s.heap) (st2 : St2 i s.heap) (hlt : i < n)
    (hQ : ∀ x1 x2 h' tk, P1 i x1 → P2 i x2 → IsZipS h' z TI TO (rawInt s.heap.objs.size) → IsTupOf2 h' TO x1 x2 → St1 (i + 1) h' → St2 (i + 1) h' → IsTupOf2 h' s.heap.objs.size x1 x2 → h'.objs.size = s.heap.objs.size + 1 →
      (∀ c o, c ≠ z → c ≠ TO → c ≠ i1 → c ≠ i2 → s.heap.get? c = some o → h'.get? c = some o) → Q (.ref s.heap.objs.size) { s with heap := h', toks := tk }) :
    wpAny (model prog w) A (Builtin.«zip.__next__» ⟨[.ref z], []⟩) (fun fin s' => ∃ v, fin = .done (.ret v) ∧ Q v s') E s := by
  obtain ⟨hp, g, d, tk0, os⟩ := s
  show wpAny _ _ (field (.ref z) 2 >>= _) _ _ _
  refine wpAny_bind (wpAny_field hz rfl (x := .bool true) rfl ?_)
  show wpAny _ _ (field (.ref z) 3 >>= _) _ _ _
  refine wpAny_bind (wpAny_field hz rfl (x := .ref TI) rfl ?_)
  refine wpAny_bind (wpAny_seqItems hTI rfl ?_)
  show wpAny _ _ (Builtin.SmallTypes.ownedTupleIsFree (.ref z) >>= _) _ _ _
  refine wpAny_bind ?_
  unfold Builtin.SmallTypes.ownedTupleIsFree
  refine wpAny_bind (wpAny_field hz rfl (x := .none) rfl (wpAny_pure ?_))
  simp only [if_true]
  refine wpAny_bind (wpAny_rule ?_)
  refine wpAny_bind (wpAny_field hz rfl (x := .ref TO) rfl ?_)
  refine wpAny_bind (wpAny_setField_rec hz (by simp) fun g0 hz0 hs0 => ?_)
  replace hz0 : IsZipS g0 z TI TO .ellipsis := hz0
  replace hs0 : Heap.SameBut z hp g0 := hs0
  refine wpAny_bind ?_
  simp only [List.zipIdx_cons, List.zipIdx_nil, List.forIn_cons, List.forIn_nil]
  refine wpAny_bind (wpAny_bind (wpAny_onRaise ?_))
  show wpAny _ _ (Builtin.SmallTypes.nextOrEnd (.ref i1)) _ _ ⟨g0, g, d, tk0, os⟩
  refine nextOrEnd_item D1 hlt (D1.over st1 hs0 S.zf1) fun x1 p1 tk1 hx1 sn1 hp1 => ?_
  replace hp1 : Heap.SameBut i1 g0 p1 := hp1
  have hU1 : IsTupOf2 p1 TO a1 a2 := hp1.extBut _ _ S.Ti1 (hs0.extBut _ _ S.TOz hTO)
  refine wpAny_bind (wpAny_seqItems (s := ⟨p1, g, d, tk1, os⟩) hU1 rfl ?_)
  refine wpAny_bind (updateSeq_IsTupOf2 (s := ⟨p1, g, d, tk1, os⟩) hU1 fun g1 hT1 hs1 => ?_)
  replace hT1 : IsTupOf2 g1 TO x1 a2 := hT1
  replace hs1 : Heap.SameBut TO p1 g1 := hs1
  refine wpAny_bind (wpAny_letGo (wpAny_pure ?_))
  refine wpAny_bind (wpAny_bind (wpAny_onRaise ?_))
  show wpAny _ _ (Builtin.SmallTypes.nextOrEnd (.ref i2)) _ _ ⟨g1, g, d, tk1, os⟩
  refine nextOrEnd_item D2 hlt (D2.over (D2.over (D2.over st2 hs0 S.zf2) hp1 S.sep1_2) hs1 S.Tf2) fun x2 p2 tk2 hx2 sn2 hp2 => ?_
  replace hp2 : Heap.SameBut i2 g1 p2 := hp2
  have hU2 : IsTupOf2 p2 TO x1 a2 := hp2.extBut _ _ S.Ti2 hT1
  refine wpAny_bind (wpAny_seqItems (s := ⟨p2, g, d, tk2, os⟩) hU2 rfl ?_)
  refine wpAny_bind (updateSeq_IsTupOf2 (s := ⟨p2, g, d, tk2, os⟩) hU2 fun g2 hT2 hs2 => ?_)
  replace hT2 : IsTupOf2 g2 TO x1 x2 := hT2
  replace hs2 : Heap.SameBut TO p2 g2 := hs2
  refine wpAny_bind (wpAny_letGo (wpAny_pure (wpAny_pure ?_)))
  refine wpAny_bind (wpAny_seqItems (s := ⟨g2, g, d, tk2, os⟩) hT2 rfl ?_)
  refine wpAny_bind (wpAny_newTuple ?_)
  have hsz : g2.objs.size = hp.objs.size := by rw [hs2.1, hp2.1, hs1.1, hp1.1, hs0.1]
  have hzz : IsZipS g2 z TI TO .ellipsis := (hs2.extBut _ _ S.TOz.symm (hp2.extBut _ _ S.zi2 (hs1.extBut _ _ S.TOz.symm (hp1.extBut _ _ S.zi1 hz0))))
  have hkk : ∀ c o, c ≠ z → c ≠ TO → c ≠ i1 → c ≠ i2 → hp.get? c = some o → g2.get? c = some o := fun c o cz cT c1 c2 e =>
    (hs2.extBut _ _ cT (hp2.extBut _ _ c2 (hs1.extBut _ _ cT (hp1.extBut _ _ c1 (hs0.extBut _ _ cz e)))))
  have hj1 : St1 (i + 1) g2 := (D1.over (D1.over (D1.over sn1 hs1 S.Tf1) hp2 S.sep2_1) hs2 S.Tf1)
  have hj2 : St2 (i + 1) g2 := (D2.over sn2 hs2 S.Tf2)
  have hzlt : z < g2.objs.size := Heap.lt_size hzz
  show wpAny _ _ (Builtin.SmallTypes.ownedTupleHandOut (.ref z) (.ref g2.objs.size) >>= _) _ _ ⟨g2.push { cls := .type "tuple", data := .seq #[x1, x2] }, g, d, tk2, os⟩
  refine wpAny_bind ?_
  unfold Builtin.SmallTypes.ownedTupleHandOut
  have hz₆ : IsZipS (g2.push { cls := .type "tuple", data := .seq #[x1, x2] }) z TI TO .ellipsis := Heap.get?_push_of_some _ hzz
  refine wpAny_bind (wpAny_setField_rec hz₆ (by simp) fun h₇ hz₇ hs₇ => ?_)
  replace hz₇ : IsZipS h₇ z TI TO (rawInt g2.objs.size) := hz₇
  refine wpAny_setField_rec hz₇ (by simp) fun h₈ hz₈ hs₈ => ?_
  replace hz₈ : IsZipS h₈ z TI TO (rawInt g2.objs.size) := hz₈
  replace hs₇ : Heap.SameBut z (g2.push { cls := .type "tuple", data := .seq #[x1, x2] }) h₇ := hs₇
  replace hs₈ : Heap.SameBut z h₇ h₈ := hs₈
  have up : ∀ c o, c ≠ z → g2.get? c = some o → h₈.get? c = some o := fun c o c1 e => hs₈.extBut _ _ c1 (hs₇.extBut _ _ c1 (Heap.get?_push_of_some _ e))
  have hT₈ : IsTupOf2 h₈ g2.objs.size x1 x2 := hs₈.extBut _ _ (Nat.ne_of_gt hzlt) (hs₇.extBut _ _ (Nat.ne_of_gt hzlt) (Heap.get?_push_size _ rfl))
  have hz8 : h₈.objs.size = g2.objs.size + 1 := by rw [hs₈.1, hs₇.1, Heap.size_push]
  rw [hsz] at hz₈ hT₈ hz8
  refine wpAny_pure ⟨_, rfl, ?_⟩
  show Q (.ref g2.objs.size) ⟨h₈, g, d, tk2, os⟩
  rw [hsz]
  exact hQ x1 x2 h₈ tk2 hx1 hx2 hz₈ (up _ _ S.TOz hT2) (D1.frame _ _ _ hj1 fun b hb o e => up b o (fun q => S.zf1 (q ▸ hb)) e) (D2.frame _ _ _ hj2 fun b hb o e => up b o (fun q => S.zf2 (q ▸ hb)) e) hT₈ hz8 fun c o cz cT c1 c2 e => up c o cz (hkk c o cz cT c1 c2 e)

theorem next_end {Q : Fin → Shared → Prop} (hh : A.handled = none) (S : ZipSep2 z TI TO i1 i2 fp1 fp2) (D1 : Draws prog w A i1 fp1 n P1 St1) (D2 : Draws prog w A i2 fp2 n P2 St2)
    (hz : IsZipS s.heap z TI TO .none) (hTI : IsTupOf2 s.heap TI (.ref i1) (.ref i2)) (hTO : IsTupOf2 s.heap TO a1 a2) (st1 : St1 n s.heap) (st2 : St2 n s.heap)
    (hE : ∀ h' tk e, (∀ c o, c ≠ z → c ≠ TO → c ≠ i1 → c ≠ i2 → s.heap.get? c = some o → h'.get? c = some o) → (∃ o, h'.get? e = some o ∧ o.cls = .type "StopIteration") → E (.ref e) { s with heap := h', toks := tk }) :
    wpAny (model prog w) A (Builtin.«zip.__next__» ⟨[.ref z], []⟩) Q E s := by
  obtain ⟨hp, g, d, tk0, os⟩ := s
  show wpAny _ _ (field (.ref z) 2 >>= _) _ _ _
  refine wpAny_bind (wpAny_field hz rfl (x := .bool true) rfl ?_)
  show wpAny _ _ (field (.ref z) 3 >>= _) _ _ _
  refine wpAny_bind (wpAny_field hz rfl (x := .ref TI) rfl ?_)
  refine wpAny_bind (wpAny_seqItems hTI rfl ?_)
  show wpAny _ _ (Builtin.SmallTypes.ownedTupleIsFree (.ref z) >>= _) _ _ _
  refine wpAny_bind ?_
  unfold Builtin.SmallTypes.ownedTupleIsFree
  refine wpAny_bind (wpAny_field hz rfl (x := .none) rfl (wpAny_pure ?_))
  simp only [if_true]
  refine wpAny_bind (wpAny_rule ?_)
  refine wpAny_bind (wpAny_field hz rfl (x := .ref TO) rfl ?_)
  refine wpAny_bind (wpAny_setField_rec hz (by simp) fun g0 hz0 hs0 => ?_)
  replace hz0 : IsZipS g0 z TI TO .ellipsis := hz0
  replace hs0 : Heap.SameBut z hp g0 := hs0
  refine wpAny_bind ?_
  simp only [List.zipIdx_cons, List.zipIdx_nil, List.forIn_cons, List.forIn_nil]
  refine wpAny_bind (wpAny_bind (wpAny_onRaise ?_))
  show wpAny _ _ (Builtin.SmallTypes.nextOrEnd (.ref i1)) _ _ ⟨g0, g, d, tk0, os⟩
  refine nextOrEnd_end D1 (D1.over st1 hs0 S.zf1) fun q hq => ?_
  replace hq : Heap.ExtBut i1 g0 q := hq
  have hzq : IsZipS q z TI TO .ellipsis := hq _ _ S.zi1 hz0
  refine wpAny_bind (wpAny_setField_rec (s := ⟨q, g, d, tk0, os⟩) hzq (by simp) fun q' hz1 hq' => ?_)
  replace hq' : Heap.SameBut z q q' := hq'
  show wpAny (model prog w) A ((do
    if (0 : Nat) > 0 then
      rule "zip.__next__.shorter"; raiseError "ValueError" s!"zip() argument {0 + 1} is shorter than {(if (0 == 1) then "argument 1" else s!"arguments 1-{0}" : String)}"
    for (it, j) in ([Value.ref i1, Value.ref i2].drop 1).zipIdx 1 do
      if (← Builtin.SmallTypes.nextOrEnd it).isSome then
        rule "zip.__next__.longer"; raiseError "ValueError" s!"zip() argument {j + 1} is longer than {(if (j == 1) then "argument 1" else s!"arguments 1-{j}" : String)}"
    rule "zip.__next__.all-ended"; Builtin.SmallTypes.stopIteration : Sem Fin) >>= _) _ _ _
  refine wpAny_bind ?_
  simp only [Nat.lt_irrefl, gt_iff_lt, if_false]
  refine wpAny_bind ?_
  simp only [List.drop_succ_cons, List.drop_zero, List.zipIdx_cons, List.zipIdx_nil, List.forIn_cons, List.forIn_nil]
  have st2' : St2 n q' := D2.over (D2.frame _ _ _ (D2.over st2 hs0 S.zf2) fun b hb o e => hq b o (fun z => S.sep1_2 (z ▸ hb)) e) hq' S.zf2
  refine wpAny_bind (wpAny_bind (nextOrEnd_end (s := ⟨q', g, d, tk0, os⟩) D2 st2' fun r hr => ?_))
  replace hr : Heap.ExtBut i2 q' r := hr
  refine wpAny_pure (wpAny_pure ?_)
  refine wpAny_bind (wpAny_rule ?_)
  refine stopIteration_ (s := ⟨r, g, d, tk0, os⟩) hh fun h' e hk he => hE h' tk0 e (fun c o cz cT c1 c2 x => hk c o (hr _ _ c2 (hq'.extBut _ _ cz (hq _ _ c1 (hs0.extBut _ _ cz x))))) he

theorem pyNext_item {Q : Option Value → Shared → Prop} (S : ZipSep2 z TI TO i1 i2 fp1 fp2) (D1 : Draws prog w A.in1 i1 fp1 n P1 St1) (D2 : Draws prog w A.in1 i2 fp2 n P2 St2)
    (hz : IsZipS s.heap z TI TO .none) (hTI : IsTupOf2 s.heap TI (.ref i1) (.ref i2)) (hTO : IsTupOf2 s.heap TO a1 a2) (st1 : St1 i s.heap) (st2 : St2 i s.heap) (hlt : i < n)
    (hQ : ∀ x1 x2 h' tk, P1 i x1 → P2 i x2 → IsZipS h' z TI TO (rawInt s.heap.objs.size) → IsTupOf2 h' TO x1 x2 → St1 (i + 1) h' → St2 (i + 1) h' → IsTupOf2 h' s.heap.objs.size x1 x2 → h'.objs.size = s.heap.objs.size + 1 →
      (∀ c o, c ≠ z → c ≠ TO → c ≠ i1 → c ≠ i2 → s.heap.get? c = some o → h'.get? c = some o) → Q (some (.ref s.heap.objs.size)) { s with heap := h', toks := tk }) :
    wpAny (model prog w) A (pyNext (.ref z)) Q E s := by
  have hT : s.TypeIs (.ref z) "zip" := ⟨_, hz, rfl⟩
  unfold pyNext
  exact wpAny_bind (wpAny_attempt (wpAny_callSpecial?_slot (name := Str.ofString "__next__") hT F.slot_zip_next
    (wpAny_call_entry F.slot_zip_next hT F.entry_zip_next
      (next_item S D1 D2 hz hTI hTO st1 st2 hlt fun x1 x2 h' tk y1 y2 b1 b2 d1 d2 b5 b6 b7 => wpAny_pure (hQ x1 x2 h' tk y1 y2 b1 b2 d1 d2 b5 b6 b7)) (F.args_zip_next_1 _))))
theorem pyNext_end {Q : Option Value → Shared → Prop} (hh : A.handled = none) (S : ZipSep2 z TI TO i1 i2 fp1 fp2) (D1 : Draws prog w A.in1 i1 fp1 n P1 St1) (D2 : Draws prog w A.in1 i2 fp2 n P2 St2)
    (hz : IsZipS s.heap z TI TO .none) (hTI : IsTupOf2 s.heap TI (.ref i1) (.ref i2)) (hTO : IsTupOf2 s.heap TO a1 a2) (st1 : St1 n s.heap) (st2 : St2 n s.heap)
    (hQ : ∀ h' tk, (∀ c o, c ≠ z → c ≠ TO → c ≠ i1 → c ≠ i2 → s.heap.get? c = some o → h'.get? c = some o) → Q none { s with heap := h', toks := tk }) : wpAny (model prog w) A (pyNext (.ref z)) Q E s := by
  have hT : s.TypeIs (.ref z) "zip" := ⟨_, hz, rfl⟩
  unfold pyNext
  refine wpAny_bind (wpAny_attempt (wpAny_callSpecial?_slot (name := Str.ofString "__next__") hT F.slot_zip_next
    (wpAny_call_entry F.slot_zip_next hT F.entry_zip_next (next_end hh S D1 D2 hz hTI hTO st1 st2 fun h' tk e hk he => ?_) (F.args_zip_next_1 _))))
  obtain ⟨o, ho, hc⟩ := he
  refine wpAny_bind (wpAny_isInstance (T := "StopIteration") (b := true) ⟨o, ho, hc⟩ isSubtype_stop ?_)
  exact wpAny_pure (hQ _ _ hk)
theorem letGo {elts : List Expr} {x1} {pos : Pos} {T : Addr} {Q : Unit → Shared → Prop} (hz : IsZipS s.heap z TI TO (rawInt T))
    (hQ : ∀ h', IsZipS h' z TI TO .none → Heap.SameBut z s.heap h' → Q () { s with heap := h' }) :
    wpAny (model prog w) A (letOwnedTupleGo (.Tuple elts x1 pos) (.ref z) (.ref T)) Q E s := by
  unfold letOwnedTupleGo
  refine wpAny_bind (wpAny_load hz ?_)
  show wpAny _ _ (if (["enumerate", "zip", "dict_itemiterator", "dict_reverseitemiterator", "odict_iterator", "itertools.zip_longest", "itertools.pairwise"].contains "zip" &&
      (#[rawInt T, .bool false, .bool true, .ref TI, .ref TO] : Array Value)[0]? == some (rawInt T)) = true then _ else _) Q E s
  rw [if_pos (by simp)]
  refine wpAny_bind (wpAny_rule ?_)
  show wpAny _ _ (setField (.ref z) 0 .none) Q E s
  exact wpAny_setField_rec hz (by simp) fun h' hz' hs' => hQ h' hz' hs'
theorem pyIter_ {f0 : Value} {Q : Value → Shared → Prop} (hz : IsZipS s.heap z TI TO f0) (h : Q (.ref z) s) : wpAny (model prog w) A (pyIter (.ref z)) Q E s := by
  have hT : s.TypeIs (.ref z) "zip" := ⟨_, hz, rfl⟩
  refine wpAny_pyIter_slot hT F.slot_zip_iter (wpAny_call_entry F.slot_zip_iter hT F.entry_zip_iter ?_ (F.args_zip_iter_1 _))
  show wpAny _ _ (ret (.ref z)) _ _ s
  exact wpAny_pure ⟨_, rfl, "zip", _, hT, F.slot_zip_next.lookup, h⟩
end

/-! ### zip(v1, v2, strict=True) begins -/
abbrev gzZ2 (h : Heap) (o1 o2 : Obj) : Heap := (gzO2 h o1 o2).push { cls := .type "zip", data := .fields #[.none, .bool false, .bool true, .ref ((h.push o1).push o2).objs.size, .ref (gzT2 h o1 o2).objs.size] }
theorem typeCall_zip (a b c : Value) : checkTypeCall "zip" ⟨[a, b], [(Str.ofString "strict", c)]⟩ = pure () := by kernel_rfl
theorem newCall_zip (a b c : Value) : checkBuiltinCall "zip.__new__" ⟨[.type "zip", a, b], [(Str.ofString "strict", c)]⟩ = pure () := by kernel_rfl
theorem args_init (obj a b c : Value) : argsOk "object.__init__" ⟨[obj, a, b], [(Str.ofString "strict", c)]⟩ := by unfold argsOk; kernel_rfl
theorem meets_new {v1 v2 : Value} {o1 o2 : Obj} {H1 H2 : Heap → Prop} (B1 : Begins v1 o1 H1) (B2 : Begins v2 o2 H2) :
    Meets (Builtin.«zip.__new__» ⟨[.type "zip", v1, v2], [(Str.ofString "strict", .bool true)]⟩) (fun _ R s => (H1 s.heap ∧ H2 s.heap) ∧
      R (.ok (.ret (.ref (gzO2 s.heap o1 o2).objs.size))) { s with heap := gzZ2 s.heap o1 o2 }) :=
  .of_wp fun prog w A R s h => by
    obtain ⟨hp, g, d, tk, os⟩ := s; obtain ⟨⟨h1, h2⟩, h⟩ := h
    have hsub := sub_zip
    have q1 : ∀ {A' : Around} {E : Value → Shared → Prop} {Q : Value → Shared → Prop}, Q (.ref hp.objs.size) ⟨(hp.push o1), g, d, tk, os⟩ → wpAny (model prog w) A' (pyIter v1) Q E ⟨hp, g, d, tk, os⟩ :=
      fun q => B1.iter prog w _ _ ⟨hp, g, d, tk, os⟩ _ (B1.keeps _ _ h1 fun b o' e => e) q
    have q2 : ∀ {A' : Around} {E : Value → Shared → Prop} {Q : Value → Shared → Prop}, Q (.ref (hp.push o1).objs.size) ⟨((hp.push o1).push o2), g, d, tk, os⟩ → wpAny (model prog w) A' (pyIter v2) Q E ⟨(hp.push o1), g, d, tk, os⟩ :=
      fun q => B2.iter prog w _ _ ⟨(hp.push o1), g, d, tk, os⟩ _ (B2.keeps _ _ h2 fun b o' e => (Heap.get?_push_of_some _ e)) q
    have e1 : (Str.ofString "strict" == ("strict" : Str)) = true := by decide +kernel
    have e2 : (Str.ofString "strict" != ("strict" : Str)) = false := by decide +kernel
    wp_walk using q1, q2
    all_goals first | exact ⟨_, rfl, h⟩ | skip
section
variable {prog : Program} {w : World} {A : Around} {E : Value → Shared → Prop} {s : Shared}
theorem begins_ {v1 v2 : Value} {o1 o2 : Obj} {H1 H2 : Heap → Prop} {Q : Value → Shared → Prop} (B1 : Begins v1 o1 H1) (B2 : Begins v2 o2 H2) (h1 : H1 s.heap) (h2 : H2 s.heap)
    (h : ∀ h', IsZipS h' (s.heap.objs.size + 4) (s.heap.objs.size + 2) (s.heap.objs.size + 3) .none → IsTupOf2 h' (s.heap.objs.size + 2) (.ref s.heap.objs.size) (.ref (s.heap.objs.size + 1)) →
      IsTupOf2 h' (s.heap.objs.size + 3) .none .none → h'.get? s.heap.objs.size = some o1 → h'.get? (s.heap.objs.size + 1) = some o2 → h'.objs.size = s.heap.objs.size + 5 →
      (∀ c o, s.heap.get? c = some o → h'.get? c = some o) → Q (.ref (s.heap.objs.size + 4)) { s with heap := h' }) :
    wpAny (model prog w) A (call (.type "zip") [v1, v2] [(Str.ofString "strict", .bool true)]) Q E s := by
  refine callType_newKw F.called_zip (by decide) (typeCall_zip _ _ _) (newCall_zip _ _ _) (fun obj => args_init obj _ _ _) F.entry_zip_new
    (meets_new B1 B2) ⟨⟨h1, h2⟩, ?_⟩
  have z1 : (s.heap.push o1).objs.size = s.heap.objs.size + 1 := by rw [Heap.size_push]
  have z2 : ((s.heap.push o1).push o2).objs.size = s.heap.objs.size + 2 := by rw [Heap.size_push, z1]
  have zT : (gzT2 s.heap o1 o2).objs.size = s.heap.objs.size + 3 := by rw [Heap.size_push, z2]
  have zO : (gzO2 s.heap o1 o2).objs.size = s.heap.objs.size + 4 := by rw [Heap.size_push, zT]
  have zZ : (gzZ2 s.heap o1 o2).objs.size = s.heap.objs.size + 5 := by rw [Heap.size_push, zO]
  have gZ : (gzZ2 s.heap o1 o2).get? (gzO2 s.heap o1 o2).objs.size = some { cls := .type "zip", data := .fields #[.none, .bool false, .bool true, .ref ((s.heap.push o1).push o2).objs.size, .ref (gzT2 s.heap o1 o2).objs.size] } := Heap.get?_push_size _ rfl
  have gO : (gzZ2 s.heap o1 o2).get? (gzT2 s.heap o1 o2).objs.size = some { cls := .type "tuple", data := .seq #[.none, .none] } := Heap.get?_push_of_some _ (Heap.get?_push_size _ rfl)
  have gT : (gzZ2 s.heap o1 o2).get? ((s.heap.push o1).push o2).objs.size = some { cls := .type "tuple", data := .seq #[.ref s.heap.objs.size, .ref (s.heap.push o1).objs.size] } := Heap.get?_push_of_some _ (Heap.get?_push_of_some _ (Heap.get?_push_size _ rfl))
  have g1 : (gzZ2 s.heap o1 o2).get? s.heap.objs.size = some o1 := Heap.get?_push_of_some _ (Heap.get?_push_of_some _ (Heap.get?_push_of_some _ (Heap.get?_push_of_some _ (Heap.get?_push_size _ B1.free))))
  have g2 : (gzZ2 s.heap o1 o2).get? (s.heap.push o1).objs.size = some o2 := Heap.get?_push_of_some _ (Heap.get?_push_of_some _ (Heap.get?_push_of_some _ (Heap.get?_push_size _ B2.free)))
  rw [zO, zT, z2] at gZ
  rw [zT] at gO
  rw [z2, z1] at gT
  rw [z1] at g2
  show _ ∧ _
  rw [zO]
  exact ⟨⟨_, gZ, rfl⟩, h _ gZ gT gO g1 g2 zZ fun c o e => Heap.get?_push_of_some _ (Heap.get?_push_of_some _ (Heap.get?_push_of_some _ (Heap.get?_push_of_some _ (Heap.get?_push_of_some _ e))))⟩
end
end ZS
end
section
set_option Elab.async false
set_option linter.all false
set_option maxRecDepth 100000
set_option maxHeartbeats 4000000
/-! Ev9: zip(a, b, strict=True) in the hand layer and in ours. -/
namespace Ev
open PySem PySem.Spec L2

/-- a list (false) or a tuple (true) -/
def SqX (K : PySem.W.Frag) (H : Hp) : Bool → Addr → List V → Prop
  | true => SqT K H
  | false => SqL K H
def SrcX (h : Heap) (it a : Addr) (i : Nat) : Bool → Prop
  | true => h.IsTupleIter it a i
  | false => h.IsListIter it a i
def HvX (h : Heap) (a : Addr) (xs : Array Value) : Bool → Prop
  | true => h.IsTuple a xs
  | false => h.IsList a xs
def itX (a : Addr) : Bool → Obj
  | true => { cls := .type "tuple_iterator", data := .fields #[.ref a, .int 0 0] }
  | false => { cls := .type "list_iterator", data := .fields #[.ref a, .int 0 0] }
theorem drawsX {prog : Program} {w : World} {A : Around} (hh : A.handled = none) (k : Bool) (it a : Addr) (hne : a ≠ it) (items : Array Value) {n : Nat} (hn : items.size = n) :
    Draws prog w A it [it, a] n (fun i v => items[i]? = some v) (fun i h => SrcX h it a i k ∧ HvX h a items k) := by
  subst hn
  cases k
  · exact Draws.list hh it a hne items
  · exact Draws.tuple hh it a hne items
theorem beginsX (k : Bool) (a : Addr) (items : Array Value) : Begins (.ref a) (itX a k) fun h => HvX h a items k := by
  cases k
  · exact begins_list a items
  · exact begins_tuple a items
theorem SrcX.keep {h h' : Heap} {it a : Addr} {i : Nat} : ∀ {k : Bool}, SrcX h it a i k → (∀ o, h.get? it = some o → h'.get? it = some o) → SrcX h' it a i k
  | true, s, k => Heap.IsTupleIter.at s k
  | false, s, k => Heap.IsListIter.at s k
theorem SrcX.obj {h : Heap} {it a : Addr} {i : Nat} : ∀ {k : Bool}, SrcX h it a i k → ∃ o, h.get? it = some o ∧ ∀ v, o.data ≠ .cell v
  | true, ⟨o, e, _, d⟩ => ⟨o, e, fun v z => by rw [d] at z; cases z⟩
  | false, ⟨o, e, _, d⟩ => ⟨o, e, fun v z => by rw [d] at z; cases z⟩
theorem itX_src {h : Heap} {it a : Addr} : ∀ {k : Bool}, h.get? it = some (itX a k) → SrcX h it a 0 k
  | true, e => ⟨_, e, rfl, rfl⟩
  | false, e => ⟨_, e, rfl, rfl⟩
section
variable {X : Cx} {pins : List (Addr × Obj)} {σ : Slots} {H : Hp} {s : Shared} {a : Addr} {xs ys : List V}
theorem seqX (I : Inv X pins σ H s) : ∀ {k : Bool}, SqX X.K H k a xs → ∃ its : List Value, Vals xs its ∧ HvX s.heap a its.toArray k ∧ a < s.heap.objs.size
  | true, h => by
    obtain ⟨its, r, p, _⟩ := I.tuple h
    have p' : s.heap.IsTuple a its.toArray := p
    obtain ⟨o, e, _⟩ := id p'
    exact ⟨its, r, p', Heap.lt_size e⟩
  | false, h => by
    obtain ⟨its, r, p, _⟩ := I.list h
    exact ⟨its, r, p.isList, p.lt⟩
theorem seqX_inj (I : Inv X pins σ H s) : ∀ {k : Bool}, SqX X.K H k a xs → SqX X.K H k a ys → xs = ys
  | true, h, h' => I.tuple_inj h h'
  | false, h, h' => I.list_inj h h'
end

/-- two things of n items, in new pairs -/
def ItzS (K : PySem.W.Frag) (k1 k2 : Bool) (a b : Addr) (n : Nat) : It :=
  ⟨fun i H => i < n ∧ ∃ xs ys : List V, SqX K H k1 a xs ∧ SqX K H k2 b ys ∧ xs.length = n ∧ ys.length = n,
    fun i H v H' => ∃ T x y, v = .ref T ∧ H T = none ∧ H' = upd H T (.tup [x, y]) ∧ (∀ xs, SqX K H k1 a xs → xs[i]? = some x) ∧ ∀ ys, SqX K H k2 b ys → ys[i]? = some y,
    fun i H => i = n ∧ ∃ xs ys : List V, SqX K H k1 a xs ∧ SqX K H k2 b ys ∧ xs.length = n ∧ ys.length = n⟩
structure ApartS (z TI TO i1 i2 a b : Addr) : Prop where
  S : ZipSep2 z TI TO i1 i2 [i1, a] [i2, b]
  a1 : a ≠ i1
  b2 : b ≠ i2
  TIi1 : TI ≠ i1
  TIi2 : TI ≠ i2
theorem nm2 (x i a : Nat) (h1 : x ≠ i) (h2 : x ≠ a) : x ∉ ([i, a] : List Addr) := fun h => by
  rcases List.mem_cons.mp h with z | z
  · exact h1 z
  · exact h2 (List.mem_singleton.mp z)
theorem apartS (I a b : Nat) (h1 : a < I) (h2 : b < I) : ApartS (I + 4) (I + 2) (I + 3) I (I + 1) a b := by
  refine ⟨?_, ?_, ?_, ?_, ?_⟩
  · constructor <;> first
      | (refine nm2 _ _ _ ?_ ?_ <;> omega)
      | (refine PySem.W.neN ?_; omega)
      | exact List.mem_cons_self
  all_goals (refine PySem.W.neN ?_; omega)
theorem turn_zipS {P : Program} {w : World} {K : PySem.W.Frag} {elts : List Expr} {kk : Nat} {tpos : Pos} {a b z TI TO i1 i2 : Addr} {k1 k2 : Bool} {n : Nat} (D : ApartS z TI TO i1 i2 a b) :
    Turn P w K (.Tuple elts kk tpos) (ItzS K k1 k2 a b n) [z, TI, TO, i1, i2] z (fun i h => ZS.IsZipS h z TI TO .none ∧ IsTupOf2 h TI (.ref i1) (.ref i2) ∧ (∃ x y, IsTupOf2 h TO x y) ∧ SrcX h i1 a i k1 ∧ SrcX h i2 b i k2) where
  mem := by simp
  obj := fun i h st c hc => by
    obtain ⟨hz, hTI, ⟨x, y, hTO⟩, h1, h2⟩ := st
    have e' : c = z ∨ c = TI ∨ c = TO ∨ c = i1 ∨ c = i2 := by simpa using hc
    rcases e' with q | q | q | q | q
    · rw [q]; exact ⟨_, hz, fun v q => nomatch q⟩
    · rw [q]; exact ⟨_, hTI, fun v q => nomatch q⟩
    · rw [q]; exact ⟨_, hTO, fun v q => nomatch q⟩
    · rw [q]; exact h1.obj
    · rw [q]; exact h2.obj
  keep := fun i h h' st k => by
    obtain ⟨hz, hTI, ⟨x, y, hTO⟩, h1, h2⟩ := st
    exact ⟨k z (by simp) _ hz, k TI (by simp) _ hTI, ⟨x, y, k TO (by simp) _ hTO⟩, h1.keep fun o q => k i1 (by simp) o q, h2.keep fun o q => k i2 (by simp) o q⟩
  item := by
    intro X hP hw hK hc i pins s σ H E I hf st hg
    subst hP hw hK
    obtain ⟨hz, hTI, ⟨x0, y0, hTO⟩, h1, h2⟩ := st
    obtain ⟨hi, xs, ys, hqx, hqy, lx, ly⟩ := hg
    obtain ⟨its, rv, p, _⟩ := seqX I hqx
    obtain ⟨its2, rv2, p2, _⟩ := seqX I hqy
    have n1 : its.toArray.size = n := by have := rv.length; simp; omega
    have n2 : its2.toArray.size = n := by have := rv2.length; simp; omega
    have hzl : z < s.heap.objs.size := Heap.lt_size hz
    refine ZS.pyNext_item D.S (drawsX (prog := X.prog) (w := X.w) (A := X.A.in1) (I.ok.hd hc) k1 i1 a D.a1 its.toArray n1) (drawsX (prog := X.prog) (w := X.w) (A := X.A.in1) (I.ok.hd hc) k2 i2 b D.b2 its2.toArray n2) hz hTI hTO ⟨h1, p⟩ ⟨h2, p2⟩ hi fun u u2 h' tk hu hu2 z' TO' h1' h2' hT hsz hk => ?_
    refine ⟨_, rfl, ZS.letGo (s := { s with heap := h', toks := tk }) z' fun h'' z'' sb => ?_⟩
    have hT2 : h''.get? s.heap.objs.size = some { cls := .type "tuple", data := .seq #[u, u2] } := (sb.2 _ (Nat.ne_of_gt hzl)).trans hT
    have hx : ∃ x, xs[i]? = some x := ⟨xs[i]'(by omega), List.getElem?_eq_getElem _⟩
    have hy : ∃ y, ys[i]? = some y := ⟨ys[i]'(by omega), List.getElem?_eq_getElem _⟩
    obtain ⟨x, hx⟩ := hx
    obtain ⟨y, hy⟩ := hy
    obtain ⟨v, hv, ru⟩ := rv.get hx
    obtain ⟨v2, hv2, ru2⟩ := rv2.get hy
    have eu : v = u := by
      have : its[i]? = some u := by simpa using hu
      rw [hv] at this; exact Option.some.inj this
    have eu2 : v2 = u2 := by
      have : its2[i]? = some u2 := by simpa using hu2
      rw [hv2] at this; exact Option.some.inj this
    subst eu eu2
    have new : ObjOk X.prog X.w (upd H s.heap.objs.size (.tup [x, y])) h'' s.heap.objs.size (.tup [x, y]) :=
      ⟨by show 2 ≤ sizeLine; decide, [v, v2], .cons ru (.cons ru2 .nil), ⟨_, hT2, rfl, _, rfl⟩⟩
    have I1 : Inv X pins σ (upd H s.heap.objs.size (.tup [x, y])) { s with heap := h'', toks := tk } :=
      I.turnedNew (t' := tk) (ch := [z, TI, TO, i1, i2]) (fun c o hb q => (sb.2 c (fun q' => hb (by simp [q']))).trans (hk c o (fun q' => hb (by simp [q'])) (fun q' => hb (by simp [q'])) (fun q' => hb (by simp [q'])) (fun q' => hb (by simp [q'])) q)) hf (Nat.le_refl _) new
    refine ⟨.ref s.heap.objs.size, _, I1, rfl, ⟨_, x, y, rfl, I.hok.fresh (Nat.le_refl _), rfl, fun l hl => by rw [seqX_inj I hl hqx]; exact hx, fun l hl => by rw [seqX_inj I hl hqy]; exact hy⟩, ⟨z'', ?_, ⟨v, v2, ?_⟩, ?_, ?_⟩, fun c hcm => ?_⟩
    · exact (sb.2 _ D.S.TIz).trans (hk _ _ D.S.TIz D.S.TITO D.TIi1 D.TIi2 hTI)
    · exact (sb.2 _ D.S.TOz).trans TO'
    · exact h1'.1.keep fun o q => (sb.2 _ D.S.zi1.symm).trans q
    · exact h2'.1.keep fun o q => (sb.2 _ D.S.zi2.symm).trans q
    · have hlt : c < s.heap.objs.size := by
        have e' : c = z ∨ c = TI ∨ c = TO ∨ c = i1 ∨ c = i2 := by simpa using hcm
        rcases e' with q | q | q | q | q
        · rw [q]; exact hzl
        · rw [q]; exact Heap.lt_size hTI
        · rw [q]; exact Heap.lt_size hTO
        · rw [q]; obtain ⟨_, e1, _⟩ := h1.obj; exact Heap.lt_size e1
        · rw [q]; obtain ⟨_, e2, _⟩ := h2.obj; exact Heap.lt_size e2
      rw [upd_ne (Nat.ne_of_lt hlt)]
      exact (hf c hcm).1
  done := by
    intro X hP hw hK hc i pins s σ H E I hf st hg
    subst hP hw hK
    obtain ⟨hz, hTI, ⟨x0, y0, hTO⟩, h1, h2⟩ := st
    obtain ⟨hi, xs, ys, hqx, hqy, lx, ly⟩ := hg
    subst hi
    obtain ⟨its, rv, p, _⟩ := seqX I hqx
    obtain ⟨its2, rv2, p2, _⟩ := seqX I hqy
    have n1 : its.toArray.size = i := by have := rv.length; simp; omega
    have n2 : its2.toArray.size = i := by have := rv2.length; simp; omega
    exact ZS.pyNext_end (I.ok.hd hc) D.S (drawsX (prog := X.prog) (w := X.w) (A := X.A.in1) (I.ok.hd hc) k1 i1 a D.a1 its.toArray n1) (drawsX (prog := X.prog) (w := X.w) (A := X.A.in1) (I.ok.hd hc) k2 i2 b D.b2 its2.toArray n2) hz hTI hTO ⟨h1, p⟩ ⟨h2, p2⟩ fun h' tk hk => ⟨rfl, I.turnedL (t' := tk) (ch := [z, TI, TO, i1, i2]) (fun c o hb q =>
      hk c o (fun q' => hb (by simp [q'])) (fun q' => hb (by simp [q'])) (fun q' => hb (by simp [q'])) (fun q' => hb (by simp [q'])) q) hf⟩
  self := fun A i s Q E st h => ZS.pyIter_ st.1 h
def iZipS (K : PySem.W.Frag) (t tk : TA) : TI := fun σ H R => t σ H fun vs H1 => tk σ H1 fun zs H2 => ∃ a b xs ys k1 k2, vs = [.ref a, .ref b] ∧ zs = [.bl true] ∧ SqX K H2 k1 a xs ∧ SqX K H2 k2 b ys ∧ xs.length = ys.length ∧ R (ItzS K k1 k2 a b xs.length) H2
section
open PyProof.Rows
variable {M : Model} {A : Around} {E : Value → Shared → Prop} {s : Shared} {env : Env}
theorem callWith_type_kw {pos : Pos} {T : String} {e : Expr} {rest : List Expr} {kws : List Keyword} {Q : Value → Shared → Prop}
    (h : wpAny M A (spliced (backTo pos (starEach (e :: rest) env))) (fun vs s₁ => wpAny M A (evalAll ((backToKw pos (keywordEach kws env)).map (·.2)))
      (fun kvs s₂ => wpAny M A (call (.type T) vs (((backToKw pos (keywordEach kws env)).filterMap (·.1)).zip kvs)) Q E s₂) E s₁) E s)
    (he : backTo pos (starEach (e :: rest) env) = (false, eval e env) :: backTo pos (starEach rest env) := by rfl)
    (hplain : (backTo pos (starEach (e :: rest) env)).any (·.1) = false := by rfl)
    (hall : (backToKw pos (keywordEach kws env)).all (·.1.isSome) = true := by rfl)
    (hkw : (backToKw pos (keywordEach kws env)).any (·.1.isNone) = false := by rfl) :
    wpAny M A (callWith pos (.type T) [] (backTo pos (starEach (e :: rest) env)) (backToKw pos (keywordEach kws env))) Q E s := by
  have h2 : wpAny M A (evalArgs (.type T) true (backTo pos (starEach (e :: rest) env)) (backToKw pos (keywordEach kws env))) (fun a s₁ => wpAny M A (call (.type T) ([] ++ a.pos) a.kw) Q E s₁) E s := by
    rw [he] at h ⊢
    exact evalArgs_kwB hall h
  unfold callWith
  refine wpAny_bind (wpAny_holding (wpAny_mono h2 (fun a s₁ h₁ => wpAny_bind (wpAny_standAt ?_)) fun _ _ x => x))
  simp only [hplain, hkw, Bool.or_false]
  refine wpAny_bind (wpAny_pure ?_)
  exact wpAny_bind (wpAny_mono h₁ (fun r s₂ hr => wpAny_bind (wpAny_holding (wpAny_point (wpAny_pure hr)))) fun _ _ x => x)
end
theorem pi_zipS {X : Cx} {e e2 : Expr} {kws : List Keyword} {ta tk : TA} {p pos tpos : Pos} {elts : List Expr} {kk : Nat} (hm : X.mg "zip" = none) (ha : PA X [e, e2] ta) (hk : PK X kws tk) (hg : Gl X "zip" := by rfl)
    (he : backTo pos (starEach [e, e2] X.env) = (false, eval e X.env) :: backTo pos (starEach [e2] X.env) := by rfl) (hpl : (backTo pos (starEach [e, e2] X.env)).any (·.1) = false := by rfl)
    (hall : (backToKw pos (keywordEach kws X.env)).all (·.1.isSome) = true := by rfl) (hnone : (backToKw pos (keywordEach kws X.env)).any (·.1.isNone) = false := by rfl) (hks : (backToKw pos (keywordEach kws X.env)).filterMap (·.1) = [Str.ofString "strict"] := by rfl) :
    PI X (.Tuple elts kk tpos) (.Call (.Name "zip" p) [e, e2] kws pos) (iZipS X.K ta tk) := by
  refine ⟨fun pins s σ H R I h => ?_⟩
  refine wpAny_Call_Name_kw (ld_blt I hg hm PyProof.Rows.boot_zip ?_)
  refine callWith_type_kw (thn (ha.run pos pins s σ H _ I h) fun us s1 ⟨vs, H1, I1, r1, q1⟩ => thn (hk.run pos pins s1 σ H1 _ I1 q1) fun ws s2 ⟨zs, H2, I2, r2, q2⟩ => ?_) he hpl hall hnone
  rw [hks]
  obtain ⟨a, b, xs, ys, k1, k2, ex, ez, hqx, hqy, hl, q⟩ := q2
  subst ex ez
  cases r1 with
  | cons r rr =>
    cases rr with
    | cons r' rr =>
      cases rr
      cases r
      cases r'
      cases r2 with
      | cons rz rr =>
        cases rr
        cases rz
        obtain ⟨its, rv, p1, la⟩ := seqX I2 hqx
        obtain ⟨its2, rv2, p2, lb⟩ := seqX I2 hqy
        refine ZS.begins_ (beginsX k1 a its.toArray) (beginsX k2 b its2.toArray) p1 p2 fun h' hz hTI hTO h1 h2 hsz hk => ZS.pyIter_ hz ?_
        have I3 : Inv X pins σ H2 { s2 with heap := h' } := I2.kept (t' := s2.toks) hk
        refine ⟨s2.heap.objs.size + 4, [s2.heap.objs.size + 4, s2.heap.objs.size + 2, s2.heap.objs.size + 3, s2.heap.objs.size, s2.heap.objs.size + 1], _, _, H2, rfl, I3, turn_zipS (apartS s2.heap.objs.size a b la lb), ⟨hz, hTI, ⟨_, _, hTO⟩, itX_src h1, itX_src h2⟩, fun c hcm => ?_, q⟩
        have e' : c = s2.heap.objs.size + 4 ∨ c = s2.heap.objs.size + 2 ∨ c = s2.heap.objs.size + 3 ∨ c = s2.heap.objs.size ∨ c = s2.heap.objs.size + 1 := by simpa using hcm
        have hle : s2.heap.objs.size ≤ c := by
          rcases e' with z | z | z | z | z
          · rw [z]; exact Nat.le_add_right _ _
          · rw [z]; exact Nat.le_add_right _ _
          · rw [z]; exact Nat.le_add_right _ _
          · rw [z]; exact Nat.le_refl _
          · rw [z]; exact Nat.le_add_right _ _
        exact I2.fpOk hle (I2.hok.fresh hle)

/-! ### in our layer -/
section
variable {X : Cx} {W : WX} {K : PySem.W.Frag} {mg : Str → Option Value} {ρ ρ1 : Own} {H H1 : Hp} {h : Hs} {Q : VK} {pos : Pos}
def sqOf : D → Option (List D)
  | .lst ds => some ds
  | .scr ds => some ds
  | .tup ds => some ds
  | _ => none
def zip2? : List D → Option (List D)
  | [a, b] => (match sqOf a, sqOf b with
    | some xs, some ys => if xs.length = ys.length then some ((xs.zip ys).map fun p => .tup [p.1, p.2]) else none
    | _, _ => none)
  | _ => none
/-- both stand as they are while they are walked -/
def iZip2 (m : As) : Ix := fun env h => match m env h with
  | .ok os h1 => (match plains os with
    | some ds => (match zip2? ds with
      | some es => .ok es h1
      | none => .bad)
    | none => .bad)
  | .exc x h1 => .exc x h1
  | .bad => .bad
/-- what stays whatever comes -/
theorem sq_stays {d : D} {v : V} {ds : List D} (r : RD K mg ρ1 H1 d v) (e : sqOf d = some ds) (ok1 : HeapOk K mg ρ1 h H1) : ∃ a k vs, v = .ref a ∧ RDs K mg ρ1 H1 ds vs ∧ ∀ ρ H, StepW ρ1 H1 ρ H → SqX K H k a vs := by
  cases r with
  | lst e2 n2 rs => cases e; exact ⟨_, false, _, rfl, rs, fun ρ H S => SqL.of (S.keep _ _ e2 n2)⟩
  | scr e2 rs => cases e; exact ⟨_, false, _, rfl, rs, fun ρ H S => (e2.at fun o z => S.keep _ _ z (not_owned_mut ok1.mutA z id)).l⟩
  | tup e2 rs => cases e; exact ⟨_, true, _, rfl, rs, fun ρ H S => SqT.stepW ok1.mutA S e2⟩
  | _ => cases e
theorem walks_zip {a b : Addr} {k1 k2 : Bool} {vs ws : List V} {xs ys : List D} {n : Nat} (ok1 : HeapOk K mg ρ1 h H1) (hn : xs.length = n) (hn2 : ys.length = n) (rs : RDs K mg ρ1 H1 xs vs) (rs2 : RDs K mg ρ1 H1 ys ws)
    (s1 : ∀ ρ H, StepW ρ1 H1 ρ H → SqX K H k1 a vs) (s2 : ∀ ρ H, StepW ρ1 H1 ρ H → SqX K H k2 b ws) : WalksD K mg (ItzS K k1 k2 a b n) ρ1 H1 ((xs.zip ys).map fun p => .tup [p.1, p.2]) := fun ρ h' H ok S => by
  have l1 := rs.length
  have l2 := rs2.length
  refine ⟨⟨by simp; omega, vs, ws, s1 ρ H S, s2 ρ H S, by omega, by omega⟩, fun i d e => ?_⟩
  rw [List.getElem?_map] at e
  cases q : (xs.zip ys)[i]? with
  | none => rw [q] at e; cases e
  | some p =>
    rw [q] at e; cases e
    rw [List.getElem?_zip_eq_some] at q
    have hi : i < n := by
      obtain ⟨z, _⟩ := List.getElem?_eq_some_iff.mp q.1
      omega
    refine ⟨⟨hi, vs, ws, s1 ρ H S, s2 ρ H S, by omega, by omega⟩, fun x H' y => ?_⟩
    obtain ⟨T, u, u2, rfl, hT, rfl, y1, y2⟩ := y
    obtain ⟨v, e1, r1⟩ := (rs.stepW ok1.mutA S).get q.1
    obtain ⟨v2, e2, r2⟩ := (rs2.stepW ok1.mutA S).get q.2
    have z1 := y1 vs (s1 ρ H S)
    have z2 := y2 ws (s2 ρ H S)
    rw [e1] at z1; cases z1
    rw [e2] at z2; cases z2
    exact ⟨ok.new hT, step_new hT, .tup (SqT.of upd_same) (.cons (r1.step ok.mutb (step_new hT)) (.cons (r2.step ok.mutb (step_new hT)) .nil))⟩
theorem i_zip {e e2 : Expr} {m : As} {p pos tpos kp kp2 : Pos} {j : Nat} {elts : List Expr} {kk : Nat} (hm : X.mg "zip" = none) (ha : PAs X W [e, e2] m) (hg : Gl X "zip" := by rfl)
    (he : backTo pos (starEach [e, e2] X.env) = (false, eval e X.env) :: backTo pos (starEach [e2] X.env) := by rfl) (hpl : (backTo pos (starEach [e, e2] X.env)).any (·.1) = false := by rfl)
    (hall : (backToKw pos (keywordEach [⟨some "strict", .Constant (.bool true) j kp2, kp⟩] X.env)).all (·.1.isSome) = true := by rfl) (hnone : (backToKw pos (keywordEach [⟨some "strict", .Constant (.bool true) j kp2, kp⟩] X.env)).any (·.1.isNone) = false := by rfl) (hks : (backToKw pos (keywordEach [⟨some "strict", .Constant (.bool true) j kp2, kp⟩] X.env)).filterMap (·.1) = [Str.ofString "strict"] := by rfl) :
    PIx X W (.Tuple elts kk tpos) (.Call (.Name "zip" p) [e, e2] [⟨some "strict", .Constant (.bool true) j kp2, kp⟩] pos) (iZip2 m) :=
  PI.imp (pi_zipS hm ha (pk_cons pe_bl pk_nil) hg he hpl hall hnone hks) fun σ H R ⟨ρ, env, h, Rl, g⟩ => by
    refine ⟨ρ, env, h, Rl, ?_⟩
    unfold iZip2 at g
    cases q : m env h with
    | ok os h1 =>
      rw [q] at g
      intro ρ' H' vs ok S ros
      dsimp only at g
      cases q2 : plains os with
      | none => rw [q2] at g; exact g.elim
      | some ds =>
        rw [q2] at g
        dsimp only at g
        cases q3 : zip2? ds with
        | none => rw [q3] at g; exact g.elim
        | some es =>
          rw [q3] at g
          have rs := plains_rd ros q2
          unfold zip2? at q3
          split at q3
          · rename_i d1 d2
            split at q3
            · rename_i xs ys e1 e2
              split at q3
              · rename_i hl
                cases q3
                cases rs with
                | cons r rs =>
                  cases rs with
                  | cons r2 rs =>
                    cases rs
                    obtain ⟨a, k1, us, rfl, ra, sa⟩ := sq_stays r e1 ok
                    obtain ⟨b, k2, ws, rfl, rb, sb⟩ := sq_stays r2 e2 ok
                    have l1 := ra.length
                    have l2 := rb.length
                    exact ⟨a, b, us, ws, k1, k2, rfl, rfl, sa _ _ (Step.refl _ _).w, sb _ _ (Step.refl _ _).w, by omega, g ρ' H' _ ok S (walks_zip ok l1 (by omega) ra rb sa sb)⟩
              · cases q3
            · cases q3
          · cases q3
    | exc x h1 => rw [q] at g; exact g
    | bad => rw [q] at g; exact g.elim
end
end Ev
end
section
set_option Elab.async false
set_option linter.all false
set_option maxRecDepth 100000
set_option maxHeartbeats 4000000
/-! Ev10: how many distinct items: len({e for ..}) of ints, len(set(t)) of tuples of ints.
(The first two sections turn two proofs of the library, PpSet.sc_core for truth values and L2.call_set_tups for a list, to ints and to a tuple.) -/
namespace EvS
open PySem PySem.Spec PyProof.Rows L2
section
variable {X : Cx}
theorem addI_ok {pins : List (Addr × Obj)} {σ : L2.St} {H : Hp} {s : Shared} {E : Value → Shared → Prop} {D : Addr} {S : Int → Bool} {n : Nat} {y : Int} {tk : Tok} {Q : Value → Shared → Prop} (I : Inv X pins σ H s) (hD : H D = some (SetO X.w D S n)) (room : n + 1 < scanBound)
    (h : ∀ s', Inv X pins σ (upd H D (SetO X.w D (fun j => S j || decide (j = y)) (if S y = true then n else n + 1))) s' → Q .none s') : wpAny (model X.prog X.w) X.A (call (.builtin "set.add") [.ref D, .int y tk]) Q E s := by
  have R := setO_get I hD
  refine setR_add R room fun h' sb new => ?_
  have he : ∃ u, h'.get? D = some u := by
    have ⟨o, _, _, _, ho, _⟩ := new
    exact ⟨o, ho⟩
  exact h _ (I.write (e := D) (t' := s.toks + 1) (by rw [hD]; trivial) (.inl rfl) (fun b u hb hu => (sb.2 b hb).trans hu) he (setO_new new))
/-- {elt for target in iter if ..}, elt an int: D the new set -/
def tScI (w : World) (wi : TI) (g : TG) (tt : TT) (te : TE) (vs : List Nat) : TE := fun σ H Q => wi σ H fun J H1 => ∀ D, H1 D = none → ∃ W : Nat → Nat → Hp → Prop, (∃ m, W 0 m (upd H1 D (SetO w D (fun _ => false) 0))) ∧ ∀ i m H, W i m H →
  (J.stop i H ∧ Q (.ref D) H) ∨ (J.go i H ∧ ∃ Nx : Hp → Prop, (∀ H', Nx H' → ∃ m', m' < m ∧ W (i + 1) m' H') ∧ ∀ x H', J.yld i H x H' → g x (wipe σ vs) H' fun σ2 H2 => wipe σ2 vs = wipe σ vs ∧ tt σ2 H2 fun b H3 =>
    if b = true then te σ2 H3 fun y H4 => ∃ (c : Int) (S : Int → Bool) (n : Nat), y = .int c ∧ H4 D = some (SetO w D S n) ∧ n + 1 < scanBound ∧ Nx (upd H4 D (SetO w D (fun j => S j || decide (j = c)) (if S c = true then n else n + 1))) else Nx H3)
theorem sc_coreI {pins : List (Addr × Obj)} {s : Shared} {σ : L2.St} {H : Hp} {Q : VK} {elt tg iter : Expr} {ifs : List Expr} {scope : Scope} {own : List (PySem.Str × Nat)} {pos pos' : Pos} {wi : TI} {g : TG} {tt : TT} {te : TE} {use : Option (Value → Sem Unit)} {Qf : Value → Shared → Prop}
    (hc : X.calm = true) (hN : X.N.Nodup) (I : Inv X pins σ H s) (hi : PI X tg iter wi) (ok : BlkOk X.N X.env.scope scope own)
    (hg : ∀ (s : Shared) (H : Hp) (C : Addr) (cl : List (PySem.Str × Addr)) (fp : List Addr), PG (X.blk s H scope (compEnvC scope cl C X.env) fp) tg g) (ht : ∀ (s : Shared) (H : Hp) (C : Addr) (cl : List (PySem.Str × Addr)) (fp : List Addr), PTs (X.blk s H scope (compEnvC scope cl C X.env) fp) ifs tt)
    (he : ∀ (s : Shared) (H : Hp) (C : Addr) (cl : List (PySem.Str × Addr)) (fp : List Addr), PE (X.blk s H scope (compEnvC scope cl C X.env) fp) elt te) (hs : ∀ x, foldedSetIterable iter X.env x = pure x)
    (h : tScI X.w wi g tt te (own.map (·.2)) σ H Q)
    (hRR : ∀ D C s' m H', Inv X pins σ H' s' → Q (.ref D) H' → s'.heap.Ns C m → FpOk X pins H' C → compPost (model X.prog X.w) X.A X.xe use Qf (.ref D) C (.ok .next) s') :
    wpAny (model X.prog X.w) X.A (comprehension (.SetComp elt [⟨tg, iter, ifs, 0⟩] scope pos) scope X.env pos' (newSet (.type "set")) false (eval iter X.env) use) Qf X.xe s := by
  have hfree : ∀ y ∈ scope.names, y.2 = .free → ∃ c, X.env.cells.lookup y.1 = some c := fun y hy e => by
    rcases ok.free y hy e with k | k
    · exact I.ok.has _ (.inl k)
    · exact I.ok.has _ (.inr k)
  refine wpAny_comprehension_free (use := use) rfl hs (closure_ok hfree) ok.kind (fun y hy e => by rw [ok.uniq y hy, e])
    (thn (hi.run pins s σ H _ I h) fun xv s1 hx => thn hx fun itv s2 h2 => ?_)
  obtain ⟨it, fp, tn, J, H2, e, I2, T, st2, f2, q⟩ := h2
  subst e
  refine PpSet.newSet_ok (newEnv_comp ?_)
  generalize hD : s2.heap.objs.size = D
  have hDn : H2 D = none := I2.hok.fresh (Nat.le_of_eq hD)
  obtain ⟨W, ⟨m0, w0⟩, turn⟩ := q D hDn
  -- the new list
  generalize hs3 : ({ s2 with heap := s2.heap.push { cls := .type "set", dict := none, data := .set #[] 0 (.fresh 0 0 (!X.w.params.followText "set-order")) } } : Shared) = s3
  have I3 : Inv X pins σ (upd H2 D (SetO X.w D (fun _ => false) 0)) s3 := by
    rw [← hs3]
    refine I2.laid (t' := s2.toks) (fun b o e => Heap.get?_push_of_some _ e) (Nat.le_of_eq hD) ?_
    rw [← hD]
    exact setO_new (setR_fresh X.w)
  have h3 : s3.heap = s2.heap.push { cls := .type "set", dict := none, data := .set #[] 0 (.fresh 0 0 (!X.w.params.followText "set-order")) } := by rw [← hs3]
  have sz : ∀ b ∈ fp, b < s2.heap.objs.size := fun b hb => by
    obtain ⟨o, e, _⟩ := T.obj _ _ st2 b hb
    exact Heap.lt_size e
  have f3 : ∀ b ∈ fp, FpOk X pins (upd H2 D (SetO X.w D (fun _ => false) 0)) b ∧ b < s3.heap.objs.size := fun b hb => by
    have hlt := sz b hb
    refine ⟨⟨?_, (f2 b hb).2⟩, by rw [h3, Heap.size_push]; exact Nat.lt_succ_of_lt hlt⟩
    rw [upd_ne (by rw [← hD]; exact Nat.ne_of_lt hlt)]
    exact (f2 b hb).1
  have st3 : tn 0 s3.heap := T.keep _ _ _ st2 fun b _ o e => by rw [h3]; exact Heap.get?_push_of_some _ e
  have I4 := block_start I3 ok hN f3
  have pg := hg s3 (upd H2 D (SetO X.w D (fun _ => false) 0)) s3.heap.objs.size (cellsFrom (s3.heap.objs.size + 1) scope.names (cloFrom X.env.cells scope.names [])) fp
  have pt := ht s3 (upd H2 D (SetO X.w D (fun _ => false) 0)) s3.heap.objs.size (cellsFrom (s3.heap.objs.size + 1) scope.names (cloFrom X.env.cells scope.names [])) fp
  have pe := he s3 (upd H2 D (SetO X.w D (fun _ => false) 0)) s3.heap.objs.size (cellsFrom (s3.heap.objs.size + 1) scope.names (cloFrom X.env.cells scope.names [])) fp
  show codeAny _ _ (.compStart (.SetComp elt [⟨tg, iter, ifs, 0⟩] scope pos) 0 (.ref it) (.ref D) (compEnvC scope (cellsFrom (s3.heap.objs.size + 1) scope.names (cloFrom X.env.cells scope.names [])) s3.heap.objs.size X.env)) (compPost (model X.prog X.w) X.A X.xe use Qf (.ref D) s3.heap.objs.size) { s3 with heap := pushCells (s3.heap.push { cls := .type "dict", data := .dict #[] }) scope.names }
  have nfp : ∀ b ∈ fp, (upd H2 D (SetO X.w D (fun _ => false) 0)) b = none := fun b hb => (f3 b hb).1.1
  generalize hce : compEnvC scope (cellsFrom (s3.heap.objs.size + 1) scope.names (cloFrom X.env.cells scope.names [])) s3.heap.objs.size X.env = ce at I4 pg pt pe ⊢
  have cL : ce.locals = s3.heap.objs.size := by subst hce; rfl
  generalize hH3 : upd H2 D (SetO X.w D (fun _ => false) 0) = H3 at I3 I4 pg pt pe w0 nfp f3
  generalize hs4 : ({ s3 with heap := pushCells (s3.heap.push { cls := .type "dict", data := .dict #[] }) scope.names } : Shared) = s4 at I4 ⊢
  have st4 : tn 0 s4.heap := T.keep _ _ _ st3 fun b _ o e => by rw [← hs4]; exact pushCells_keeps _ _ _ _ (Heap.get?_push_of_some _ e)
  have stat : ∀ {σ' : L2.St} {H' : Hp} {s' : Shared}, Inv (X.blk s3 H3 scope ce fp) [] σ' H' s' → (∀ b ∈ fp, H' b = none) → ∀ b ∈ fp, FpOk (X.blk s3 H3 scope ce fp) [] H' b := fun {σ' H' s'} I' hn b hb =>
    ⟨hn b hb, (I'.ok.exf b hb).1, I'.ok.exfs b hb, .inl hb, fun x c e => (I'.ok.exf b hb).2 x c e, fun p hp => absurd (show p ∈ ([] : List (Addr × Obj)) ++ [] from hp) (by simp)⟩
  have loop : codeAny (model X.prog X.w) X.A (.compLoop (.SetComp elt [⟨tg, iter, ifs, 0⟩] scope pos) 0 (.ref it) (.ref D) ce) (compPost (model X.prog X.w) X.A X.xe use Qf (.ref D) s3.heap.objs.size) s4 := by
    refine PpSet.compLoopS_any (fun n s' => ∃ i H', Inv (X.blk s3 H3 scope ce fp) [] (wipe σ (own.map (·.2))) H' s' ∧ tn i s'.heap ∧ (∀ b ∈ fp, H' b = none) ∧ W i n H') ?_ m0 ⟨0, H3, I4, st4, nfp, w0⟩
    rintro n s5 ⟨i, H5, I5, st5, n5, w5⟩
    rcases turn i n H5 w5 with ⟨stop, qq⟩ | ⟨go, Nx, hNx, step⟩
    · have td := T.done (X.blk s3 H3 scope ce fp) rfl rfl rfl hc i [] s5 _ H5 (fun _ _ => False) I5 (stat I5 n5) st5 stop
      refine thnF td fun r s6 ⟨hr, I6⟩ => ?_
      subst hr
      -- back in the def's context
      have I7 : Inv X pins σ H5 s6 := I3.call' (ch := fp) I6.os I6.base I6.hok I6.bare fun b hb => ⟨(f3 b hb).1.2.2.2.1, (f3 b hb).1.2.1, (f3 b hb).1.2.2.2.2.1, (f3 b hb).1.2.2.2.2.2⟩
      have nC : H5 s3.heap.objs.size = none := by
        have z : H5 ce.locals = none := I6.free
        rw [cL] at z
        exact z
      obtain ⟨m, hn, _⟩ := I6.loc
      have hn : s6.heap.Ns ce.locals m := hn
      rw [cL] at hn
      exact hRR D s3.heap.objs.size s6 m H5 I7 qq hn (I3.fpOk (Nat.le_refl _) nC)
    · have ti := T.item (X.blk s3 H3 scope ce fp) rfl rfl rfl hc i [] s5 _ H5 (fun _ _ => False) I5 (stat I5 n5) st5 go
      refine thnF ti fun r s6 ⟨u, hr, h6⟩ => ?_
      subst hr
      refine thnF h6 fun _ s7 ⟨x, H7, I7, r7, y7, st7, n7⟩ => ?_
      have I7' := I7.pinned (stat I7 n7) (T.obj _ _ st7)
      refine thnF (pg.run _ s7 _ H7 x u _ I7' r7 (step x H7 y7)) fun _ s8 ⟨σ8, H8, I8, hw8, q8⟩ => ?_
      refine thnF (pt.run _ s8 σ8 H8 _ I8 q8) fun b s9 ⟨H9, I9, q9⟩ => ?_
      -- the turn's end
      have fin : ∀ {s' : Shared} {H' : Hp}, Inv (X.blk s3 H3 scope ce fp) ([] ++ pinsAt fp s7.heap) σ8 H' s' → Nx H' → ∃ m, m < n ∧ ∃ i H', Inv (X.blk s3 H3 scope ce fp) [] (wipe σ (own.map (·.2))) H' s' ∧ tn i s'.heap ∧ (∀ b ∈ fp, H' b = none) ∧ W i m H' := fun {s' H'} I' nx => by
        obtain ⟨m', hm, w'⟩ := hNx H' nx
        have pin' : ∀ b ∈ fp, ∀ o, s7.heap.get? b = some o → s'.heap.get? b = some o ∧ H' b = none := fun b hb o e =>
          let z := I'.pin (b, o) (List.mem_append_right _ (List.mem_append_right _ (mem_pinsAt hb e)))
          ⟨z.1, z.2.1⟩
        have hl : (wipe σ (own.map (·.2))).length = σ8.length := by rw [← hw8, wipe_length]
        refine ⟨m', hm, i + 1, H', (I'.unpinned (pins := [])).weak hl (fun j v e => ?_), T.keep _ _ _ st7 fun b hb o e => (pin' b hb o e).1, fun b hb => ?_, w'⟩
        · rw [← hw8] at e
          exact (wipe_some e).1
        · obtain ⟨o, e, _⟩ := T.obj _ _ st7 b hb
          exact (pin' b hb o e).2
      cases b with
      | false =>
        simp only [Bool.false_eq_true, if_false] at q9 ⊢
        exact fin I9 q9
      | true =>
        simp only [if_true] at q9 ⊢
        refine thnF (pe.run _ s9 σ8 H9 _ I9 q9) fun z s10 ⟨yv, H10, I10, r10, cb, S0, n0, ey, hD10, hz10, nx⟩ => ?_
        subst ey
        obtain ⟨tk, rfl⟩ := r10
        exact addI_ok (X := X.blk s3 H3 scope ce fp) I10 hD10 hz10 fun s11 I11 => fin I11 nx
  exact PpSet.codeAny_compStart_set loop (T.self X.A 0 _ _ _ st4 loop)
/-- as a value -/
theorem pe_scI {elt tg iter : Expr} {ifs : List Expr} {scope : Scope} {own : List (PySem.Str × Nat)} {pos : Pos} {wi : TI} {g : TG} {tt : TT} {te : TE} (hc : X.calm = true) (hN : X.N.Nodup) (hi : PI X tg iter wi) (ok : BlkOk X.N X.env.scope scope own)
    (hg : ∀ (s : Shared) (H : Hp) (C : Addr) (cl : List (PySem.Str × Addr)) (fp : List Addr), PG (X.blk s H scope (compEnvC scope cl C X.env) fp) tg g) (ht : ∀ (s : Shared) (H : Hp) (C : Addr) (cl : List (PySem.Str × Addr)) (fp : List Addr), PTs (X.blk s H scope (compEnvC scope cl C X.env) fp) ifs tt)
    (he : ∀ (s : Shared) (H : Hp) (C : Addr) (cl : List (PySem.Str × Addr)) (fp : List Addr), PE (X.blk s H scope (compEnvC scope cl C X.env) fp) elt te) (hs : ∀ x, foldedSetIterable iter X.env x = pure x := by intro _; rfl) :
    PE X (.SetComp elt [⟨tg, iter, ifs, 0⟩] scope pos) (tScI X.w wi g tt te (own.map (·.2))) := by
  refine ⟨fun pins s σ H Q I h => ?_⟩
  rw [PpSet.eval_SetComp]
  refine sc_coreI hc hN I hi ok hg ht he hs h fun D C s' m H' I' q hn f => ⟨m, hn, fun h'' sb => ?_⟩
  obtain ⟨f0, f1, f2, f3, f4, f5⟩ := f
  exact ⟨.ref D, H', I'.turned (t' := s'.toks) (fun b o hb e => (sb.2 b hb).trans e) f0 f1 f3 f4 f5, rfl, q⟩
end

/-- len of a set of ints -/
def tLenO (w : World) (ta : TE) : TE := fun σ H Q => ta σ H fun x H1 => ∃ (a : Addr) (S : Int → Bool) (n : Nat), x = .ref a ∧ H1 a = some (SetO w a S n) ∧ Q (.int n) H1
theorem pe_lenO {X : Cx} {a : Expr} {ta : TE} {p pos : Pos} (hm : X.mg "len" = none) (ha : PE X a ta) (hg : Gl X "len" := by rfl)
    (na : starEach [a] X.env = (false, eval a X.env) :: starEach [] X.env := by rfl) : PE X (.Call (.Name "len" p) [a] [] pos) (tLenO X.w ta) := by
  refine ⟨fun pins s σ H Q I h => ?_⟩
  refine Call_ (ld_blt I hg hm PySem.boot_len ?_)
  refine PyProof.Rows.callWith_builtin1 (PyProof.Rows.args_cons (thn (ha.run pins s σ H _ I h) fun v s1 ⟨x, H1, I1, r1, q1⟩ => PyProof.Rows.args_nil ?_) na) na rfl
  obtain ⟨l, S, n, rfl, hl, q1⟩ := q1
  cases r1
  obtain ⟨o, es, ep, t, ho, hex, hd, _, _, _, hb, hf, hn, _⟩ := setO_get I1 hl
  refine call_len_set ho hex hd hf (by unfold scanBound at hb; omega) ⟨.int n, H1, I1.tok _, ⟨_, by rw [hn]⟩, q1⟩
end EvS
namespace EvS
open PySem PySem.Spec PyProof.Rows L2
section
variable {P : Program} {w : World} {A : Around} {E : Value → Shared → Prop} {s : Shared}
set_option maxRecDepth 100000 in
set_option maxHeartbeats 3200000 in
/-- set(t) of a tuple -/
theorem call_set_tupsT {l : Addr} {items : Array Value} (ks : List (Addr × List Int)) {Q : Value → Shared → Prop} (hh : A.handled = none) (hl : s.heap.IsTuple l items) (hit : items.toList = ks.map fun p => Value.ref p.1)
    (hk : ∀ p ∈ ks, IsT P w s.heap p.2 p.1) (hfew : ks.length < 64) (hu : A.units + 3 < cLine)
    (h : ∀ (h' : Heap) (tk : Nat) L es ep t, SetTR P w h' s.heap.objs.size L es ep t → Got ks ks.length L → (∀ b o, s.heap.get? b = some o → h'.get? b = some o) → Q (.ref s.heap.objs.size) { s with heap := h', toks := tk }) :
    wpAny (model P w) A (call (.type "set") [.ref l]) Q E s := by
  have hisz : items.size = ks.length := by
    have q := congrArg List.length hit
    rw [Array.length_toList, List.length_map] at q
    exact q
  obtain ⟨c, tl, hmro⟩ := F.called_set.mro
  have hmade := F.called_set.made
  have hsub := F.called_set.sub
  refine wpAny_call (codeAny_of_tree ?_)
  show wpAny _ _ (callAny (.type "set") _) _ _ _
  refine wpAny_pure ⟨Code.quiet_builtin _ (by decide +kernel), codeAny_builtin F.entry_type_call ?_⟩
  rw [Around.under_plain (weight_type_call_type "set" [.ref l] []) rfl]
  have h1 := F.called_set.notType
  have h2 := F.called_set.canCreate
  have hct := F.typeCall_set_1 (.ref l)
  repeat (any_goals (first | assumption | wp_step))

  refine codeAny_mono (code_set_led1 (.ref l) (E := E) (Q₁ := fun obj s₁ => obj = .ref s.heap.objs.size ∧ s₁ = { s with heap := s.heap.push { cls := .type "set", dict := none, data := .set #[] 0 (.fresh 0 0 (!w.params.followText "set-order")) } }) ⟨rfl, rfl⟩) fun r s₁ hr => ?_
  cases r with
  | error e => exact hr
  | ok fl =>
    cases fl with
    | ret obj =>
      obtain ⟨rfl, rfl⟩ := hr
      have hS : (s.heap.push { cls := .type "set", dict := none, data := .set #[] 0 (.fresh 0 0 (!w.params.followText "set-order")) }).get? s.heap.objs.size = some { cls := .type "set", dict := none, data := .set #[] 0 (.fresh 0 0 (!w.params.followText "set-order")) } := Heap.get?_push_size _ rfl
      have hT : Shared.TypeIs { s with heap := s.heap.push { cls := .type "set", dict := none, data := .set #[] 0 (.fresh 0 0 (!w.params.followText "set-order")) } } (.ref s.heap.objs.size) "set" := ⟨_, hS, rfl⟩
      have hli := F.called_set.init.lookup
      have hbi := F.called_set.init.bind (.ref s.heap.objs.size)
      repeat (any_goals (first | assumption | wp_step))

      refine codeAny_mono (codeAny_call_builtin (R := wants (fun r s₂ => r = .none ∧ ∃ h' tk L es ep t, s₂ = { s with heap := h', toks := tk } ∧ SetTR P w h' s.heap.objs.size L es ep t ∧ Got ks ks.length L ∧
          (∀ b o, s.heap.get? b = some o → h'.get? b = some o)) E) F.called_set.init.plain F.entry_set_init (check_set_init_1 hT ?_)) fun r₂ s₂ hr₂ => ?_
      · obtain ⟨ol, hol, hcl, nl, hdl⟩ := hl
        obtain ⟨ocls, odict, odata, oslots⟩ := ol
        simp only at hcl hdl
        subst hcl; subst hdl
        have hol' : (s.heap.push { cls := .type "set", dict := none, data := .set #[] 0 (.fresh 0 0 (!w.params.followText "set-order")) }).get? l = some { cls := .type "tuple", dict := odict, data := .seq items nl, slots := oslots } := Heap.get?_push_of_some _ hol
        have hsls := F.sub_tuple_set
        have hslf := F.sub_tuple_frozenset
        have hne : (Value.type "tuple" == Value.type "dict") = false := by decide
        have hl1 : (s.heap.push { cls := .type "set", dict := none, data := .set #[] 0 (.fresh 0 0 (!w.params.followText "set-order")) }).IsTuple l items := ⟨_, hol', rfl, nl, rfl⟩
        unfold Builtin.«set.__init__» noKeywords Builtin.Frozenset.updateFrom
        generalize hPI : pyIter = PI
        wp_walk
        subst hPI

        refine wpAny_pyIter_tuple hl1 ?_
        refine wpAny_bind (wpAny_runValue ?_)
        have hlS : l < s.heap.objs.size := Heap.lt_size hol
        have hh3 : A.in1.in1.in1.handled = none := by simp [hh]
        have hz1 : (s.heap.push { cls := .type "set", dict := none, data := .set #[] 0 (.fresh 0 0 (!w.params.followText "set-order")) }).objs.size = s.heap.objs.size + 1 := Heap.size_push ..
        have hneI : l ≠ (s.heap.push { cls := .type "set", dict := none, data := .set #[] 0 (.fresh 0 0 (!w.params.followText "set-order")) }).objs.size := by
          rw [Heap.size_push]; exact Nat.ne_of_lt (Nat.lt_succ_of_lt hlS)
        have hSf : s.heap.objs.size ∉ [(s.heap.push { cls := .type "set", dict := none, data := .set #[] 0 (.fresh 0 0 (!w.params.followText "set-order")) }).objs.size, l] := by
          rw [Heap.size_push]; simp only [List.mem_cons, List.mem_singleton, List.not_mem_nil, or_false, not_or]
          exact ⟨Nat.ne_of_lt (Nat.lt_succ_self _), Nat.ne_of_gt hlS⟩
        have hval : ∀ (i : Nat) (v : Value), items[i]? = some v → ∃ p, ks[i]? = some p ∧ v = .ref p.1 := fun i v hv => by
          have q : items.toList[i]? = some v := by rw [Array.getElem?_toList]; exact hv
          rw [hit, List.getElem?_map] at q
          cases hq : ks[i]? with
          | none => rw [hq] at q; cases q
          | some p =>
            rw [hq] at q
            exact ⟨p, rfl, (Option.some.inj q).symm⟩
        have none_of : ∀ b, s.heap.objs.size ≤ b → s.heap.get? b = none := fun b hb => by
          cases q : s.heap.get? b with
          | none => rfl
          | some o => exact absurd (Nat.lt_of_lt_of_le (Heap.lt_size q) hb) (Nat.lt_irrefl _)
        refine set_update_tups ((Walks.tuple hh3 _ l hneI items).toS) s.heap.objs.size
          hSf ks hisz hfew hval s.heap hk (none_of _ (Nat.le_refl _)) (fun b hb => none_of b (by
            rw [List.mem_singleton.mp hb, Heap.size_push]
            exact Nat.le_succ _)) hu (items.size - 0) 0 _ (by omega) (Nat.zero_le _)
          ⟨⟨_, Heap.get?_push_size _ rfl, rfl, rfl⟩, (hl1.push _)⟩ (fun b o e => Heap.get?_push_of_some _ (Heap.get?_push_of_some _ e)) ?hS0 ?hR
        case hS0 =>
          have hget : ((s.heap.push { cls := .type "set", dict := none, data := .set #[] 0 (.fresh 0 0 (!w.params.followText "set-order")) }).push { cls := .type "tuple_iterator", data := .fields #[.ref l, .int 0 0] }).get? s.heap.objs.size
              = some { cls := .type "set", dict := none, data := .set #[] 0 (.fresh 0 0 (!w.params.followText "set-order")) } := Heap.get?_push_of_some _ hS
          exact ⟨[], #[], 0, _, setTR_fresh hget, Got.zero ks⟩
        case hR =>
          intro s' L es ep t hm hS' g' hkp
          obtain ⟨h', g2, d', tk', os'⟩ := s'
          have eg : g2 = s.gens := hm.gens
          have ed : d' = s.drawn := hm.drawn
          have eo : os' = s.os := hm.os
          subst eg; subst ed; subst eo
          show wpAny _ _ _ _ _ _
          refine wpAny_pure ?_
          show wpAny _ _ (ret Value.none) _ _ _
          rw [hisz] at g'
          exact wpAny_pure ⟨rfl, h', tk', L, es, ep, t, rfl, hS', g', hkp⟩

      · cases r₂ with
        | error e => exact hr₂
        | ok fl₂ =>
          cases fl₂ with
          | ret r =>
            obtain ⟨rfl, h', tk, L, es, ep, t, rfl, hS', g', hk'⟩ := hr₂
            repeat (any_goals (first | assumption | wp_step))
            exact h _ _ _ _ _ _ hS' g' hk'
          | _ => exact hr₂.elim
    | _ => exact hr.elim


end
end EvS
end
section
set_option Elab.async false
set_option linter.all false
set_option maxRecDepth 100000
set_option maxHeartbeats 4000000
/-! Ev11: how many distinct items, in our layer. -/
namespace EvS
open PySem PySem.Spec PyProof.Rows L2
/-- len(set(t)), t a tuple of tuples of ints -/
def tLenSetT (K : PySem.W.Frag) (ta : TE) : TE := fun σ H Q => ta σ H fun x H1 => ∃ (l : Addr) (ks : List (Addr × List Int)), x = .ref l ∧ SqT K H1 l (ks.map fun p => V.ref p.1) ∧ (∀ p ∈ ks, SqT K H1 p.1 (p.2.map V.int)) ∧ ks.length < 64 ∧
  ∀ L : List (List Int), L.Nodup → (∀ p ∈ L, p ∈ ks.map (·.2)) → (∀ p ∈ ks, p.2 ∈ L) → Q (.int L.length) H1
theorem pe_lenSetT {X : Cx} {a : Expr} {ta : TE} {p p2 q pos : Pos} (hc : X.calm = true) (hu : X.A.units + 64 < cLine) (hm : X.mg "len" = none) (hm2 : X.mg "set" = none) (ha : PE X a ta) (hg : Gl X "len" := by rfl) (hg2 : Gl X "set" := by rfl)
    (na : starEach [a] X.env = (false, eval a X.env) :: starEach [] X.env := by rfl) : PE X (.Call (.Name "len" p) [.Call (.Name "set" p2) [a] [] q] [] pos) (tLenSetT X.K ta) := by
  refine ⟨fun pins s σ H Q I h => ?_⟩
  refine Call_ (ld_blt I hg hm PySem.boot_len ?_)
  refine PyProof.Rows.callWith_builtin1 (PyProof.Rows.args_cons ?_ rfl) rfl rfl
  refine Call_ (ld_blt I hg2 hm2 PyProof.Rows.boot_set ?_)
  refine PyProof.Rows.callWith_type1 (PyProof.Rows.args_cons (thn (ha.run pins s σ H _ I h) fun v s1 ⟨x, H1, I1, r1, q1⟩ => PyProof.Rows.args_nil ?_) na) na rfl
  obtain ⟨l, ks, rfl, hl, hk, hf, q1⟩ := q1
  cases r1
  obtain ⟨its, rv, pl, hz⟩ := I1.tuple hl
  refine call_set_tupsT (P := X.prog) (w := X.w) ks (I1.ok.hd hc) (show s1.heap.IsTuple l its.toArray from pl) (by simpa using refs_of_vals rv) (fun p hp => I1.isT (hk p hp)) hf (by omega) fun h' tk L es ep t R g k => ?_
  refine PyProof.Rows.args_nil ?_
  have hsz := SetTR.size (s := { s1 with heap := h', toks := tk }) R
  have hfew := R.few
  obtain ⟨o, ho, hex, hd⟩ := R.ob
  have I2 : Inv X pins σ H1 { s1 with heap := h', toks := tk } := I1.kept k
  refine call_len_set ho hex hd (SetTR.fits (s := { s1 with heap := h', toks := tk }) R) (by rw [hsz]; omega) ⟨.int (L.map (·.2)).length, H1, I2.tok _, ⟨_, by rw [hsz, List.length_map]⟩, q1 (L.map (·.2)) R.nd (fun p hp => ?_) fun p hp => ?_⟩
  · obtain ⟨z, hz, rfl⟩ := List.mem_map.mp hp
    exact List.mem_map.mpr ⟨z, List.mem_of_mem_take (g.sub z hz), rfl⟩
  · exact g.all p (by rw [List.take_length]; exact hp)
end EvS

namespace Ev
open PySem PySem.Spec L2
/-! ### the distinct ones -/
section
variable {α : Type} [DecidableEq α]
def dsn (acc : List α) (k : α) : List α := if k ∈ acc then acc else acc ++ [k]
def distinct (l : List α) : List α := l.foldl dsn []
theorem distinct_snoc (l : List α) (k : α) : distinct (l ++ [k]) = dsn (distinct l) k := by
  unfold distinct; rw [List.foldl_append]; rfl
theorem mem_dsn {acc : List α} {k x : α} : x ∈ dsn acc k ↔ x ∈ acc ∨ x = k := by
  unfold dsn
  split
  · rename_i h
    exact ⟨.inl, fun z => z.elim id fun e => e ▸ h⟩
  · rw [List.mem_append, List.mem_singleton]
theorem mem_foldl {x : α} : ∀ (l acc : List α), x ∈ l.foldl dsn acc ↔ x ∈ acc ∨ x ∈ l
  | [], acc => by simp
  | k :: l, acc => by
    rw [List.foldl_cons, mem_foldl l, mem_dsn, List.mem_cons, or_assoc]
theorem mem_distinct {l : List α} {x : α} : x ∈ distinct l ↔ x ∈ l := by
  unfold distinct; rw [mem_foldl]; simp
theorem nodup_dsn {acc : List α} {k : α} (h : acc.Nodup) : (dsn acc k).Nodup := by
  unfold dsn
  split
  · exact h
  · rename_i hk
    rw [List.nodup_append]
    exact ⟨h, by simp, fun a ha b hb e => hk (by rw [List.mem_singleton] at hb; rw [← hb, ← e]; exact ha)⟩
theorem nodup_foldl : ∀ (l acc : List α), acc.Nodup → (l.foldl dsn acc).Nodup
  | [], _, h => h
  | k :: l, acc, h => nodup_foldl l _ (nodup_dsn h)
theorem nodup_distinct (l : List α) : (distinct l).Nodup := nodup_foldl l [] List.nodup_nil
theorem distinct_len {l L : List α} (h1 : L.Nodup) (h2 : ∀ x, x ∈ L ↔ x ∈ l) : L.length = (distinct l).length :=
  ((List.perm_ext_iff_of_nodup h1 (nodup_distinct l)).mpr fun x => (h2 x).trans mem_distinct.symm).length_eq
theorem dsn_len {acc : List α} {k : α} : (dsn acc k).length = if k ∈ acc then acc.length else acc.length + 1 := by
  unfold dsn
  split <;> simp
end
def intsD : List D → Option (List Int)
  | [] => some []
  | .int i :: ds => (match intsD ds with
    | some is => some (i :: is)
    | none => none)
  | _ => none
def rowsD : List D → Option (List (List Int))
  | [] => some []
  | .tup ds :: es => (match intsD ds, rowsD es with
    | some is, some rs => some (is :: rs)
    | _, _ => none)
  | _ => none
section
variable {X : Cx} {W : WX} {K : PySem.W.Frag} {mg : Str → Option Value} {ρ ρ1 ρ' : Own} {H H1 H' : Hp} {h h' : Hs} {Q : VK} {pos : Pos}
theorem intsD_rd : ∀ {ds : List D} {vs : List V} {is : List Int}, RDs K mg ρ H ds vs → intsD ds = some is → vs = is.map V.int
  | _, _, _, .nil, e => by cases e; rfl
  | _, _, _, .cons r rs, e => by
    unfold intsD at e
    split at e
    · rename_i heq; cases heq
    · rename_i heq
      cases heq
      split at e
      · rename_i q
        cases e
        cases r
        rw [intsD_rd rs q]
        rfl
      · cases e
    · cases e
theorem rowsD_rd : ∀ {ds : List D} {vs : List V} {rs : List (List Int)}, RDs K mg ρ H ds vs → rowsD ds = some rs → ∃ ks : List (Addr × List Int), vs = ks.map (fun p => V.ref p.1) ∧ ks.map (·.2) = rs ∧ ∀ p ∈ ks, SqT K H p.1 (p.2.map V.int)
  | _, _, _, .nil, e => by cases e; exact ⟨[], rfl, rfl, fun p hp => nomatch hp⟩
  | _, _, _, .cons r rs, e => by
    unfold rowsD at e
    split at e
    · rename_i heq; cases heq
    · rename_i heq
      cases heq
      split at e
      · rename_i q1 q2
        cases e
        cases r with
        | @tup b bs us s ss =>
          obtain ⟨ks, e1, e2, hk⟩ := rowsD_rd rs q2
          have e3 := intsD_rd ss q1
          subst e3
          refine ⟨(b, _) :: ks, by rw [e1]; rfl, by rw [List.map_cons, e2], fun p hp => ?_⟩
          rcases List.mem_cons.mp hp with z | z
          · rw [z]; exact s
          · exact hk p z
      · cases e
    · cases e
/-- len(set(t)) -/
def eLenSet (m : Ex) : Ex := fun env h => match m env h with
  | .ok rv h1 => (match rv.vl with
    | .tup ds => (match rowsD ds with
      | some rs => if rs.length < 64 then .ok (.val (.int (distinct rs).length)) h1 else .bad
      | none => .bad)
    | _ => .bad)
  | .exc x h1 => .exc x h1
  | .bad => .bad
theorem v_lenSet {a : Expr} {m : Ex} {p p2 q : Pos} (hc : X.calm = true) (hu : X.A.units + 64 < cLine) (hm : X.mg "len" = none) (hm2 : X.mg "set" = none) (ha : PV X W a m) (hg : Gl X "len" := by rfl) (hg2 : Gl X "set" := by rfl)
    (na : starEach [a] X.env = (false, eval a X.env) :: starEach [] X.env := by rfl) : PV X W (.Call (.Name "len" p) [.Call (.Name "set" p2) [a] [] q] [] pos) (eLenSet m) :=
  PE.imp (EvS.pe_lenSetT hc hu hm hm2 ha hg hg2 na) fun σ H Q ⟨ρ, env, h, R, g⟩ => by
    unfold eLenSet at g
    refine ⟨ρ, env, h, R, ?_⟩
    cases e : m env h with
    | exc x h1 => rw [e] at g; exact g
    | bad => rw [e] at g; exact g.elim
    | ok rv h1 =>
      rw [e] at g
      dsimp only at g
      refine Post.ofVl ?_
      split at g
      · rename_i ds e1
        split at g
        · rename_i rs e2
          split at g
          · rename_i hl
            rw [e1]
            intro ρ' H' v ok S r
            cases r with
            | tup s ss =>
              obtain ⟨ks, rfl, rfl, hk⟩ := rowsD_rd ss e2
              refine ⟨_, ks, rfl, s, hk, by simpa using hl, fun L h1 h2 h3 => ?_⟩
              rw [distinct_len (l := ks.map (·.2)) h1 fun x => ⟨fun z => h2 x z, fun z => ?_⟩]
              · exact g ρ' H' _ ok S (.int _)
              · obtain ⟨p, hp, rfl⟩ := List.mem_map.mp z
                exact h3 p hp
          · exact g.elim
        · exact g.elim
      · exact g.elim

/-! ### len({e for ..}) -/
/-- an object that no datum tells -/
structure Aside (ρ : Own) (H : Hp) (p : Addr) : Prop where
  ext : ∃ φ, H p = some (.ext φ)
  nc : ¬ COwned ρ p
mutual
theorem RD.aside {p : Addr} (o : Aside ρ H p) : ∀ {d : D} {v : V}, RD K mg ρ H d v → RD K mg ρ (era H p) d v
  | _, _, .non => .non
  | _, _, .bl b => .bl b
  | _, _, .int i => .int i
  | _, _, .str x => .str x
  | _, _, .ty n => .ty n
  | _, _, .gl e => .gl e
  | _, _, .tup (a := a) h hs => by
    refine .tup ?_ (RDs.aside o hs)
    obtain ⟨xs, e⟩ := o.ext
    rcases h with (s | ⟨u, s⟩) | s
    · have ne : a ≠ p := fun z => by subst z; rw [e] at s; cases s
      exact .inl (.inl ((era_ne ne).trans s))
    · have ne : a ≠ p := fun z => by subst z; rw [e] at s; cases s
      exact .inl (.inr ⟨u, (era_ne ne).trans s⟩)
    · exact .inr s
  | _, _, .lst (a := a) h no hs => by
    obtain ⟨xs, e⟩ := o.ext
    have ne : a ≠ p := fun z => by subst z; rw [e] at h; cases h
    exact .lst ((era_ne ne).trans h) no (RDs.aside o hs)
  | _, _, .scr (a := a) h hs => by
    obtain ⟨xs, e⟩ := o.ext
    exact .scr (h.at fun u q => (era_ne fun z => by subst z; rw [e] at q; cases q).trans q) (RDs.aside o hs)
  | _, _, .dct (a := a) h l no hs => by
    obtain ⟨xs, e⟩ := o.ext
    have ne : a ≠ p := fun z => by subst z; rw [e] at h; cases h
    exact .dct ((era_ne ne).trans h) l no (RDs.aside o hs)
theorem RDs.aside {p : Addr} (o : Aside ρ H p) : ∀ {ds : List D} {vs : List V}, RDs K mg ρ H ds vs → RDs K mg ρ (era H p) ds vs
  | _, _, .nil => .nil
  | _, _, .cons h hs => .cons (RD.aside o h) (RDs.aside o hs)
end
theorem Inners.aside {p : Addr} (o : Aside ρ H p) : ∀ {rows : List (List D)} {as : List Addr}, Inners K mg ρ H rows as → (∀ a ∈ as, a ≠ p) → Inners K mg ρ (era H p) rows as
  | _, _, .nil, _ => .nil
  | _, _, .cons e r rs, ne => .cons ((era_ne (ne _ List.mem_cons_self)).trans e) (r.aside o) (Inners.aside o rs fun a ha => ne a (List.mem_cons_of_mem _ ha))
theorem HeapOk.aside {p : Addr} (ok : HeapOk K mg ρ h H) (o : Aside ρ H p) : HeapOk K mg ρ h (era H p) where
  len := ok.len
  nd := ok.nd
  mutb := fun a oa => by
    have ne : a ≠ p := fun z => by subst z; exact o.nc oa
    rw [era_ne ne]; exact ok.mutb a oa
  fbd := fun a ha => by
    obtain ⟨h3, xs, h4⟩ := ok.fbd a ha
    obtain ⟨φ, e⟩ := o.ext
    have ne : a ≠ p := fun z => by subst z; rw [e] at h4; cases xs <;> cases h4
    exact ⟨h3, xs, (era_ne ne).trans h4⟩
  cell := fun n c e => by
    obtain ⟨l, e1, e2⟩ := ok.cell n c e
    refine ⟨l, e1, ?_⟩
    cases e2 with
    | dead => exact .dead
    | lst e3 rs =>
      rename_i q ds vs
      have ne : q ≠ p := fun z => by subst z; exact o.nc ⟨n, _, e1, by simp⟩
      exact .lst ((era_ne ne).trans e3) (rs.aside o)
    | lls e3 rs nd =>
      exact .lls ((era_ne fun z => by subst z; exact o.nc ⟨n, _, e1, List.mem_cons_self⟩).trans e3) (Inners.aside o rs fun a ha z => by subst z; exact o.nc ⟨n, _, e1, List.mem_cons_of_mem _ ha⟩) nd
    | dct e3 l rs =>
      exact .dct ((era_ne fun z => by subst z; exact o.nc ⟨n, _, e1, List.mem_cons_self⟩).trans e3) l (rs.aside o)
theorem Step.aside {p : Addr} {o : HO} (S : Step ρ (upd H p o) ρ' H') (hp : H p = none) : Step ρ H ρ' (era H' p) where
  keep := fun a u e no => by
    have ne : a ≠ p := ne_of_none e hp
    rw [era_ne ne]
    exact S.keep a u (upd_keep hp a u e) no
  own := fun a oa => by
    rcases S.own a oa with q | q
    · exact .inl q
    · by_cases e : a = p
      · subst e; rw [upd_same] at q; cases q
      · rw [upd_ne e] at q; exact .inr q
  pre := S.pre
  fbi := S.fbi
  fbo := fun a ha => by
    rcases S.fbo a ha with q | q
    · exact .inl q
    · by_cases e : a = p
      · subst e; rw [upd_same] at q; cases q
      · rw [upd_ne e] at q; exact .inr q
theorem aside_of {p : Addr} {φ : Heap → Prop} (S : Step ρ (upd H p (.ext φ)) ρ' H') (ok : HeapOk K mg ρ' h' H') (nc : ¬ COwned ρ p) : Aside ρ' H' p ∧ H' p = some (.ext φ) := by
  have e := S.keep p _ upd_same nc
  exact ⟨⟨⟨φ, e⟩, fun c => by have q := ok.mutb p c; rcases S.own p c with z | z; exact nc z; rw [upd_same] at z; cases z⟩, e⟩
theorem compL_pre {g : Gx} {t : Tx} {e : Ex} {env : Nv} : ∀ {ds acc : List D} {h h2 : Hs} {rs : List D}, compL g t e env acc ds h = .ok rs h2 → ∃ more, rs = acc ++ more
  | [], acc, h, h2, rs, q => by unfold compL at q; cases q; exact ⟨[], by simp⟩
  | d :: ds, acc, h, h2, rs, q => by
    unfold compL at q
    split at q
    · split at q
      · split at q
        · obtain ⟨m, e⟩ := compL_pre q
          exact ⟨_, by rw [e, List.append_assoc]⟩
        · cases q
      · exact compL_pre q
      · cases q
    · cases q
theorem intsD_app : ∀ {a b : List D} {is : List Int}, intsD (a ++ b) = some is → ∃ ia ib, intsD a = some ia ∧ intsD b = some ib ∧ is = ia ++ ib
  | [], b, is, e => ⟨[], is, rfl, e, rfl⟩
  | d :: a, b, is, e => by
    rw [List.cons_append] at e
    unfold intsD at e
    split at e
    · rename_i heq; cases heq
    · rename_i heq
      cases heq
      split at e
      · rename_i q
        cases e
        obtain ⟨ia, ib, e1, e2, rfl⟩ := intsD_app q
        exact ⟨_, ib, by unfold intsD; rw [e1], e2, rfl⟩
      · cases e
    · cases e
theorem intsD_int : ∀ is : List Int, intsD (is.map D.int) = some is
  | [] => rfl
  | i :: is => by
    rw [List.map_cons]
    unfold intsD
    rw [intsD_int is]
theorem distinct_le {α : Type} [DecidableEq α] : ∀ l acc : List α, (l.foldl dsn acc).length ≤ acc.length + l.length
  | [], acc => by simp
  | k :: l, acc => by
    rw [List.foldl_cons]
    have q := distinct_le l (dsn acc k)
    rw [dsn_len] at q
    rw [List.length_cons]
    split at q <;> omega
/-- len({e for .. in .. if ..}) -/
def eLenSc (vs : List Nat) (it : Ix) (g : Gx) (t : Tx) (e : Ex) : Ex := fun env h => match it env h with
  | .ok ds h1 => if ds.length + 1 < scanBound then (match compL g t e (wipeE env vs) [] ds h1 with
    | .ok rs h2 => (match intsD rs with
      | some is => .ok (.val (.int (distinct is).length)) h2
      | none => .bad)
    | _ => .bad) else .bad
  | .exc x h1 => .exc x h1
  | .bad => .bad
def setI (w : World) (p : Addr) (acc : List Int) : HO := SetO w p (fun j => decide (j ∈ acc)) (distinct acc).length
theorem setI_add {w : World} {p : Addr} {acc : List Int} {c : Int} : SetO w p (fun j => decide (j ∈ acc) || decide (j = c)) (if decide (c ∈ acc) = true then (distinct acc).length else (distinct acc).length + 1) = setI w p (acc ++ [c]) := by
  unfold setI
  have e1 : (fun j => decide (j ∈ acc) || decide (j = c)) = fun j => decide (j ∈ acc ++ [c]) := by
    funext j
    simp [List.mem_append]
  rw [e1, distinct_snoc, dsn_len]
  congr 1
  by_cases hc : c ∈ acc
  · rw [if_pos (decide_eq_true hc), if_pos (mem_distinct.mpr hc)]
  · rw [if_neg (fun z => hc (of_decide_eq_true z)), if_neg (fun z => hc (mem_distinct.mp z))]
theorem sc_read {it : Ix} {ix vs : List Nat} {g : Gx} {t : Tx} {e : Ex} {σ : Slots} {Q : VK} (hix : ∀ i ∈ ix, i ∈ vs) (tr : Tr X.K X.mg W (eLenSc vs it g t e) σ H Q) :
    EvS.tLenO X.w (EvS.tScI X.w (TrI X.K X.mg W it) (TrG X.K X.mg ix g) (TrB X.K X.mg W0 t) (Tr X.K X.mg W0 e) vs) σ H Q := by
  obtain ⟨ρ, env, h, R, gd⟩ := tr
  refine ⟨ρ, env, h, R, ?_⟩
  unfold eLenSc at gd
  cases q : it env h with
  | exc x h1 => rw [q] at gd; exact gd
  | bad => rw [q] at gd; exact gd.elim
  | ok ds h1 =>
    rw [q] at gd
    dsimp only at gd
    split at gd
    case isFalse => exact gd.elim
    rename_i hsz
    intro ρ1 H1 J ok S wk p hp
    have en1 : EnvOk X.K X.mg ρ1 env σ H1 := R.env.step R.hp S
    let Fin : Own → Hp → Res (List D) → Prop := fun ρ' H' r => match r with
      | .ok rs h2 => ∃ is, intsD rs = some is ∧ Post X.K X.mg ρ' H' h2 Q (.val (.int (distinct is).length))
      | _ => False
    have later : ∀ {ρ' ρ2 : Own} {H' H2 : Hp} {r : Res (List D)}, Step ρ' H' ρ2 H2 → Fin ρ' H' r → Fin ρ2 H2 r := fun {ρ' ρ2 H' H2 r} S f => by
      cases r with
      | ok rs h2 =>
        obtain ⟨is, e1, z⟩ := f
        exact ⟨is, e1, Post.later S z⟩
      | exc x h2 => exact f
      | bad => exact f
    have start : Fin ρ1 H1 (compL g t e (wipeE env vs) (([] : List Int).map D.int) ds h1) := by
      rw [List.map_nil]
      cases q2 : compL g t e (wipeE env vs) [] ds h1 with
      | ok rs h2 =>
        rw [q2] at gd
        dsimp only at gd
        split at gd
        · rename_i is e1
          exact ⟨is, e1, Post.later S gd⟩
        · exact gd.elim
      | exc x h2 => rw [q2] at gd; exact gd.elim
      | bad => rw [q2] at gd; exact gd.elim
    refine ⟨fun i m H => m = ds.length - i ∧ i ≤ ds.length ∧ ∃ (ρ' : Own) (h : Hs) (Hx : Hp) (acc : List Int), H = upd Hx p (setI X.w p acc) ∧ Hx p = none ∧ HeapOk X.K X.mg ρ' h Hx ∧ Step ρ1 H1 ρ' Hx ∧ acc.length ≤ i ∧
      Fin ρ' Hx (compL g t e (wipeE env vs) (acc.map D.int) (ds.drop i) h), ⟨ds.length, rfl, Nat.zero_le _, ρ1, h1, H1, [], ?_, hp, ok, Step.refl _ _, Nat.le_refl _, by rw [List.drop_zero]; exact start⟩, ?_⟩
    · unfold setI
      congr
    rintro i m H2 ⟨rfl, hi, ρ2, h2, Hx, acc, rfl, hx, ok2, S2, hl, f2⟩
    have okA : HeapOk X.K X.mg ρ2 h2 (upd Hx p (setI X.w p acc)) := ok2.new hx
    have SA : Step ρ1 H1 ρ2 (upd Hx p (setI X.w p acc)) := S2.trans (step_new hx)
    have nc := ok2.notC hx
    obtain ⟨stop, turns⟩ := wk _ h2 _ okA SA.w
    by_cases hlt : i < ds.length
    · have ei : ds[i]? = some ds[i] := List.getElem?_eq_getElem hlt
      obtain ⟨go, yl⟩ := turns i _ ei
      rw [List.drop_eq_getElem_cons hlt] at f2
      unfold compL at f2
      refine .inr ⟨go, fun H' => ∃ (ρ' : Own) (h : Hs) (Hx : Hp) (acc : List Int), H' = upd Hx p (setI X.w p acc) ∧ Hx p = none ∧ HeapOk X.K X.mg ρ' h Hx ∧ Step ρ1 H1 ρ' Hx ∧ acc.length ≤ i + 1 ∧
        Fin ρ' Hx (compL g t e (wipeE env vs) (acc.map D.int) (ds.drop (i + 1)) h), fun H' z => ⟨ds.length - (i + 1), by omega, rfl, hlt, z⟩, fun x H' y => ?_⟩
      obtain ⟨okB, SB, rd⟩ := yl x H' y
      have enB : EnvOk X.K X.mg ρ2 (wipeE env vs) (wipe σ vs) H' := (((en1.step ok S2).step ok2 (step_new hx)).step okA SB).wipe vs
      cases q2 : g ds[i] (wipeE env vs) with
      | none => rw [q2] at f2; exact f2.elim
      | some e1 =>
        rw [q2] at f2
        dsimp only at f2
        refine ⟨ρ2, wipeE env vs, h2, ds[i], e1, ⟨okB, enB⟩, rd, q2, fun σ3 R3 w3 => ⟨(w3 vs hix).trans (wipe_wipe vs fun _ h => h), ρ2, e1, h2, R3, ?_⟩⟩
        have done : ∀ {ρ4 : Own} {h4 : Hs} {H4 : Hp}, HeapOk X.K X.mg ρ4 h4 H4 → Step ρ2 (upd Hx p (setI X.w p acc)) ρ4 H4 → ∀ (acc' : List Int), acc'.length ≤ i + 1 →
            Fin ρ2 Hx (compL g t e (wipeE env vs) (acc'.map D.int) (ds.drop (i + 1)) h4) → ∀ H5, H5 = upd (era H4 p) p (setI X.w p acc') →
            ∃ (ρ' : Own) (h : Hs) (Hx : Hp) (acc : List Int), H5 = upd Hx p (setI X.w p acc) ∧ Hx p = none ∧ HeapOk X.K X.mg ρ' h Hx ∧ Step ρ1 H1 ρ' Hx ∧ acc.length ≤ i + 1 ∧ Fin ρ' Hx (compL g t e (wipeE env vs) (acc.map D.int) (ds.drop (i + 1)) h) :=
          fun {ρ4 h4 H4} ok4 S4 acc' hl' f' H5 e5 => by
            obtain ⟨o4, _⟩ := aside_of S4 ok4 nc
            have SX := S4.aside hx
            exact ⟨ρ4, h4, era H4 p, acc', e5, era_same, ok4.aside o4, S2.trans SX, hl', later SX f'⟩
        cases q3 : t e1 h2 with
        | exc x h3 => rw [q3] at f2; exact f2.elim
        | bad => rw [q3] at f2; exact f2.elim
        | ok k h3 =>
          rw [q3] at f2
          intro ρ4 H4 ok4 S4
          have S4' := SB.trans S4
          have R4 : Rel X.K X.mg ρ4 e1 h3 σ3 H4 := ⟨ok4, R3.env.step R3.hp S4⟩
          cases k with
          | false =>
            rw [if_neg Bool.false_ne_true]
            obtain ⟨o4, e4⟩ := aside_of S4' ok4 nc
            exact done ok4 S4' acc (by omega) f2 H4 (upd_self e4).symm
          | true =>
            rw [if_pos rfl]
            refine ⟨ρ4, e1, h3, R4, ?_⟩
            dsimp only at f2
            cases q5 : e e1 h3 with
            | exc x h5 => rw [q5] at f2; exact f2.elim
            | bad => rw [q5] at f2; exact f2.elim
            | ok rv h5 =>
              rw [q5] at f2
              dsimp only at f2
              have hint : ∃ c : Int, rv.vl = .int c := by
                cases q6 : compL g t e (wipeE env vs) (acc.map D.int ++ [rv.vl]) (ds.drop (i + 1)) h5 with
                | ok rs h6 =>
                  rw [q6] at f2
                  obtain ⟨is, e7, _⟩ := f2
                  obtain ⟨more, rfl⟩ := compL_pre q6
                  obtain ⟨ia, _, e8, _, _⟩ := intsD_app e7
                  obtain ⟨_, ib, _, e9, _⟩ := intsD_app e8
                  unfold intsD at e9
                  split at e9
                  · rename_i heq; cases heq
                  · rename_i c _ heq
                    injection heq with heq
                    exact ⟨c, heq⟩
                  · cases e9
                | exc x h6 => rw [q6] at f2; exact f2.elim
                | bad => rw [q6] at f2; exact f2.elim
              obtain ⟨c, hcv⟩ := hint
              refine Post.ofVl fun ρ6 H6 v ok6 S6 r6 => ?_
              rw [hcv] at r6 f2
              cases r6
              have S6' := S4'.trans S6
              obtain ⟨o6, e6⟩ := aside_of S6' ok6 nc
              have hdl : (distinct acc).length ≤ acc.length := by
                have := distinct_le acc []
                unfold distinct
                simpa using this
              refine ⟨c, _, _, rfl, e6, by omega, ?_⟩
              refine done ok6 S6' (acc ++ [c]) (by simp; omega) (by rw [List.map_append]; exact f2) _ ?_
              rw [upd_era]
              exact congrArg (upd H6 p) setI_add
    · have e : i = ds.length := by omega
      subst e
      rw [List.drop_length] at f2
      unfold compL at f2
      obtain ⟨is, e1, ps⟩ := f2
      rw [intsD_int] at e1
      cases e1
      exact .inl ⟨stop, p, _, _, rfl, upd_same, ps ρ2 _ _ okA (step_new hx) (.int _)⟩
theorem v_lenSc {elt tg iter : Expr} {ifs : List Expr} {scope : Scope} {own : List (Str × Nat)} {it : Ix} {ix : List Nat} {g : Gx} {t : Tx} {e : Ex} {p pos2 : Pos} (hc : X.calm = true) (hN : X.N.Nodup) (hm : X.mg "len" = none) (hi : PIx X W tg iter it) (ok : BlkOk X.N X.env.scope scope own) (hix : ∀ i ∈ ix, i ∈ own.map (·.2))
    (hg : ∀ (s : Shared) (H : Hp) (C : Addr) (cl : List (Str × Addr)) (fp : List Addr), PGx (X.blk s H scope (compEnvC scope cl C X.env) fp) tg ix g) (ht : ∀ (s : Shared) (H : Hp) (C : Addr) (cl : List (Str × Addr)) (fp : List Addr), PTx (X.blk s H scope (compEnvC scope cl C X.env) fp) W0 ifs t)
    (he : ∀ (s : Shared) (H : Hp) (C : Addr) (cl : List (Str × Addr)) (fp : List Addr), PV (X.blk s H scope (compEnvC scope cl C X.env) fp) W0 elt e) (hgl : Gl X "len" := by rfl) (hs : ∀ x, foldedSetIterable iter X.env x = pure x := by intro _; rfl)
    (na : starEach [.SetComp elt [⟨tg, iter, ifs, 0⟩] scope pos] X.env = (false, eval (.SetComp elt [⟨tg, iter, ifs, 0⟩] scope pos) X.env) :: starEach [] X.env := by rfl) :
    PV X W (.Call (.Name "len" p) [.SetComp elt [⟨tg, iter, ifs, 0⟩] scope pos] [] pos2) (eLenSc (own.map (·.2)) it g t e) :=
  PE.imp (EvS.pe_lenO hm (EvS.pe_scI hc hN hi ok hg ht he hs) hgl na) fun σ H Q tr => sc_read hix tr
end
end Ev
end
section
set_option Elab.async false
set_option linter.all false
set_option maxRecDepth 100000
set_option maxHeartbeats 4000000
/-! Ev12: functions in the knowledge that no repr is under way (FnG: L2.FnOk with the guards known), repr.
(fnG_of and law_callG turn the proofs of L2.fn_of and L2.law_call to FnG.) -/
namespace EvS
open PySem PySem.Spec PyProof.Rows L2
structure FnG (P : Program) (w : World) (K : PySem.W.Frag) (mg : Str → Option Value) (base : Heap) (CX : CXT) (k : Nat) (f : Addr) (fd : FuncData) (ps : List Str) (sp : Sp) : Prop where
  len : ∀ vs H Q E, sp vs H Q E → vs.length = ps.length
  run : ∀ (A : Around) (outer : List Env) (s : Shared) (H : Hp) (args : Args) (us : List Value) (vs : List V) (Q : VK) (E : XK), Room k A → A.guards = some [] → Env0 P w K mg base A outer s H → BindsTo s fd args (ps.zip us) → Vals vs us → sp vs H Q E →
    codeAny (model P w) A (.call (.ref f) args) (CR CX outer P w H s Q E) s
theorem FnG.mono {P : Program} {w : World} {K : PySem.W.Frag} {mg : Str → Option Value} {base : Heap} {CX : CXT} {j k : Nat} {f : Addr} {fd : FuncData} {ps : List Str} {sp : Sp} (F : FnG P w K mg base CX j f fd ps sp) (h : j ≤ k) :
    FnG P w K mg base CX k f fd ps sp := ⟨F.len, fun A outer s H args us vs Q E hr => F.run A outer s H args us vs Q E (hr.mono h)⟩
theorem FnG.imp {P : Program} {w : World} {K : PySem.W.Frag} {mg : Str → Option Value} {base : Heap} {CX : CXT} {k : Nat} {f : Addr} {fd : FuncData} {ps : List Str} {sp sp' : Sp} (F : FnG P w K mg base CX k f fd ps sp)
    (h : ∀ vs H Q E, sp' vs H Q E → sp vs H Q E) : FnG P w K mg base CX k f fd ps sp' :=
  ⟨fun vs H Q E q => F.len vs H Q E (h _ _ _ _ q), fun A outer s H args us vs Q E hr hG he hb hv hs => F.run A outer s H args us vs Q E hr hG he hb hv (h _ _ _ _ hs)⟩
theorem fnG_of {CX : CXT} {P : Program} {w : World} {K : PySem.W.Frag} {mg : Str → Option Value} {base : Heap} {k : Nat} {f : Addr} {name qual : Str} {params : Arguments} {body : List Stmt} {scope : Scope} {dV kV doc pm cdv ct oc : Value} {an od : Option Addr}
    {osl : Array (Option Value)} {N ps : List Str} {sp : Sp} (lk : K.lookup f = some ⟨oc, od, .func (PySem.W.fnOf name qual params body scope dV kV doc pm an cdv ct), osl⟩) (hcd : PySem.W.codeIn K cdv qual = true) (S : FnScope N ps scope)
    (len : ∀ vs H Q E, sp vs H Q E → vs.length = ps.length)
    (hbody : ∀ (A : Around) (outer : List Env) (s : Shared) (H : Hp) (vs : List V) (Q : VK) (E : XK), Room k (A.deeper (envOfC qual scope s.heap.objs.size f cdv)) → A.guards = some [] → sp vs H Q E →
      ∃ t, PSs (cxOf CX P w K mg base N qual scope f cdv A outer s H E) body t ∧ t { nx := fun _ H' => Q .non H', rt := Q } (start N vs) H) :
    FnG P w K mg base CX (k + 1) f (PySem.W.fnOf name qual params body scope dV kV doc pm an cdv ct) ps sp := by
  refine ⟨len, fun A outer s H args us vs Q E hr hG e0 hb r hsp => ?_⟩
  have hl := len _ _ _ _ hsp
  have KX : K.In s.heap := e0.mod.kin.keeps fun b o e => (e0.bs b o e).1
  have lim : s.heap.NoLimit := e0.mod.nolimit.keeps fun b o e => (e0.bs b o e).1
  have hkind : ∀ y ∈ ps.zip us, scope.names.lookup y.1 = some .local ∨ (scope.names.lookup y.1 = some .cell ∧ ((cellsFrom (s.heap.objs.size + 1) scope.names []).lookup y.1).isSome = true) := fun ⟨n, v⟩ hy => by
    rcases S.par n (List.of_mem_zip hy).1 with q | q
    · exact .inl q
    · exact .inr ⟨q, PySem.W.cellsFrom_some _ _ _ (.inl q)⟩
  refine codeAny_call_function hr.depth (KX _ _ lk) rfl S.co S.gen rfl (PySem.W.codeRec_of KX hcd) (hb _ _ _ _ ?_)
  refine wpAny_newFunctionEnv_cells S.kind hkind fun env he s1 x => ?_
  subst he
  refine ⟨lim.keeps x.toInCall.keep, codeAny_func ?_⟩
  obtain ⟨t, ht, hq⟩ := hbody A outer s H vs Q E (hr.deeper _) hG hsp
  have I : Inv (cxOf CX P w K mg base N qual scope f cdv A outer s H E) [] (start N vs) H s1 := inv_start S hr.hd e0 hl r x
  refine wpAny_mono (ht.run [] s1 (start N vs) H _ I hq) (fun fl s' hs => ?_) fun e s' hs => hs
  have fin : ∀ {σ' : L2.St} {H' : Hp} {v : V} {u : Value}, Inv (cxOf CX P w K mg base N qual scope f cdv A outer s H E) [] σ' H' s' → RelV v u → Q v H' → CE outer P w H s Q u s' :=
    fun {σ' H' v u} J rv q => ⟨v, H', J.os, J.bare, J.base, J.hok, rv, q⟩
  cases fl with
  | ret u =>
    obtain ⟨v, σ', H', J, rv, q⟩ := hs
    exact fin J rv q
  | next =>
    obtain ⟨σ', H', J, q⟩ := hs
    exact fin (v := V.non) (u := Value.none) J rfl q
  | brk =>
    obtain ⟨_, _, _, q⟩ := hs
    exact False.elim q
  | cont =>
    obtain ⟨_, _, _, q⟩ := hs
    exact False.elim q

theorem FunG {P : Program} {w : World} {K : PySem.W.Frag} {mg : Str → Option Value} {base : Heap} {x qual : Str} {st : Stmt} {f : Addr} {fd : FuncData} {N ps : List Str} {k : Nat} {sp : Sp} (F : Fun K x qual st f fd) (S : FnScope N ps (defScope st)) (len : ∀ vs H Q E, sp vs H Q E → vs.length = ps.length)
    (hbody : ∀ (cdv : Value) (A : Around) (outer : List Env) (s : Shared) (H : Hp) (vs : List V) (Q : VK) (E : XK), Room k (A.deeper (envOfC qual (defScope st) s.heap.objs.size f cdv)) → A.guards = some [] → sp vs H Q E →
      ∃ t, PSs (cxOf (L2.CX P w) P w K mg base N qual (defScope st) f cdv A outer s H E) (defBody st) t ∧ t { nx := fun _ H' => Q .non H', rt := Q } (start N vs) H) : FnG P w K mg base (L2.CX P w) (k + 1) f fd ps sp := by
  obtain ⟨oc, od, kV, doc, pm, an, cdv, ct, osl, rfl, lk, hcd⟩ := F.ex
  exact fnG_of lk hcd S len fun A outer s H vs Q E hr hG hsp => hbody cdv A outer s H vs Q E hr hG hsp
section
variable {X : Cx} {CX : CXT} {k : Nat} {f : Addr} {fd : FuncData} {ps : List Str} {sp : Sp} {dvs : List V} {ds : List Value} {E : L2.St → XK} {x : Str} {p pos : Pos} {e : Expr} {es : List Expr} {t : TA}
theorem run_G {pins : List (Addr × Obj)} {σ : L2.St} {H : Hp} {s : Shared} {Q : VK} {us : List Value} {vs : List V} (F : FnG X.prog X.w X.K X.mg X.base CX k f fd ps sp) (hr : Room k X.A) (hG : X.A.guards = some []) (hb : Binds X.K fd ps ds) (hd : Vals dvs ds) (hx : PassesAt CX X σ (E σ))
    (I : Inv X pins σ H s) (r : Vals vs us) (h : sp (vs ++ dvs) H Q (E σ)) : wpAny (model X.prog X.w) X.A (call (.ref f) us) (EP X pins σ Q) X.xe s := by
  have r2 : Vals (vs ++ dvs) (us ++ ds) := r.append hd
  have hl : (us ++ ds).length = ps.length := by rw [← r2.length]; exact F.len _ _ _ _ h
  refine wpAny_call (codeAny_mono (F.run X.A X.stack s H ⟨us, []⟩ (us ++ ds) (vs ++ dvs) Q (E σ) hr hG I.env0 (hb s us I.kIn hl) r2 h) fun r s' hq => ?_)
  cases r with
  | error e => exact hx pins H s e s' I hq
  | ok fl =>
    cases fl with
    | ret u => exact I.after hq
    | next => exact False.elim hq
    | brk => exact False.elim hq
    | cont => exact False.elim hq
theorem pe_callG (F : FnG X.prog X.w X.K X.mg X.base CX k f fd ps sp) (hr : Room k X.A) (hG : X.A.guards = some []) (hg : Gl X x) (hm : X.mg x = some (.ref f)) (hk : PySem.W.keepIn X.K (.ref f) = true) (hb : Binds X.K fd ps ds) (hd : Vals dvs ds) (hx : ∀ σ, PassesAt CX X σ (E σ))
    (ha : PA X (e :: es) t) (hdb : (x == ("__debug__" : Str)) = false := by decide) (he : starEach (e :: es) X.env = (false, eval e X.env) :: starEach es X.env := by rfl) (hpl : (backTo pos (starEach es X.env)).any (·.1) = false := by rfl) :
    PE X (.Call (.Name x p) (e :: es) [] pos) (tCallSD sp dvs E t) := by
  refine ⟨fun pins s σ H Q I h => ?_⟩
  refine wpAny_Call_Name_kw (ld_glob I hg hm ?_ hdb)
  refine PySem.W.callWith_K (h₀ := X.base) I.ok.mod.kin hk (thn (ha.run pos pins s σ H _ I h) fun us s1 ⟨vs, H1, I1, r, q⟩ => ⟨I1.kIn, ?_⟩) he hpl
  exact run_G F hr hG hb hd (hx σ) I1 r q
theorem pe_callG0 (F : FnG X.prog X.w X.K X.mg X.base CX k f fd ps sp) (hr : Room k X.A) (hG : X.A.guards = some []) (hg : Gl X x) (hm : X.mg x = some (.ref f)) (hk : PySem.W.keepIn X.K (.ref f) = true) (hb : Binds X.K fd ps ds) (hd : Vals dvs ds) (hx : ∀ σ, PassesAt CX X σ (E σ))
    (hdb : (x == ("__debug__" : Str)) = false := by decide) : PE X (.Call (.Name x p) [] [] pos) (tCallSD sp dvs E tNil) := by
  refine ⟨fun pins s σ H Q I h => ?_⟩
  refine wpAny_Call_Name_kw (ld_glob I hg hm ?_ hdb)
  exact PySem.W.callWith_K0 I.kIn hk (run_G (us := []) F hr hG hb hd (hx σ) I .nil h)
end
/-! ### the law's end -/
theorem law_callG {P : Program} {w : World} {K : PySem.W.Frag} {mg mb : Str → Option Value} {CX : CXT} {k : Nat} {fa a : Addr} {x : Str} {sp : Sp} {s₁ : Shared} {vs : List Value} {ns : List Int}
    (KX : K.In s₁.heap) (hns : s₁.heap.Ns mainGlobals mg) (hb : s₁.heap.Ns builtinsNs mb) (hbb : ∀ x : Str, x ≠ "__name__" → mb x = bootBuiltins x) (hlim : s₁.heap.NoLimit) (hg : s₁.gens = #[])
    (ha : s₁.heap.get? a = some { cls := .type "list", data := .seq vs.toArray }) (hi : IntsAre vs ns) (hl : ns.length ≤ sizeLine) (hr : Room k callerA)
    (F : ∀ base : Heap, K.In base → base.Ns mainGlobals mg → ∃ fd : FuncData, (∀ (s : Shared) (u : Value), BindsTo s fd ⟨[u], []⟩ [(x, u)]) ∧ FnG P w K mg base CX k fa fd [x] sp)
    (hsp : ∀ H : Hp, Only H → SqL K H a (ns.map V.int) → sp [.ref a] H (fun v _ => v = .bl true) fun _ _ _ => False)
    (hCX : ∀ H e s', CX [] H s₁ (fun _ _ _ => False) e s' → False) :
    codeAny (model P w) callerA (.call (.ref fa) ⟨[.ref a], []⟩) (fun r s' => r = .ok (.ret (.bool true)) ∧ OldK s₁.heap s'.heap ∧ s'.os = s₁.os ∧ AllBare s'.gens) s₁ := by
  have rv := vals_ints hi
  have lenV := hi.length
  -- from an abstract heap in which nothing but the script may be tracked
  have core : ∀ H : Hp, Only H → SqL K H a (ns.map V.int) → HOk P w H s₁.heap → (∀ b, H b ≠ none → b = a) → (H a ≠ none → K.lookup a = none) →
      codeAny (model P w) callerA (.call (.ref fa) ⟨[.ref a], []⟩) (fun r s' => r = .ok (.ret (.bool true)) ∧ OldK s₁.heap s'.heap ∧ s'.os = s₁.os ∧ AllBare s'.gens) s₁ := by
    intro H hO hS hok hA hK
    have base_of : ∀ {b : Addr} {o : Obj}, s₁.heap.get? b = some o → H b = none → (hidT s₁.heap H).get? b = some o := fun e n => hidT_get e n
    have noA : ∀ {b : Addr} {o : Obj} {es : Array DictEntry} {ep : Nat}, s₁.heap.get? b = some o → o.data = .dict es ep → H b = none := fun {b o es ep} e d => by
      cases q : H b with
      | none => rfl
      | some u =>
        have e' : b = a := hA b (by rw [q]; simp)
        subst e'
        rw [ha] at e; cases e
        have d' : Data.seq vs.toArray _ = Data.dict es ep := d
        cases d'
    have nsK : ∀ {b : Addr} {m : Str → Option Value}, s₁.heap.Ns b m → (hidT s₁.heap H).Ns b m := fun {b m} ⟨o, es, ep, e, d, r⟩ => ⟨o, es, ep, base_of e (noA e d), d, r⟩
    have hKb : K.In (hidT s₁.heap H) := fun b o e => base_of (KX b o e) (by
      cases q : H b with
      | none => rfl
      | some u =>
        have e' : b = a := hA b (by rw [q]; simp)
        subst e'
        rw [hK (by rw [q]; simp)] at e; cases e)
    have hM : Mod K mg (hidT s₁.heap H) := ⟨hKb, nsK hns, ⟨mb, nsK hb, hbb⟩, let ⟨mc, h1, h2⟩ := hlim; ⟨mc, nsK h1, h2⟩⟩
    have e0 : Env0 P w K mg (hidT s₁.heap H) callerA [] s₁ H := ⟨rfl, hM, fun b o e => of_hidT e, Nat.le_of_eq (hidT_size _ _), trivial, fun b hb => absurd (show b ∈ ([] : List Addr) from hb) (by simp), hok, .of_eq hg⟩
    obtain ⟨fd, hbind, F1⟩ := F _ hKb (nsK hns)
    refine codeAny_mono (F1.run callerA [] s₁ H ⟨[.ref a], []⟩ [.ref a] [.ref a] _ _ hr rfl e0 (hbind s₁ (.ref a)) (.cons rfl .nil) (hsp H hO hS)) fun r s' h => ?_
    cases r with
    | error e => exact (hCX H e s' h).elim
    | ok fl =>
      cases fl with
      | next => exact False.elim h
      | brk => exact False.elim h
      | cont => exact False.elim h
      | ret u =>
        obtain ⟨v, H', os, bare, un, hok', r', q⟩ := h
        have q' : v = .bl true := q
        subst q'
        obtain rfl : u = Value.bool true := r'
        refine ⟨rfl, OldK.of_keep fun b o e => ?_, os, bare⟩
        cases q : H b with
        | none => exact un.keep b o e q (by intro z; exact absurd (show b ∈ ([] : List Addr) from z) (by simp)) (by simp)
        | some u =>
          rcases hO b with z | ⟨ob, xs, z⟩
          · rw [q] at z; cases z
          · have z2 := un.frzs b ob _ z
            obtain ⟨e1, _⟩ := hok b _ z
            obtain ⟨e2, _⟩ := hok' b _ z2
            rw [e] at e1; cases e1
            exact e2
  cases hk : K.lookup a with
  | some o =>
    -- the script is one of the module's own objects
    have e := KX a o hk
    rw [ha] at e
    cases e
    refine core (fun _ => none) (fun _ => .inl rfl) (.inr ⟨_, vs.toArray, _, hk, rfl, rfl, rfl, by rw [List.size_toArray, lenV]; exact hl, by simpa using rv⟩) (fun b u z => by have z' : (none : Option HO) = some u := z; cases z') (fun b z => absurd rfl z) fun z => absurd rfl z
  | none =>
    refine core (fun b => if b = a then some (.frz { cls := .type "list", data := .seq vs.toArray } (.lst (ns.map V.int))) else none) (fun b => ?_) (.inl (.inr ⟨{ cls := .type "list", data := .seq vs.toArray }, if_pos rfl⟩)) (fun b u z => ?_) (fun b z => ?_) fun _ => hk
    · by_cases hb : b = a
      · exact .inr ⟨_, _, if_pos hb⟩
      · exact .inl (if_neg hb)
    · by_cases hb : b = a
      · have z' := (if_pos hb).symm.trans z
        cases z'
        subst hb
        exact ⟨ha, by rw [List.length_map]; exact hl, vs, _, rv, ha⟩
      · have z' := (if_neg hb).symm.trans z
        cases z'
    · by_cases hb : b = a
      · exact hb
      · exact absurd (if_neg hb) z

theorem walk_ofG {l : PySem.W.OpenLaw} {n k : Nat} {q : Program} {loose : List Str} {XP : (Str → Option Value) → Heap → Prop} {YP : World → Heap → Prop} {d : DefRec} {K : Params → PySem.W.Frag} {CX : World → CXT} {sp : World → (Str → Option Value) → Sp} {x : Str}
    (hn : l.most = some n) (hn2 : n ≤ sizeLine) (hdf : d.params.defaults = []) (hr : Room k callerA)
    (hY : ∀ (w : World) (h : Heap), YP w h → (K w.params).In h)
    (F : ∀ (w : World) (mg : Str → Option Value) (fa : Addr) (h : Heap), (K w.params).In h → h.Ns mainGlobals mg → mg d.name = some (.ref fa) →
      ∀ base : Heap, (K w.params).In base → base.Ns mainGlobals mg → ∃ fd : FuncData, (∀ (s : Shared) (u : Value), BindsTo s fd ⟨[u], []⟩ [(x, u)]) ∧ FnG l.prog w (K w.params) mg base (CX w) k fa fd [x] (sp w mg))
    (hsp : ∀ (w : World) (mg : Str → Option Value) (H : Hp) (a : Addr) (ns : List Int), ns.length ≤ n → Only H → SqL (K w.params) H a (ns.map V.int) → sp w mg [.ref a] H (fun v _ => v = .bl true) fun _ _ _ => False)
    (hCX : ∀ (w : World) (H : Hp) (s : Shared) (e : Value) (s' : Shared), CX w [] H s (fun _ _ _ => False) e s' → False) :
    PySem.W.WalkO q loose XP YP l.row.toRowW d [] (fun f vs => PySem.call f vs) := by
  refine Att.attach_call hn hdf fun w s₀ s₁ mg mb fa o pm cd doc a vs ns G Y ho hd hcd hmg hobj hints hlen hg => ?_
  have KX := hY w _ Y
  exact law_callG KX G.T.g G.T.b G.T.builtins G.T.nolimit hg hobj hints (Nat.le_trans hlen hn2) hr (F w mg fa _ KX G.T.g hmg) (fun H hO hS => hsp w mg H a ns hlen hO hS) fun H e s' => hCX w H s₁ e s'

/-! ### repr -/
theorem call_reprD {X : Cx} (hG : X.A.guards = some []) (hu : X.A.units + 64 < cLine) : CallR X (.builtin "repr") (fun xs H Q => ∃ (x : V) (p : PyData), xs = [x] ∧ Dp X.K H x p ∧ p.showable = true ∧ p.hasDict = false ∧ p.depth < 60 ∧ p.shown.length ≤ sizeLine ∧ Q (.str p.shown) H) := by
  intro pins s σ H xs us Q I r h
  obtain ⟨x, p, rfl, dp, h1, h2, h3, h4, q⟩ := h
  cases r with
  | cons r rr =>
    cases rr
    obtain ⟨as, rd⟩ := Dp.reads I p x _ dp r
    have seq : ∀ {a : Addr} {p : PyData}, Reads s.heap (.ref a) p as → p.showable = true → p.hasDict = false → p.depth < 60 → p.shown.length ≤ sizeLine → Q (.str p.shown) H → wpAny (model X.prog X.w) X.A (call (.builtin "repr") [.ref a]) (EP X pins σ Q) X.xe s :=
      fun {a p} rd h1 h2 h3 h4 q => repr_of_reads' rd h1 (fun z => by rw [h2] at z; cases z) hG (by omega) (fun b o e => e) (fun h' u tk k => ⟨.str p.shown, H, I.kept (t' := tk) k, ⟨u, rfl⟩, q⟩) h4
    cases rd with
    | none => exact PySem.P.repr_of_none ⟨.str _, H, I.tok _, ⟨_, rfl⟩, q⟩
    | bool b => exact PySem.P.repr_of_bool ⟨.str _, H, I.tok _, ⟨_, rfl⟩, by simpa [PyData.shown] using q⟩
    | int i t => exact PySem.P.repr_of_int (by simpa [PyData.showable] using h1) ⟨.str _, H, I.tok _, ⟨_, rfl⟩, q⟩
    | str x t => exact PySem.P.repr_of_str ⟨.str _, H, I.tok _, ⟨_, rfl⟩, q⟩ h4
    | list e1 e2 e3 e4 => exact seq (.list e1 e2 e3 e4) h1 h2 h3 h4 q
    | tuple e1 e2 e3 e4 => exact seq (.tuple e1 e2 e3 e4) h1 h2 h3 h4 q
    | dict _ _ _ _ => cases h2
end EvS
end
section
set_option Elab.async false
set_option linter.all false
set_option maxRecDepth 100000
set_option maxHeartbeats 4000000
/-! Ev13: our layer on FnG: a def, a call, repr, list(range(..)), constants of the module, the law's end. -/
namespace Ev
open PySem PySem.Spec L2 EvS
section
variable {X : Cx} {W : WX} {ρ ρ1 ρ' : Own} {H H1 H' : Hp} {h h' : Hs} {Q : VK} {pos : Pos}
section
variable {P : Program} {w : World} {K : PySem.W.Frag} {mg : Str → Option Value} {base : Heap}
theorem fn_okG {x qual : Str} {st : Stmt} {f : Addr} {fd : FuncData} {N ps : List Str} {k : Nat} {m : Sx} (F : Fun K x qual st f fd) (S : FnScope N ps (defScope st))
    (hbody : ∀ (cdv : Value) (A : Around) (outer : List PySem.Env) (s : Shared) (H : Hp) (E : XK), Room k (A.deeper (PyProof.Rows.envOfC qual (defScope st) s.heap.objs.size f cdv)) → A.guards = some [] →
      VSs (cxOf (L2.CX P w) P w K mg base N qual (defScope st) f cdv A outer s H E) (fun c d _ H => E c d H) (defBody st) m) : FnG P w K mg base (L2.CX P w) (k + 1) f fd ps (spOf K mg ps.length (fnE N.length m)) := by
  refine FunG F S (fun vs H Q E h => h.1) fun cdv A outer s H vs Q E hr hG h => ?_
  obtain ⟨hl, ρ, h0, svs, ok, r, g⟩ := h
  refine ⟨_, hbody cdv A outer s H E hr hG, ρ, _, h0, ⟨ok, env_start N r⟩, ?_⟩
  have hn : ρ.cs.length ≤ h0.length := Nat.le_of_eq ok.len
  unfold fnE at g
  cases q : m (svs.map some ++ List.replicate (N.length - svs.length) none) h0 with
  | nx e1 h1 =>
    rw [q] at g
    exact fun ρ' σ' H' R S => g _ H' .non (R.hp.take _) (S.take hn) .non
  | rt rv h1 =>
    rw [q] at g
    exact Post.untake hn g
  | exc x e1 h1 =>
    rw [q] at g
    exact fun ρ' σ' H' C R S e1 e2 => g _ H' C (R.hp.take _) (S.take hn) e1 e2
  | ct e1 h1 => rw [q] at g; exact g.elim
  | bk e1 h1 => rw [q] at g; exact g.elim
  | bad => rw [q] at g; exact g.elim
theorem FnG.eq {f : Addr} {fd : FuncData} {ps : List Str} {k n : Nat} {m m' : Fx} (F : FnG P w K mg base (L2.CX P w) k f fd ps (spOf K mg n m)) (h : ∀ svs hs, svs.length = n → m' svs hs = .bad ∨ m svs hs = m' svs hs) : FnG P w K mg base (L2.CX P w) k f fd ps (spOf K mg n m') :=
  FnG.imp F fun vs H Q E ⟨hl, ρ, h0, svs, ok, r, g⟩ => ⟨hl, ρ, h0, svs, ok, r, by
    rcases h svs h0 (by rw [Paired.length r, hl]) with e | e
    · rw [e] at g; exact g.elim
    · rw [e]; exact g⟩
end
section
variable {y : Str} {p : Pos} {e : Expr} {es : List Expr} {k n : Nat} {f : Addr} {fd : FuncData} {ps : List Str} {m : Fx} {as : As}
theorem callG_read {t : TA} {σ : Slots} (ht : ∀ Z, TrA X.K X.mg W as σ H Z → t σ H Z) (g0 : Tr X.K X.mg W (eCall n m [] as) σ H Q) : tCallSD (spOf X.K X.mg n m) [] (fun σ c d H => W c d σ H) t σ H Q := by
  obtain ⟨ρ, env, h, R, g⟩ := g0
  refine ht _ (TrA.bind R g fun os vs ρ1 h1 H1 A1 g1 => ?_)
  split at g1
  · rename_i svs e1
    split at g1
    · rename_i hl
      have r := svsOf_ok A1.ros e1
      rw [List.append_nil]
      refine ⟨?_, ρ1, h1, _, A1.rel.hp, r, by simpa using g1⟩
      rw [← Paired.length r]
      simpa using hl
    · exact g1.elim
  · exact g1.elim
/-- a def of the module called, all arguments written -/
theorem v_callG (F : FnG X.prog X.w X.K X.mg X.base (L2.CX X.prog X.w) k f fd ps (spOf X.K X.mg n m)) (hr : Room k X.A) (hG : X.A.guards = some []) (hm : X.mg y = some (.ref f)) (hk : PySem.W.keepIn X.K (.ref f) = true) (hb : Binds X.K fd ps [])
    (tk : Takes X W) (ha : PAs X W (e :: es) as) (hg : Gl X y := by rfl) (hdb : (y == ("__debug__" : Str)) = false := by decide)
    (he : starEach (e :: es) X.env = (false, eval e X.env) :: starEach es X.env := by rfl) (hpl : (backTo pos (starEach es X.env)).any (·.1) = false := by rfl) : PV X W (.Call (.Name y p) (e :: es) [] pos) (eCall n m [] as) :=
  PE.imp (pe_callG F hr hG hg hm hk hb .nil (fun σ => passAt tk σ) ha hdb he hpl) fun σ H Q t => callG_read (fun Z z => z) t
theorem v_callG0 (F : FnG X.prog X.w X.K X.mg X.base (L2.CX X.prog X.w) k f fd ps (spOf X.K X.mg n m)) (hr : Room k X.A) (hG : X.A.guards = some []) (hm : X.mg y = some (.ref f)) (hk : PySem.W.keepIn X.K (.ref f) = true) (hb : Binds X.K fd ps [])
    (tk : Takes X W) (hg : Gl X y := by rfl) (hdb : (y == ("__debug__" : Str)) = false := by decide) : PV X W (.Call (.Name y p) [] [] pos) (eCall n m [] aNil) :=
  PE.imp (pe_callG0 F hr hG hg hm hk hb .nil (fun σ => passAt tk σ) hdb) fun σ H Q t => callG_read (as := aNil) (fun Z ⟨ρ, env, h, R, g⟩ => g ρ H [] R.hp (Step.refl _ _) .nil) t
end

/-! ### repr -/
def reprOk (p : PyData) : Bool := p.showable && !p.hasDict && decide (p.depth < 60) && decide (p.shown.length ≤ sizeLine)
def fRepr (d : D) : Option RV := match toPy d with
  | some p => if reprOk p then some (.val (.str p.shown)) else none
  | none => none
abbrev bRepr : List D → Option RV := fun ds => match ds with | [d] => fRepr d | _ => none
theorem c_repr (hG : X.A.guards = some []) (hu : X.A.units + 64 < cLine) : CallV X (.builtin "repr") bRepr := one (call_reprD hG hu) fun H Q ρ h d v rv ok rd ho p => by
  unfold fRepr at ho
  split at ho
  · rename_i q e
    split at ho
    · rename_i z
      unfold reprOk at z
      simp only [Bool.and_eq_true, Bool.not_eq_true', decide_eq_true_eq] at z
      cases ho
      exact ⟨v, q, rfl, rd.dp e, z.1.1.1, z.1.1.2, z.1.2, z.2, p ρ H _ ok (Step.refl _ _) (.str _)⟩
    · cases ho
  · cases ho

/-! ### list(range(..)) -/
def rgOk (i j : Int) : Bool := small62 i && small62 j && decide ((j - i).toNat ≤ 2 ^ 24)
theorem rgOk_of {i j : Int} (z : rgOk i j = true) : RgOk i j := by
  unfold rgOk small62 at z
  simp only [Bool.and_eq_true, decide_eq_true_eq] at z
  exact ⟨z.1.1.1, z.1.1.2, z.1.2.1, z.1.2.2, z.2⟩
theorem rd_range {K : PySem.W.Frag} {mg : Str → Option Value} (i : Int) : ∀ l : List Nat, RDs K mg ρ H (l.map fun n => D.int (i + (n : Nat))) (l.map fun n => V.int (i + (n : Nat)))
  | [] => .nil
  | n :: l => .cons (.int _) (rd_range i l)
def lstRg (i j : Int) (h : Hs) : Res RV := if rgOk i j then .ok (.fresh (rangeD i (j - i).toNat)) h else .bad
def eLstRg1 (m : Ex) : Ex := bindV m fun d h => match d with
  | .int j => lstRg 0 j h
  | _ => .bad
def eLstRg2 (m m2 : Ex) : Ex := fun env h => bindV m (fun d h1 => bindV m2 (fun d2 h2 => match d, d2 with
  | .int i, .int j => lstRg i j h2
  | _, _ => .bad) env h1) env h
theorem lstRg_read {σ : Slots} {i j : Int} (ok : HeapOk X.K X.mg ρ h H) (g : Good X.K X.mg ρ H Q (fun c d H' => W c d σ H') (lstRg i j h)) : RgOk i j ∧ ∀ q, H q = none → Q (.ref q) (upd H q (.lst (rgV i j))) := by
  unfold lstRg at g
  split at g
  · rename_i z
    exact ⟨rgOk_of z, fun q hq => Post.newLst g ok (rd_range i _) q hq⟩
  · exact g.elim
theorem v_lstRg1 {a : Expr} {m : Ex} {p1 p2 pos2 : Pos} (hc : X.calm = true) (hm1 : X.mg "list" = none) (hm2 : X.mg "range" = none) (ha : PV X W a m) (hg1 : Gl X "list" := by rfl) (hg2 : Gl X "range" := by rfl)
    (na : starEach [a] X.env = (false, eval a X.env) :: starEach [] X.env := by rfl) (nb : starEach [.Call (.Name "range" p2) [a] [] pos2] X.env = (false, eval (.Call (.Name "range" p2) [a] [] pos2) X.env) :: starEach [] X.env := by rfl) :
    PV X W (.Call (.Name "list" p1) [.Call (.Name "range" p2) [a] [] pos2] [] pos) (eLstRg1 m) :=
  PE.imp (pe_listRg hc hg1 hm1 (prg_1 hg2 hm2 ha na) nb) fun σ H Q ⟨ρ, env, h, R, g⟩ => Tr.bind R g fun d v ρ1 h1 H1 A g1 => by
    split at g1
    · cases A.rd
      exact ⟨_, rfl, lstRg_read A.rel.hp g1⟩
    · exact g1.elim
theorem v_lstRg2 {a b : Expr} {m m2 : Ex} {p1 p2 pos2 : Pos} (hc : X.calm = true) (hm1 : X.mg "list" = none) (hm2 : X.mg "range" = none) (ha : PV X W a m) (hb : PV X W b m2) (hg1 : Gl X "list" := by rfl) (hg2 : Gl X "range" := by rfl)
    (na : starEach [a, b] X.env = (false, eval a X.env) :: starEach [b] X.env := by rfl) (nb : starEach [b] X.env = (false, eval b X.env) :: starEach [] X.env := by rfl) (hp : (backTo pos2 (starEach [b] X.env)).any (·.1) = false := by rfl)
    (nc : starEach [.Call (.Name "range" p2) [a, b] [] pos2] X.env = (false, eval (.Call (.Name "range" p2) [a, b] [] pos2) X.env) :: starEach [] X.env := by rfl) :
    PV X W (.Call (.Name "list" p1) [.Call (.Name "range" p2) [a, b] [] pos2] [] pos) (eLstRg2 m m2) :=
  PE.imp (pe_listRg hc hg1 hm1 (prg_2 hg2 hm2 ha hb na nb hp) nc) fun σ H Q ⟨ρ, env, h, R, g⟩ => Tr.bind R g fun d v ρ1 h1 H1 A g1 => Tr.bind A.rel g1 fun d2 v2 ρ2 h2 H2 A2 g2 => by
    split at g2
    · have r1 := A.rd
      cases r1
      have r2 := A2.rd
      cases r2
      exact ⟨_, _, rfl, rfl, lstRg_read A2.rel.hp g2⟩
    · exact g2.elim

/-! ### what the module holds -/
/-- a constant of the module: a tuple of texts -/
def strsD (xs : List Str) : List D := xs.map D.str
theorem v_glStrs {x : Str} {a : Addr} {o : Obj} {its : List Value} {n : Nat} {xs : List Str} (hm : X.mg x = some (.ref a)) (hk : X.K.lookup a = some o) (hc : o.cls = .type "tuple") (hd : o.data = .seq its.toArray n) (hz : its.length ≤ sizeLine) (hv : Vals (xs.map V.str) its)
    (hg : Gl X x := by rfl) (hdb : (x == ("__debug__" : Str)) = false := by decide) : PV X W (.Name x pos) (eC (.tup (strsD xs))) :=
  v_const (v := .ref a) (pe_glob hg hm rfl hdb) fun ρ H => .tup (vs := xs.map V.str) (.inr ⟨o, its.toArray, n, hk, hc, hd, by simpa using hz, by simpa using hv⟩) (by
    have go : ∀ l : List Str, RDs X.K X.mg ρ H (l.map D.str) (l.map V.str) := fun l => by
      induction l with
      | nil => exact .nil
      | cons y l ih => exact .cons (.str y) ih
    exact go xs)

/-! ### the law's end -/
def scrD (ns : List Int) : D := .scr (ns.map D.int)
theorem script_rd {K : PySem.W.Frag} {mg : Str → Option Value} {H : Hp} {a : Addr} {ns : List Int} (hO : Only H) (s : SqL K H a (ns.map V.int)) : RD K mg ρ H (scrD ns) (.ref a) := by
  have go : ∀ l : List Int, RDs K mg ρ H (l.map D.int) (l.map V.int) := fun l => by
    induction l with
    | nil => exact .nil
    | cons y l ih => exact .cons (.int y) ih
  refine .scr ?_ (go ns)
  rcases s with (s | ⟨o, s⟩) | s
  · rcases hO a with z | ⟨o, xs, z⟩
    · rw [z] at s; cases s
    · rw [z] at s; cases s
  · exact .inl ⟨o, s⟩
  · exact .inr s
/-- the law answers True -/
def Truly (m : Fx) (n : Nat) : Prop := ∀ ns : List Int, ns.length ≤ n → ∃ h, m [.val (scrD ns)] [] = .ok (.val (.bl true)) h
theorem truly_sp {K : PySem.W.Frag} {mg : Str → Option Value} {m : Fx} {n : Nat} (T : Truly m n) (H : Hp) (a : Addr) (ns : List Int) (hl : ns.length ≤ n) (hO : Only H) (s : SqL K H a (ns.map V.int)) :
    spOf K mg 1 m [.ref a] H (fun v _ => v = .bl true) fun _ _ _ => False := by
  obtain ⟨h1, e⟩ := T ns hl
  refine ⟨rfl, ⟨[], []⟩, [], [.val (scrD ns)], ⟨rfl, fun n m l k a e => by simp at e, fun a ⟨n, l, e, _⟩ => by simp at e, fun a ha => by simp at ha, fun n c e => by simp at e⟩, .cons (script_rd hO s) .nil, ?_⟩
  rw [e]
  intro ρ' H' v ok S r
  cases r
  rfl
end
end Ev
end
section
set_option Elab.async false
set_option linter.all false
set_option maxRecDepth 100000
set_option maxHeartbeats 4000000
/-! Ev14: several names at once, by way of a tuple; three local names. -/
namespace Ev
open PySem PySem.Spec L2
section
variable {X : Cx} {W : WX} {ρ ρ1 ρ' : Own} {H H1 H' : Hp} {h h' : Hs} {Q : VK} {pos : Pos}
def gsN : List Nat → TGs
  | [] => gNil
  | i :: is => gCons (gName i) (gsN is)
abbrev PGn (X : Cx) (ts : List Expr) (is : List Nat) : Prop := PGs X ts (gsN is)
theorem gn_nil : PGn X [] [] := pgs_nil
theorem gn_cons {i : Nat} {is : List Nat} {x : Str} {ts : List Expr} (hN : X.N.Nodup) (hr : PGn X ts is) (hi : X.N[i]? = some x := by rfl) (hx : Loc X.env.scope x := by first | exact .inl rfl | exact .inr rfl) (hf : X.fn x = true ∨ X.env.scope.names.lookup x = some .local := by first | exact .inl rfl | exact .inr rfl)
    (hs : (assignEach (.Name x pos :: ts) X.env).map (·.2) = assign (.Name x pos) X.env :: (assignEach ts X.env).map (·.2) := by rfl) : PGn X (.Name x pos :: ts) (i :: is) := pgs_cons (pg_name hN hi hx hf) hr hs
theorem gsN_run {K : PySem.W.Frag} {mg : Str → Option Value} : ∀ {is : List Nat} {svs : List SV} {vs : List V} {env e1 : Nv} {σ : Slots} {Q : L2.St → Hp → Prop}, Paired (SVOk K mg ρ H) svs vs → setsE is svs env = some e1 → EnvOk K mg ρ env σ H → (∀ σ', EnvOk K mg ρ e1 σ' H → Q σ' H) → gsN is vs σ H Q
  | [], [], _, _, _, _, _, .nil, e, en, q => by cases e; exact ⟨rfl, q _ en⟩
  | [], _ :: _, _, _, _, _, _, _, e, _, _ => by cases e
  | _ :: _, [], _, _, _, _, _, _, e, _, _ => by cases e
  | i :: is, s :: svs, _, env, e1, σ, Q, .cons r rs, e, en, q => ⟨_, _, rfl, gsN_run rs e (en.set r i) q⟩
theorem paired_imp {α β : Type} {R R' : α → β → Prop} : ∀ {xs : List α} {ys : List β}, Paired R xs ys → (∀ x y, R x y → R' x y) → Paired R' xs ys
  | _, _, .nil, _ => .nil
  | _, _, .cons a b, f => .cons (f _ _ a) (paired_imp b f)
theorem s_multi {ts es : List Expr} {is : List Nat} {n : Nat} {m : Ps} {kt k2 : Nat} {pt pt2 : Pos} (hc : X.calm = true) (ha : PPs X W es m) (hg : PGn X ts is) (hl : is.length = n := by rfl) (hl2 : n ≤ 100 := by decide)
    (hn : (assignEach ts X.env).length = n := by rfl) (hst : (assignEach ts X.env).findIdx? (·.1) = none := by rfl)
    (hs : swapsWithSole [.Tuple ts kt pt] (.Tuple es k2 pt2) pos.line X.env = pure false := by rfl) (hw : swappedStores [.Tuple ts kt pt] (.Tuple es k2 pt2) X.env = pure none := by rfl)
    (h1 : (assignEach [.Tuple ts kt pt] X.env).map (·.2) = [assign (.Tuple ts kt pt) X.env] := by rfl) : VS X W (.Assign [.Tuple ts kt pt] (.Tuple es k2 pt2) pos) (sMulti is m) :=
  PS.imp (ps_asg (pe_tup ha) (pg_tup hc hg hn hst) hs hw h1) fun D σ H t => multi_read t fun ρ env e1 h1 svs vs H1 ok en r e g => by
    have lv : ∀ {is : List Nat} {svs : List SV} {env e1 : Nv}, setsE is svs env = some e1 → svs.length = is.length := by
      intro is
      induction is with
      | nil => intro svs env e1 e; cases svs with | nil => rfl | cons _ _ => cases e
      | cons i is ih => intro svs env e1 e; cases svs with | nil => cases e | cons s ss => exact congrArg (· + 1) (ih e)
    have l1 := lv e
    have l2 : svs.length = vs.length := Paired.length r
    refine ⟨by rw [sizeLine_eq]; omega, fun p hp => ⟨p, vs, rfl, SqT.of upd_same, by omega, ?_⟩⟩
    have S := step_new (ρ := ρ) (o := .tup vs) hp
    have r2 : Paired (SVOk X.K X.mg ρ (upd H1 p (.tup vs))) svs vs := paired_imp r fun s v a => a.step ok S
    exact gsN_run r2 e (en.step ok S) fun σ' en' => g ρ σ' _ ⟨ok.new hp, en'⟩ S
theorem s_par3 {i j l : Nat} {x y z : Str} {a b c : Expr} {m : Ps} {px py pz pt : Pos} {kt k2 pt2} (hc : X.calm = true) (hN : X.N.Nodup) (ha : PPs X W [a, b, c] m) (hi : X.N[i]? = some x := by rfl) (hj : X.N[j]? = some y := by rfl) (hl : X.N[l]? = some z := by rfl) (hij : i ≠ j := by decide) (hil : i ≠ l := by decide) (hjl : j ≠ l := by decide)
    (hx : X.env.scope.names.lookup x = some .local := by rfl) (hy : X.env.scope.names.lookup y = some .local := by rfl) (hz : X.env.scope.names.lookup z = some .local := by rfl)
    (hw : swappedStores [.Tuple [.Name x px, .Name y py, .Name z pz] kt pt] (.Tuple [a, b, c] k2 pt2) X.env = pure (some [x, y, z]) := by rfl)
    (hs : swapsWithSole [.Tuple [.Name x px, .Name y py, .Name z pz] kt pt] (.Tuple [a, b, c] k2 pt2) pos.line X.env = pure false := by rfl) :
    VS X W (.Assign [.Tuple [.Name x px, .Name y py, .Name z pz] kt pt] (.Tuple [a, b, c] k2 pt2) pos) (sMulti [i, j, l] m) :=
  PS.imp (ps_par3 hc hN hi hj hl hij hil hjl hx hy hz ha hw hs) fun D σ H t => multi_read t fun ρ env e1 h1 svs vs H1 ok en r e g => by
    cases r with
    | nil => cases e
    | cons r1 r => cases r with
      | nil => cases e
      | cons r2 r => cases r with
        | nil => cases e
        | cons r3 r => cases r with
          | cons r4 r => cases e
          | nil =>
            cases e
            exact ⟨_, _, _, rfl, g ρ _ H1 ⟨ok, ((en.set r1 i).set r2 j).set r3 l⟩ (Step.refl _ _)⟩
end
end Ev
end
section
set_option Elab.async false
set_option linter.all false
set_option maxRecDepth 100000
set_option maxHeartbeats 4000000
/-! Ev15: what the printed texts use. -/
namespace Ev
open PySem PySem.Spec L2 EvS
/-- the module's def x is the text's -/
def HasDef (K : PySem.W.Frag) (mg : Str → Option Value) (x : Str) (st : Stmt) : Prop := ∃ (f : Addr) (fd : FuncData), Fun K x x st f fd ∧ mg x = some (.ref f)
/-- .. and does what m says -/
def HasFn (P : Program) (w : World) (K : PySem.W.Frag) (mg : Str → Option Value) (base : Heap) (k : Nat) (x : Str) (ps : List Str) (n : Nat) (m : Fx) : Prop :=
  ∃ (f : Addr) (fd : FuncData), mg x = some (.ref f) ∧ PySem.W.keepIn K (.ref f) = true ∧ (∀ us : List Value, us.length = ps.length → bindArgs fd ⟨us, []⟩ = pure (ps.zip us)) ∧ FnG P w K mg base (L2.CX P w) k f fd ps (spOf K mg n m)
theorem fun_bs {K : PySem.W.Frag} {x qual : Str} {st : Stmt} {f : Addr} {fd : FuncData} {ps : List Str} (F : Fun K x qual st f fd)
    (h : ∀ (kV doc pm : Value) (an : Option Addr) (cdv ct : Value) (us : List Value), us.length = ps.length → bindArgs (PySem.W.fnOf x qual (defArgs st) (defBody st) (defScope st) .none kV doc pm an cdv ct) ⟨us, []⟩ = pure (ps.zip us)) : ∀ us : List Value, us.length = ps.length → bindArgs fd ⟨us, []⟩ = pure (ps.zip us) := by
  obtain ⟨oc, od, kV, doc, pm, an, cdv, ct, osl, rfl, lk, hcd⟩ := F.ex
  exact h kV doc pm an cdv ct
/-- the law -/
theorem walk_law {l : PySem.W.OpenLaw} {n k : Nat} {q : Program} {loose : List Str} {XP : (Str → Option Value) → Heap → Prop} {YP : World → Heap → Prop} {d : DefRec} {K : Params → PySem.W.Frag} {x : Str} (m : Fx)
    (hn : l.most = some n) (hn2 : n ≤ sizeLine) (hdf : d.params.defaults = []) (hr : Room k callerA)
    (hY : ∀ (w : World) (h : Heap), YP w h → (K w.params).In h)
    (F : ∀ (w : World) (mg : Str → Option Value) (h : Heap), (K w.params).In h → h.Ns mainGlobals mg → ∀ base : Heap, HasFn l.prog w (K w.params) mg base k d.name [x] 1 m)
    (T : Truly m n) : PySem.W.WalkO q loose XP YP l.row.toRowW d [] (fun f vs => PySem.call f vs) := by
  refine EvS.walk_ofG (x := x) (CX := fun w => L2.CX l.prog w) (sp := fun w mg => spOf (K w.params) mg 1 m) hn hn2 hdf hr hY (fun w mg fa h KX G hmg base _ _ => ?_) (fun w mg H a ns hl hO hS => truly_sp T H a ns hl hO hS) fun w H s e s' ⟨_, _, _, _, _, _, _, _, _, _, _, _, z⟩ => z
  obtain ⟨f, fd, g, kp, bs, F1⟩ := F w mg h KX G base
  rw [g] at hmg
  cases hmg
  exact ⟨fd, fun s u => .of_eq (bs [u] rfl), F1⟩
end Ev
end
section
set_option Elab.async false
set_option linter.all false
set_option maxRecDepth 100000
set_option maxHeartbeats 4000000
/-! Ev16: list comprehensions of two clauses. -/
namespace Ev
open PySem PySem.Spec L2
section
variable {X : Cx} {W : WX} {K : PySem.W.Frag} {mg : Str → Option Value} {ρ ρ1 ρ' : Own} {H H1 H' : Hp} {h h' : Hs} {Q : VK} {pos : Pos}
theorem EnvOk.fbOut {p : Addr} (o : Out ρ H p) {env : Nv} {σ : Slots} (r : EnvOk K mg ρ env σ H) : EnvOk K mg (ρ.rm p) env σ (era H p) :=
  ⟨r.len, fun i s e => let ⟨v, e1, q⟩ := r.at_ i s e; ⟨v, e1, match s, q with | .val d, q => RD.fbOut o q | .loc n, q => q⟩⟩
theorem Step.grow {p : Addr} {xs : List V} {Hx : Hp} (o : Out ρ H p) (hx : Hx p = none) (okx : HeapOk K mg ρ' h Hx) (S : Step (ρ.rm p) (era H p) ρ' Hx) : StepW ρ H (ρ'.ad p) (upd Hx p (.lst xs)) where
  keep := fun a u e no => by
    have ne : a ≠ p := fun z => by subst z; exact no (.inr o.mem)
    rw [upd_ne ne]
    exact S.keep a u ((era_ne ne).trans e) fun z => no (.inl z)
  own := fun a z => by
    rcases S.own a z with q | q
    · exact .inl q
    · by_cases e : a = p
      · subst e; exact (okx.notC hx z).elim
      · rw [era_ne e] at q; exact .inr q
  fbo := fun a ha => by
    rcases List.mem_cons.mp ha with e | e
    · rw [e]; exact .inl (.inr o.mem)
    · rcases S.fbo a e with q | q
      · exact .inl (q.elim .inl fun z => .inr (List.mem_filter.mp z).1)
      · by_cases e' : a = p
        · subst e'; exact .inl (.inr o.mem)
        · rw [era_ne e'] at q; exact .inr q
def comp2L (g : Gx) (t : Tx) (it1 : Ix) (g1 : Gx) (t1 : Tx) (e : Ex) (vs1 : List Nat) (env : Nv) : List D → List D → Hs → Res (List D)
  | acc, [], h => .ok acc h
  | acc, d :: ds, h => match g d env with
    | some e1 => (match t e1 h with
      | .ok true h1 => (match it1 e1 h1 with
        | .ok es h2 => if acc.length + es.length < sizeLine then (match compL g1 t1 e (wipeE e1 vs1) acc es h2 with
          | .ok rs h3 => comp2L g t it1 g1 t1 e vs1 env rs ds h3
          | _ => .bad) else .bad
        | _ => .bad)
      | .ok false h1 => comp2L g t it1 g1 t1 e vs1 env acc ds h1
      | _ => .bad)
    | none => .bad
def eComp2 (vs vs1 : List Nat) (it : Ix) (g : Gx) (t : Tx) (it1 : Ix) (g1 : Gx) (t1 : Tx) (e : Ex) : Ex := fun env h => match it env h with
  | .ok ds h1 => (match comp2L g t it1 g1 t1 e vs1 (wipeE env vs) [] ds h1 with
    | .ok rs h2 => .ok (.fresh rs) h2
    | _ => .bad)
  | .exc x h1 => .exc x h1
  | .bad => .bad
theorem comp2_read {it it1 : Ix} {ix ix1 vs vs1 : List Nat} {g g1 : Gx} {t t1 : Tx} {e : Ex} {σ : Slots} {Q : VK} (hix : ∀ i ∈ ix, i ∈ vs) (hix1 : ∀ i ∈ ix1, i ∈ vs1) (tr : Tr X.K X.mg W (eComp2 vs vs1 it g t it1 g1 t1 e) σ H Q) :
    tLc2 (TrI X.K X.mg W it) (TrG X.K X.mg ix g) (TrB X.K X.mg W0 t) (TrI X.K X.mg W0 it1) (TrG X.K X.mg ix1 g1) (TrB X.K X.mg W0 t1) (Tr X.K X.mg W0 e) vs vs1 σ H Q := by
  obtain ⟨ρ, env, h, R, gd⟩ := tr
  refine ⟨ρ, env, h, R, ?_⟩
  unfold eComp2 at gd
  cases q : it env h with
  | exc x h1 => rw [q] at gd; exact gd
  | bad => rw [q] at gd; exact gd.elim
  | ok ds h1 =>
    rw [q] at gd
    dsimp only at gd
    intro ρ1 H1 J ok S wk p hp
    have en1 : EnvOk X.K X.mg ρ1 env σ H1 := R.env.step R.hp S
    let Fin : Own → Hp → Res (List D) → Prop := fun ρ' H' r => match r with
      | .ok rs h2 => Post X.K X.mg ρ' H' h2 Q (.fresh rs)
      | _ => False
    have later : ∀ {ρ' ρ2 : Own} {H' H2 : Hp} {r : Res (List D)}, Step ρ' H' ρ2 H2 → Fin ρ' H' r → Fin ρ2 H2 r := fun {ρ' ρ2 H' H2 r} S f => by
      cases r with
      | ok rs h2 => exact Post.later S (show Post X.K X.mg ρ' H' h2 Q (.fresh rs) from f)
      | exc x h2 => exact f
      | bad => exact f
    generalize hL : comp2L g t it1 g1 t1 e vs1 (wipeE env vs) = L at gd
    have eqL : ∀ acc d ds h, L acc (d :: ds) h = (match g d (wipeE env vs) with
      | some e1 => (match t e1 h with
        | .ok true h1 => (match it1 e1 h1 with
          | .ok es h2 => if acc.length + es.length < sizeLine then (match compL g1 t1 e (wipeE e1 vs1) acc es h2 with
            | .ok rs h3 => L rs ds h3
            | _ => .bad) else .bad
          | _ => .bad)
        | .ok false h1 => L acc ds h1
        | _ => .bad)
      | none => .bad) := fun acc d ds h => by rw [← hL]; rfl
    have nilL : ∀ acc h, L acc [] h = .ok acc h := fun acc h => by rw [← hL]; rfl
    have start : Fin ρ1 H1 (L [] ds h1) := by
      cases q2 : L [] ds h1 with
      | ok rs h2 => rw [q2] at gd; exact Post.later S gd
      | exc x h2 => rw [q2] at gd; exact gd.elim
      | bad => rw [q2] at gd; exact gd.elim
    let St : List D → Hp → Prop := fun dr H' => ∃ (ρ' : Own) (h : Hs) (Hx : Hp) (acc : List V) (rs : List D), H' = upd Hx p (.lst acc) ∧ Hx p = none ∧ p ∉ ρ'.fb ∧ HeapOk X.K X.mg ρ' h Hx ∧ Step ρ1 H1 ρ' Hx ∧ RDs X.K X.mg ρ' Hx rs acc ∧ Fin ρ' Hx (L rs dr h)
    have hpf : p ∉ ρ1.fb := by
      intro hf
      obtain ⟨_, xs, e⟩ := ok.fbd p hf
      rw [hp] at e; cases e
    refine ⟨fun i m H => m = ds.length - i ∧ i ≤ ds.length ∧ St (ds.drop i) H, ⟨ds.length, rfl, Nat.zero_le _, ρ1, h1, H1, [], [], rfl, hp, hpf, ok, Step.refl _ _, .nil, by rw [List.drop_zero]; exact start⟩, ?_⟩
    rintro i m H2 ⟨rfl, hi, ρ2, h2, Hx, acc, rs, rfl, hx, hf, ok2, S2, rds, f2⟩
    have okA := ok2.fbIn (xs := acc) hx
    have SA : Step ρ1 H1 (ρ2.ad p) (upd Hx p (.lst acc)) := S2.fbIn hp hx
    have nc := ok2.notC hx
    obtain ⟨stop, turns⟩ := wk _ h2 _ okA SA.w
    by_cases hlt : i < ds.length
    · have ei : ds[i]? = some ds[i] := List.getElem?_eq_getElem hlt
      obtain ⟨go, yl⟩ := turns i _ ei
      rw [List.drop_eq_getElem_cons hlt, eqL] at f2
      generalize hdr : ds.drop (i + 1) = dr at f2
      refine .inr ⟨go, St dr, fun H' z => ⟨ds.length - (i + 1), by omega, rfl, hlt, by rw [hdr]; exact z⟩, fun x H' y => ?_⟩
      obtain ⟨okB, SB, rd⟩ := yl x H' y
      have enB : EnvOk X.K X.mg (ρ2.ad p) (wipeE env vs) (wipe σ vs) H' := ((((en1.step ok S2).fbIn (o := .lst acc) hx)).step okA SB).wipe vs
      cases q2 : g ds[i] (wipeE env vs) with
      | none => rw [q2] at f2; exact f2.elim
      | some e1 =>
        rw [q2] at f2
        dsimp only at f2
        refine ⟨ρ2.ad p, wipeE env vs, h2, ds[i], e1, ⟨okB, enB⟩, rd, q2, fun σ3 R3 w3 => ⟨(w3 vs hix).trans (wipe_wipe vs fun _ h => h), ρ2.ad p, e1, h2, R3, ?_⟩⟩
        cases q3 : t e1 h2 with
        | exc x h3 => rw [q3] at f2; exact f2.elim
        | bad => rw [q3] at f2; exact f2.elim
        | ok k h3 =>
          rw [q3] at f2
          intro ρ4 H4 ok4 S4
          have S4' := SB.trans S4
          have R4 : Rel X.K X.mg ρ4 e1 h3 σ3 H4 := ⟨ok4, R3.env.step R3.hp S4⟩
          cases k with
          | false =>
            rw [if_neg Bool.false_ne_true]
            obtain ⟨o4, e4⟩ := out_of S4' ok4 nc
            have SX := S4'.fbOut hx hf
            exact ⟨ρ4.rm p, h3, era H4 p, acc, rs, (upd_self e4).symm, era_same, fun z => (of_decide_eq_true (List.mem_filter.mp z).2) rfl, ok4.fbOut o4, S2.trans SX, rds.step ok2.mutb SX, later SX f2⟩
          | true =>
            rw [if_pos rfl]
            dsimp only at f2
            refine ⟨ρ4, e1, h3, R4, ?_⟩
            cases q4 : it1 e1 h3 with
            | exc x h4 => rw [q4] at f2; exact f2.elim
            | bad => rw [q4] at f2; exact f2.elim
            | ok es h5 =>
              rw [q4] at f2
              dsimp only at f2
              split at f2
              case isFalse => exact f2.elim
              rename_i hsz
              intro ρ5 H5 J1 ok5 S5 wk1
              have S5' := S4'.trans S5
              obtain ⟨o5, e5⟩ := out_of S5' ok5 nc
              have SX := S5'.fbOut hx hf
              have ok5x := ok5.fbOut o5
              have en5 := ((R4.env.step ok4 S5).fbOut o5)
              let Fin1 : Own → Hp → Res (List D) → Prop := fun ρ' H' r => match r with
                | .ok rs h3 => Fin ρ' H' (L rs dr h3)
                | _ => False
              have later1 : ∀ {ρ' ρ2 : Own} {H' H2 : Hp} {r : Res (List D)}, Step ρ' H' ρ2 H2 → Fin1 ρ' H' r → Fin1 ρ2 H2 r := fun {ρ' ρ2 H' H2 r} S f => by
                cases r with
                | ok rs h2 => exact later S (show Fin ρ' H' (L rs dr h2) from f)
                | exc x h2 => exact f
                | bad => exact f
              have start1 : Fin1 (ρ5.rm p) (era H5 p) (compL g1 t1 e (wipeE e1 vs1) rs es h5) := by
                refine later1 SX ?_
                cases q5 : compL g1 t1 e (wipeE e1 vs1) rs es h5 with
                | ok rs h2 => rw [q5] at f2; exact f2
                | exc x h2 => rw [q5] at f2; exact f2.elim
                | bad => rw [q5] at f2; exact f2.elim
              have nf5 : p ∉ (ρ5.rm p).fb := fun z => (of_decide_eq_true (List.mem_filter.mp z).2) rfl
              let St1 : Nat → Hp → Prop := fun j H' => ∃ (ρ' : Own) (h : Hs) (Hy : Hp) (acc : List V) (rs' : List D), H' = upd Hy p (.lst acc) ∧ Hy p = none ∧ p ∉ ρ'.fb ∧ HeapOk X.K X.mg ρ' h Hy ∧ Step (ρ5.rm p) (era H5 p) ρ' Hy ∧ RDs X.K X.mg ρ' Hy rs' acc ∧ rs'.length ≤ rs.length + j ∧ Fin1 ρ' Hy (compL g1 t1 e (wipeE e1 vs1) rs' (es.drop j) h)
              refine ⟨fun j m H => m = es.length - j ∧ j ≤ es.length ∧ St1 j H, ⟨es.length, rfl, Nat.zero_le _, ρ5.rm p, h5, era H5 p, acc, rs, (upd_self e5).symm, era_same, nf5, ok5x, Step.refl _ _, rds.step ok2.mutb SX, Nat.le_refl _, by rw [List.drop_zero]; exact start1⟩, ?_⟩
              rintro j m1 H6 ⟨rfl, hj, ρ6, h6, Hy, acc6, rs6, rfl, hy, hf6, ok6, S6, rds6, hl6, f6⟩
              have okC := ok6.fbIn (xs := acc6) hy
              have nc6 := ok6.notC hy
              obtain ⟨stop1, turns1⟩ := wk1 _ h6 _ okC (Step.grow (xs := acc6) o5 hy ok6 S6)
              by_cases hlt1 : j < es.length
              · have ej : es[j]? = some es[j] := List.getElem?_eq_getElem hlt1
                obtain ⟨go1, yl1⟩ := turns1 j _ ej
                rw [List.drop_eq_getElem_cons hlt1] at f6
                unfold compL at f6
                refine .inr ⟨go1, St1 (j + 1), fun H' z => ⟨es.length - (j + 1), by omega, rfl, hlt1, z⟩, fun x H' y => ?_⟩
                obtain ⟨okD, SD, rdx⟩ := yl1 x H' y
                have enD : EnvOk X.K X.mg (ρ6.ad p) (wipeE e1 vs1) (wipe σ3 vs1) H' := ((((en5.step ok5x S6).fbIn (o := .lst acc6) hy)).step okC SD).wipe vs1
                cases q6 : g1 es[j] (wipeE e1 vs1) with
                | none => rw [q6] at f6; exact f6.elim
                | some e2 =>
                  rw [q6] at f6
                  dsimp only at f6
                  refine ⟨ρ6.ad p, wipeE e1 vs1, h6, es[j], e2, ⟨okD, enD⟩, rdx, q6, fun σ7 R7 w7 => ⟨(w7 vs1 hix1).trans (wipe_wipe vs1 fun _ h => h), ρ6.ad p, e2, h6, R7, ?_⟩⟩
                  have done : ∀ {ρ8 : Own} {h8 : Hs} {H8 : Hp}, HeapOk X.K X.mg ρ8 h8 H8 → Step (ρ6.ad p) (upd Hy p (.lst acc6)) ρ8 H8 → ∀ (rs' : List D) (acc' : List V), RDs X.K X.mg (ρ8.rm p) (era H8 p) rs' acc' → rs'.length ≤ rs.length + (j + 1) →
                      Fin1 ρ6 Hy (compL g1 t1 e (wipeE e1 vs1) rs' (es.drop (j + 1)) h8) → ∀ H9, H9 = upd (era H8 p) p (.lst acc') → St1 (j + 1) H9 :=
                    fun {ρ8 h8 H8} ok8 S8 rs' acc' rds' hl' f' H9 e9 => by
                      obtain ⟨o8, _⟩ := out_of S8 ok8 nc6
                      have SY := S8.fbOut hy hf6
                      exact ⟨ρ8.rm p, h8, era H8 p, acc', rs', e9, era_same, fun z => (of_decide_eq_true (List.mem_filter.mp z).2) rfl, ok8.fbOut o8, S6.trans SY, rds', hl', later1 SY f'⟩
                  cases q7 : t1 e2 h6 with
                  | exc x h7 => rw [q7] at f6; exact f6.elim
                  | bad => rw [q7] at f6; exact f6.elim
                  | ok k1 h7 =>
                    rw [q7] at f6
                    intro ρ8 H8 ok8 S8
                    have S8' := SD.trans S8
                    have R8 : Rel X.K X.mg ρ8 e2 h7 σ7 H8 := ⟨ok8, R7.env.step R7.hp S8⟩
                    cases k1 with
                    | false =>
                      rw [if_neg Bool.false_ne_true]
                      obtain ⟨o8, e8⟩ := out_of S8' ok8 nc6
                      have SY := S8'.fbOut hy hf6
                      exact done ok8 S8' rs6 acc6 (rds6.step ok6.mutb SY) (by omega) f6 H8 (upd_self e8).symm
                    | true =>
                      rw [if_pos rfl]
                      refine ⟨ρ8, e2, h7, R8, ?_⟩
                      dsimp only at f6
                      cases q8 : e e2 h7 with
                      | exc x h8 => rw [q8] at f6; exact f6.elim
                      | bad => rw [q8] at f6; exact f6.elim
                      | ok rv h8 =>
                        rw [q8] at f6
                        refine Post.ofVl fun ρ9 H9 v ok9 S9 r9 => ?_
                        have S9' := S8'.trans S9
                        obtain ⟨o9, e9⟩ := out_of S9' ok9 nc6
                        have SY := S9'.fbOut hy hf6
                        refine ⟨acc6, e9, ?_, done ok9 S9' (rs6 ++ [rv.vl]) (acc6 ++ [v]) (RDs.append (rds6.step ok6.mutb SY) (.cons (r9.fbOut o9) .nil)) (by simp; omega) f6 _ upd_era.symm⟩
                        rw [← rds6.length]; omega
              · have ee : j = es.length := by omega
                subst ee
                rw [List.drop_length] at f6
                unfold compL at f6
                refine .inl ⟨stop1, ρ6, h6, Hy, acc6, rs6, rfl, hy, hf6, ok6, (S2.trans SX).trans S6, rds6, f6⟩
    · have e : i = ds.length := by omega
      subst e
      rw [List.drop_length, nilL] at f2
      exact .inl ⟨stop, f2 ρ2 Hx p acc ok2 (Step.refl _ _) hx rds⟩
section
variable {elt tg iter tg1 iter1 : Expr} {ifs ifs1 : List Expr} {scope : Scope} {own : List (Str × Nat)} {it it1 : Ix} {ix ix1 vs1 : List Nat} {g g1 : Gx} {t t1 : Tx} {e : Ex}
theorem v_comp2 (hc : X.calm = true) (hN : X.N.Nodup) (hi : PIx X W tg iter it) (ok : BlkOk X.N X.env.scope scope own) (hv : ∀ i ∈ vs1, i ∈ own.map (·.2)) (hix : ∀ i ∈ ix, i ∈ own.map (·.2)) (hix1 : ∀ i ∈ ix1, i ∈ vs1)
    (hg : ∀ (s : Shared) (H : Hp) (C : Addr) (cl : List (Str × Addr)) (fp : List Addr), PGx (X.blk s H scope (compEnvC scope cl C X.env) fp) tg ix g) (ht : ∀ (s : Shared) (H : Hp) (C : Addr) (cl : List (Str × Addr)) (fp : List Addr), PTx (X.blk s H scope (compEnvC scope cl C X.env) fp) W0 ifs t)
    (hi1 : ∀ (s : Shared) (H : Hp) (C : Addr) (cl : List (Str × Addr)) (fp : List Addr), PIx (X.blk s H scope (compEnvC scope cl C X.env) fp) W0 tg1 iter1 it1)
    (hg1 : ∀ (s : Shared) (H : Hp) (C : Addr) (cl : List (Str × Addr)) (fp : List Addr), PGx (X.blk s H scope (compEnvC scope cl C X.env) fp) tg1 ix1 g1) (ht1 : ∀ (s : Shared) (H : Hp) (C : Addr) (cl : List (Str × Addr)) (fp : List Addr), PTx (X.blk s H scope (compEnvC scope cl C X.env) fp) W0 ifs1 t1)
    (he : ∀ (s : Shared) (H : Hp) (C : Addr) (cl : List (Str × Addr)) (fp : List Addr), PV (X.blk s H scope (compEnvC scope cl C X.env) fp) W0 elt e) (hs : ∀ x, foldedSetIterable iter X.env x = pure x := by intro _; rfl) (hs1 : ∀ env x, foldedSetIterable iter1 env x = pure x := by intro _ _; rfl) :
    PV X W (.ListComp elt [⟨tg, iter, ifs, 0⟩, ⟨tg1, iter1, ifs1, 0⟩] scope pos) (eComp2 (own.map (·.2)) vs1 it g t it1 g1 t1 e) :=
  PE.imp (pe_lc2 hc hN hi ok hv hg ht hi1 hg1 ht1 he hs hs1) fun σ H Q tr => comp2_read hix hix1 tr
theorem s_setLc2 {i : Nat} {y : Str} {py spos : Pos} (hc : X.calm = true) (hN : X.N.Nodup) (hi : PIx X W tg iter it) (ok : BlkOk X.N X.env.scope scope own) (hv : ∀ i ∈ vs1, i ∈ own.map (·.2)) (hix : ∀ i ∈ ix, i ∈ own.map (·.2)) (hix1 : ∀ i ∈ ix1, i ∈ vs1)
    (hg : ∀ (s : Shared) (H : Hp) (C : Addr) (cl : List (Str × Addr)) (fp : List Addr), PGx (X.blk s H scope (compEnvC scope cl C X.env) fp) tg ix g) (ht : ∀ (s : Shared) (H : Hp) (C : Addr) (cl : List (Str × Addr)) (fp : List Addr), PTx (X.blk s H scope (compEnvC scope cl C X.env) fp) W0 ifs t)
    (hi1 : ∀ (s : Shared) (H : Hp) (C : Addr) (cl : List (Str × Addr)) (fp : List Addr), PIx (X.blk s H scope (compEnvC scope cl C X.env) fp) W0 tg1 iter1 it1)
    (hg1 : ∀ (s : Shared) (H : Hp) (C : Addr) (cl : List (Str × Addr)) (fp : List Addr), PGx (X.blk s H scope (compEnvC scope cl C X.env) fp) tg1 ix1 g1) (ht1 : ∀ (s : Shared) (H : Hp) (C : Addr) (cl : List (Str × Addr)) (fp : List Addr), PTx (X.blk s H scope (compEnvC scope cl C X.env) fp) W0 ifs1 t1)
    (he : ∀ (s : Shared) (H : Hp) (C : Addr) (cl : List (Str × Addr)) (fp : List Addr), PV (X.blk s H scope (compEnvC scope cl C X.env) fp) W0 elt e) (hy : X.N[i]? = some y := by rfl) (hyl : X.env.scope.names.lookup y = some .local := by rfl)
    (hsw : swapsWith (.ListComp elt [⟨tg, iter, ifs, 0⟩, ⟨tg1, iter1, ifs1, 0⟩] scope pos) (some (.Name y py)) spos.line X.env = pure true := by exact sw_true rfl rfl rfl (by decide +kernel)) (hs : ∀ x, foldedSetIterable iter X.env x = pure x := by intro _; rfl) (hs1 : ∀ env x, foldedSetIterable iter1 env x = pure x := by intro _ _; rfl) :
    VS X W (.Assign [.Name y py] (.ListComp elt [⟨tg, iter, ifs, 0⟩, ⟨tg1, iter1, ifs1, 0⟩] scope pos) spos) (sSet i (eComp2 (own.map (·.2)) vs1 it g t it1 g1 t1 e)) :=
  PS.imp (ps_setLc2 hc hN hy hyl hsw hi ok hv hg ht hi1 hg1 ht1 he hs hs1) fun D σ H ⟨ρ, env, h, R, gd⟩ => comp2_read hix hix1 (TrS.val (k := fun d env h => .nx (env.set i (some (.val d))) h) R gd fun d v ρ1 h1 H1 A g1 => g1 ρ1 _ H1 ⟨A.rel.hp, A.rel.env.set (sv := .val d) A.rd i⟩ (Step.refl ρ1 H1))
theorem s_newLc2 {i : Nat} {y : Str} {py spos : Pos} (hc : X.calm = true) (hN : X.N.Nodup) (hi : PIx X W tg iter it) (ok : BlkOk X.N X.env.scope scope own) (hv : ∀ i ∈ vs1, i ∈ own.map (·.2)) (hix : ∀ i ∈ ix, i ∈ own.map (·.2)) (hix1 : ∀ i ∈ ix1, i ∈ vs1)
    (hg : ∀ (s : Shared) (H : Hp) (C : Addr) (cl : List (Str × Addr)) (fp : List Addr), PGx (X.blk s H scope (compEnvC scope cl C X.env) fp) tg ix g) (ht : ∀ (s : Shared) (H : Hp) (C : Addr) (cl : List (Str × Addr)) (fp : List Addr), PTx (X.blk s H scope (compEnvC scope cl C X.env) fp) W0 ifs t)
    (hi1 : ∀ (s : Shared) (H : Hp) (C : Addr) (cl : List (Str × Addr)) (fp : List Addr), PIx (X.blk s H scope (compEnvC scope cl C X.env) fp) W0 tg1 iter1 it1)
    (hg1 : ∀ (s : Shared) (H : Hp) (C : Addr) (cl : List (Str × Addr)) (fp : List Addr), PGx (X.blk s H scope (compEnvC scope cl C X.env) fp) tg1 ix1 g1) (ht1 : ∀ (s : Shared) (H : Hp) (C : Addr) (cl : List (Str × Addr)) (fp : List Addr), PTx (X.blk s H scope (compEnvC scope cl C X.env) fp) W0 ifs1 t1)
    (he : ∀ (s : Shared) (H : Hp) (C : Addr) (cl : List (Str × Addr)) (fp : List Addr), PV (X.blk s H scope (compEnvC scope cl C X.env) fp) W0 elt e) (hy : X.N[i]? = some y := by rfl) (hyl : X.env.scope.names.lookup y = some .local := by rfl)
    (hsw : swapsWith (.ListComp elt [⟨tg, iter, ifs, 0⟩, ⟨tg1, iter1, ifs1, 0⟩] scope pos) (some (.Name y py)) spos.line X.env = pure true := by exact sw_true rfl rfl rfl (by decide +kernel)) (hs : ∀ x, foldedSetIterable iter X.env x = pure x := by intro _; rfl) (hs1 : ∀ env x, foldedSetIterable iter1 env x = pure x := by intro _ _; rfl) :
    VS X W (.Assign [.Name y py] (.ListComp elt [⟨tg, iter, ifs, 0⟩, ⟨tg1, iter1, ifs1, 0⟩] scope pos) spos) (sNew i (eComp2 (own.map (·.2)) vs1 it g t it1 g1 t1 e)) :=
  PS.imp (ps_setLc2 hc hN hy hyl hsw hi ok hv hg ht hi1 hg1 ht1 he hs hs1) fun D σ H ⟨ρ, env, h, R, gd⟩ => comp2_read hix hix1 (TrS.new R gd)
end
end
end Ev
end
section
set_option Elab.async false
set_option linter.all false
set_option maxRecDepth 100000
set_option maxHeartbeats 4000000
/-! Ev17: stars in displays, the order of data, is of truth values, tuples repeated, xs[::-1], value methods, dict displays, constants of scalars. -/
namespace Ev
open PySem PySem.Spec L2 EvS
section
variable {X : Cx} {W : WX} {K : PySem.W.Frag} {mg : Str → Option Value} {ρ ρ1 ρ' : Own} {H H1 H' : Hp} {h h' : Hs} {Q : VK} {pos : Pos}

/-! ### stars -/
theorem paired_app {α β : Type} {F : α → β → Prop} : ∀ {a : List α} {b : List β} {c : List α} {d : List β}, Paired F a b → Paired F c d → Paired F (a ++ c) (b ++ d)
  | _, _, _, _, .nil, q => q
  | _, _, _, _, .cons r p, q => .cons r (paired_app p q)
theorem rds_ro {env : Nv} : ∀ {ds : List D} {vs : List V}, RDs K mg ρ H ds vs → Paired (RO K mg ρ env H) (ds.map OV.vl) vs
  | _, _, .nil => .nil
  | _, _, .cons r rs => .cons r (rds_ro rs)
def aStar (m : Ex) (r : As) : As := fun env h => match m env h with
  | .ok rv h1 => (match items? rv.vl with
    | some ds => (match r env h1 with
      | .ok os h2 => .ok (ds.map OV.vl ++ os) h2
      | .exc x h2 => .exc x h2
      | .bad => .bad)
    | none => .bad)
  | .exc x h1 => .exc x h1
  | .bad => .bad
theorem a_star {e : Expr} {es : List Expr} {m : Ex} {r : As} {p : Pos} (he : PV X W e m) (hr : PAs X W es r) (hs : starEach (.Starred e p :: es) X.env = (true, eval e X.env) :: starEach es X.env := by rfl) : PAs X W (.Starred e p :: es) (aStar m r) :=
  PA.imp (StX.pa_star he hr hs) fun σ H Q ⟨ρ, env, h, R, g⟩ => ⟨ρ, env, h, R, by
    unfold aStar at g
    cases q : m env h with
    | exc x h1 => rw [q] at g; exact g
    | bad => rw [q] at g; exact g.elim
    | ok rv h1 =>
      rw [q] at g
      dsimp only at g
      cases q1 : items? rv.vl with
      | none => rw [q1] at g; exact g.elim
      | some ds =>
        rw [q1] at g
        dsimp only at g
        refine Post.ofVl fun ρ' H' v ok S rd => ?_
        obtain ⟨a, vs, rfl, sq, rs⟩ := items_rd0 rd q1
        refine ⟨a, vs, rfl, sq.symm, ρ', env, h1, ⟨ok, R.env.step R.hp S⟩, ?_⟩
        cases q2 : r env h1 with
        | exc x h2 => rw [q2] at g; exact EPost.later S (show EPost X.K X.mg ρ H h2 (fun c d H' => W c d σ H') x from g)
        | bad => rw [q2] at g; exact g.elim
        | ok os h2 =>
          rw [q2] at g
          exact fun ρ2 H2 ws ok2 S2 ros => g ρ2 H2 (vs ++ ws) ok2 (S.trans S2) (paired_app (rds_ro (rs.step ok.mutb S2)) ros)⟩

/-! ### the order of data -/
def dLt? (d e : D) : Option Bool := match toPy d, toPy e with
  | some p, some q => if PySem.W.alike p q && !(PyData.eqv p .none) && decide (min p.depth q.depth < 60) then some (PySem.W.dataLt p q) else none
  | _, _ => none
def dLtD (d e : D) : Option RV := (dLt? d e).map fun b => .val (.bl b)
theorem o_ltD (hu : X.A.units + 64 < cLine) : OpV X (compareOp .Lt) dLtD := OpV.of (op_ltD hu) fun H Q ρ h d e x y rv ok rd re ho p => by
  unfold dLtD dLt? at ho
  split at ho
  · rename_i p1 q1 e1 e2
    split at ho
    · rename_i z
      simp only [Bool.and_eq_true, Bool.not_eq_true', decide_eq_true_eq] at z
      cases ho
      exact ⟨_, _, rd.dp e1, re.dp e2, z.1.1, fun n => by rw [n] at z; exact absurd z.1.2 (by decide), z.2, p.bl ok⟩
    · cases ho
  · cases ho

/-! ### is -/
def dIsB : D → D → Option RV
  | .bl a, .bl b => some (.val (.bl (decide (a = b))))
  | .non, .bl _ => some (.val (.bl false))
  | _, _ => none
theorem o_isB : OpV X (compareOp .Is) dIsB := OpV.of op_isB fun H Q ρ h d e x y rv ok rd re ho p => by
  unfold dIsB at ho
  split at ho
  · cases ho; cases rd.vBl; cases re.vBl
    exact .inl ⟨_, _, rfl, rfl, by simpa using p.bl ok⟩
  · cases ho; cases rd.vNon; cases re.vBl
    exact .inr ⟨_, rfl, rfl, p.bl ok⟩
  · cases ho
def dIsNB : D → D → Option RV
  | .bl a, .bl b => some (.val (.bl (!decide (a = b))))
  | .non, .bl _ => some (.val (.bl true))
  | _, _ => none
theorem o_isNB : OpV X (compareOp .IsNot) dIsNB := OpV.of op_isNB fun H Q ρ h d e x y rv ok rd re ho p => by
  unfold dIsNB at ho
  split at ho
  · cases ho; cases rd.vBl; cases re.vBl
    exact .inl ⟨_, _, rfl, rfl, by simpa using p.bl ok⟩
  · cases ho; cases rd.vNon; cases re.vBl
    exact .inr ⟨_, rfl, rfl, p.bl ok⟩
  · cases ho

/-! ### xs[::-1] -/
def dRev : D → Option RV
  | .lst ds => some (.fresh ds.reverse)
  | .scr ds => some (.fresh ds.reverse)
  | _ => none
def eRev (m : Ex) : Ex := fun env h => bindV m (fun d h1 => liftO (dRev d) h1) env h
theorem RDs.rev {ds : List D} {vs : List V} (r : RDs K mg ρ H ds vs) : RDs K mg ρ H ds.reverse vs.reverse := by
  have go : ∀ {ds : List D} {vs : List V} {as : List D} {ws : List V}, RDs K mg ρ H ds vs → RDs K mg ρ H as ws → RDs K mg ρ H (ds.reverse ++ as) (vs.reverse ++ ws) := fun {ds} => by
    induction ds with
    | nil => intro vs as ws r q; cases r; exact q
    | cons d ds ih =>
      intro vs as ws r q
      cases r with
      | cons r rs =>
        rw [List.reverse_cons, List.reverse_cons, List.append_assoc, List.append_assoc]
        exact ih rs (.cons r q)
  have := go r .nil
  rwa [List.append_nil, List.append_nil] at this
theorem v_rev {e : Expr} {m : Ex} {k : Nat} {p1 p2 p3 : Pos} (he : PV X W e m) : PV X W (.Subscript e (.Slice none none (some (.UnaryOp .USub (.Constant (.int 1) k p1) p2)) p3) pos) (eRev m) :=
  PE.imp (pe_revL he) fun σ H Q ⟨ρ, env, h, R, g⟩ => Tr.bind R g fun d v ρ1 h1 H1 A g1 => by
    have r := A.rd
    unfold dRev at g1
    split at g1
    · cases r with
      | lst e n rs => exact ⟨_, _, rfl, SqL.of e, Post.newLst g1 A.rel.hp (RDs.rev rs)⟩
    · cases r with
      | scr e rs => exact ⟨_, _, rfl, e.l, Post.newLst g1 A.rel.hp (RDs.rev rs)⟩
    · exact g1.elim

/-! ### methods of a list that is a value -/
def opVM (op : D → List D → Option RV) (d : D) (env : Nv) (h : Hs) (os : List OV) : Res RV := match forces env h os with
  | some ds => liftO (op d ds) h
  | none => .bad
def isLst : D → Bool
  | .lst _ => true
  | .scr _ => true
  | _ => false
def eVM (op : D → List D → Option RV) (m : Ex) (as : As) : Ex := fun env h => bindV m (fun d h1 => if isLst d then bindA as (fun os h2 => opVM op d env h2 os) env h1 else .bad) env h
def VMethV (X : Cx) (id : String) (op : D → List D → Option RV) : Prop :=
  ∃ r, MtR X id r ∧ ∀ (ρ : Own) (h : Hs) (H : Hp) (Q : VK) (d : D) (x : V) (as : List D) (xs : List V) (rv : RV), HeapOk X.K X.mg ρ h H → RD X.K X.mg ρ H d x → Paired (RB X.K X.mg ρ H) as xs → op d as = some rv → Post X.K X.mg ρ H h Q rv → r x xs H Q
theorem isLst_ty {d : D} {x : V} (r : RD K mg ρ H d x) (e : isLst d = true) : tyV K "list" x H := by
  cases r <;> first
    | (cases e; done)
    | (rename_i h _ _; exact .inl ⟨rfl, _, SqL.of h⟩)
    | (rename_i h _; exact .inl ⟨rfl, _, h.l⟩)
theorem v_vmeth {op : D → List D → Option RV} {name : Str} {id : String} {o e : Expr} {es : List Expr} {mo : Ex} {m : As} {apos cpos : Pos} (hm : VMethV X id op) (slot : Slot "list" name id) (hty : typeOf (.builtin id) = pure (.type "method_descriptor")) (ho : PV X W o mo) (ha : PAs X W (e :: es) m)
    (hbase : attributeBase o name X.env (eval o X.env) = eval o X.env := by rfl)
    (hfew : ((backTo cpos (starEach (e :: es) X.env)).all (fun x => !x.1) && (backToKw cpos (keywordEach [] X.env)).all (fun x => x.1.isSome)
      && decide ((e :: es).length + ([] : List Keyword).length + (if ([] : List Keyword).isEmpty then 0 else 1) < 30)) = true := by rfl)
    (hline : (apos.endLine == cpos.line) = true := by rfl) (hs : starEach (e :: es) X.env = (false, eval e X.env) :: starEach es X.env := by rfl) (hplain : (backTo cpos (starEach es X.env)).any (·.1) = false := by rfl) :
    PV X W (.Call (.Attribute o name apos) (e :: es) [] cpos) (eVM op mo m) := by
  obtain ⟨r, mr, hr⟩ := hm
  refine PE.imp (pe_bm PySem.F.plainAttrs_list slot hty mr ho ha hbase hfew hline hs hplain) fun σ H Q ⟨ρ, env, h, R, g⟩ => ?_
  refine Tr.bind R g fun d v ρ1 h1 H1 A g1 => ?_
  split at g1
  · rename_i hl
    refine ⟨isLst_ty A.rd hl, TrA.bind A.rel g1 fun os xs ρ2 h2 H2 A2 g2 => ?_⟩
    unfold opVM at g2
    split at g2
    · rename_i as e2
      cases q : op d as with
      | none => rw [q] at g2; exact g2.elim
      | some rv =>
        rw [q] at g2
        exact hr ρ2 h2 H2 Q d v as xs rv A2.rel.hp (A.rd.step A.rel.hp.mutb A2.st) (forces_rb A2.rel.hp A2.ros e2) q g2
    · exact g2.elim
  · exact g1.elim
/-- the first place of an equal one -/
def mIndex : D → List D → Option RV
  | .lst ds, [d] => (match toPys ds, toPy d with
    | some ps, some p => if SeqAt.shaped (.list ps) && SeqAt.shaped p then (ps.findIdx? fun z => PyData.eqv z p).map fun j => .val (.int (j : Nat)) else none
    | _, _ => none)
  | _, _ => none
theorem m_index (hu : X.A.units + 65 < cLine) : VMethV X "list.index" mIndex := ⟨_, mt_indexD hu, fun ρ h H Q d x as xs rv ok rd ras ho p => by
  unfold mIndex at ho
  split at ho
  · rename_i ds d1
    split at ho
    · rename_i ps p1 e1 e2
      split at ho
      · rename_i z
        rw [Bool.and_eq_true] at z
        cases q : ps.findIdx? fun z => PyData.eqv z p1 with
        | none => rw [q] at ho; cases ho
        | some j =>
          rw [q] at ho; cases ho
          cases ras with
          | cons r1 ras =>
            cases ras
            obtain ⟨hj, h1, h2⟩ := List.findIdx?_eq_some_iff_getElem.mp q
            cases rd with
            | lst e n rs =>
              refine ⟨_, _, p1, ps, j, ps[j], rfl, rfl, .lst (SqL.of e) (RDs.dp rs e1), r1.dp e2, z.1, z.2, List.getElem?_eq_getElem hj, h1, fun m z' hm hz => ?_, p.int ok⟩
              have hml : m < ps.length := by omega
              rw [List.getElem?_eq_getElem hml] at hz
              cases hz
              exact by simpa using h2 m hm
      · cases ho
    · cases ho
  · cases ho⟩

/-! ### dict displays -/
theorem Post.newDct {ks : List Key} {ds : List D} {vs : List V} (p : Post K mg ρ H h Q (.val (.dct ks ds))) (ok : HeapOk K mg ρ h H) (l : ks.length = vs.length) (r : RDs K mg ρ H ds vs) : ∀ a, H a = none → Q (.ref a) (upd H a (.dK (ks.zip vs))) := fun a ha =>
  p ρ _ _ (ok.new ha) (step_new ha) (.dct upd_same l (ok.notOwned ha) (r.step ok.mutb (step_new ha)))
theorem v_dct0 : PV X W (.Dict [] [] pos) (eC (.dct [] [])) := PE.imp pe_dnewK fun σ H Q ⟨ρ, env, h, R, g⟩ => fun p hp => Post.newDct (ks := []) (vs := []) g R.hp rfl .nil p hp
def evalPs : List Ex → Nv → Hs → Res (List D)
  | [], _, h => .ok [] h
  | m :: r, env, h => match m env h with
    | .ok rv h1 => (match evalPs r env h1 with
      | .ok ds h2 => .ok (rv.vl :: ds) h2
      | _ => .bad)
    | _ => .bad
def eDct (ps : List (Key × Ex)) : Ex := fun env h => match evalPs (ps.map (·.2)) env h with
  | .ok ds h1 => .ok (.val (.dct (ps.map (·.1)) ds)) h1
  | _ => .bad
def PD (X : Cx) (W : WX) (pos : Pos) (keys : List (Option Expr)) (values : List Expr) (ps : List (Key × Ex)) : Prop := L2.PPs X pos keys values (ps.map fun p => (tC (kV p.1), Tr X.K X.mg W p.2))
theorem pd_nil : PD X W pos [] [] [] := L2.pps_nil
theorem pd_str {k : Str} {j : Nat} {p1 : Pos} {v : Expr} {ks : List (Option Expr)} {vs : List Expr} {m : Ex} {ps : List (Key × Ex)} (hv : PV X W v m) (hr : PD X W pos ks vs ps) : PD X W pos (some (.Constant (.str k) j p1) :: ks) (v :: vs) ((.inr k, m) :: ps) := L2.pps_cons pe_str hv hr
theorem pd_int {k : Int} {j : Nat} {p1 : Pos} {v : Expr} {ks : List (Option Expr)} {vs : List Expr} {m : Ex} {ps : List (Key × Ex)} (hv : PV X W v m) (hr : PD X W pos ks vs ps) : PD X W pos (some (.Constant (.int k) j p1) :: ks) (v :: vs) ((.inl k, m) :: ps) := L2.pps_cons pe_int hv hr
theorem pairs_read {σ : Slots} {Z : List (V × V) → Hp → Prop} : ∀ {ps : List (Key × Ex)} {ρ : Own} {env : Nv} {h h2 : Hs} {H : Hp} {ds : List D}, Rel X.K X.mg ρ env h σ H → evalPs (ps.map (·.2)) env h = .ok ds h2 →
    (∀ ρ' H' vs, HeapOk X.K X.mg ρ' h2 H' → Step ρ H ρ' H' → RDs X.K X.mg ρ' H' ds vs → Z ((ps.map fun p => kV p.1).zip vs) H') → tPairs (ps.map fun p => (tC (kV p.1), Tr X.K X.mg W p.2)) σ H Z := by
  intro ps
  induction ps generalizing Z with
  | nil =>
    intro ρ env h h2 H ds R e hz
    cases e
    exact hz ρ H [] R.hp (Step.refl _ _) .nil
  | cons p ps ih =>
    intro ρ env h h2 H ds R e hz
    have e : evalPs (p.2 :: ps.map (·.2)) env h = .ok ds h2 := e
    unfold evalPs at e
    cases q : p.2 env h with
    | exc x h1 => rw [q] at e; cases e
    | bad => rw [q] at e; cases e
    | ok rv h1 =>
      rw [q] at e
      dsimp only at e
      cases q2 : evalPs (ps.map (·.2)) env h1 with
      | exc x h1 => rw [q2] at e; cases e
      | bad => rw [q2] at e; cases e
      | ok es h3 =>
        rw [q2] at e
        cases e
        refine ⟨ρ, env, h, R, ?_⟩
        rw [q]
        refine Post.ofVl fun ρ1 H1 v ok1 S1 r1 => ?_
        refine ih (ρ := ρ1) (H := H1) ⟨ok1, R.env.step R.hp S1⟩ q2 fun ρ2 H2 vs ok2 S2 rs => ?_
        exact hz ρ2 H2 (v :: vs) ok2 (S1.trans S2) (.cons (r1.step ok1.mutb S2) rs)
theorem zip_kV : ∀ (ks : List Key) (vs : List V), (ks.zip vs).map (fun kv => (kV kv.1, kv.2)) = (ks.map kV).zip vs
  | [], _ => rfl
  | _ :: _, [] => rfl
  | k :: ks, v :: vs => by
    rw [List.zip_cons_cons, List.map_cons, zip_kV ks vs]; rfl
theorem evalPs_len : ∀ {ms : List Ex} {env : Nv} {h h2 : Hs} {ds : List D}, evalPs ms env h = .ok ds h2 → ds.length = ms.length
  | [], _, _, _, _, e => by cases e; rfl
  | m :: r, env, h, h2, ds, e => by
    unfold evalPs at e
    cases q : m env h with
    | exc x h1 => rw [q] at e; cases e
    | bad => rw [q] at e; cases e
    | ok rv h1 =>
      rw [q] at e
      dsimp only at e
      cases q2 : evalPs r env h1 with
      | exc x h1 => rw [q2] at e; cases e
      | bad => rw [q2] at e; cases e
      | ok es h3 =>
        rw [q2] at e
        cases e
        rw [List.length_cons, List.length_cons, evalPs_len q2]
theorem v_dct {keys : List (Option Expr)} {values : List Expr} {ps : List (Key × Ex)} (hp : PD X W pos keys values ps) (hnd : (ps.map (·.1)).Nodup) (hall : keys.all (·.isSome) = true := by rfl) (hl : keys.length = values.length := by rfl) (h0 : keys ≠ [] := by nofun) (h15 : keys.length ≤ 15 := by decide) (h15' : ps.length ≤ 15 := by decide) : PV X W (.Dict keys values pos) (eDct ps) :=
  PE.imp (pe_disp hp hall hl h0 h15) fun σ H Q ⟨ρ, env, h, R, g⟩ => by
    unfold eDct at g
    cases q : evalPs (ps.map (·.2)) env h with
    | exc x h1 => rw [q] at g; exact g.elim
    | bad => rw [q] at g; exact g.elim
    | ok ds h1 =>
      rw [q] at g
      have hlen : ds.length = ps.length := by rw [evalPs_len q, List.length_map]
      intro p hp
      have hf : p ∉ ρ.fb := fun hf => by
        obtain ⟨_, xs, e⟩ := R.hp.fbd p hf
        rw [hp] at e; cases e
      have nc := R.hp.notC hp
      refine pairs_read (ρ := ρ.ad p) ⟨R.hp.fbInG (.dK []) hp, R.env.fbIn hp⟩ q fun ρ2 H2 vs ok2 S2 rs => ?_
      obtain ⟨o2, e2⟩ := out_ofG S2 ok2 nc
      have S3 := S2.fbOut hp hf
      have rs3 := RDs.fbOut o2 rs
      have hvl : (ps.map (·.1)).length = vs.length := by rw [List.length_map, ← rs.length, hlen]
      refine ⟨e2, (ps.map (·.1)).zip vs, ?_, ?_, ?_⟩
      · rw [zip_kV, List.map_map]; rfl
      · rw [List.length_zip]
        have : (ps.map (·.1)).length = ps.length := List.length_map ..
        omega
      · rw [mergeK_nodup _ [] (by rw [List.nil_append, List.map_fst_zip (Nat.le_of_eq hvl)]; exact hnd), List.nil_append, ← upd_era]
        exact Post.newDct (Post.later S3 g) (ok2.fbOut o2) hvl rs3 p era_same

/-! ### a constant of the module: a tuple of scalars -/
def scalV : D → Option V
  | .non => some .non
  | .bl b => some (.bl b)
  | .int i => some (.int i)
  | .str x => some (.str x)
  | _ => none
theorem scal_rd {d : D} {v : V} (e : scalV d = some v) : RD K mg ρ H d v := by
  cases d <;> first | (cases e; done) | (cases e; first | exact .non | exact .bl _ | exact .int _ | exact .str _)
theorem v_glScal {x : Str} {a : Addr} {o : Obj} {its : List Value} {n : Nat} {ds : List D} {vs : List V} (hm : X.mg x = some (.ref a)) (hk : X.K.lookup a = some o) (hc : o.cls = .type "tuple") (hd : o.data = .seq its.toArray n) (hz : its.length ≤ sizeLine) (hv : Vals vs its)
    (he : ds.map scalV = vs.map some) (hg : Gl X x := by rfl) (hdb : (x == ("__debug__" : Str)) = false := by decide) : PV X W (.Name x pos) (eC (.tup ds)) :=
  v_const (v := .ref a) (pe_glob hg hm rfl hdb) fun ρ H => .tup (vs := vs) (.inr ⟨o, its.toArray, n, hk, hc, hd, by simpa using hz, by simpa using hv⟩) (by
    have go : ∀ (ds : List D) (vs : List V), ds.map scalV = vs.map some → RDs X.K X.mg ρ H ds vs := fun ds => by
      induction ds with
      | nil => intro vs h; cases vs with
        | nil => exact .nil
        | cons _ _ => cases h
      | cons d ds ih =>
        intro vs h
        cases vs with
        | nil => cases h
        | cons v vs =>
          rw [List.map_cons, List.map_cons] at h
          injection h with h1 h2
          exact .cons (scal_rd h1) (ih vs h2)
    exact go ds vs he)
/-! ### repr([x, y]) of things that stay where they are -/
def opRL (env : Nv) (h : Hs) (os : List OV) : Res RV := match forces env h os with
  | some ds => if ds.length ≤ sizeLine then liftO (fRepr (.lst ds)) h else .bad
  | none => .bad
def eReprL (m : As) : Ex := fun env h => bindA m (fun os h1 => opRL env h1 os) env h
theorem RB.new {d : D} {v : V} {p : Addr} {o : HO} (ok : HeapOk K mg ρ h H) (hp : H p = none) (r : RB K mg ρ H d v) : RB K mg ρ (upd H p o) d v := by
  rcases r with r | ⟨a, es, vs, rfl, rfl, e1, rs⟩
  · exact .inl (r.step ok.mutb (step_new hp))
  · exact .inr ⟨a, es, vs, rfl, rfl, upd_keep hp a _ e1, rs.step ok.mutb (step_new hp)⟩
theorem rbs_dp {p : Addr} {o : HO} (ok : HeapOk K mg ρ h H) (hp : H p = none) : ∀ {ds : List D} {vs : List V} {ps : List PyData}, Paired (RB K mg ρ H) ds vs → toPys ds = some ps → DpAll K (upd H p o) vs ps
  | _, _, _, .nil, e => by cases e; exact .nil
  | _, _, _, .cons r rs, e => by
    unfold toPys at e
    split at e
    · cases e; exact .cons ((r.new ok hp).dp (by assumption)) (rbs_dp ok hp rs (by assumption))
    · cases e
theorem v_reprL {es : List Expr} {m : As} {p p2 : Pos} (hG : X.A.guards = some []) (hu : X.A.units + 64 < cLine) (hm : X.mg "repr" = none) (ha : PAs X W es m) (hg : Gl X "repr" := by rfl)
    (hs1 : starEach [.List es p2] X.env = (false, eval (.List es p2) X.env) :: starEach [] X.env := by rfl) (hpl : (backTo pos (starEach [] X.env)).any (·.1) = false := by rfl) : PV X W (.Call (.Name "repr" p) [.List es p2] [] pos) (eReprL m) :=
  PE.imp (pe_callB (call_reprD hG hu) hg hm rfl (pa_cons (pe_lst ha) pa_nil hs1) (by decide) (by decide) hs1 hpl) fun σ H Q ⟨ρ, env, h, R, g⟩ => TrA.bind R g fun os vs ρ1 h1 H1 A1 g1 => by
    unfold opRL at g1
    split at g1
    · rename_i ds e
      split at g1
      · rename_i hl
        have rb := forces_rb A1.rel.hp A1.ros e
        refine ⟨by rw [← Paired.length rb]; exact hl, fun q hq => ?_⟩
        unfold fRepr at g1
        rw [toPy] at g1
        cases e2 : toPys ds with
        | none => rw [e2] at g1; exact g1.elim
        | some ps =>
          rw [e2] at g1
          dsimp only at g1
          split at g1
          · rename_i z
            unfold reprOk at z
            simp only [Bool.and_eq_true, Bool.not_eq_true', decide_eq_true_eq] at z
            exact ⟨_, _, rfl, .lst (SqL.of upd_same) (rbs_dp A1.rel.hp hq rb e2), z.1.1.1, z.1.1.2, z.1.2, z.2, (Post.later (rv := .val (.str (PyData.list ps).shown)) (step_new hq) g1) ρ1 _ _ (A1.rel.hp.new hq) (Step.refl _ _) (.str _)⟩
          · exact g1.elim
      · exact g1.elim
    · exact g1.elim
end
end Ev
end
section
set_option Elab.async false
set_option linter.all false
set_option maxRecDepth 100000
set_option maxHeartbeats 4000000
/-! Ev18: l.count(x) of data of any depth; enumerate of a list or of a tuple. -/
namespace Ev
open PySem PySem.Spec L2 EvS PyProof.Rows

/-! ### enumerate(v) for what is begun as Begins tells (the proof turns that of the library's meets_enumerate_newB to one argument) -/
section
open Sem (wp)
theorem meets_enumerate_newB1 {v : Value} {o : Obj} {H : Heap → Prop} (B : Begins v o H) :
    Meets (Builtin.«enumerate.__new__» ⟨[.type "enumerate", v], []⟩) (fun _ R s => H s.heap ∧
      R (.ok (.ret (.ref (s.heap.push o).objs.size))) { s with heap := (s.heap.push o).push { cls := .type "enumerate", data := .fields #[.none, .bool false, .ref s.heap.objs.size, rawInt 0, .none, .none] } }) :=
  .of_wp fun prog w A R s h => by
    obtain ⟨hp, g, d, tk, os⟩ := s; obtain ⟨h1, h⟩ := h
    have hsub := sub_enumerate
    have q1 : ∀ {A' : Around} {E : Value → Shared → Prop} {Q : Value → Shared → Prop}, Q (.ref hp.objs.size) ⟨hp.push o, g, d, tk, os⟩ → wpAny (model prog w) A' (pyIter v) Q E ⟨hp, g, d, tk, os⟩ :=
      fun q => B.iter prog w _ _ ⟨hp, g, d, tk, os⟩ _ h1 q
    wp_walk using q1
    refine wpAny_stack_any fun st => wpAny_pure ?_
    split
    · rename_i c _ _ _ _ _
      cases (c == Value.type "enumerate")
      · wp_walk using q1
        exact ⟨_, rfl, h⟩
      · wp_walk using q1
        exact ⟨_, rfl, h⟩
    · wp_walk using q1
      exact ⟨_, rfl, h⟩
end
section
variable {prog : Program} {w : World} {A : Around} {E : Value → Shared → Prop} {s : Shared}
theorem enum_begins1 {v : Value} {o : Obj} {H : Heap → Prop} {Q : Value → Shared → Prop} (B : Begins v o H) (h1 : H s.heap)
    (h : ∀ h', IsEnum h' (s.heap.objs.size + 1) s.heap.objs.size 0 .none → h'.get? s.heap.objs.size = some o → h'.objs.size = s.heap.objs.size + 2 →
      (∀ b o, s.heap.get? b = some o → h'.get? b = some o) → Q (.ref (s.heap.objs.size + 1)) { s with heap := h' }) :
    wpAny (model prog w) A (call (.type "enumerate") [v]) Q E s := by
  refine callType_new F.called_enumerate (by decide) (F.typeCall_enumerate_1 _) (F.newCall_enumerate_1 _) (fun obj => F.args_object_init_2 obj _) F.entry_enumerate_new
    (meets_enumerate_newB1 B) ⟨h1, ?_⟩
  have hz : (s.heap.push o).objs.size = s.heap.objs.size + 1 := Heap.size_push ..
  show _ ∧ _
  rw [hz]
  have he : IsEnum ((s.heap.push o).push { cls := .type "enumerate", data := .fields #[.none, .bool false, .ref s.heap.objs.size, rawInt 0, .none, .none] }) (s.heap.objs.size + 1) s.heap.objs.size 0 .none := by
    have := Heap.get?_push_size (s.heap.push o) (o := { cls := .type "enumerate", data := .fields #[.none, .bool false, .ref s.heap.objs.size, rawInt 0, .none, .none] }) rfl
    rw [hz] at this; exact this
  refine ⟨⟨_, he, rfl⟩, h _ he (Heap.get?_push_of_some _ (Heap.get?_push_size _ B.free)) (by rw [Heap.size_push, hz]) fun b o x => Heap.get?_push_of_some _ (Heap.get?_push_of_some _ x)⟩
end
/-- n items with their places, in new pairs -/
def IteX (K : PySem.W.Frag) (k : Bool) (a : Addr) (n : Nat) : It :=
  ⟨fun i H => i < n ∧ ∃ xs : List V, SqX K H k a xs ∧ xs.length = n,
    fun i H v H' => ∃ T x, v = .ref T ∧ H T = none ∧ H' = upd H T (.tup [.int (i : Nat), x]) ∧ ∀ xs, SqX K H k a xs → xs[i]? = some x,
    fun i H => i = n ∧ ∃ xs : List V, SqX K H k a xs ∧ xs.length = n⟩
theorem turn_enumX {P : Program} {w : World} {K : PySem.W.Frag} {elts : List Expr} {kk : Nat} {tpos : Pos} {a e it : Addr} {k : Bool} {n : Nat} (ha : a ≠ it) (hne : e ≠ it) (hea : e ≠ a) :
    Turn P w K (.Tuple elts kk tpos) (IteX K k a n) [e, it] e (fun i h => (∃ old, IsEnum h e it ((i : Nat) : Int) old) ∧ SrcX h it a i k) where
  mem := by simp
  obj := fun i h st c hc => by
    obtain ⟨⟨old, he⟩, h1⟩ := st
    have e' : c = e ∨ c = it := by simpa using hc
    rcases e' with q | q
    · rw [q]; exact ⟨_, he, fun v q => nomatch q⟩
    · rw [q]; exact h1.obj
  keep := fun i h h' st k => by
    obtain ⟨⟨old, he⟩, h1⟩ := st
    exact ⟨⟨old, k e (by simp) _ he⟩, h1.keep fun o q => k it (by simp) o q⟩
  item := by
    intro X hP hw hK hc i pins s σ H E I hf st hg
    subst hP hw hK
    obtain ⟨⟨old, he⟩, h1⟩ := st
    obtain ⟨hi, xs, hqx, lx⟩ := hg
    obtain ⟨its, rv, p, _⟩ := seqX I hqx
    have n1 : its.toArray.size = n := by have := rv.length; simp; omega
    have hel : e < s.heap.objs.size := Heap.lt_size he
    have hil : it < s.heap.objs.size := by obtain ⟨_, e1, _⟩ := h1.obj; exact Heap.lt_size e1
    refine wpAny_pyNext_enum_itemD (drawsX (prog := X.prog) (w := X.w) (A := X.A.in1) (I.ok.hd hc) k it a ha its.toArray n1) he ⟨h1, p⟩ hi hne (nm2 _ _ _ hne hea) fun u h' tk hu ho h1' hT hsz hk => ?_
    refine ⟨_, rfl, wpAny_letOwnedTupleGo_enum (s := { s with heap := h', toks := tk + 1 }) ho fun h'' he' sb => ?_⟩
    have hT2 : h''.get? s.heap.objs.size = some { cls := .type "tuple", data := .seq #[.int i tk, u] } := (sb.2 _ (Nat.ne_of_gt hel)).trans hT
    have hx : ∃ x, xs[i]? = some x := ⟨xs[i]'(by omega), List.getElem?_eq_getElem _⟩
    obtain ⟨x, hx⟩ := hx
    obtain ⟨v, hv, ru⟩ := rv.get hx
    have eu : v = u := by
      have : its[i]? = some u := by simpa using hu
      rw [hv] at this; exact Option.some.inj this
    subst eu
    have new : ObjOk X.prog X.w (upd H s.heap.objs.size (.tup [.int (i : Nat), x])) h'' s.heap.objs.size (.tup [.int (i : Nat), x]) :=
      ⟨by show 2 ≤ sizeLine; decide, [.int i tk, v], .cons ⟨_, rfl⟩ (.cons ru .nil), ⟨_, hT2, rfl, _, rfl⟩⟩
    have I1 : Inv X pins σ (upd H s.heap.objs.size (.tup [.int (i : Nat), x])) { s with heap := h'', toks := tk + 1 } :=
      I.turnedNew (t' := tk + 1) (ch := [e, it]) (fun c o hb q => (sb.2 c (fun z => hb (by simp [z]))).trans (hk c o (fun z => hb (by simp [z])) (fun z => hb (by simp [z])) q)) hf (Nat.le_refl _) new
    refine ⟨.ref s.heap.objs.size, _, I1, rfl, ⟨_, x, rfl, I.hok.fresh (Nat.le_refl _), rfl, fun l hl => by rw [seqX_inj I hl hqx]; exact hx⟩, ⟨⟨v, ?_⟩, ?_⟩, fun c hcm => ?_⟩
    · have e1 : ((i + 1 : Nat) : Int) = (i : Int) + 1 := by omega
      rw [e1]; exact he'
    · exact h1'.1.keep fun o q => (sb.2 _ hne.symm).trans q
    · have hlt : c < s.heap.objs.size := by
        have e' : c = e ∨ c = it := by simpa using hcm
        rcases e' with q | q
        · rw [q]; exact hel
        · rw [q]; exact hil
      rw [upd_ne (Nat.ne_of_lt hlt)]
      exact (hf c hcm).1
  done := by
    intro X hP hw hK hc i pins s σ H E I hf st hg
    subst hP hw hK
    obtain ⟨⟨old, he⟩, h1⟩ := st
    obtain ⟨hi, xs, hqx, lx⟩ := hg
    subst hi
    obtain ⟨its, rv, p, _⟩ := seqX I hqx
    have n1 : its.toArray.size = i := by have := rv.length; simp; omega
    exact wpAny_pyNext_enum_endD (drawsX (prog := X.prog) (w := X.w) (A := X.A.in1) (I.ok.hd hc) k it a ha its.toArray n1) he ⟨h1, p⟩ fun h' hk => ⟨rfl, I.turnedL (t' := s.toks) (ch := [e, it]) (fun c o hb q =>
      hk c o (fun z => hb (by simp [z])) q) hf⟩
  self := fun A i s Q E st h => let ⟨⟨_, he⟩, _⟩ := st; wpAny_pyIter_enum he h
def iEnumX (K : PySem.W.Frag) (t : TA) : TI := fun σ H R => t σ H fun vs H1 => ∃ a xs k, vs = [.ref a] ∧ SqX K H1 k a xs ∧ R (IteX K k a xs.length) H1
theorem pi_enumX {X : Cx} {e : Expr} {ta : TA} {p pos tpos : Pos} {elts : List Expr} {kk : Nat} (hm : X.mg "enumerate" = none) (ha : PA X [e] ta) (hg : Gl X "enumerate" := by rfl) (hs : starEach [e] X.env = [(false, eval e X.env)] := by rfl) :
    PI X (.Tuple elts kk tpos) (.Call (.Name "enumerate" p) [e] [] pos) (iEnumX X.K ta) := by
  refine ⟨fun pins s σ H R I h => ?_⟩
  refine Call_ (ld_blt I hg hm PyProof.Rows.boot_enumerate (PyProof.Rows.callWith_type1 (thn (ha.run pos pins s σ H _ I h) fun us s1 ⟨vs, H1, I1, r1, q1⟩ => ?_) hs rfl))
  obtain ⟨a, xs, k, ex, hq, q⟩ := q1
  subst ex
  cases r1 with
  | cons r rr =>
    cases rr
    cases r
    obtain ⟨its, rv, p', la⟩ := seqX I1 hq
    refine enum_begins1 (beginsX k a its.toArray) p' fun h' he hit hsz hk => wpAny_pyIter_enum he ?_
    have I2 : Inv X pins σ H1 { s1 with heap := h' } := I1.kept (t' := s1.toks) hk
    refine ⟨s1.heap.objs.size + 1, [s1.heap.objs.size + 1, s1.heap.objs.size], _, _, H1, rfl, I2, turn_enumX (Nat.ne_of_lt la) (Nat.succ_ne_self _) (Nat.ne_of_gt (Nat.lt_succ_of_lt la)), ⟨⟨.none, he⟩, itX_src hit⟩, fun b hb => ?_, q⟩
    have e' : b = s1.heap.objs.size + 1 ∨ b = s1.heap.objs.size := by simpa using hb
    have hle : s1.heap.objs.size ≤ b := by
      rcases e' with z | z
      · rw [z]; exact Nat.le_add_right _ _
      · rw [z]; exact Nat.le_refl _
    exact I1.fpOk hle (I1.hok.fresh hle)
section
variable {X : Cx} {W : WX} {K : PySem.W.Frag} {mg : Str → Option Value} {ρ ρ1 : Own} {H H1 : Hp} {h : Hs} {Q : VK} {pos : Pos}
def enumD (xs : List D) : List D := xs.mapIdx fun i d => .tup [.int (i : Nat), d]
def enum? : List D → Option (List D)
  | [a] => (sqOf a).map enumD
  | _ => none
def iEnum (m : As) : Ix := fun env h => match m env h with
  | .ok os h1 => (match plains os with
    | some ds => (match enum? ds with
      | some es => .ok es h1
      | none => .bad)
    | none => .bad)
  | .exc x h1 => .exc x h1
  | .bad => .bad
theorem walks_enum {a : Addr} {k1 : Bool} {vs : List V} {xs : List D} {n : Nat} (ok1 : HeapOk K mg ρ1 h H1) (hn : xs.length = n) (rs : RDs K mg ρ1 H1 xs vs)
    (s1 : ∀ ρ H, StepW ρ1 H1 ρ H → SqX K H k1 a vs) : WalksD K mg (IteX K k1 a n) ρ1 H1 (enumD xs) := fun ρ h' H ok S => by
  have l1 := rs.length
  refine ⟨⟨by simp [enumD]; omega, vs, s1 ρ H S, by omega⟩, fun i d e => ?_⟩
  unfold enumD at e
  rw [List.getElem?_mapIdx] at e
  cases q : xs[i]? with
  | none => rw [q] at e; cases e
  | some x1 =>
    rw [q] at e; cases e
    have hi : i < n := by
      obtain ⟨z, _⟩ := List.getElem?_eq_some_iff.mp q
      omega
    refine ⟨⟨hi, vs, s1 ρ H S, by omega⟩, fun x H' y => ?_⟩
    obtain ⟨T, u, rfl, hT, rfl, y1⟩ := y
    obtain ⟨v, e1, r1⟩ := (rs.stepW ok1.mutA S).get q
    have z1 := y1 vs (s1 ρ H S)
    rw [e1] at z1; cases z1
    exact ⟨ok.new hT, step_new hT, .tup (SqT.of upd_same) (.cons (.int _) (.cons (r1.step ok.mutb (step_new hT)) .nil))⟩
theorem i_enum {e : Expr} {m : As} {p pos tpos : Pos} {elts : List Expr} {kk : Nat} (hm : X.mg "enumerate" = none) (ha : PAs X W [e] m) (hg : Gl X "enumerate" := by rfl) (hs : starEach [e] X.env = [(false, eval e X.env)] := by rfl) :
    PIx X W (.Tuple elts kk tpos) (.Call (.Name "enumerate" p) [e] [] pos) (iEnum m) :=
  PI.imp (pi_enumX hm ha hg hs) fun σ H R ⟨ρ, env, h, Rl, g⟩ => by
    refine ⟨ρ, env, h, Rl, ?_⟩
    unfold iEnum at g
    cases q : m env h with
    | ok os h1 =>
      rw [q] at g
      intro ρ' H' vs ok S ros
      dsimp only at g
      cases q2 : plains os with
      | none => rw [q2] at g; exact g.elim
      | some ds =>
        rw [q2] at g
        dsimp only at g
        cases q3 : enum? ds with
        | none => rw [q3] at g; exact g.elim
        | some es =>
          rw [q3] at g
          have rs := plains_rd ros q2
          unfold enum? at q3
          split at q3
          · rename_i d1
            cases q4 : sqOf d1 with
            | none => rw [q4] at q3; cases q3
            | some xs =>
              rw [q4] at q3
              cases q3
              cases rs with
              | cons r rs =>
                cases rs
                obtain ⟨a, k1, us, rfl, ra, sa⟩ := sq_stays r q4 ok
                have l1 := ra.length
                exact ⟨a, us, k1, rfl, sa _ _ (Step.refl _ _).w, g ρ' H' _ ok S (walks_enum ok (by omega) ra sa)⟩
          · cases q3
    | exc x h1 => rw [q] at g; exact g
    | bad => rw [q] at g; exact g.elim

/-! ### l.count(x) (the proof turns that of the library's mt_indexD) -/
def rCntD (K : PySem.W.Frag) : V → List V → Hp → VK → Prop := fun x xs H Q => ∃ (a : Addr) (y : V) (d : PyData) (ds : List PyData), x = V.ref a ∧ xs = [y] ∧ Dp K H (V.ref a) (.list ds) ∧ Dp K H y d ∧
  SeqAt.shaped (.list ds) = true ∧ SeqAt.shaped d = true ∧ Q (.int ((ds.countP fun z => PyData.eqv z d : Nat) : Int)) H
theorem mt_countD (hu : X.A.units + 65 < cLine) : MtR X "list.count" (rCntD X.K) := by
  intro pins s σ H x xs v us Q I rx rxs h
  obtain ⟨a, y, d, ds, rfl, rfl, hl, hy, sl, sd, q⟩ := h
  cases rx
  cases rxs with
  | cons ry rt =>
    rename_i uy ut
    cases rt
    obtain ⟨bs, r1⟩ := Dp.reads I d y uy hy ry
    have hxs : PyData.canLayAll0 ds = true := SeqAt.canLay_of_shaped sl
    have hroom : X.A.units + 1 + min (PyData.depthAll ds) d.depth < cLine := room_in_shaped sd hu
    cases hl with
    | lst hs ha =>
      obtain ⟨its, rv, ⟨⟨cls, dd, data, sls⟩, n, ho, hc, hdn, hdt⟩, hlen⟩ := I.list hs
      simp only at hc hdt
      subst hc hdt
      obtain ⟨as, h4⟩ := Dp.readsAll I ds _ its ha rv
      have hmap : its.map (SeqAt.readOf s.heap) = ds := SeqAt.readsAll_map ds its as hxs h4
      refine call_meets PySem.F.slot_list_count ⟨_, ho, rfl⟩ PySem.F.entry_list_count (PySem.F.args_list_count_2 _ _)
        (SeqAt.list_countAt a its.toArray n dd sls uy (fun u => PyData.eqv (SeqAt.readOf s.heap u) d)) ⟨ho, SeqAt.items_eqAt (vs := its.toArray) (show ReadsAll s.heap its.toArray.toList ds as from h4) r1 hxs (SeqAt.canLay_of_shaped sd) hroom, ?_⟩
      refine ⟨.int ((ds.countP fun z => PyData.eqv z d : Nat) : Int), H, I.tok _, ⟨s.toks, ?_⟩, q⟩
      rw [← hmap, List.countP_map]
      rfl
def mCount : D → List D → Option RV
  | .lst ds, [d] => (match toPys ds, toPy d with
    | some ps, some p => if SeqAt.shaped (.list ps) && SeqAt.shaped p then some (.val (.int ((ps.countP fun z => PyData.eqv z p : Nat) : Int))) else none
    | _, _ => none)
  | _, _ => none
theorem m_count (hu : X.A.units + 65 < cLine) : VMethV X "list.count" mCount := ⟨_, mt_countD hu, fun ρ h H Q d x as xs rv ok rd ras ho p => by
  unfold mCount at ho
  split at ho
  · rename_i ds d1
    split at ho
    · rename_i ps p1 e1 e2
      split at ho
      · rename_i z
        rw [Bool.and_eq_true] at z
        cases ho
        cases ras with
        | cons r1 ras =>
          cases ras
          cases rd with
          | lst e n rs => exact ⟨_, _, p1, ps, rfl, rfl, .lst (SqL.of e) (RDs.dp rs e1), r1.dp e2, z.1, z.2, p.int ok⟩
      · cases ho
    · cases ho
  · cases ho⟩
end
end Ev
end
section
set_option Elab.async false
set_option linter.all false
set_option maxRecDepth 100000
set_option maxHeartbeats 4000000
/-! Ev19: a list of lists that are changed in place: xs[i][j], xs[i][j] = e, what escapes, xs = [e for ..]. -/
namespace Ev
open PySem PySem.Spec L2 EvS PyProof.Rows
section
variable {X : Cx} {W : WX} {K : PySem.W.Frag} {mg : Str → Option Value} {ρ ρ1 ρ2 ρ' : Own} {H H1 H2 H' : Hp} {h h' : Hs} {Q : VK} {pos : Pos}
theorem Inners.at {rows : List (List D)} {as : List Addr} (r : Inners K mg ρ H rows as) : ∀ {k : Nat} {ds : List D}, rows[k]? = some ds → ∃ a vs, as[k]? = some a ∧ H a = some (.lst vs) ∧ RDs K mg ρ H ds vs := by
  induction r with
  | nil => intro k ds e; simp at e
  | cons e r rs ih =>
    intro k ds e1
    cases k with
    | zero => cases e1; exact ⟨_, _, rfl, e, r⟩
    | succ k => exact ih (by simpa using e1)
theorem Inners.len {rows : List (List D)} {as : List Addr} (r : Inners K mg ρ H rows as) : rows.length = as.length := by
  induction r with
  | nil => rfl
  | cons _ _ _ ih => simp [ih]
/-- the cell of slot i -/
theorem lls_at {env : Nv} {σ : Slots} {i n : Nat} {rows : List (List D)} (R : Rel K mg ρ env h σ H) (e : env[i]? = some (some (.loc n))) (hn : h[n]? = some (.lls rows)) :
    ∃ p as, σ[i]? = some (some (.ref p)) ∧ ρ.cs[n]? = some (p :: as) ∧ H p = some (.lst (as.map V.ref)) ∧ Inners K mg ρ H rows as ∧ (p :: as).Nodup := by
  obtain ⟨v, e1, l, e2, q⟩ := R.env.at_ i _ e
  obtain ⟨l', e3, c⟩ := R.hp.cell n _ hn
  rw [e2] at e3; cases e3
  cases c with
  | lls e4 rs nd => exact ⟨_, _, by rw [e1, q _ _ rfl], e2, e4, rs, nd⟩
theorem cs_same {n : Nat} {p p2 : Addr} {as as2 : List Addr} (S : Step ρ H ρ' H') (e : ρ.cs[n]? = some (p :: as)) (e2 : ρ'.cs[n]? = some (p2 :: as2)) : p2 = p ∧ as2 = as := by
  rcases S.pre n _ e with z | z
  · rw [e2] at z; cases z; exact ⟨rfl, rfl⟩
  · rw [e2] at z; cases z

/-! ### xs[c][j] -/
def eIx2 (i : Nat) (mc mj : Ex) : Ex := fun env h => match env[i]? with
  | some (some (.loc n)) => bindV mc (fun c h1 => match c with
    | .int c => (match h1[n]? with
      | some (.lls rows) => (match ixN rows.length c with
        | some k => bindV mj (fun j h2 => match j with
          | .int j => (match h2[n]? with
            | some (.lls rows2) => (match rows2[k]? with
              | some ds => liftO ((atI ds j).map RV.val) h2
              | none => .bad)
            | _ => .bad)
          | _ => .bad) env h1
        | none => .bad)
      | _ => .bad)
    | _ => .bad) env h
  | _ => .bad
theorem v_ix2 {i : Nat} {x : Str} {ce je : Expr} {mc mj : Ex} {p1 p2 : Pos} (hc : PV X W ce mc) (hj : PV X W je mj) (hN : X.N[i]? = some x := by rfl) (hv : Vis X.env.scope x := by first | exact Or.inl rfl | exact Or.inr (Or.inl rfl) | exact Or.inr (Or.inr rfl)) (hd : (x == ("__debug__" : Str)) = false := by decide)
    (hcd : (x == ("__classdict__" : Str)) = false := by decide) (hs1 : PlainIx ce := by intro _ _; rfl) (hs2 : PlainIx je := by intro _ _; rfl) : PV X W (.Subscript (.Subscript (.Name x p1) ce p2) je pos) (eIx2 i mc mj) := by
  refine PE.imp (pe_ix ix_seq (pe_ix ix_seq (pe_var hN hv hd hcd) hc hs1) hj hs2) fun σ H Q ⟨ρ, env, h, R, g⟩ => ?_
  unfold eIx2 at g
  split at g
  case h_2 => exact g.elim
  rename_i n e
  obtain ⟨v0, e1, l0, e2, q0⟩ := R.env.at_ i _ e
  refine ⟨v0, e1, Tr.bind R g fun c v ρ1 h1 H1 A g1 => ?_⟩
  split at g1
  case h_2 => exact g1.elim
  rename_i c
  have rv := A.rd
  cases rv
  split at g1
  case h_2 => exact g1.elim
  rename_i rows hn
  obtain ⟨p, as, f1, f2, f3, f4, f5⟩ := lls_at A.rel e hn
  rw [e1] at f1; cases f1
  split at g1
  case h_2 => exact g1.elim
  rename_i k hk
  have hkl := (ixN_seq hk).2.1
  obtain ⟨a, vs, g4, g5, g6⟩ := f4.at (List.getElem?_eq_getElem hkl)
  have hat : atI (as.map V.ref) c = some (.ref a) := by
    unfold atI
    rw [List.length_map, ← f4.len, hk]
    show (as.map V.ref)[k]? = _
    rw [List.getElem?_map, g4]; rfl
  refine .inl ⟨p, _, c, .ref a, rfl, rfl, SqL.of f3, hat, Tr.bind A.rel g1 fun j v ρ2 h2 H2 A2 g2 => ?_⟩
  split at g2
  case h_2 => exact g2.elim
  rename_i j
  have rj := A2.rd
  cases rj
  split at g2
  case h_2 => exact g2.elim
  rename_i rows2 hn2
  obtain ⟨p2, as2, i1, i2, i3, i4, i5⟩ := lls_at A2.rel e hn2
  obtain ⟨rfl, rfl⟩ := cs_same A2.st f2 i2
  split at g2
  case h_2 => exact g2.elim
  rename_i ds hds
  obtain ⟨a2, vs2, j4, j5, j6⟩ := i4.at hds
  rw [g4] at j4; cases j4
  cases q : atI ds j with
  | none => rw [q] at g2; exact g2.elim
  | some d =>
    rw [q] at g2
    obtain ⟨w, y1, y2⟩ := atI_rd j6 q
    exact .inl ⟨a, vs2, j, w, rfl, rfl, SqL.of j5, y1, g2 ρ2 H2 w A2.rel.hp (Step.refl _ _) y2⟩

/-! ### xs[c][j] = e -/
theorem Inners.put {a : Addr} {vs' : List V} {ds' : List D} (hm : ∀ b, COwned ρ b → Mut (H b)) (S : Step ρ H ρ (upd H a (.lst vs'))) (r' : RDs K mg ρ (upd H a (.lst vs')) ds' vs') : ∀ {rows : List (List D)} {as : List Addr} {k : Nat}, Inners K mg ρ H rows as → as.Nodup → as[k]? = some a → Inners K mg ρ (upd H a (.lst vs')) (rows.set k ds') as
  | _, _, k, .nil, _, e => by simp at e
  | _, _, 0, .cons (a := b) e1 r rs, nd, e => by
    have hb : b = a := by simpa using e
    subst hb
    have nb := (List.nodup_cons.mp nd).1
    exact .cons upd_same r' (Inners.step hm S rs fun c hc => upd_ne fun z => nb (z ▸ hc))
  | _, _, k + 1, .cons (a := b) e1 r rs, nd, e => by
    have e' := (show _ = some a by simpa using e)
    have nb := (List.nodup_cons.mp nd).1
    have ne : b ≠ a := fun z => nb (z ▸ List.mem_of_getElem? e')
    exact .cons (by rw [upd_ne ne]; exact e1) (RDs.step hm S r) (Inners.put hm S r' rs (List.nodup_cons.mp nd).2 e')
theorem cell_put {n k : Nat} {p a : Addr} {as : List Addr} {rows : List (List D)} {ds' : List D} {vs' : List V} (ok : HeapOk K mg ρ h H) (hn : n < h.length) (hp : ρ.cs[n]? = some (p :: as)) (hl : H p = some (.lst (as.map V.ref))) (ri : Inners K mg ρ H rows as) (nd : (p :: as).Nodup) (ha : as[k]? = some a) (rs : RDs K mg ρ H ds' vs') :
    HeapOk K mg ρ (h.set n (.lls (rows.set k ds'))) (upd H a (.lst vs')) ∧ Step ρ H ρ (upd H a (.lst vs')) := by
  have ham : a ∈ p :: as := List.mem_cons_of_mem _ (List.mem_of_getElem? ha)
  have co : COwned ρ a := ⟨n, _, hp, ham⟩
  have S : Step ρ H ρ (upd H a (.lst vs')) := by
    refine ⟨fun b o e1 no => ?_, fun b o => .inl o, fun m l e1 => .inl e1, fun _ h => h, fun _ h => .inl (.inr h)⟩
    have ne : b ≠ a := fun z => by subst z; exact no co
    rw [upd_ne ne]; exact e1
  refine ⟨⟨by simp [ok.len], ok.nd, fun b ob => ?_, fun b hb => ?_, fun m c e1 => ?_⟩, S⟩
  · by_cases e : b = a
    · subst e; rw [upd_same]; trivial
    · rw [upd_ne e]; exact ok.mutb b ob
  · obtain ⟨h1, xs, h2⟩ := ok.fbd b hb
    have ne : b ≠ a := fun z => by subst z; exact h1 co
    exact ⟨h1, xs, by rw [upd_ne ne]; exact h2⟩
  · by_cases hm : n = m
    · subst hm
      rw [List.getElem?_set_self hn] at e1
      cases e1
      have np : p ≠ a := fun z => (List.nodup_cons.mp nd).1 (z ▸ List.mem_of_getElem? ha)
      exact ⟨_, hp, .lls (by rw [upd_ne np]; exact hl) (Inners.put ok.mutb S (rs.step ok.mutb S) ri (List.nodup_cons.mp nd).2 ha) nd⟩
    · rw [List.getElem?_set_ne hm] at e1
      obtain ⟨l, e2, e3⟩ := ok.cell m c e1
      refine ⟨l, e2, e3.step ok.mutb S fun b hb => upd_ne fun z => ?_⟩
      exact hm (ok.nd n m _ l a hp e2 ham (z ▸ hb))
def sStore2 (i : Nat) (mc mj m : Ex) : Sx := fun env h => match env[i]? with
  | some (some (.loc n)) => bindS m (fun rv env h1 => bindS mc (fun rc env h2 => match rc.vl with
    | .int c => (match h2[n]? with
      | some (.lls rows) => (match ixN rows.length c with
        | some k => bindS mj (fun rj env h3 => match rj.vl with
          | .int j => (match h3[n]? with
            | some (.lls rows2) => (match rows2[k]? with
              | some ds => (match ixN ds.length j with
                | some t => .nx env (h3.set n (.lls (rows2.set k (ds.set t rv.vl))))
                | none => .bad)
              | none => .bad)
            | _ => .bad)
          | _ => .bad) env h2
        | none => .bad)
      | _ => .bad)
    | _ => .bad) env h1) env h
  | _ => .bad
theorem s_store2 {i : Nat} {x : Str} {ce je e : Expr} {mc mj m : Ex} {p1 p2 p3 : Pos} (he : PV X W e m) (hc : PV X W ce mc) (hj : PV X W je mj)
    (hN : X.N[i]? = some x := by rfl) (hv : Vis X.env.scope x := by first | exact Or.inl rfl | exact Or.inr (Or.inl rfl) | exact Or.inr (Or.inr rfl)) (hd : (x == ("__debug__" : Str)) = false := by decide) (hcd : (x == ("__classdict__" : Str)) = false := by decide) (hs1 : PlainIx ce := by intro _ _; rfl)
    (hsub : ∀ v, assign (.Subscript (.Subscript (.Name x p1) ce p2) je p3) X.env v = (do
      let ov ← holding [v] (eval (.Subscript (.Name x p1) ce p2) X.env)
      let iv ← holding [v, ov] (eval je X.env)
      standAt p3
      holding [v, ov, iv] (setItem ov iv v)
      release [v, ov, iv] []) := by intro _; rfl)
    (hs : swapsWithSole [.Subscript (.Subscript (.Name x p1) ce p2) je p3] e pos.line X.env = pure false := by rfl) (hw : swappedStores [.Subscript (.Subscript (.Name x p1) ce p2) je p3] e X.env = pure none := by rfl)
    (h1 : (assignEach [.Subscript (.Subscript (.Name x p1) ce p2) je p3] X.env).map (·.2) = [assign (.Subscript (.Subscript (.Name x p1) ce p2) je p3) X.env] := by rfl) : VS X W (.Assign [.Subscript (.Subscript (.Name x p1) ce p2) je p3] e pos) (sStore2 i mc mj m) := by
  refine PS.imp (ps_asg he (pg_sub (pe_ix ix_seq (pe_var hN hv hd hcd) hc hs1) hj set_list hsub) hs hw h1) fun D σ H ⟨ρ, env, h, R, g⟩ => ?_
  unfold sStore2 at g
  split at g
  case h_2 => exact g.elim
  rename_i n e0
  refine TrS.val (k := fun d env h1 => bindS mc (fun rc env h2 => match rc.vl with
    | .int c => (match h2[n]? with
      | some (.lls rows) => (match ixN rows.length c with
        | some k => bindS mj (fun rj env h3 => match rj.vl with
          | .int j => (match h3[n]? with
            | some (.lls rows2) => (match rows2[k]? with
              | some ds => (match ixN ds.length j with
                | some t => .nx env (h3.set n (.lls (rows2.set k (ds.set t d))))
                | none => .bad)
              | none => .bad)
            | _ => .bad)
          | _ => .bad) env h2
        | none => .bad)
      | _ => .bad)
    | _ => .bad) env h1) R g fun d v ρ1 h1 H1 A1 g1 => ?_
  obtain ⟨v0, e1, q0⟩ := R.env.at_ i _ e0
  refine ⟨v0, e1, TrS.val (k := fun c env h2 => match c with
    | .int c => (match h2[n]? with
      | some (.lls rows) => (match ixN rows.length c with
        | some k => bindS mj (fun rj env h3 => match rj.vl with
          | .int j => (match h3[n]? with
            | some (.lls rows2) => (match rows2[k]? with
              | some ds => (match ixN ds.length j with
                | some t => .nx env (h3.set n (.lls (rows2.set k (ds.set t d))))
                | none => .bad)
              | none => .bad)
            | _ => .bad)
          | _ => .bad) env h2
        | none => .bad)
      | _ => .bad)
    | _ => .bad) A1.rel g1 fun c vc ρ2 h2 H2 A2 g2 => ?_⟩
  split at g2
  case h_2 => exact g2.elim
  rename_i c
  have rc := A2.rd
  cases rc
  split at g2
  case h_2 => exact g2.elim
  rename_i rows hn
  obtain ⟨p, as, f1, f2, f3, f4, f5⟩ := lls_at A2.rel e0 hn
  rw [e1] at f1; cases f1
  split at g2
  case h_2 => exact g2.elim
  rename_i k hk
  have hkl := (ixN_seq hk).2.1
  obtain ⟨a, vs, g4, g5, g6⟩ := f4.at (List.getElem?_eq_getElem hkl)
  have hat : atI (as.map V.ref) c = some (.ref a) := by
    unfold atI
    rw [List.length_map, ← f4.len, hk]
    show (as.map V.ref)[k]? = _
    rw [List.getElem?_map, g4]; rfl
  refine .inl ⟨p, _, c, .ref a, rfl, rfl, SqL.of f3, hat, TrS.val (k := fun j env h3 => match j with
          | .int j => (match h3[n]? with
            | some (.lls rows2) => (match rows2[k]? with
              | some ds => (match ixN ds.length j with
                | some t => .nx env (h3.set n (.lls (rows2.set k (ds.set t d))))
                | none => .bad)
              | none => .bad)
            | _ => .bad)
          | _ => .bad) A2.rel g2 fun j vj ρ3 h3 H3 A3 g3 => ?_⟩
  split at g3
  case h_2 => exact g3.elim
  rename_i j
  have rj := A3.rd
  cases rj
  split at g3
  case h_2 => exact g3.elim
  rename_i rows2 hn2
  obtain ⟨p2, as2, i1, i2, i3, i4, i5⟩ := lls_at A3.rel e0 hn2
  obtain ⟨rfl, rfl⟩ := cs_same A3.st f2 i2
  split at g3
  case h_2 => exact g3.elim
  rename_i ds hds
  obtain ⟨a2, vs2, j4, j5, j6⟩ := i4.at hds
  rw [g4] at j4; cases j4
  split at g3
  case h_2 => exact g3.elim
  rename_i t ht
  have rd := (A1.rd.step A1.rel.hp.mutb (A2.st.trans A3.st))
  obtain ⟨ok', S⟩ := cell_put A3.rel.hp (List.getElem?_eq_some_iff.mp hn2).1 i2 i3 i4 i5 g4 (RDs.set rd t j6)
  exact ⟨a, vs2, j, t, rfl, rfl, j5, by rw [← j6.length]; exact ht, g3 ρ3 σ _ ⟨ok', A3.rel.env.step A3.rel.hp S⟩ S⟩

/-! ### a list of lists escapes -/
theorem drop_ok {n : Nat} {c : Cell} {l : List Addr} (ok : HeapOk K mg ρ h H) (hn : h[n]? = some c) (hp : ρ.cs[n]? = some l) :
    HeapOk K mg { ρ with cs := ρ.cs.set n [] } (h.set n .dead) H ∧ Step ρ H { ρ with cs := ρ.cs.set n [] } H ∧ ∀ a ∈ l, ¬ Owned { ρ with cs := ρ.cs.set n [] } a := by
  have hlt : n < ρ.cs.length := (List.getElem?_eq_some_iff.mp hp).1
  have hlt' : n < h.length := (List.getElem?_eq_some_iff.mp hn).1
  have sub : ∀ a, COwned { ρ with cs := ρ.cs.set n [] } a → COwned ρ a ∧ a ∉ l := fun a ⟨m, l', e1, ha⟩ => by
    have e1 : (ρ.cs.set n [])[m]? = some l' := e1
    by_cases hm : n = m
    · subst hm
      rw [List.getElem?_set_self hlt] at e1
      cases e1; cases ha
    · rw [List.getElem?_set_ne hm] at e1
      exact ⟨⟨m, l', e1, ha⟩, fun z => hm (ok.nd n m l l' a hp e1 z ha)⟩
  have S : Step ρ H { ρ with cs := ρ.cs.set n [] } H := by
    refine ⟨fun a o e1 no => e1, fun a o => .inl (sub a o).1, fun m l' e1 => ?_, fun _ h => h, fun _ h => .inl (.inr h)⟩
    show (ρ.cs.set n [])[m]? = some l' ∨ (ρ.cs.set n [])[m]? = some []
    by_cases hm : n = m
    · subst hm; exact .inr (by rw [List.getElem?_set_self hlt])
    · exact .inl (by rw [List.getElem?_set_ne hm]; exact e1)
  refine ⟨⟨by simp [ok.len], fun i j l' k a e1 e2 ha hb => ?_, fun a oa => ok.mutb a (sub a oa).1, fun a ha => ?_, fun m c' e1 => ?_⟩, S, fun a ha o => ?_⟩
  · have e1 : (ρ.cs.set n [])[i]? = some l' := e1
    have e2 : (ρ.cs.set n [])[j]? = some k := e2
    have fr : ∀ (i : Nat) (l' : List Addr), (ρ.cs.set n [])[i]? = some l' → a ∈ l' → ρ.cs[i]? = some l' := fun i l' e ha => by
      by_cases hm : n = i
      · subst hm; rw [List.getElem?_set_self hlt] at e; cases e; cases ha
      · rw [List.getElem?_set_ne hm] at e; exact e
    exact ok.nd i j l' k a (fr i l' e1 ha) (fr j k e2 hb) ha hb
  · obtain ⟨h1, xs, h2⟩ := ok.fbd a ha
    exact ⟨fun o => h1 (sub a o).1, xs, h2⟩
  · by_cases hm : n = m
    · subst hm
      rw [List.getElem?_set_self hlt'] at e1
      cases e1
      exact ⟨[], (by rw [List.getElem?_set_self hlt] : (ρ.cs.set n [])[n]? = some []), .dead⟩
    · rw [List.getElem?_set_ne hm] at e1
      obtain ⟨l', e2, e3⟩ := ok.cell m c' e1
      exact ⟨l', (by rw [List.getElem?_set_ne hm]; exact e2 : (ρ.cs.set n [])[m]? = some l'), e3.step ok.mutb S fun a ha => rfl⟩
  · rcases o with o | o
    · exact (sub a o).2 ha
    · exact (ok.fbd a o).1 ⟨n, l, hp, ha⟩
theorem Inners.rds {rows : List (List D)} {as : List Addr} (r : Inners K mg ρ H rows as) : (∀ a ∈ as, ¬ Owned ρ a) → RDs K mg ρ H (rows.map D.lst) (as.map V.ref) := by
  induction r with
  | nil => exact fun _ => .nil
  | cons e r rs ih => exact fun no => .cons (.lst e (no _ List.mem_cons_self) r) (ih fun a ha => no a (List.mem_cons_of_mem _ ha))
def eTakeL (i : Nat) : Ex := fun env h => match env[i]? with
  | some (some (.loc n)) => (match h[n]? with
    | some (.lls rows) => .ok (.val (.lst (rows.map D.lst))) (h.set n .dead)
    | _ => .bad)
  | _ => .bad
theorem v_takeL (i : Nat) {x : Str} (hN : X.N[i]? = some x := by rfl) (hv : Vis X.env.scope x := by first | exact Or.inl rfl | exact Or.inr (Or.inl rfl) | exact Or.inr (Or.inr rfl)) (hd : (x == ("__debug__" : Str)) = false := by decide)
    (hcd : (x == ("__classdict__" : Str)) = false := by decide) : PV X W (.Name x pos) (eTakeL i) := by
  refine PE.imp (pe_var hN hv hd hcd) fun σ H Q ⟨ρ, env, h, R, g⟩ => ?_
  unfold eTakeL at g
  split at g
  · rename_i n e
    split at g
    · rename_i rows hn
      obtain ⟨p, as, e1, e2, e3, ri, nd⟩ := lls_at R e hn
      obtain ⟨ok', S, no⟩ := drop_ok R.hp hn e2
      refine ⟨_, e1, ?_⟩
      exact g _ H _ ok' S (.lst e3 (no p List.mem_cons_self) (Inners.rds (ri.step R.hp.mutb S fun a _ => rfl) fun a ha => no a (List.mem_cons_of_mem _ ha)))
    · exact g.elim
  · exact g.elim

/-! ### xs = [e for ..], each e a new list -/
def compLL (g : Gx) (t : Tx) (e : Ex) (env : Nv) : List (List D) → List D → Hs → Res (List (List D))
  | acc, [], h => .ok acc h
  | acc, d :: ds, h => match g d env with
    | some e1 => (match t e1 h with
      | .ok true h1 => (match e e1 h1 with
        | .ok (.fresh rs) h2 => compLL g t e env (acc ++ [rs]) ds h2
        | _ => .bad)
      | .ok false h1 => compLL g t e env acc ds h1
      | _ => .bad)
    | none => .bad
theorem Inners.app {rows : List (List D)} {as : List Addr} {a : Addr} {ds : List D} {vs : List V} (r : Inners K mg ρ H rows as) (e : H a = some (.lst vs)) (rd : RDs K mg ρ H ds vs) : Inners K mg ρ H (rows ++ [ds]) (as ++ [a]) := by
  induction r with
  | nil => exact .cons e rd .nil
  | cons e1 r rs ih => exact .cons e1 r ih
/-- growing lists are taken in as a cell -/
theorem push_lls {p : Addr} {as : List Addr} {rows : List (List D)} (S : Step ρ1 H1 ρ H) (ok : HeapOk K mg ρ h H) (hp : H p = none) (h1p : H1 p = none) (ri : Inners K mg ρ H rows as) (hf : ∀ a ∈ as, a ∈ ρ.fb) (hf1 : ∀ a ∈ as, a ∉ ρ1.fb) (nd : as.Nodup) :
    let ρ2 : Own := { fb := ρ.fb.filter fun a => decide (a ∉ as), cs := ρ.cs ++ [p :: as] }
    HeapOk K mg ρ2 (h ++ [.lls rows]) (upd H p (.lst (as.map V.ref))) ∧ Step ρ1 H1 ρ2 (upd H p (.lst (as.map V.ref))) := by
  intro ρ2
  have nf : p ∉ ρ.fb := fun z => by obtain ⟨_, xs, e⟩ := ok.fbd p z; rw [hp] at e; cases e
  have npa : p ∉ as := fun z => nf (hf p z)
  have okA := ok.fbIn (xs := as.map V.ref) hp
  have ca : ∀ a, COwned ρ2 a → COwned ρ a ∨ a ∈ p :: as := fun a ⟨n, l, e, ha⟩ => by
    have e : (ρ.cs ++ [p :: as])[n]? = some l := e
    by_cases hn : n < ρ.cs.length
    · rw [List.getElem?_append_left hn] at e; exact .inl ⟨n, l, e, ha⟩
    · rw [List.getElem?_append_right (by omega)] at e
      cases q : n - ρ.cs.length with
      | zero => rw [q] at e; cases e; exact .inr ha
      | succ k => rw [q] at e; simp at e
  have oA : ∀ a, Owned ρ2 a → Owned (ρ.ad p) a := fun a o => by
    rcases o with o | o
    · rcases ca a o with z | z
      · exact .inl z
      · rcases List.mem_cons.mp z with rfl | z
        · exact .inr List.mem_cons_self
        · exact .inr (List.mem_cons_of_mem _ (hf a z))
    · exact .inr (List.mem_cons_of_mem _ (List.mem_filter.mp o).1)
  have fresh : ∀ a ∈ p :: as, ¬ COwned ρ a := fun a ha => by
    rcases List.mem_cons.mp ha with rfl | ha
    · exact ok.notC hp
    · exact (ok.fbd a (hf a ha)).1
  have asl : ∀ a ∈ as, ∃ vs, H a = some (.lst vs) := fun a ha => by
    have : ∀ {rows : List (List D)} {as : List Addr}, Inners K mg ρ H rows as → a ∈ as → ∃ vs, H a = some (.lst vs) := fun r => by
      induction r with
      | nil => exact fun h => nomatch h
      | cons e1 _ _ ih =>
        intro h
        rcases List.mem_cons.mp h with rfl | h
        · exact ⟨_, e1⟩
        · exact ih h
    exact this ri ha
  refine ⟨⟨by simp [ρ2, ok.len], fun n m l k a e1 e2 ha hb => ?_, fun a o => ?_, fun a ha => ?_, fun n c e => ?_⟩, ?_⟩
  · have e1 : (ρ.cs ++ [p :: as])[n]? = some l := e1
    have e2 : (ρ.cs ++ [p :: as])[m]? = some k := e2
    have fr : ∀ (i : Nat) (l : List Addr), (ρ.cs ++ [p :: as])[i]? = some l → a ∈ l → (i < ρ.cs.length ∧ ρ.cs[i]? = some l) ∨ (i = ρ.cs.length ∧ a ∈ p :: as) := fun i l e ha => by
      by_cases hi : i < ρ.cs.length
      · rw [List.getElem?_append_left hi] at e; exact .inl ⟨hi, e⟩
      · rw [List.getElem?_append_right (by omega)] at e
        cases q : i - ρ.cs.length with
        | zero => rw [q] at e; cases e; exact .inr ⟨by omega, ha⟩
        | succ k => rw [q] at e; simp at e
    rcases fr n l e1 ha with ⟨h1, q1⟩ | ⟨h1, q1⟩
    · rcases fr m k e2 hb with ⟨h2, q2⟩ | ⟨h2, q2⟩
      · exact ok.nd n m l k a q1 q2 ha hb
      · exact absurd ⟨n, l, q1, ha⟩ (fresh a q2)
    · rcases fr m k e2 hb with ⟨h2, q2⟩ | ⟨h2, q2⟩
      · exact absurd ⟨m, k, q2, hb⟩ (fresh a q1)
      · omega
  · rcases ca a o with z | z
    · exact okA.mutb a z
    · rcases List.mem_cons.mp z with rfl | z
      · rw [upd_same]; trivial
      · obtain ⟨vs, e⟩ := asl a z
        rw [upd_keep hp a _ e]; trivial
  · obtain ⟨h1, h2⟩ := List.mem_filter.mp ha
    obtain ⟨h3, xs, h4⟩ := ok.fbd a h1
    refine ⟨fun o => ?_, xs, upd_keep hp a _ h4⟩
    rcases ca a o with z | z
    · exact h3 z
    · rcases List.mem_cons.mp z with rfl | z
      · exact nf h1
      · exact (of_decide_eq_true h2) z
  · by_cases hn : n < h.length
    · rw [List.getElem?_append_left hn] at e
      obtain ⟨l, e1, e2⟩ := okA.cell n c e
      refine ⟨l, (by rw [List.getElem?_append_left (List.getElem?_eq_some_iff.mp e1).1]; exact e1 : (ρ.cs ++ [p :: as])[n]? = some l), ?_⟩
      cases e2 with
      | dead => exact .dead
      | lst e3 rs => exact .lst e3 (rs.less oA)
      | lls e3 rs nd => exact .lls e3 (Inners.less oA rs) nd
      | dct e3 l rs => exact .dct e3 l (rs.less oA)
    · rw [List.getElem?_append_right (by omega)] at e
      cases q : n - h.length with
      | zero =>
        rw [q] at e; cases e
        refine ⟨p :: as, (by rw [show n = ρ.cs.length by rw [ok.len]; omega]; simp : (ρ.cs ++ [p :: as])[n]? = some (p :: as)), ?_⟩
        exact .lls upd_same (Inners.less oA (Inners.fbIn hp ri)) (List.nodup_cons.mpr ⟨npa, nd⟩)
      | succ k => rw [q] at e; simp at e
  · refine ⟨fun a o e no => upd_keep hp a o (S.keep a o e no), fun a o => ?_, fun n l e => ?_, fun a ha => List.mem_filter.mpr ⟨S.fbi a ha, decide_eq_true fun z => hf1 a z ha⟩, fun a ha => S.fbo a (List.mem_filter.mp ha).1⟩
    · rcases ca a o with z | z
      · exact S.own a z
      · rcases List.mem_cons.mp z with rfl | z
        · exact .inr h1p
        · rcases S.fbo a (hf a z) with (y | y) | y
          · exact .inl y
          · exact absurd y (hf1 a z)
          · exact .inr y
    · show (ρ.cs ++ [p :: as])[n]? = some l ∨ (ρ.cs ++ [p :: as])[n]? = some []
      rcases S.pre n l e with z | z
      · exact .inl (by rw [List.getElem?_append_left (List.getElem?_eq_some_iff.mp z).1]; exact z)
      · exact .inr (by rw [List.getElem?_append_left (List.getElem?_eq_some_iff.mp z).1]; exact z)
theorem Step.fbIn' {p : Addr} {o : HO} (S : Step ρ1 H1 ρ H) (hp : H p = none) : Step ρ1 H1 (ρ.ad p) (upd H p o) where
  keep := fun a u e no => upd_keep hp a u (S.keep a u e no)
  own := S.own
  pre := S.pre
  fbi := fun a ha => List.mem_cons_of_mem _ (S.fbi a ha)
  fbo := fun a ha => by
    rcases List.mem_cons.mp ha with e | e
    · subst e
      cases q : H1 a with
      | none => exact .inr rfl
      | some u =>
        by_cases c : COwned ρ1 a
        · exact .inl (.inl c)
        · have := S.keep a u q c
          rw [hp] at this; cases this
    · exact S.fbo a e
def compLLr (vs : List Nat) (it : Ix) (g : Gx) (t : Tx) (e : Ex) : Nv → Hs → Res (List (List D)) := fun env h => match it env h with
  | .ok ds h1 => if ds.length < sizeLine then (match compLL g t e (wipeE env vs) [] ds h1 with
    | .ok rows h2 => .ok rows h2
    | _ => .bad) else .bad
  | .exc x h1 => .exc x h1
  | .bad => .bad
/-- what follows a new cell of lists -/
def LLGood (K : PySem.W.Frag) (mg : Str → Option Value) (ρ : Own) (H : Hp) (Q : VK) (E : XK) : Res (List (List D)) → Prop
  | .ok rows h2 => ∀ ρ3 H3 v, HeapOk K mg ρ3 (h2 ++ [.lls rows]) H3 → Step ρ H ρ3 H3 → SVOk K mg ρ3 H3 (.loc h2.length) v → Q v H3
  | .exc x h1 => EPost K mg ρ H h1 E x
  | .bad => False
theorem compLL_read {it : Ix} {ix vs : List Nat} {g : Gx} {t : Tx} {e : Ex} {σ : Slots} {env : Nv} (hix : ∀ i ∈ ix, i ∈ vs) (R : Rel X.K X.mg ρ env h σ H) (gd : LLGood X.K X.mg ρ H Q (fun c d H' => W c d σ H') (compLLr vs it g t e env h)) :
    tLc (TrI X.K X.mg W it) (TrG X.K X.mg ix g) (TrB X.K X.mg W0 t) (Tr X.K X.mg W0 e) vs σ H Q := by
  refine ⟨ρ, env, h, R, ?_⟩
  unfold compLLr at gd
  cases q : it env h with
  | exc x h1 => rw [q] at gd; exact gd
  | bad => rw [q] at gd; exact gd.elim
  | ok ds h1 =>
    rw [q] at gd
    dsimp only at gd
    split at gd
    case isFalse => exact gd.elim
    rename_i hsz
    intro ρ1 H1 J ok S wk p hp
    have en1 : EnvOk X.K X.mg ρ1 env σ H1 := R.env.step R.hp S
    let Fin : Res (List (List D)) → Prop := fun r => match r with
      | .ok rows h2 => ∀ ρ3 H3 v, HeapOk X.K X.mg ρ3 (h2 ++ [.lls rows]) H3 → Step ρ1 H1 ρ3 H3 → SVOk X.K X.mg ρ3 H3 (.loc h2.length) v → Q v H3
      | _ => False
    have start : Fin (compLL g t e (wipeE env vs) [] ds h1) := by
      cases q2 : compLL g t e (wipeE env vs) [] ds h1 with
      | ok rs h2 => rw [q2] at gd; exact fun ρ3 H3 v o3 S3 r3 => gd ρ3 H3 v o3 (S.trans S3) r3
      | exc x h2 => rw [q2] at gd; exact gd.elim
      | bad => rw [q2] at gd; exact gd.elim
    let Inv1 : Nat → Hp → Prop := fun i H => ∃ (ρ' : Own) (h : Hs) (Hx : Hp) (as : List Addr) (rows : List (List D)), H = upd Hx p (.lst (as.map V.ref)) ∧ Hx p = none ∧ p ∉ ρ'.fb ∧ HeapOk X.K X.mg ρ' h Hx ∧ Step ρ1 H1 ρ' Hx ∧ Inners X.K X.mg ρ' Hx rows as ∧ rows.length ≤ i ∧
      (∀ a ∈ as, a ∈ ρ'.fb) ∧ (∀ a ∈ as, a ∉ ρ1.fb) ∧ as.Nodup ∧ Fin (compLL g t e (wipeE env vs) rows (ds.drop i) h)
    refine ⟨fun i m H => m = ds.length - i ∧ i ≤ ds.length ∧ Inv1 i H, ⟨ds.length, rfl, Nat.zero_le _, ρ1, h1, H1, [], [], rfl, hp, ?_, ok, Step.refl _ _, .nil, Nat.le_refl _, fun _ h => (nomatch h), fun _ h => (nomatch h), List.nodup_nil, by rw [List.drop_zero]; exact start⟩, ?_⟩
    · intro hf
      obtain ⟨_, xs, e⟩ := ok.fbd p hf
      rw [hp] at e; cases e
    rintro i m H2 ⟨rfl, hi, ρ2, h2, Hx, as, rows, rfl, hx, hf, ok2, S2, ri, hl, af, af1, nd, f2⟩
    have okA := ok2.fbIn (xs := as.map V.ref) hx
    have SA : Step ρ1 H1 (ρ2.ad p) (upd Hx p (.lst (as.map V.ref))) := S2.fbIn hp hx
    have nc := ok2.notC hx
    obtain ⟨stop, turns⟩ := wk _ h2 _ okA SA.w
    by_cases hlt : i < ds.length
    · have ei : ds[i]? = some ds[i] := List.getElem?_eq_getElem hlt
      obtain ⟨go, yl⟩ := turns i _ ei
      rw [List.drop_eq_getElem_cons hlt] at f2
      unfold compLL at f2
      refine .inr ⟨go, Inv1 (i + 1), fun H' z => ⟨ds.length - (i + 1), by omega, rfl, hlt, z⟩, fun x H' y => ?_⟩
      obtain ⟨okB, SB, rd⟩ := yl x H' y
      have enB : EnvOk X.K X.mg (ρ2.ad p) (wipeE env vs) (wipe σ vs) H' := ((((en1.step ok S2).fbIn (o := .lst (as.map V.ref)) hx)).step okA SB).wipe vs
      -- the lists that are there stay
      have stay : ∀ {ρ4 : Own} {H4 : Hp}, Step ρ2 Hx ρ4 H4 → Inners X.K X.mg ρ4 H4 rows as := fun {ρ4 H4} SX => by
        refine ri.step ok2.mutb SX fun a ha => ?_
        obtain ⟨h3, xs, h4⟩ := ok2.fbd a (af a ha)
        rw [h4]; exact SX.keep a _ h4 h3
      cases q2 : g ds[i] (wipeE env vs) with
      | none => rw [q2] at f2; exact f2.elim
      | some e1 =>
        rw [q2] at f2
        dsimp only at f2
        refine ⟨ρ2.ad p, wipeE env vs, h2, ds[i], e1, ⟨okB, enB⟩, rd, q2, fun σ3 R3 w3 => ⟨(w3 vs hix).trans (wipe_wipe vs fun _ h => h), ρ2.ad p, e1, h2, R3, ?_⟩⟩
        cases q3 : t e1 h2 with
        | exc x h3 => rw [q3] at f2; exact f2.elim
        | bad => rw [q3] at f2; exact f2.elim
        | ok k h3 =>
          rw [q3] at f2
          intro ρ4 H4 ok4 S4
          have S4' := SB.trans S4
          have R4 : Rel X.K X.mg ρ4 e1 h3 σ3 H4 := ⟨ok4, R3.env.step R3.hp S4⟩
          cases k with
          | false =>
            rw [if_neg Bool.false_ne_true]
            obtain ⟨o4, e4⟩ := out_of S4' ok4 nc
            have SX := S4'.fbOut hx hf
            exact ⟨ρ4.rm p, h3, era H4 p, as, rows, (upd_self e4).symm, era_same, fun z => (of_decide_eq_true (List.mem_filter.mp z).2) rfl, ok4.fbOut o4, S2.trans SX, stay SX, by omega, fun a ha => SX.fbi a (af a ha), af1, nd, f2⟩
          | true =>
            rw [if_pos rfl]
            refine ⟨ρ4, e1, h3, R4, ?_⟩
            dsimp only at f2
            cases q5 : e e1 h3 with
            | exc x h5 => rw [q5] at f2; exact f2.elim
            | bad => rw [q5] at f2; exact f2.elim
            | ok rv h5 =>
              rw [q5] at f2
              cases rv with
              | val d => exact f2.elim
              | fresh rs =>
                intro ρ6 H6 a vs6 ok6 S6 ha6 rds6
                have S6' := S4'.trans S6
                have ok7 := ok6.fbIn (xs := vs6) ha6
                have S7 : Step (ρ2.ad p) (upd Hx p (.lst (as.map V.ref))) (ρ6.ad a) (upd H6 a (.lst vs6)) := Step.fbIn' S6' ha6
                obtain ⟨o7, e7⟩ := out_of S7 ok7 nc
                have SX := S7.fbOut hx hf
                have inF : ∀ b, b ∈ ρ6.fb → b ≠ a := fun b hb z => by
                  subst z
                  obtain ⟨_, xs, e⟩ := ok6.fbd b hb
                  rw [ha6] at e; cases e
                have nap : a ≠ p := fun z => inF p (S6'.fbi p List.mem_cons_self) z.symm
                have e8 : era (upd H6 a (.lst vs6)) p a = some (.lst vs6) := by rw [era_ne nap, upd_same]
                have naas : a ∉ as := fun z => inF a (S6'.fbi a (List.mem_cons_of_mem _ (af a z))) rfl
                refine ⟨as.map V.ref, e7, ?_, (ρ6.ad a).rm p, h5, era (upd H6 a (.lst vs6)) p, as ++ [a], rows ++ [rs], ?_, era_same, fun z => (of_decide_eq_true (List.mem_filter.mp z).2) rfl, ok7.fbOut o7, S2.trans SX, (stay SX).app e8 ((rds6.fbIn ha6).fbOut o7), by simp; omega, fun b hb => ?_, fun b hb => ?_, ?_, f2⟩
                · rw [List.length_map, ← ri.len]; omega
                · rw [List.map_append]; exact upd_era.symm
                · rcases List.mem_append.mp hb with z | z
                  · exact SX.fbi b (af b z)
                  · rw [List.mem_singleton.mp z]
                    exact List.mem_filter.mpr ⟨List.mem_cons_self, decide_eq_true nap⟩
                · rcases List.mem_append.mp hb with z | z
                  · exact af1 b z
                  · rw [List.mem_singleton.mp z]
                    exact fun y => inF a (S6'.fbi a (List.mem_cons_of_mem _ (S2.fbi a y))) rfl
                · rw [List.nodup_append]
                  exact ⟨nd, by simp, fun b hb c hc z => by rw [List.mem_singleton] at hc; rw [hc] at z; exact naas (z ▸ hb)⟩
    · have e : i = ds.length := by omega
      subst e
      rw [List.drop_length] at f2
      unfold compLL at f2
      obtain ⟨ok3, S3⟩ := push_lls S2 ok2 hx hp ri af af1 nd
      refine .inl ⟨stop, f2 _ _ _ ok3 S3 ⟨p :: as, ?_, fun _ _ e => by cases e; rfl⟩⟩
      show (ρ2.cs ++ [p :: as])[h2.length]? = _
      rw [← ok2.len]; simp
def sNewLL (i : Nat) (vs : List Nat) (it : Ix) (g : Gx) (t : Tx) (e : Ex) : Sx := fun env h => match compLLr vs it g t e env h with
  | .ok rows h2 => .nx (env.set i (some (.loc h2.length))) (h2 ++ [.lls rows])
  | .exc x h1 => .exc x env h1
  | .bad => .bad
/-- name = [e for ..], each e a new list: lists that are changed in place -/
theorem s_newLL {i : Nat} {y : Str} {py spos : Pos} {elt tg iter : Expr} {ifs : List Expr} {scope : Scope} {own : List (Str × Nat)} {it : Ix} {ix : List Nat} {g : Gx} {t : Tx} {e : Ex} (hc : X.calm = true) (hN : X.N.Nodup) (hi : PIx X W tg iter it) (ok : BlkOk X.N X.env.scope scope own) (hix : ∀ i ∈ ix, i ∈ own.map (·.2))
    (hg : ∀ (s : Shared) (H : Hp) (C : Addr) (cl : List (Str × Addr)) (fp : List Addr), PGx (X.blk s H scope (compEnvC scope cl C X.env) fp) tg ix g) (ht : ∀ (s : Shared) (H : Hp) (C : Addr) (cl : List (Str × Addr)) (fp : List Addr), PTx (X.blk s H scope (compEnvC scope cl C X.env) fp) W0 ifs t)
    (he : ∀ (s : Shared) (H : Hp) (C : Addr) (cl : List (Str × Addr)) (fp : List Addr), PV (X.blk s H scope (compEnvC scope cl C X.env) fp) W0 elt e) (hy : X.N[i]? = some y := by rfl) (hyl : X.env.scope.names.lookup y = some .local := by rfl)
    (hsw : swapsWith (.ListComp elt [⟨tg, iter, ifs, 0⟩] scope pos) (some (.Name y py)) spos.line X.env = pure true := by exact sw_true rfl rfl rfl (by decide +kernel)) (hs : ∀ x, foldedSetIterable iter X.env x = pure x := by intro _; rfl) :
    VS X W (.Assign [.Name y py] (.ListComp elt [⟨tg, iter, ifs, 0⟩] scope pos) spos) (sNewLL i (own.map (·.2)) it g t e) :=
  PS.imp (ps_setLc hc hN hy hyl hsw hi ok hg ht he hs) fun D σ H ⟨ρ, env, h, R, gd⟩ => compLL_read hix R (by
    unfold sNewLL at gd
    cases q : compLLr (own.map (·.2)) it g t e env h with
    | ok rows h2 =>
      rw [q] at gd
      exact fun ρ3 H3 v o3 S3 r3 => gd ρ3 _ H3 ⟨o3, (R.env.step R.hp S3).set r3 i⟩ S3
    | exc x h1 => rw [q] at gd; exact exc_read R gd
    | bad => rw [q] at gd; exact gd.elim)
/-- .. as one of several -/
def pConsLL (vs : List Nat) (it : Ix) (g : Gx) (t : Tx) (e : Ex) (r : Ps) : Ps := fun env h => match compLLr vs it g t e env h with
  | .ok rows h2 => (match r env (h2 ++ [.lls rows]) with
    | .ok svs h3 => .ok (.loc h2.length :: svs) h3
    | .exc x h3 => .exc x h3
    | .bad => .bad)
  | .exc x h1 => .exc x h1
  | .bad => .bad
theorem ps_consLL {elt tg iter : Expr} {ifs : List Expr} {scope : Scope} {own : List (Str × Nat)} {it : Ix} {ix : List Nat} {g : Gx} {t : Tx} {e : Ex} {es : List Expr} {r : Ps} (hc : X.calm = true) (hN : X.N.Nodup) (hi : PIx X W tg iter it) (ok : BlkOk X.N X.env.scope scope own) (hix : ∀ i ∈ ix, i ∈ own.map (·.2))
    (hg : ∀ (s : Shared) (H : Hp) (C : Addr) (cl : List (Str × Addr)) (fp : List Addr), PGx (X.blk s H scope (compEnvC scope cl C X.env) fp) tg ix g) (ht : ∀ (s : Shared) (H : Hp) (C : Addr) (cl : List (Str × Addr)) (fp : List Addr), PTx (X.blk s H scope (compEnvC scope cl C X.env) fp) W0 ifs t)
    (he : ∀ (s : Shared) (H : Hp) (C : Addr) (cl : List (Str × Addr)) (fp : List Addr), PV (X.blk s H scope (compEnvC scope cl C X.env) fp) W0 elt e) (hr : PPs X W es r) (hs : ∀ x, foldedSetIterable iter X.env x = pure x := by intro _; rfl)
    (hst : starEach (.ListComp elt [⟨tg, iter, ifs, 0⟩] scope pos :: es) X.env = (false, eval (.ListComp elt [⟨tg, iter, ifs, 0⟩] scope pos) X.env) :: starEach es X.env := by rfl) :
    PPs X W (.ListComp elt [⟨tg, iter, ifs, 0⟩] scope pos :: es) (pConsLL (own.map (·.2)) it g t e r) :=
  PA.imp (pa_cons (pe_lc hc hN hi ok hg ht he hs) hr hst) fun σ H Q ⟨ρ, env, h, R, gd⟩ => compLL_read hix R (by
    unfold pConsLL at gd
    cases q : compLLr (own.map (·.2)) it g t e env h with
    | exc x h1 => rw [q] at gd; exact gd
    | bad => rw [q] at gd; exact gd.elim
    | ok rows h2 =>
      rw [q] at gd
      dsimp only at gd
      intro ρ2 H2 v ok2 S sok
      refine ⟨ρ2, env, _, ⟨ok2, R.env.step R.hp S⟩, ?_⟩
      cases q2 : r env (h2 ++ [.lls rows]) with
      | ok svs h3 =>
        rw [q2] at gd
        exact fun ρ3 H3 vs ok3 S3 ros => gd ρ3 H3 (v :: vs) ok3 (S.trans S3) (.cons (sok.step ok2 S3) ros)
      | exc x h3 =>
        rw [q2] at gd
        have g' : EPost X.K X.mg ρ H h3 (fun c d H' => W c d σ H') x := gd
        exact EPost.later S g'
      | bad => rw [q2] at gd; exact gd.elim)
end
end Ev
end
section
set_option Elab.async false
set_option linter.all false
set_option maxRecDepth 100000
set_option maxHeartbeats 4000000
/-! Ev20: a dict of a def's own: d = {..}, d[k] = e for a new key, d[k]. -/
namespace Ev
open PySem PySem.Spec L2 EvS PyProof.Rows
section
variable {X : Cx} {W : WX} {K : PySem.W.Frag} {mg : Str → Option Value} {ρ ρ1 ρ2 ρ' : Own} {H H1 H2 H' : Hp} {h h' : Hs} {Q : VK} {pos : Pos}
theorem push_dct {p : Addr} {ks : List Key} {ds : List D} {vs : List V} (ok : HeapOk K mg ρ h H) (hp : H p = none) (hl : ks.length = vs.length) (rs : RDs K mg ρ H ds vs) :
    HeapOk K mg (ρ.add [p]) (h ++ [.dct ks ds]) (upd H p (.dK (ks.zip vs))) ∧ Step ρ H (ρ.add [p]) (upd H p (.dK (ks.zip vs))) := by
  have S : Step ρ H (ρ.add [p]) (upd H p (.dK (ks.zip vs))) := by
    refine ⟨fun a o e _ => upd_keep hp a o e, fun a o => ?_, fun n l e => .inl ?_, fun _ h => h, fun _ h => .inl (.inr h)⟩
    · rcases own_append.mp o with q | rfl
      · exact .inl q
      · exact .inr hp
    · show (ρ.cs ++ [[p]])[n]? = some l
      rw [List.getElem?_append_left (List.getElem?_eq_some_iff.mp e).1]; exact e
  refine ⟨⟨by simp [ok.len], fun n m l k a e1 e2 ha hb => ?_, fun a o => ?_, fun a ha => ?_, fun n c e => ?_⟩, S⟩
  · have fr : ∀ (i : Nat) (l : List Addr), (ρ.cs ++ [[p]])[i]? = some l → a ∈ l → (i < ρ.cs.length ∧ ρ.cs[i]? = some l) ∨ (i = ρ.cs.length ∧ a = p) := fun i l e ha => by
      by_cases hi : i < ρ.cs.length
      · rw [List.getElem?_append_left hi] at e; exact .inl ⟨hi, e⟩
      · rw [List.getElem?_append_right (by omega)] at e
        cases q : i - ρ.cs.length with
        | zero => rw [q] at e; cases e; exact .inr ⟨by omega, by simpa using ha⟩
        | succ k => rw [q] at e; simp at e
    rcases fr n l e1 ha with ⟨h1, q1⟩ | ⟨h1, rfl⟩
    · rcases fr m k e2 hb with ⟨h2, q2⟩ | ⟨h2, rfl⟩
      · exact ok.nd n m l k a q1 q2 ha hb
      · exact absurd ⟨n, l, q1, ha⟩ (ok.notC hp)
    · rcases fr m k e2 hb with ⟨h2, q2⟩ | ⟨h2, _⟩
      · exact absurd ⟨m, k, q2, hb⟩ (ok.notC hp)
      · omega
  · rcases own_append.mp o with q | rfl
    · have ne : a ≠ p := fun e => by subst e; exact ok.notC hp q
      rw [upd_ne ne]; exact ok.mutb a q
    · rw [upd_same]; trivial
  · obtain ⟨h1, xs, h2⟩ := ok.fbd a ha
    refine ⟨fun o => ?_, xs, upd_keep hp a _ h2⟩
    rcases own_append.mp o with q | rfl
    · exact h1 q
    · rw [hp] at h2; cases h2
  · by_cases hn : n < h.length
    · rw [List.getElem?_append_left hn] at e
      obtain ⟨l, e1, e2⟩ := ok.cell n c e
      refine ⟨l, (by rw [List.getElem?_append_left (List.getElem?_eq_some_iff.mp e1).1]; exact e1 : (ρ.cs ++ [[p]])[n]? = some l), e2.step ok.mutb S fun a ha => upd_ne fun z => ?_⟩
      subst z
      exact ok.notC hp ⟨n, l, e1, ha⟩
    · rw [List.getElem?_append_right (by omega)] at e
      cases q : n - h.length with
      | zero =>
        rw [q] at e; cases e
        exact ⟨[p], by rw [show n = ρ.cs.length by rw [ok.len]; omega]; simp, .dct upd_same hl (rs.step ok.mutb S)⟩
      | succ k => rw [q] at e; simp at e
theorem cell_setD {n : Nat} {p : Addr} {ks' : List Key} {ds' : List D} {vs' : List V} (ok : HeapOk K mg ρ h H) (hn : n < h.length) (hp : ρ.cs[n]? = some [p]) (hl : ks'.length = vs'.length) (rs : RDs K mg ρ H ds' vs') :
    HeapOk K mg ρ (h.set n (.dct ks' ds')) (upd H p (.dK (ks'.zip vs'))) ∧ Step ρ H ρ (upd H p (.dK (ks'.zip vs'))) := by
  have co : COwned ρ p := ⟨n, [p], hp, by simp⟩
  have S : Step ρ H ρ (upd H p (.dK (ks'.zip vs'))) := by
    refine ⟨fun a o e1 no => ?_, fun a o => .inl o, fun m l e1 => .inl e1, fun _ h => h, fun _ h => .inl (.inr h)⟩
    have ne : a ≠ p := fun z => by subst z; exact no co
    rw [upd_ne ne]; exact e1
  refine ⟨⟨by simp [ok.len], ok.nd, fun a oa => ?_, fun a ha => ?_, fun m c e1 => ?_⟩, S⟩
  · by_cases e : a = p
    · subst e; rw [upd_same]; trivial
    · rw [upd_ne e]; exact ok.mutb a oa
  · obtain ⟨h1, xs, h2⟩ := ok.fbd a ha
    have ne : a ≠ p := fun z => by subst z; exact h1 co
    exact ⟨h1, xs, by rw [upd_ne ne]; exact h2⟩
  · by_cases hm : n = m
    · subst hm
      rw [List.getElem?_set_self hn] at e1
      cases e1
      exact ⟨[p], hp, .dct upd_same hl (rs.step ok.mutb S)⟩
    · rw [List.getElem?_set_ne hm] at e1
      obtain ⟨l, e2, e3⟩ := ok.cell m c e1
      refine ⟨l, e2, e3.step ok.mutb S fun a ha => upd_ne fun z => ?_⟩
      exact hm (ok.nd n m [p] l p hp e2 (by simp) (z ▸ ha))
theorem dct_at {env : Nv} {σ : Slots} {i n : Nat} {ks : List Key} {ds : List D} (R : Rel K mg ρ env h σ H) (e : env[i]? = some (some (.loc n))) (hn : h[n]? = some (.dct ks ds)) :
    ∃ p vs, σ[i]? = some (some (.ref p)) ∧ ρ.cs[n]? = some [p] ∧ H p = some (.dK (ks.zip vs)) ∧ ks.length = vs.length ∧ RDs K mg ρ H ds vs := by
  obtain ⟨v, e1, l, e2, q⟩ := R.env.at_ i _ e
  obtain ⟨l', e3, c⟩ := R.hp.cell n _ hn
  rw [e2] at e3; cases e3
  cases c with
  | dct e4 hl rs => exact ⟨_, _, by rw [e1, q _ _ rfl], e2, e4, hl, rs⟩

/-! ### d = {..} -/
def sNewD (i : Nat) (ps : List (Key × Ex)) : Sx := fun env h => match evalPs (ps.map (·.2)) env h with
  | .ok ds h1 => .nx (env.set i (some (.loc h1.length))) (h1 ++ [.dct (ps.map (·.1)) ds])
  | _ => .bad
theorem s_newD {i : Nat} {x : Str} {keys : List (Option Expr)} {values : List Expr} {ps : List (Key × Ex)} {pos' dpos : Pos} (hN : X.N.Nodup) (hp : PD X W dpos keys values ps) (hnd : (ps.map (·.1)).Nodup) (hi : X.N[i]? = some x := by rfl) (hx : Loc X.env.scope x := by first | exact .inl rfl | exact .inr rfl)
    (hs : swapsWith (.Dict keys values dpos) (some (.Name x pos')) pos.line X.env = pure false := by rfl) (hf : X.fn x = true ∨ X.env.scope.names.lookup x = some .local := by first | exact .inl rfl | exact .inr rfl)
    (hall : keys.all (·.isSome) = true := by rfl) (hl : keys.length = values.length := by rfl) (h0 : keys ≠ [] := by nofun) (h15 : keys.length ≤ 15 := by decide) (h15' : ps.length ≤ 15 := by decide) :
    VS X W (.Assign [.Name x pos'] (.Dict keys values dpos) pos) (sNewD i ps) :=
  PS.imp (ps_set hN hi hx (pe_disp hp hall hl h0 h15) hs hf) fun D σ H ⟨ρ, env, h, R, g⟩ => by
    unfold sNewD at g
    cases q : evalPs (ps.map (·.2)) env h with
    | exc x h1 => rw [q] at g; exact g.elim
    | bad => rw [q] at g; exact g.elim
    | ok ds h1 =>
      rw [q] at g
      have hlen : ds.length = ps.length := by rw [evalPs_len q, List.length_map]
      intro p hp
      have hf : p ∉ ρ.fb := fun hf => by
        obtain ⟨_, xs, e⟩ := R.hp.fbd p hf
        rw [hp] at e; cases e
      have nc := R.hp.notC hp
      refine pairs_read (ρ := ρ.ad p) ⟨R.hp.fbInG (.dK []) hp, R.env.fbIn hp⟩ q fun ρ2 H2 vs ok2 S2 rs => ?_
      obtain ⟨o2, e2⟩ := out_ofG S2 ok2 nc
      have S3 := S2.fbOut hp hf
      have rs3 := RDs.fbOut o2 rs
      have hvl : (ps.map (·.1)).length = vs.length := by rw [List.length_map, ← rs.length, hlen]
      refine ⟨e2, (ps.map (·.1)).zip vs, ?_, ?_, ?_⟩
      · rw [zip_kV, List.map_map]; rfl
      · rw [List.length_zip]
        have : (ps.map (·.1)).length = ps.length := List.length_map ..
        omega
      · rw [mergeK_nodup _ [] (by rw [List.nil_append, List.map_fst_zip (Nat.le_of_eq hvl)]; exact hnd), List.nil_append, ← upd_era]
        have ok4 := ok2.fbOut o2
        obtain ⟨ok3, S4⟩ := push_dct ok4 era_same hvl rs3
        exact g _ _ _ ⟨ok3, ((R.env.step R.hp S3).step ok4 S4).set (sv := .loc h1.length) ⟨[p], by rw [← ok4.len]; simp, fun _ _ e => by cases e; rfl⟩ i⟩ (S3.trans S4)

/-! ### d[k] -/
def keyD : D → Option Key
  | .str x => some (.inr x)
  | .int i => some (.inl i)
  | _ => none
theorem key_rd {d : D} {v : V} {k : Key} (r : RD K mg ρ H d v) (e : keyD d = some k) : v = kV k := by
  cases r <;> first | (cases e; done) | (cases e; rfl)
def valD (ks : List Key) (ds : List D) (k : Key) : Option D := ((ks.zip ds).find? fun kv => decide (kv.1 = k)).map (·.2)
theorem valD_rd : ∀ {ks : List Key} {ds : List D} {vs : List V} {k : Key} {d : D}, RDs K mg ρ H ds vs → valD ks ds k = some d → ∃ v, valV (ks.zip vs) k = some v ∧ RD K mg ρ H d v
  | [], _, _, _, _, _, e => by simp [valD] at e
  | _ :: _, [], _, _, _, _, e => by simp [valD] at e
  | k0 :: ks, d0 :: ds, v0 :: vs, k, d, .cons r rs, e => by
    by_cases hk : k0 = k
    · have e1 : valD (k0 :: ks) (d0 :: ds) k = some d0 := by simp [valD, List.find?_cons, hk]
      rw [e1] at e; cases e
      exact ⟨v0, valV_pos (p := (k0, v0)) hk, r⟩
    · have e1 : valD (k0 :: ks) (d0 :: ds) k = valD ks ds k := by simp [valD, List.find?_cons, hk]
      rw [e1] at e
      obtain ⟨v, e2, r2⟩ := valD_rd rs e
      exact ⟨v, by rw [List.zip_cons_cons, valV_neg (p := (k0, v0)) hk]; exact e2, r2⟩
def eIxD (i : Nat) (mk : Ex) : Ex := fun env h => match env[i]? with
  | some (some (.loc n)) => bindV mk (fun c h1 => match keyD c with
    | some k => (match h1[n]? with
      | some (.dct ks ds) => liftO ((valD ks ds k).map RV.val) h1
      | _ => .bad)
    | none => .bad) env h
  | _ => .bad
theorem v_ixD {i : Nat} {x : Str} {ke : Expr} {mk : Ex} {p1 : Pos} (hu : X.A.units + 65 < cLine) (hk : PV X W ke mk) (hN : X.N[i]? = some x := by rfl) (hv : Vis X.env.scope x := by first | exact Or.inl rfl | exact Or.inr (Or.inl rfl) | exact Or.inr (Or.inr rfl)) (hd : (x == ("__debug__" : Str)) = false := by decide)
    (hcd : (x == ("__classdict__" : Str)) = false := by decide) (hs1 : NoSl ke := by intro _ _; rfl) : PV X W (.Subscript (.Name x p1) ke pos) (eIxD i mk) := by
  refine PE.imp (pe_dget (by omega) (pe_var hN hv hd hcd) hk hs1) fun σ H Q ⟨ρ, env, h, R, g⟩ => ?_
  unfold eIxD at g
  split at g
  case h_2 => exact g.elim
  rename_i n e
  obtain ⟨v0, e1, l0, e2, q0⟩ := R.env.at_ i _ e
  refine ⟨v0, e1, Tr.bind R g fun c v ρ1 h1 H1 A g1 => ?_⟩
  cases q : keyD c with
  | none => rw [q] at g1; exact g1.elim
  | some k =>
    rw [q] at g1
    have hkv := key_rd A.rd q
    subst hkv
    dsimp only at g1
    split at g1
    case h_2 => exact g1.elim
    rename_i ks ds hn
    obtain ⟨p, vs, f1, f2, f3, f4, f5⟩ := dct_at A.rel e hn
    rw [e1] at f1; cases f1
    cases q2 : valD ks ds k with
    | none => rw [q2] at g1; exact g1.elim
    | some d =>
      rw [q2] at g1
      obtain ⟨w, y1, y2⟩ := valD_rd f5 q2
      refine ⟨p, w, rfl, ?_, g1 ρ1 H1 w A.rel.hp (Step.refl _ _) y2⟩
      rw [← y1]
      exact DGet.k f3

/-! ### d[k] = e, k a new key -/
def sStoreD (i : Nat) (mk m : Ex) : Sx := fun env h => match env[i]? with
  | some (some (.loc n)) => bindS m (fun rv env h1 => bindS mk (fun rk env h2 => match keyD rk.vl with
    | some k => (match h2[n]? with
      | some (.dct ks ds) => if (ks.any fun q => decide (q = k)) = true then .bad else if ks.length < 1000 then .nx env (h2.set n (.dct (ks ++ [k]) (ds ++ [rv.vl]))) else .bad
      | _ => .bad)
    | none => .bad) env h1) env h
  | _ => .bad
theorem zip_app {ks : List Key} {vs : List V} (h : ks.length = vs.length) (k : Key) (v : V) : (ks ++ [k]).zip (vs ++ [v]) = ks.zip vs ++ [(k, v)] := by
  rw [List.zip_append h]; rfl
theorem s_storeD {i : Nat} {x : Str} {ke e : Expr} {mk m : Ex} {p1 p2 : Pos} (hu : X.A.units + 65 < cLine) (he : PV X W e m) (hk : PV X W ke mk)
    (hN : X.N[i]? = some x := by rfl) (hv : Vis X.env.scope x := by first | exact Or.inl rfl | exact Or.inr (Or.inl rfl) | exact Or.inr (Or.inr rfl)) (hd : (x == ("__debug__" : Str)) = false := by decide) (hcd : (x == ("__classdict__" : Str)) = false := by decide)
    (hsub : ∀ v, assign (.Subscript (.Name x p1) ke p2) X.env v = (do
      let ov ← holding [v] (eval (.Name x p1) X.env)
      let iv ← holding [v, ov] (eval ke X.env)
      standAt p2
      holding [v, ov, iv] (setItem ov iv v)
      release [v, ov, iv] []) := by intro _; rfl)
    (hs : swapsWithSole [.Subscript (.Name x p1) ke p2] e pos.line X.env = pure false := by rfl) (hw : swappedStores [.Subscript (.Name x p1) ke p2] e X.env = pure none := by rfl)
    (h1 : (assignEach [.Subscript (.Name x p1) ke p2] X.env).map (·.2) = [assign (.Subscript (.Name x p1) ke p2) X.env] := by rfl) : VS X W (.Assign [.Subscript (.Name x p1) ke p2] e pos) (sStoreD i mk m) := by
  refine PS.imp (ps_asg he (pg_sub (pe_var hN hv hd hcd) hk (set_dict (by omega)) hsub) hs hw h1) fun D σ H ⟨ρ, env, h, R, g⟩ => ?_
  unfold sStoreD at g
  split at g
  case h_2 => exact g.elim
  rename_i n e0
  refine TrS.val (k := fun d env h1 => bindS mk (fun rk env h2 => match keyD rk.vl with
    | some k => (match h2[n]? with
      | some (.dct ks ds) => if (ks.any fun q => decide (q = k)) = true then .bad else if ks.length < 1000 then .nx env (h2.set n (.dct (ks ++ [k]) (ds ++ [d]))) else .bad
      | _ => .bad)
    | none => .bad) env h1) R g fun d v ρ1 h1 H1 A1 g1 => ?_
  obtain ⟨v0, e1, q0⟩ := R.env.at_ i _ e0
  refine ⟨v0, e1, TrS.val (k := fun c env h2 => match keyD c with
    | some k => (match h2[n]? with
      | some (.dct ks ds) => if (ks.any fun q => decide (q = k)) = true then .bad else if ks.length < 1000 then .nx env (h2.set n (.dct (ks ++ [k]) (ds ++ [d]))) else .bad
      | _ => .bad)
    | none => .bad) A1.rel g1 fun c vc ρ2 h2 H2 A2 g2 => ?_⟩
  cases q : keyD c with
  | none => rw [q] at g2; exact g2.elim
  | some k =>
    rw [q] at g2
    have hkv := key_rd A2.rd q
    subst hkv
    dsimp only at g2
    split at g2
    case h_2 => exact g2.elim
    rename_i ks ds hn
    obtain ⟨p, vs, f1, f2, f3, f4, f5⟩ := dct_at A2.rel e0 hn
    rw [e1] at f1; cases f1
    split at g2
    case isTrue => exact g2.elim
    rename_i hnk
    split at g2
    case isFalse => exact g2.elim
    rename_i hlen
    have rd := A1.rd.step A1.rel.hp.mutb A2.st
    obtain ⟨ok', S⟩ := cell_setD A2.rel.hp (List.getElem?_eq_some_iff.mp hn).1 f2 (ks' := ks ++ [k]) (vs' := vs ++ [v]) (by simp [f4]) (RDs.append f5 (.cons rd .nil))
    have hput : putK (ks.zip vs) k v = (ks ++ [k]).zip (vs ++ [v]) := by
      unfold putK
      rw [if_neg, zip_app f4]
      intro z
      rw [List.any_eq_true] at z
      obtain ⟨kv, hm, he⟩ := z
      have := of_decide_eq_true he
      exact hnk (List.any_eq_true.mpr ⟨kv.1, (List.of_mem_zip (a := kv.1) (b := kv.2) hm).1, decide_eq_true this⟩)
    refine ⟨p, _, rfl, DPut.k f3 (by rw [List.length_zip, sizeLine_eq]; omega), ?_⟩
    rw [hput]
    exact g2 ρ2 σ _ ⟨ok', A2.rel.env.step A2.rel.hp S⟩ S
end
end Ev
end
section
set_option Elab.async false
set_option linter.all false
set_option maxRecDepth 100000
set_option maxHeartbeats 4000000
/-! Ev21: t.index(x) of texts; several names, some of which may be a new list or not. -/
namespace Ev
open PySem PySem.Spec L2 EvS PyProof.Rows
section
variable {X : Cx} {W : WX} {K : PySem.W.Frag} {mg : Str → Option Value} {ρ ρ1 ρ2 ρ' : Own} {H H1 H2 H' : Hp} {h h' : Hs} {Q : VK} {pos : Pos}
/-! ### t.index(x) -/
def rTIdxS (K : PySem.W.Frag) : V → List V → Hp → VK → Prop := fun x xs H Q => ∃ (a : Addr) (ys : List Str) (k : Str), x = V.ref a ∧ xs = [.str k] ∧ SqT K H a (ys.map V.str) ∧ k ∈ ys ∧ Q (.int (ys.idxOf k : Nat)) H
theorem strs_are : ∀ {ys : List Str} {us : List Value}, Vals (ys.map V.str) us → StrsAre us ys
  | [], _, .nil => .nil
  | y :: ys, _, .cons ⟨t, e⟩ rs => by cases e; exact .cons y t (strs_are rs)
theorem mt_tindexS : MtR X "tuple.index" (rTIdxS X.K) := by
  intro pins s σ H x xs v us Q I rx rxs h
  obtain ⟨a, ys, k, rfl, rfl, hs, hk, q⟩ := h
  cases rx
  cases rxs with
  | cons ry rt =>
    cases rt
    obtain ⟨t, rfl⟩ := ry
    obtain ⟨its, r, p, _⟩ := I.tuple hs
    exact SeqAt.tuple_index_strs (show s.heap.IsTuple a its.toArray from p) (strs_are r) hk ⟨.int (ys.idxOf k : Nat), H, I.tok _, ⟨_, rfl⟩, q⟩
def eTI (ys : List Str) (mk : Ex) : Ex := fun env h => bindV mk (fun k h2 => match k with
    | .str x => if x ∈ ys then .ok (.val (.int (ys.idxOf x : Nat))) h2 else .bad
    | _ => .bad) env h
/-- C.index(e), C a tuple of texts of the module -/
theorem v_tindex {y : Str} {a : Addr} {ob : Obj} {its : List Value} {n : Nat} {ys : List Str} {e : Expr} {m : Ex} {p apos cpos : Pos} (hm : X.mg y = some (.ref a)) (hk : X.K.lookup a = some ob) (hc : ob.cls = .type "tuple") (hdn : ob.dict = none) (hd : ob.data = .seq its.toArray n) (hz : its.length ≤ sizeLine) (hv : Vals (ys.map V.str) its) (he : PV X W e m)
    (hg : Gl X y := by rfl) (hdb : (y == ("__debug__" : Str)) = false := by decide)
    (hbase : attributeBase (.Name y p) "index" X.env (eval (.Name y p) X.env) = eval (.Name y p) X.env := by rfl)
    (hfew : ((backTo cpos (starEach [e] X.env)).all (fun x => !x.1) && (backToKw cpos (keywordEach [] X.env)).all (fun x => x.1.isSome)
      && decide ([e].length + ([] : List Keyword).length + (if ([] : List Keyword).isEmpty then 0 else 1) < 30)) = true := by rfl)
    (hline : (apos.endLine == cpos.line) = true := by rfl) (hs : starEach [e] X.env = (false, eval e X.env) :: starEach [] X.env := by rfl) (hplain : (backTo cpos (starEach [] X.env)).any (·.1) = false := by rfl) :
    PV X W (.Call (.Attribute (.Name y p) "index" apos) [e] [] cpos) (eTI ys m) := by
  refine PE.imp (pe_bm PySem.F.plainAttrs_tuple PySem.F.slot_tuple_index PySem.F.type_tuple_index mt_tindexS (pe_glob hg hm (show RelV (.ref a) (.ref a) from rfl) hdb) (pa_cons he pa_nil hs) hbase hfew hline hs hplain) fun σ H Q ⟨ρ, env, h, R, g⟩ => ?_
  refine ⟨.inr (.inl ⟨rfl, ob, hk, hc, hdn⟩), Tr.bind R g fun k w ρ2 h2 H2 A2 g2 => ?_⟩
  split at g2
  case h_2 => exact g2.elim
  rename_i x
  split at g2
  case isFalse => exact g2.elim
  rename_i hx
  have rk := A2.rd
  cases rk
  exact ⟨_, ys, x, rfl, rfl, .inr ⟨ob, its.toArray, n, hk, hc, hd, by simpa using hz, by simpa using hv⟩, hx, g2 ρ2 H2 _ A2.rel.hp (Step.refl _ _) (.int _)⟩

/-! ### a new list, or none -/
def pConsM (m : Ex) (r : Ps) : Ps := fun env h => match m env h with
  | .ok (.fresh ds) h1 => (match r env (h1 ++ [.lst ds]) with
    | .ok svs h3 => .ok (.loc h1.length :: svs) h3
    | .exc x h3 => .exc x h3
    | .bad => .bad)
  | .ok (.val d) h1 => (match r env h1 with
    | .ok svs h3 => .ok (.val d :: svs) h3
    | .exc x h3 => .exc x h3
    | .bad => .bad)
  | .exc x h1 => .exc x h1
  | .bad => .bad
theorem ps_consM {e : Expr} {es : List Expr} {m : Ex} {r : Ps} (ha : PV X W e m) (hr : PPs X W es r) (hs : starEach (e :: es) X.env = (false, eval e X.env) :: starEach es X.env := by rfl) : PPs X W (e :: es) (pConsM m r) := by
  refine PA.imp (pa_cons ha hr hs) fun σ H Q ⟨ρ, env, h, R, g⟩ => ⟨ρ, env, h, R, ?_⟩
  unfold pConsM at g
  have go : ∀ {ρ2 : Own} {H2 : Hp} {h2 : Hs} {sv : SV} {v : V}, HeapOk X.K X.mg ρ2 h2 H2 → Step ρ H ρ2 H2 → SVOk X.K X.mg ρ2 H2 sv v →
      GoodPs X.K X.mg ρ H Q (fun c d H' => W c d σ H') (match r env h2 with
        | .ok svs h3 => .ok (sv :: svs) h3
        | .exc x h3 => .exc x h3
        | .bad => .bad) → TrPs X.K X.mg W r σ H2 (fun vs H3 => Q (v :: vs) H3) := fun {ρ2 H2 h2 sv v} ok S sok g => by
    refine ⟨ρ2, env, h2, ⟨ok, R.env.step R.hp S⟩, ?_⟩
    cases q2 : r env h2 with
    | ok svs h3 =>
      rw [q2] at g
      exact fun ρ3 H3 vs ok3 S3 ros => g ρ3 H3 (v :: vs) ok3 (S.trans S3) (.cons (sok.step ok S3) ros)
    | exc x h3 =>
      rw [q2] at g
      have g' : EPost X.K X.mg ρ H h3 (fun c d H' => W c d σ H') x := g
      exact EPost.later S g'
    | bad => rw [q2] at g; exact g.elim
  cases q : m env h with
  | exc x h1 => rw [q] at g; exact g
  | bad => rw [q] at g; exact g.elim
  | ok rv h1 =>
    rw [q] at g
    cases rv with
    | val d => exact fun ρ2 H2 v ok S r2 => go (sv := .val d) ok S r2 g
    | fresh ds =>
      intro ρ2 H2 p vs ok S hp rs
      obtain ⟨ok2, S2⟩ := push_ok ok hp rs
      exact go ok2 (S.trans S2) (sv := .loc h1.length) ⟨[p], by rw [← ok.len]; simp, fun _ _ e => by cases e; rfl⟩ g
end
end Ev
end
section
set_option Elab.async false
set_option linter.all false
set_option maxRecDepth 100000
set_option maxHeartbeats 4000000
/-! Dk: what each def of the law's text does (printed by gen.py from the text). -/
namespace Dk
open PySem PySem.Spec L2 Ev EvS
def topS (i : Nat) : Stmt := PySem.Challenge.pw_followrows_k04_following.main.body.getD i (.Pass ⟨0, 0, 0, 0⟩)
def m__law_pen : Fx := fnE 1
    (sRet (eLst (aCons (xO (eB bList (aCons (xO (eSl (nO 0) pNo (pAt (eC (.int 60))))) aNil))) (aCons (xO (eC (.int 0))) (aCons (xO (eC (.int 0))) aNil)))))
abbrev s__law_pen : Stmt := topS 36
abbrev N__law_pen : List Str := ["script"]
theorem sc__law_pen : FnScope N__law_pen ["script"] (defScope s__law_pen) := ⟨rfl, rfl, rfl, by decide +kernel, rfl, by decide +kernel, by decide +kernel⟩
def m_is_integer : Fx := fnE 1
    (sRet (eAndE (eB bIsi (aCons (nO 0) (aCons (xO (eC (.ty "int"))) aNil))) (eNotE (eB bIsi (aCons (nO 0) (aCons (xO (eC (.ty "bool"))) aNil))))))
abbrev s_is_integer : Stmt := topS 6
abbrev N_is_integer : List Str := ["thing"]
theorem sc_is_integer : FnScope N_is_integer ["thing"] (defScope s_is_integer) := ⟨rfl, rfl, rfl, by decide +kernel, rfl, by decide +kernel, by decide +kernel⟩
def m_is_within : Fx := fnE 3
    (sRet (eAndE (eCall 1 m_is_integer [] (aCons (nO 0) aNil)) (eChain cLe cLe (nO 1) (nO 0) (nO 2))))
abbrev s_is_within : Stmt := topS 7
abbrev N_is_within : List Str := ["thing", "least", "most"]
theorem sc_is_within : FnScope N_is_within ["thing", "least", "most"] (defScope s_is_within) := ⟨rfl, rfl, rfl, by decide +kernel, rfl, by decide +kernel, by decide +kernel⟩
def m_is_literal : Fx := fnE 2
    (sRet (eAndE (eCall 1 m_is_integer [] (aCons (nO 1) aNil)) (eChain cLe cLe (xO (eC (.int 1))) (xO (eB bAbs (aCons (nO 1) aNil))) (nO 0))))
abbrev s_is_literal : Stmt := topS 14
abbrev N_is_literal : List Str := ["size", "thing"]
theorem sc_is_literal : FnScope N_is_literal ["size", "thing"] (defScope s_is_literal) := ⟨rfl, rfl, rfl, by decide +kernel, rfl, by decide +kernel, by decide +kernel⟩
def m_is_clause : Fx := fnE 5
    (sSeq (sIf (tOrE (tNotE (bOf (eB bIsi (aCons (nO 1) (aCons (xO (eC (.ty "tuple"))) aNil))))) (tNotE (bOf (eChain cLe cLe (xO (eC (.int 1))) (xO (eB bLen (aCons (nO 1) aNil))) (xO (eC (.int 4)))))))
    (sRet (eC (.bl false)))
    sNx)
    (sSeq (sIf (tNotE (bOf (eB bAll (aCons (xO (eComp [2] (iVal (eVar 1)) (gNm 2) tYesE (eCall 2 m_is_literal [] (aCons (nO 0) (aCons (xO (eVar 2)) aNil))))) aNil))))
    (sRet (eC (.bl false)))
    sNx)
    (sSeq (sIf (tNotE (bOf (eB bAll (aCons (xO (eComp [3, 4] (iZip2 (aCons (xO (eSl (nO 1) pNo (pAt (eUn uNeg (xO (eC (.int 1))))))) (aCons (xO (eSl (nO 1) (pAt (eC (.int 1))) pNo)) aNil))) (gTp 2 (gCons' (gNm 3) (gCons' (gNm 4) gNil'))) tYesE (eBin cLt (xO (eVar 3)) (xO (eVar 4))))) aNil))))
    (sRet (eC (.bl false)))
    sNx)
    (sRet (eBin dEq (xO (eLenSc [2] (iVal (eVar 1)) (gNm 2) tYesE (eB bAbs (aCons (xO (eVar 2)) aNil)))) (xO (eB bLen (aCons (nO 1) aNil))))))))
abbrev s_is_clause : Stmt := topS 15
abbrev N_is_clause : List Str := ["size", "thing", "literal", "one", "other"]
theorem sc_is_clause : FnScope N_is_clause ["size", "thing"] (defScope s_is_clause) := ⟨rfl, rfl, rfl, by decide +kernel, rfl, by decide +kernel, by decide +kernel⟩
def m_are_clauses : Fx := fnE 3
    (sSeq (sIf (tOrE (tNotE (bOf (eB bIsi (aCons (nO 1) (aCons (xO (eC (.ty "tuple"))) aNil))))) (bOf (eBin cGt (xO (eB bLen (aCons (nO 1) aNil))) (xO (eC (.int 16))))))
    (sRet (eC (.bl false)))
    sNx)
    (sRet (eAndE (eB bAll (aCons (xO (eComp [2] (iVal (eVar 1)) (gNm 2) tYesE (eCall 2 m_is_clause [] (aCons (nO 0) (aCons (xO (eVar 2)) aNil))))) aNil)) (eBin dEq (xO (eLenSet (eVar 1))) (xO (eB bLen (aCons (nO 1) aNil)))))))
abbrev s_are_clauses : Stmt := topS 16
abbrev N_are_clauses : List Str := ["size", "thing", "clause"]
theorem sc_are_clauses : FnScope N_are_clauses ["size", "thing"] (defScope s_are_clauses) := ⟨rfl, rfl, rfl, by decide +kernel, rfl, by decide +kernel, by decide +kernel⟩
def m_signs_of : Fx := fnE 2
    (sRet (eIf (bOf (eBin dEq (nO 1) (xO (eC (.str "nexts"))))) (eBin dMul (xO (eC (.int 2))) (nO 0)) (eVar 0)))
abbrev s_signs_of : Stmt := topS 17
abbrev N_signs_of : List Str := ["size", "part"]
theorem sc_signs_of : FnScope N_signs_of ["size", "part"] (defScope s_signs_of) := ⟨rfl, rfl, rfl, by decide +kernel, rfl, by decide +kernel, by decide +kernel⟩
def m_is_writing : Fx := fnE 5
    (sSeq (sIf (tOrE (tNotE (bOf (eB bIsi (aCons (nO 0) (aCons (xO (eC (.ty "tuple"))) aNil))))) (bOf (eBin dNe (xO (eB bLen (aCons (nO 0) aNil))) (xO (eBin dAdd (xO (eC (.int 2))) (xO (eB bLen (aCons (xO (eC (.tup (strsD ["first", "each", "nexts", "last"])))) aNil))))))))
    (sRet (eC (.bl false)))
    sNx)
    (sSeq (sAsg (gTp 2 (gCons' (gNm 1) (gCons' (gNm 2) gNil'))) (eSl (nO 0) pNo (pAt (eC (.int 2)))))
    (sSeq (sIf (tOrE (tNotE (bOf (eCall 3 m_is_within [] (aCons (nO 1) (aCons (xO (eC (.int 1))) (aCons (xO (eC (.int 2))) aNil)))))) (tNotE (bOf (eCall 3 m_is_within [] (aCons (nO 2) (aCons (nO 1) (aCons (xO (eC (.int 4))) aNil)))))))
    (sRet (eC (.bl false)))
    sNx)
    (sRet (eB bAll (aCons (xO (eComp [3, 4] (iZip2 (aCons (xO (eC (.tup (strsD ["first", "each", "nexts", "last"])))) (aCons (xO (eSl (nO 0) (pAt (eC (.int 2))) pNo)) aNil))) (gTp 2 (gCons' (gNm 3) (gCons' (gNm 4) gNil'))) tYesE (eCall 2 m_are_clauses [] (aCons (xO (eCall 2 m_signs_of [] (aCons (nO 2) (aCons (xO (eVar 3)) aNil)))) (aCons (xO (eVar 4)) aNil))))) aNil))))))
abbrev s_is_writing : Stmt := topS 18
abbrev N_is_writing : List Str := ["thing", "inputs", "size", "part", "clauses"]
theorem sc_is_writing : FnScope N_is_writing ["thing"] (defScope s_is_writing) := ⟨rfl, rfl, rfl, by decide +kernel, rfl, by decide +kernel, by decide +kernel⟩
def m_check_writing : Fx := fnE 1
    (sIf (tNotE (bOf (eCall 1 m_is_writing [] (aCons (nO 0) aNil))))
    sBad
    sNx)
abbrev s_check_writing : Stmt := topS 19
abbrev N_check_writing : List Str := ["thing"]
theorem sc_check_writing : FnScope N_check_writing ["thing"] (defScope s_check_writing) := ⟨rfl, rfl, rfl, by decide +kernel, rfl, by decide +kernel, by decide +kernel⟩
def m_is_column : Fx := fnE 3
    (sSeq (sIf (tOrE (tNotE (bOf (eB bIsi (aCons (nO 1) (aCons (xO (eC (.ty "tuple"))) aNil))))) (bOf (eBin dNe (xO (eB bLen (aCons (nO 1) aNil))) (nO 0))))
    (sRet (eC (.bl false)))
    sNx)
    (sRet (eB bAll (aCons (xO (eComp [2] (iVal (eVar 1)) (gNm 2) tYesE (eOrE (eBin dIsN (xO (eVar 2)) (xO (eC .non))) (eB bIsi (aCons (xO (eVar 2)) (aCons (xO (eC (.ty "bool"))) aNil)))))) aNil))))
abbrev s_is_column : Stmt := topS 21
abbrev N_is_column : List Str := ["size", "thing", "value"]
theorem sc_is_column : FnScope N_is_column ["size", "thing"] (defScope s_is_column) := ⟨rfl, rfl, rfl, by decide +kernel, rfl, by decide +kernel, by decide +kernel⟩
def m_is_row : Fx := fnE 3
    (sRet (eAndE (eB bIsi (aCons (nO 1) (aCons (xO (eC (.ty "list"))) aNil))) (eAndE (eBin dNe (nO 1) (xO (eLst aNil))) (eB bAll (aCons (xO (eComp [2] (iVal (eVar 1)) (gNm 2) tYesE (eCall 2 m_is_column [] (aCons (nO 0) (aCons (xO (eVar 2)) aNil))))) aNil)))))
abbrev s_is_row : Stmt := topS 22
abbrev N_is_row : List Str := ["size", "thing", "column"]
theorem sc_is_row : FnScope N_is_row ["size", "thing"] (defScope s_is_row) := ⟨rfl, rfl, rfl, by decide +kernel, rfl, by decide +kernel, by decide +kernel⟩
def m_check_row : Fx := fnE 2
    (sIf (tNotE (bOf (eCall 2 m_is_row [] (aCons (nO 0) (aCons (nO 1) aNil)))))
    sBad
    sNx)
abbrev s_check_row : Stmt := topS 24
abbrev N_check_row : List Str := ["size", "thing"]
theorem sc_check_row : FnScope N_check_row ["size", "thing"] (defScope s_check_row) := ⟨rfl, rfl, rfl, by decide +kernel, rfl, by decide +kernel, by decide +kernel⟩
def m_steps_at : Fx := fnE 9
    (sSeq (sNewD 3 ((.inr "first", (eIf (bOf (eBin dEq (nO 2) (xO (eC (.int 0))))) (eLst (aCons (xO (eC (.int 0))) aNil)) (eLst aNil))) :: ((.inr "each", (eLst (aCons (xO (eVar 2)) aNil))) :: [])))
    (sSeq (sStoreD 3 (eC (.str "nexts")) (eComp [8] (iVal (eTup (aCons (xO (eBin iSub (nO 2) (xO (eC (.int 1))))) (aCons (xO (eVar 2)) aNil)))) (gNm 8) (bOf (eChain cLe cLt (xO (eC (.int 0))) (xO (eVar 8)) (xO (eBin iSub (nO 1) (xO (eC (.int 1))))))) (eVar 8)))
    (sSeq (sStoreD 3 (eC (.str "last")) (eIf (bOf (eBin dEq (nO 2) (xO (eBin iSub (nO 1) (xO (eC (.int 1))))))) (eLst (aCons (xO (eVar 2)) aNil)) (eLst aNil)))
    (sSeq (sNew 4 (eLst aNil))
    (sSeq (sFor (iEnum (aCons (xO (eC (.tup (strsD ["first", "each", "nexts", "last"])))) aNil)) (gTp 2 (gCons' (gNm 5) (gCons' (gNm 6) gNil')))
    (sFor (iRange range1? (aCons (xO (eB bLen (aCons (xO (eBin dIx (nO 0) (xO (eBin dAdd (xO (eC (.int 2))) (nO 5))))) aNil))) aNil)) (gNm 7)
    (sExpr (eList mExt 4 (aCons (xO (eComp [8] (iVal (eIxD 3 (eVar 6))) (gNm 8) tYesE (eTup (aCons (xO (eVar 6)) (aCons (xO (eVar 7)) (aCons (xO (eVar 8)) aNil)))))) aNil)))))
    (sRet (eTake 4)))))))
abbrev s_steps_at : Stmt := topS 30
abbrev N_steps_at : List Str := ["writing", "many", "column", "spots", "found", "place", "part", "index", "spot"]
theorem sc_steps_at : FnScope N_steps_at ["writing", "many", "column"] (defScope s_steps_at) := ⟨rfl, rfl, rfl, by decide +kernel, rfl, by decide +kernel, by decide +kernel⟩
def m_clause_of : Fx := fnE 2
    (sRet (eBin dIx (xO (eBin dIx (nO 0) (xO (eBin dAdd (xO (eC (.int 2))) (xO (eTI ["first", "each", "nexts", "last"] (eBin dIx (nO 1) (xO (eC (.int 0)))))))))) (xO (eBin dIx (nO 1) (xO (eC (.int 1)))))))
abbrev s_clause_of : Stmt := topS 27
abbrev N_clause_of : List Str := ["writing", "step"]
theorem sc_clause_of : FnScope N_clause_of ["writing", "step"] (defScope s_clause_of) := ⟨rfl, rfl, rfl, by decide +kernel, rfl, by decide +kernel, by decide +kernel⟩
def m_place_of : Fx := fnE 3
    (sRet (eTup (aCons (xO (eBin dAdd (xO (eBin dIx (nO 1) (xO (eC (.int 2))))) (xO (eBin iDiv (xO (eBin iSub (xO (eB bAbs (aCons (nO 2) aNil))) (xO (eC (.int 1))))) (xO (eBin dIx (nO 0) (xO (eC (.int 1))))))))) (aCons (xO (eBin iMod (xO (eBin iSub (xO (eB bAbs (aCons (nO 2) aNil))) (xO (eC (.int 1))))) (xO (eBin dIx (nO 0) (xO (eC (.int 1))))))) aNil))))
abbrev s_place_of : Stmt := topS 28
abbrev N_place_of : List Str := ["writing", "step", "literal"]
theorem sc_place_of : FnScope N_place_of ["writing", "step", "literal"] (defScope s_place_of) := ⟨rfl, rfl, rfl, by decide +kernel, rfl, by decide +kernel, by decide +kernel⟩
def m_told_by : Fx := fnE 8
    (sSeq (sNew 3 (eLst aNil))
    (sSeq (sFor (iVal (eCall 2 m_clause_of [] (aCons (nO 0) (aCons (nO 2) aNil)))) (gNm 4)
    (sSeq (sAsg (gTp 2 (gCons' (gNm 5) (gCons' (gNm 6) gNil'))) (eCall 3 m_place_of [] (aCons (nO 0) (aCons (nO 2) (aCons (nO 4) aNil)))))
    (sSeq (sSet 7 (eIx2 1 (eVar 5) (eVar 6)))
    (sIf (bOf (eBin dIsN (nO 7) (xO (eC .non))))
    (sExpr (eList mApp 3 (aCons (xO (eTup (aCons (xO (eVar 5)) (aCons (xO (eVar 6)) (aCons (xO (eBin cGt (nO 4) (xO (eC (.int 0))))) aNil))))) aNil)))
    (sIf (bOf (eBin dEq (nO 7) (xO (eBin cGt (nO 4) (xO (eC (.int 0)))))))
    (sRet (eC .non))
    sNx)))))
    (sRet (eIf (bOf (eBin cLt (xO (eB bLen (aCons (nO 3) aNil))) (xO (eC (.int 2))))) (eTake 3) (eC .non)))))
abbrev s_told_by : Stmt := topS 29
abbrev N_told_by : List Str := ["writing", "lists", "step", "found", "literal", "column", "index", "entry"]
theorem sc_told_by : FnScope N_told_by ["writing", "lists", "step"] (defScope s_told_by) := ⟨rfl, rfl, rfl, by decide +kernel, rfl, by decide +kernel, by decide +kernel⟩
def m_follow : Fx := fnE 12
    (sSeq (sMulti [2, 3, 4] (pConsLL [8] (iVal (eVar 1)) (gNm 8) tYesE (eB bList (aCons (xO (eVar 8)) aNil)) (pCons true (eLst aNil) (pCons true (eLstRg1 (eB bLen (aCons (nO 1) aNil))) pNil))))
    (sSeq (sWhile (fun _ _ => 1000000) (bOf (eBin dNe (nO 4) (xO (eLst aNil))))
    (sSeq (sSet 5 (eList mPopAt 4 (aCons (xO (eC (.int 0))) aNil)))
    (sFor (iVal (eCall 3 m_steps_at [] (aCons (nO 0) (aCons (xO (eB bLen (aCons (nO 1) aNil))) (aCons (nO 5) aNil))))) (gNm 6)
    (sSeq (sSet 7 (eCall 3 m_told_by [] (aCons (nO 0) (aCons (nO 2) (aCons (nO 6) aNil)))))
    (sSeq (sIf (bOf (eBin dEq (nO 7) (xO (eLst aNil))))
    (sRet (eTup (aCons (xO (eTakeL 2)) (aCons (xO (eLst (aStar (eTake 3) (aCons (xO (eVar 6)) aNil)))) (aCons (xO (eC (.bl false))) aNil)))))
    sNx)
    (sIf (bOf (eBin dNotN (nO 7) (xO (eC .non))))
    (sSeq (sAsg (gTp 3 (gCons' (gNm 8) (gCons' (gNm 9) (gCons' (gNm 10) gNil')))) (eBin dIx (nO 7) (xO (eC (.int 0)))))
    (sSeq (sStore2 2 (eVar 8) (eVar 9) (eVar 10))
    (sSeq (sExpr (eList mApp 3 (aCons (xO (eVar 6)) aNil)))
    (sExpr (eList mExt 4 (aCons (xO (eComp [11] (iVal (eTup (aCons (xO (eVar 8)) (aCons (xO (eVar 5)) aNil)))) (gNm 11) (bOf (eBin dNotIn (xO (eVar 11)) (nO 4))) (eVar 11))) aNil))))))
    sNx))))))
    (sRet (eTup (aCons (xO (eTakeL 2)) (aCons (xO (eTake 3)) (aCons (xO (eC (.bl true))) aNil)))))))
abbrev s_follow : Stmt := topS 31
abbrev N_follow : List Str := ["writing", "row", "lists", "steps", "waiting", "here", "step", "told", "column", "index", "value", "spot"]
theorem sc_follow : FnScope N_follow ["writing", "row"] (defScope s_follow) := ⟨rfl, rfl, rfl, by decide +kernel, rfl, by decide +kernel, by decide +kernel⟩
def m_followed : Fx := fnE 6
    (sSeq (sExpr (eCall 1 m_check_writing [] (aCons (nO 0) aNil)))
    (sSeq (sExpr (eCall 2 m_check_row [] (aCons (xO (eBin dIx (nO 0) (xO (eC (.int 1))))) (aCons (nO 1) aNil))))
    (sSeq (sAsg (gTp 3 (gCons' (gNm 2) (gCons' (gNm 3) (gCons' (gNm 4) gNil')))) (eCall 2 m_follow [] (aCons (nO 0) (aCons (nO 1) aNil))))
    (sRet (eIf (bOf (eVar 4)) (eComp [5] (iVal (eVar 2)) (gNm 5) tYesE (eB bTuple (aCons (xO (eVar 5)) aNil))) (eC .non))))))
abbrev s_followed : Stmt := topS 32
abbrev N_followed : List Str := ["writing", "row", "lists", "steps", "is_alive", "entries"]
theorem sc_followed : FnScope N_followed ["writing", "row"] (defScope s_followed) := ⟨rfl, rfl, rfl, by decide +kernel, rfl, by decide +kernel, by decide +kernel⟩
def m_is_setting : Fx := fnE 2
    (sRet (eCall 2 m_is_row [] (aCons (nO 0) (aCons (nO 1) aNil))))
abbrev s_is_setting : Stmt := topS 23
abbrev N_is_setting : List Str := ["inputs", "thing"]
theorem sc_is_setting : FnScope N_is_setting ["inputs", "thing"] (defScope s_is_setting) := ⟨rfl, rfl, rfl, by decide +kernel, rfl, by decide +kernel, by decide +kernel⟩
def m_check_setting : Fx := fnE 2
    (sIf (tNotE (bOf (eCall 2 m_is_setting [] (aCons (nO 0) (aCons (nO 1) aNil)))))
    sBad
    sNx)
abbrev s_check_setting : Stmt := topS 25
abbrev N_check_setting : List Str := ["inputs", "thing"]
theorem sc_check_setting : FnScope N_check_setting ["inputs", "thing"] (defScope s_check_setting) := ⟨rfl, rfl, rfl, by decide +kernel, rfl, by decide +kernel, by decide +kernel⟩
def m_bare_row : Fx := fnE 3
    (sRet (eComp [2] (iVal (eVar 1)) (gNm 2) tYesE (eBin dAdd (xO (eVar 2)) (xO (eBin dMul (xO (eTup (aCons (xO (eC .non)) aNil))) (xO (eBin iSub (xO (eBin dIx (nO 0) (xO (eC (.int 1))))) (xO (eBin dIx (nO 0) (xO (eC (.int 0))))))))))))
abbrev s_bare_row : Stmt := topS 33
abbrev N_bare_row : List Str := ["writing", "setting", "column"]
theorem sc_bare_row : FnScope N_bare_row ["writing", "setting"] (defScope s_bare_row) := ⟨rfl, rfl, rfl, by decide +kernel, rfl, by decide +kernel, by decide +kernel⟩
def m_seen : Fx := fnE 4
    (sSeq (sExpr (eCall 1 m_check_writing [] (aCons (nO 0) aNil)))
    (sSeq (sExpr (eCall 2 m_check_setting [] (aCons (xO (eBin dIx (nO 0) (xO (eC (.int 0))))) (aCons (nO 1) aNil))))
    (sSeq (sSet 2 (eCall 2 m_followed [] (aCons (nO 0) (aCons (xO (eCall 2 m_bare_row [] (aCons (nO 0) (aCons (nO 1) aNil)))) aNil))))
    (sRet (eIf (bOf (eBin dIsN (nO 2) (xO (eC .non)))) (eC .non) (eComp [3] (iVal (eVar 2)) (gNm 3) tYesE (eSl (xO (eVar 3)) pNo (pAt (eBin dIx (nO 0) (xO (eC (.int 0))))))))))))
abbrev s_seen : Stmt := topS 34
abbrev N_seen : List Str := ["writing", "setting", "found", "column"]
theorem sc_seen : FnScope N_seen ["writing", "setting"] (defScope s_seen) := ⟨rfl, rfl, rfl, by decide +kernel, rfl, by decide +kernel, by decide +kernel⟩
def m__law_long_right : Fx := fnE 3
    (sSeq (sSet 0 (eTup (aCons (xO (eC (.int 1))) (aCons (xO (eC (.int 2))) (aCons (xO (eTup aNil)) (aCons (xO (eTup (aCons (xO (eTup (aCons (xO (eUn uNeg (xO (eC (.int 1))))) (aCons (xO (eC (.int 2))) aNil)))) aNil))) (aCons (xO (eTup (aCons (xO (eTup (aCons (xO (eUn uNeg (xO (eC (.int 2))))) (aCons (xO (eC (.int 4))) aNil)))) (aCons (xO (eTup (aCons (xO (eUn uNeg (xO (eC (.int 3))))) (aCons (xO (eUn uNeg (xO (eC (.int 2))))) aNil)))) aNil)))) (aCons (xO (eTup aNil)) aNil))))))))
    (sSeq (sSet 1 (eBin dAdd (xO (eBin dAdd (xO (eBin dMul (xO (eLst (aCons (xO (eTup (aCons (xO (eC .non)) (aCons (xO (eC .non)) aNil)))) aNil))) (xO (eC (.int 150))))) (xO (eLst (aCons (xO (eTup (aCons (xO (eC (.bl true))) (aCons (xO (eC .non)) aNil)))) aNil))))) (xO (eBin dMul (xO (eLst (aCons (xO (eTup (aCons (xO (eC .non)) (aCons (xO (eC .non)) aNil)))) aNil))) (xO (eC (.int 149)))))))
    (sSeq (sIf (bOf (eBin dNe (xO (eCall 2 m_followed [] (aCons (nO 0) (aCons (nO 1) aNil)))) (xO (eBin dAdd (xO (eBin dAdd (xO (eBin dMul (xO (eLst (aCons (xO (eTup (aCons (xO (eC (.bl false))) (aCons (xO (eC (.bl false))) aNil)))) aNil))) (xO (eC (.int 150))))) (xO (eLst (aCons (xO (eTup (aCons (xO (eC (.bl true))) (aCons (xO (eC (.bl true))) aNil)))) aNil))))) (xO (eBin dMul (xO (eLst (aCons (xO (eTup (aCons (xO (eC (.bl false))) (aCons (xO (eC (.bl true))) aNil)))) aNil))) (xO (eC (.int 149)))))))))
    (sRet (eC (.bl false)))
    sNx)
    (sSeq (sIf (bOf (eBin dNotN (xO (eCall 2 m_followed [] (aCons (nO 0) (aCons (xO (eBin dAdd (xO (eBin dAdd (xO (eSl (nO 1) pNo (pAt (eC (.int 40))))) (xO (eLst (aCons (xO (eTup (aCons (xO (eC (.bl true))) (aCons (xO (eC .non)) aNil)))) aNil))))) (xO (eSl (nO 1) pNo (pAt (eC (.int 160))))))) aNil)))) (xO (eC .non))))
    (sRet (eC (.bl false)))
    sNx)
    (sSeq (sSet 2 (eBin dAdd (xO (eBin dMul (xO (eLst (aCons (xO (eTup (aCons (xO (eC .non)) aNil))) aNil))) (xO (eC (.int 99))))) (xO (eLst (aCons (xO (eTup (aCons (xO (eC (.bl true))) aNil))) aNil)))))
    (sRet (eAndE (eBin dEq (xO (eCall 2 m_seen [] (aCons (nO 0) (aCons (nO 2) aNil)))) (xO (eBin dAdd (xO (eBin dMul (xO (eLst (aCons (xO (eTup (aCons (xO (eC (.bl false))) aNil))) aNil))) (xO (eC (.int 99))))) (xO (eLst (aCons (xO (eTup (aCons (xO (eC (.bl true))) aNil))) aNil)))))) (eBin dIsN (xO (eCall 2 m_seen [] (aCons (nO 0) (aCons (xO (eBin dAdd (nO 2) (xO (eLst (aCons (xO (eTup (aCons (xO (eC (.bl true))) aNil))) aNil))))) aNil)))) (xO (eC .non))))))))))
abbrev s__law_long_right : Stmt := topS 52
abbrev N__law_long_right : List Str := ["ladder", "row", "setting"]
theorem sc__law_long_right : FnScope N__law_long_right [] (defScope s__law_long_right) := ⟨rfl, rfl, rfl, by decide +kernel, rfl, by decide +kernel, by decide +kernel⟩
def m__law_knowns : Fx := fnE 2
    (sSeq (sNew 0 (eLst (aCons (xO (eTup (aCons (xO (eC (.int 1))) (aCons (xO (eC (.int 2))) (aCons (xO (eTup aNil)) (aCons (xO (eTup (aCons (xO (eTup (aCons (xO (eUn uNeg (xO (eC (.int 1))))) (aCons (xO (eC (.int 2))) aNil)))) aNil))) (aCons (xO (eTup (aCons (xO (eTup (aCons (xO (eUn uNeg (xO (eC (.int 2))))) (aCons (xO (eC (.int 4))) aNil)))) (aCons (xO (eTup (aCons (xO (eUn uNeg (xO (eC (.int 3))))) (aCons (xO (eUn uNeg (xO (eC (.int 2))))) aNil)))) aNil)))) (aCons (xO (eTup aNil)) aNil)))))))) aNil)))
    (sSeq (sExpr (eList mApp 0 (aCons (xO (eTup (aCons (xO (eC (.int 1))) (aCons (xO (eC (.int 2))) (aCons (xO (eTup (aCons (xO (eTup (aCons (xO (eUn uNeg (xO (eC (.int 2))))) (aCons (xO (eC (.int 1))) aNil)))) aNil))) (aCons (xO (eTup (aCons (xO (eTup (aCons (xO (eUn uNeg (xO (eC (.int 1))))) (aCons (xO (eC (.int 2))) aNil)))) aNil))) (aCons (xO (eTup (aCons (xO (eTup (aCons (xO (eUn uNeg (xO (eC (.int 4))))) (aCons (xO (eC (.int 2))) (aCons (xO (eC (.int 3))) aNil))))) (aCons (xO (eTup (aCons (xO (eUn uNeg (xO (eC (.int 3))))) (aCons (xO (eUn uNeg (xO (eC (.int 2))))) aNil)))) (aCons (xO (eTup (aCons (xO (eUn uNeg (xO (eC (.int 2))))) (aCons (xO (eC (.int 4))) aNil)))) aNil))))) (aCons (xO (eTup (aCons (xO (eTup (aCons (xO (eC (.int 2))) aNil))) aNil))) aNil)))))))) aNil)))
    (sSeq (sExpr (eList mApp 0 (aCons (xO (eTup (aCons (xO (eC (.int 1))) (aCons (xO (eC (.int 3))) (aCons (xO (eTup aNil)) (aCons (xO (eTup (aCons (xO (eTup (aCons (xO (eUn uNeg (xO (eC (.int 1))))) (aCons (xO (eC (.int 2))) aNil)))) aNil))) (aCons (xO (eTup (aCons (xO (eTup (aCons (xO (eUn uNeg (xO (eC (.int 2))))) (aCons (xO (eC (.int 5))) aNil)))) (aCons (xO (eTup (aCons (xO (eUn uNeg (xO (eC (.int 4))))) (aCons (xO (eUn uNeg (xO (eC (.int 2))))) (aCons (xO (eC (.int 6))) aNil))))) (aCons (xO (eTup (aCons (xO (eUn uNeg (xO (eC (.int 6))))) (aCons (xO (eUn uNeg (xO (eC (.int 4))))) (aCons (xO (eUn uNeg (xO (eC (.int 2))))) aNil))))) aNil))))) (aCons (xO (eTup aNil)) aNil)))))))) aNil)))
    (sSeq (sSet 1 (eTup (aCons (xO (eTup (aCons (xO (eUn uNeg (xO (eC (.int 2))))) (aCons (xO (eC (.int 5))) aNil)))) (aCons (xO (eTup (aCons (xO (eUn uNeg (xO (eC (.int 3))))) (aCons (xO (eC (.int 6))) aNil)))) (aCons (xO (eTup (aCons (xO (eUn uNeg (xO (eC (.int 4))))) (aCons (xO (eUn uNeg (xO (eC (.int 2))))) (aCons (xO (eC (.int 6))) aNil))))) (aCons (xO (eTup (aCons (xO (eUn uNeg (xO (eC (.int 4))))) (aCons (xO (eUn uNeg (xO (eC (.int 3))))) aNil)))) aNil))))))
    (sSeq (sExpr (eList mApp 0 (aCons (xO (eTup (aCons (xO (eC (.int 1))) (aCons (xO (eC (.int 3))) (aCons (xO (eTup (aCons (xO (eTup (aCons (xO (eUn uNeg (xO (eC (.int 3))))) aNil))) aNil))) (aCons (xO (eTup (aCons (xO (eTup (aCons (xO (eUn uNeg (xO (eC (.int 1))))) (aCons (xO (eC (.int 2))) aNil)))) aNil))) (aCons (xO (eVar 1)) (aCons (xO (eTup aNil)) aNil)))))))) aNil)))
    (sSeq (sExpr (eList mApp 0 (aCons (xO (eTup (aCons (xO (eC (.int 1))) (aCons (xO (eC (.int 1))) (aCons (xO (eTup aNil)) (aCons (xO (eTup aNil)) (aCons (xO (eTup (aCons (xO (eTup (aCons (xO (eUn uNeg (xO (eC (.int 2))))) (aCons (xO (eUn uNeg (xO (eC (.int 1))))) aNil)))) aNil))) (aCons (xO (eTup aNil)) aNil)))))))) aNil)))
    (sSeq (sSet 1 (eTup (aCons (xO (eTup (aCons (xO (eUn uNeg (xO (eC (.int 4))))) (aCons (xO (eUn uNeg (xO (eC (.int 3))))) (aCons (xO (eUn uNeg (xO (eC (.int 2))))) aNil))))) (aCons (xO (eTup (aCons (xO (eUn uNeg (xO (eC (.int 4))))) (aCons (xO (eC (.int 2))) (aCons (xO (eC (.int 3))) aNil))))) (aCons (xO (eTup (aCons (xO (eUn uNeg (xO (eC (.int 3))))) (aCons (xO (eC (.int 2))) (aCons (xO (eC (.int 4))) aNil))))) (aCons (xO (eTup (aCons (xO (eUn uNeg (xO (eC (.int 2))))) (aCons (xO (eC (.int 3))) (aCons (xO (eC (.int 4))) aNil))))) aNil))))))
    (sSeq (sExpr (eList mApp 0 (aCons (xO (eTup (aCons (xO (eC (.int 1))) (aCons (xO (eC (.int 2))) (aCons (xO (eTup (aCons (xO (eTup (aCons (xO (eUn uNeg (xO (eC (.int 2))))) (aCons (xO (eC (.int 1))) aNil)))) (aCons (xO (eTup (aCons (xO (eUn uNeg (xO (eC (.int 1))))) (aCons (xO (eC (.int 2))) aNil)))) aNil)))) (aCons (xO (eTup aNil)) (aCons (xO (eVar 1)) (aCons (xO (eTup (aCons (xO (eTup (aCons (xO (eC (.int 2))) aNil))) aNil))) aNil)))))))) aNil)))
    (sSeq (sExpr (eList mApp 0 (aCons (xO (eTup (aCons (xO (eC (.int 2))) (aCons (xO (eC (.int 2))) (aCons (xO (eTup aNil)) (aCons (xO (eTup (aCons (xO (eTup (aCons (xO (eUn uNeg (xO (eC (.int 2))))) (aCons (xO (eUn uNeg (xO (eC (.int 1))))) aNil)))) aNil))) (aCons (xO (eTup (aCons (xO (eTup (aCons (xO (eUn uNeg (xO (eC (.int 4))))) (aCons (xO (eUn uNeg (xO (eC (.int 1))))) aNil)))) (aCons (xO (eTup (aCons (xO (eUn uNeg (xO (eC (.int 3))))) (aCons (xO (eUn uNeg (xO (eC (.int 2))))) aNil)))) aNil)))) (aCons (xO (eTup (aCons (xO (eTup (aCons (xO (eC (.int 1))) (aCons (xO (eC (.int 2))) aNil)))) aNil))) aNil)))))))) aNil)))
    (sSeq (sExpr (eList mApp 0 (aCons (xO (eTup (aCons (xO (eC (.int 2))) (aCons (xO (eC (.int 3))) (aCons (xO (eTup aNil)) (aCons (xO (eTup (aCons (xO (eTup (aCons (xO (eUn uNeg (xO (eC (.int 3))))) (aCons (xO (eUn uNeg (xO (eC (.int 2))))) (aCons (xO (eC (.int 1))) aNil))))) (aCons (xO (eTup (aCons (xO (eUn uNeg (xO (eC (.int 3))))) (aCons (xO (eUn uNeg (xO (eC (.int 1))))) (aCons (xO (eC (.int 2))) aNil))))) aNil)))) (aCons (xO (eTup (aCons (xO (eTup (aCons (xO (eUn uNeg (xO (eC (.int 6))))) (aCons (xO (eC (.int 3))) aNil)))) aNil))) (aCons (xO (eTup (aCons (xO (eTup (aCons (xO (eC (.int 3))) aNil))) aNil))) aNil)))))))) aNil)))
    (sRet (eTake 0))))))))))))
abbrev s__law_knowns : Stmt := topS 42
abbrev N__law_knowns : List Str := ["some", "lot"]
theorem sc__law_knowns : FnScope N__law_knowns [] (defScope s__law_knowns) := ⟨rfl, rfl, rfl, by decide +kernel, rfl, by decide +kernel, by decide +kernel⟩
def m__law_next : Fx := fnE 6
    (sSeq (sSet 1 (eBin dIx (nO 0) (xO (eC (.int 1)))))
    (sSeq (sStore 0 (eC (.int 1)) (eBin dAdd (nO 1) (xO (eC (.int 1)))))
    (sSeq (sSet 2 (eBin dAdd (xO (eBin dMul (nO 1) (xO (eC (.int 1051))))) (xO (eC (.int 53)))))
    (sSeq (sIf (bOf (eBin dNe (xO (eBin dIx (nO 0) (xO (eC (.int 0))))) (xO (eLst aNil))))
    (sSet 2 (eBin dIx (xO (eBin dIx (nO 0) (xO (eC (.int 0))))) (xO (eBin iMod (xO (eB bInt (aCons (nO 1) aNil))) (xO (eB bLen (aCons (xO (eBin dIx (nO 0) (xO (eC (.int 0))))) aNil)))))))
    sNx)
    (sSeq (sIf (tAndE (bOf (eBin cLt (nO 1) (xO (eB bLen (aCons (xO (eBin dIx (nO 0) (xO (eC (.int 0))))) aNil))))) (bOf (eBin cGe (nO 2) (xO (eBin iPow (xO (eC (.int 10))) (xO (eC (.int 18))))))))
    (sRet (eVar 2))
    sNx)
    (sSeq (sSet 3 (eBin iMod (xO (eB bInt (aCons (xO (eBin dAdd (xO (eBin dAdd (xO (eBin iMod (xO (eB bInt (aCons (nO 2) aNil))) (xO (eC (.int 2147483587))))) (xO (eBin dMul (nO 1) (xO (eC (.int 30103))))))) (xO (eC (.int 79))))) aNil))) (xO (eC (.int 2147483587)))))
    (sSeq (sSet 4 (eBin iMod (xO (eB bInt (aCons (xO (eBin dAdd (xO (eBin dAdd (xO (eBin dMul (nO 3) (nO 3))) (xO (eBin dMul (nO 1) (xO (eC (.int 70039))))))) (xO (eC (.int 61))))) aNil))) (xO (eC (.int 2147483563)))))
    (sSeq (sSet 5 (eBin iMod (xO (eB bInt (aCons (xO (eBin dAdd (xO (eBin dAdd (xO (eBin dMul (nO 4) (nO 4))) (nO 3))) (xO (eBin dMul (xO (eBin dMul (nO 1) (nO 1))) (xO (eC (.int 37))))))) aNil))) (xO (eC (.int 2147483549)))))
    (sRet (eBin dAdd (xO (eBin dMul (xO (eBin dAdd (xO (eBin dMul (nO 5) (xO (eC (.int 2147483587))))) (nO 4))) (xO (eC (.int 2147483563))))) (nO 3)))))))))))
abbrev s__law_next : Stmt := topS 37
abbrev N__law_next : List Str := ["pen", "index", "cell_here", "some", "more", "high"]
theorem sc__law_next : FnScope N__law_next ["pen"] (defScope s__law_next) := ⟨rfl, rfl, rfl, by decide +kernel, rfl, by decide +kernel, by decide +kernel⟩
def m__law_draw : Fx := fnE 3
    (sSeq (sIf (bOf (eBin cLt (xO (eBin dIx (nO 0) (xO (eC (.int 2))))) (nO 1)))
    (sStore 0 (eC (.int 2)) (eCall 1 m__law_next [] (aCons (nO 0) aNil)))
    sNx)
    (sSeq (sSet 2 (eBin iMod (xO (eB bInt (aCons (xO (eBin dIx (nO 0) (xO (eC (.int 2))))) aNil))) (nO 1)))
    (sSeq (sStore 0 (eC (.int 2)) (eBin iDiv (xO (eBin dIx (nO 0) (xO (eC (.int 2))))) (nO 1)))
    (sRet (eVar 2)))))
abbrev s__law_draw : Stmt := topS 38
abbrev N__law_draw : List Str := ["pen", "under", "digit"]
theorem sc__law_draw : FnScope N__law_draw ["pen", "under"] (defScope s__law_draw) := ⟨rfl, rfl, rfl, by decide +kernel, rfl, by decide +kernel, by decide +kernel⟩
def m__law_clause : Fx := fnE 7
    (sSeq (sMulti [3, 4] (pCons true (eLstRg2 (eC (.int 1)) (eBin dAdd (nO 1) (xO (eC (.int 1))))) (pCons true (eLst aNil) pNil)))
    (sSeq (sFor (iRange range1? (aCons (xO (eBin dAdd (xO (eC (.int 1))) (xO (eCall 2 m__law_draw [] (aCons (nO 0) (aCons (xO (eB bMin (aCons (nO 2) (aCons (nO 1) aNil)))) aNil)))))) aNil)) (gNm 5)
    (sSeq (sSet 6 (eList mPopAt 3 (aCons (xO (eCall 2 m__law_draw [] (aCons (nO 0) (aCons (xO (eB bLen (aCons (nO 3) aNil))) aNil)))) aNil)))
    (sExpr (eList mApp 4 (aCons (xO (eIf (bOf (eBin dEq (xO (eCall 2 m__law_draw [] (aCons (nO 0) (aCons (xO (eC (.int 2))) aNil)))) (xO (eC (.int 0))))) (eVar 6) (eUn uNeg (nO 6)))) aNil)))))
    (sRet (eB bTuple (aCons (xO (eB bSorted (aCons (nO 4) aNil))) aNil)))))
abbrev s__law_clause : Stmt := topS 40
abbrev N__law_clause : List Str := ["pen", "size", "most", "signs", "found", "lap", "sign"]
theorem sc__law_clause : FnScope N__law_clause ["pen", "size", "most"] (defScope s__law_clause) := ⟨rfl, rfl, rfl, by decide +kernel, rfl, by decide +kernel, by decide +kernel⟩
def m__law_lot : Fx := fnE 7
    (sSeq (sNew 4 (eLst aNil))
    (sSeq (sFor (iRange range1? (aCons (xO (eCall 2 m__law_draw [] (aCons (nO 0) (aCons (xO (eBin dAdd (nO 2) (xO (eC (.int 1))))) aNil)))) aNil)) (gNm 5)
    (sSeq (sSet 6 (eCall 3 m__law_clause [] (aCons (nO 0) (aCons (nO 1) (aCons (nO 3) aNil)))))
    (sIf (bOf (eBin dNotIn (nO 6) (nO 4)))
    (sExpr (eList mApp 4 (aCons (xO (eVar 6)) aNil)))
    sNx)))
    (sRet (eB bTuple (aCons (nO 4) aNil)))))
abbrev s__law_lot : Stmt := topS 41
abbrev N__law_lot : List Str := ["pen", "size", "most", "long", "found", "lap", "clause"]
theorem sc__law_lot : FnScope N__law_lot ["pen", "size", "most", "long"] (defScope s__law_lot) := ⟨rfl, rfl, rfl, by decide +kernel, rfl, by decide +kernel, by decide +kernel⟩
def m__law_writing : Fx := fnE 9
    (sSeq (sSet 4 (eBin dIx (xO (eCall 0 m__law_knowns [] aNil)) (xO (eCall 2 m__law_draw [] (aCons (nO 0) (aCons (xO (eC (.int 8))) aNil))))))
    (sSeq (sIf (tAndE (bOf (eBin cLe (xO (eBin dIx (nO 4) (xO (eC (.int 1))))) (nO 2))) (bOf (eBin dEq (xO (eCall 2 m__law_draw [] (aCons (nO 0) (aCons (xO (eC (.int 2))) aNil)))) (xO (eC (.int 0))))))
    (sSeq (sSet 5 (eBin dAdd (xO (eC (.int 2))) (xO (eCall 2 m__law_draw [] (aCons (nO 0) (aCons (xO (eC (.int 4))) aNil))))))
    (sSeq (sSet 6 (eCall 2 m__law_draw [] (aCons (nO 0) (aCons (xO (eBin dAdd (xO (eB bLen (aCons (xO (eBin dIx (nO 4) (nO 5))) aNil))) (xO (eC (.int 1))))) aNil))))
    (sSeq (sSet 7 (eBin dAdd (xO (eSl (xO (eBin dIx (nO 4) (nO 5))) pNo (pAt (eVar 6)))) (xO (eSl (xO (eBin dIx (nO 4) (nO 5))) (pAt (eBin dAdd (nO 6) (xO (eC (.int 1))))) pNo))))
    (sRet (eBin dAdd (xO (eBin dAdd (xO (eSl (nO 4) pNo (pAt (eVar 5)))) (xO (eTup (aCons (xO (eVar 7)) aNil))))) (xO (eSl (nO 4) (pAt (eBin dAdd (nO 5) (xO (eC (.int 1))))) pNo)))))))
    sNx)
    (sSeq (sSet 2 (eBin dAdd (nO 1) (xO (eCall 2 m__law_draw [] (aCons (nO 0) (aCons (xO (eBin dAdd (xO (eBin iSub (nO 2) (nO 1))) (xO (eC (.int 1))))) aNil))))))
    (sSeq (sSet 8 (eLst (aCons (xO (eCall 4 m__law_lot [] (aCons (nO 0) (aCons (nO 2) (aCons (xO (eC (.int 2))) (aCons (xO (eC (.int 2))) aNil)))))) (aCons (xO (eCall 4 m__law_lot [] (aCons (nO 0) (aCons (nO 2) (aCons (xO (eC (.int 2))) (aCons (xO (eC (.int 3))) aNil)))))) (aCons (xO (eCall 4 m__law_lot [] (aCons (nO 0) (aCons (xO (eBin dMul (xO (eC (.int 2))) (nO 2))) (aCons (nO 3) (aCons (xO (eC (.int 4))) aNil)))))) aNil)))))
    (sRet (eBin dAdd (xO (eBin dAdd (xO (eTup (aCons (xO (eVar 1)) (aCons (xO (eVar 2)) aNil)))) (xO (eB bTuple (aCons (nO 8) aNil))))) (xO (eTup (aCons (xO (eCall 4 m__law_lot [] (aCons (nO 0) (aCons (nO 2) (aCons (xO (eC (.int 2))) (aCons (xO (eC (.int 2))) aNil)))))) aNil)))))))))
abbrev s__law_writing : Stmt := topS 43
abbrev N__law_writing : List Str := ["pen", "inputs", "size", "most", "known", "part", "spot", "lot", "lots"]
theorem sc__law_writing : FnScope N__law_writing ["pen", "inputs", "size", "most"] (defScope s__law_writing) := ⟨rfl, rfl, rfl, by decide +kernel, rfl, by decide +kernel, by decide +kernel⟩
def m__law_flat : Fx := fnE 9
    (sSeq (sSet 2 (eLst aNil))
    (sSeq (sFor (iEnum (aCons (xO (eLst (aCons (xO (eC (.str "first"))) (aCons (xO (eC (.str "each"))) (aCons (xO (eC (.str "nexts"))) (aCons (xO (eC (.str "last"))) aNil)))))) aNil)) (gTp 2 (gCons' (gNm 3) (gCons' (gNm 4) gNil')))
    (sSeq (sSet 5 (eBin dIx (xO (eLst (aCons (xO (eLst (aCons (xO (eC (.int 0))) aNil))) (aCons (xO (eLstRg1 (eVar 1))) (aCons (xO (eLstRg1 (eBin iSub (nO 1) (xO (eC (.int 1)))))) (aCons (xO (eLst (aCons (xO (eBin iSub (nO 1) (xO (eC (.int 1))))) aNil))) aNil)))))) (nO 3)))
    (sFor (iEnum (aCons (xO (eBin dIx (nO 0) (xO (eBin dAdd (xO (eC (.int 2))) (nO 3))))) aNil)) (gTp 2 (gCons' (gNm 6) (gCons' (gNm 7) gNil')))
    (sSet 2 (eBin dAdd (nO 2) (xO (eComp [8] (iVal (eVar 5)) (gNm 8) tYesE (eTup (aCons (xO (eVar 4)) (aCons (xO (eVar 6)) (aCons (xO (eVar 8)) (aCons (xO (eVar 7)) aNil))))))))))))
    (sRet (eVar 2))))
abbrev s__law_flat : Stmt := topS 45
abbrev N__law_flat : List Str := ["writing", "many", "found", "part", "name", "places", "index", "clause", "column"]
theorem sc__law_flat : FnScope N__law_flat ["writing", "many"] (defScope s__law_flat) := ⟨rfl, rfl, rfl, by decide +kernel, rfl, by decide +kernel, by decide +kernel⟩
def m__law_entries : Fx := fnE 2
    (sRet (eBin dAdd (xO (eB bList (aCons (xO (eBin dIx (nO 0) (nO 1))) aNil))) (xO (eIf (bOf (eBin cLt (xO (eBin dAdd (nO 1) (xO (eC (.int 1))))) (xO (eB bLen (aCons (nO 0) aNil))))) (eB bList (aCons (xO (eBin dIx (nO 0) (xO (eBin dAdd (nO 1) (xO (eC (.int 1))))))) aNil)) (eLst aNil)))))
abbrev s__law_entries : Stmt := topS 46
abbrev N__law_entries : List Str := ["row", "column"]
theorem sc__law_entries : FnScope N__law_entries ["row", "column"] (defScope s__law_entries) := ⟨rfl, rfl, rfl, by decide +kernel, rfl, by decide +kernel, by decide +kernel⟩
def m__law_worths : Fx := fnE 5
    (sSeq (sNew 2 (eLst aNil))
    (sSeq (sFor (iVal (eVar 0)) (gNm 3)
    (sSeq (sSet 4 (eBin dIx (nO 1) (xO (eBin iSub (xO (eB bAbs (aCons (nO 3) aNil))) (xO (eC (.int 1)))))))
    (sExpr (eList mApp 2 (aCons (xO (eIf (bOf (eBin dIsN (nO 4) (xO (eC .non)))) (eC .non) (eBin dEq (nO 4) (xO (eBin cGt (nO 3) (xO (eC (.int 0)))))))) aNil)))))
    (sRet (eTake 2))))
abbrev s__law_worths : Stmt := topS 39
abbrev N__law_worths : List Str := ["clause", "entries", "found", "literal", "entry"]
theorem sc__law_worths : FnScope N__law_worths ["clause", "entries"] (defScope s__law_worths) := ⟨rfl, rfl, rfl, by decide +kernel, rfl, by decide +kernel, by decide +kernel⟩
def m__law_told : Fx := fnE 8
    (sSeq (sAsg (gTp 2 (gCons' (gNm 3) (gCons' (gNm 4) gNil'))) (eSl (nO 2) (pAt (eC (.int 2))) pNo))
    (sSeq (sSet 5 (eCall 2 m__law_entries [] (aCons (nO 1) (aCons (nO 3) aNil))))
    (sSeq (sSet 6 (eCall 2 m__law_worths [] (aCons (nO 4) (aCons (nO 5) aNil))))
    (sSeq (sIf (tOrE (bOf (eBin dIn (xO (eC (.bl true))) (nO 6))) (bOf (eBin cGt (xO (eVM mCount (eVar 6) (aCons (xO (eC .non)) aNil))) (xO (eC (.int 1))))))
    (sRet (eC .non))
    sNx)
    (sSeq (sIf (bOf (eBin dNotIn (xO (eC .non)) (nO 6)))
    (sRet (eC (.str "broken")))
    sNx)
    (sSeq (sSet 7 (eBin dIx (nO 4) (xO (eVM mIndex (eVar 6) (aCons (xO (eC .non)) aNil)))))
    (sRet (eTup (aCons (xO (eBin dAdd (nO 3) (xO (eBin iDiv (xO (eBin iSub (xO (eB bAbs (aCons (nO 7) aNil))) (xO (eC (.int 1))))) (xO (eBin dIx (nO 0) (xO (eC (.int 1))))))))) (aCons (xO (eBin dAdd (xO (eC (.int 1))) (xO (eBin iMod (xO (eB bInt (aCons (xO (eBin iSub (xO (eB bAbs (aCons (nO 7) aNil))) (xO (eC (.int 1))))) aNil))) (xO (eBin dIx (nO 0) (xO (eC (.int 1))))))))) (aCons (xO (eBin cGt (nO 7) (xO (eC (.int 0))))) aNil)))))))))))
abbrev s__law_told : Stmt := topS 47
abbrev N__law_told : List Str := ["writing", "row", "step", "column", "clause", "entries", "worths", "literal"]
theorem sc__law_told : FnScope N__law_told ["writing", "row", "step"] (defScope s__law_told) := ⟨rfl, rfl, rfl, by decide +kernel, rfl, by decide +kernel, by decide +kernel⟩
def m__law_put : Fx := fnE 5
    (sSeq (sSet 4 (eBin dAdd (xO (eBin dAdd (xO (eSl (xO (eBin dIx (nO 0) (nO 1))) pNo (pAt (eBin iSub (nO 2) (xO (eC (.int 1))))))) (xO (eTup (aCons (xO (eVar 3)) aNil))))) (xO (eSl (xO (eBin dIx (nO 0) (nO 1))) (pAt (eVar 2)) pNo))))
    (sRet (eBin dAdd (xO (eBin dAdd (xO (eSl (nO 0) pNo (pAt (eVar 1)))) (xO (eLst (aCons (xO (eVar 4)) aNil))))) (xO (eSl (nO 0) (pAt (eBin dAdd (nO 1) (xO (eC (.int 1))))) pNo)))))
abbrev s__law_put : Stmt := topS 48
abbrev N__law_put : List Str := ["row", "column", "sign", "value", "entries"]
theorem sc__law_put : FnScope N__law_put ["row", "column", "sign", "value"] (defScope s__law_put) := ⟨rfl, rfl, rfl, by decide +kernel, rfl, by decide +kernel, by decide +kernel⟩
def m__law_follow : Fx := fnE 7
    (sSeq (sMulti [2, 3, 4] (pCons false (eCall 2 m__law_flat [] (aCons (nO 0) (aCons (xO (eB bLen (aCons (nO 1) aNil))) aNil))) (pCons false (eB bList (aCons (nO 1) aNil)) (pCons false (eC (.bl true)) pNil))))
    (sSeq (sWhile (fun _ _ => 1000000) (bOf (eVar 4))
    (sSeq (sSet 4 (eC (.bl false)))
    (sFor (iVal (eVar 2)) (gNm 5)
    (sSeq (sSet 6 (eCall 3 m__law_told [] (aCons (nO 0) (aCons (nO 3) (aCons (nO 5) aNil)))))
    (sSeq (sIf (bOf (eBin dEq (nO 6) (xO (eC (.str "broken")))))
    (sRet (eC .non))
    sNx)
    (sIf (bOf (eBin dNotN (nO 6) (xO (eC .non))))
    (sMulti [3, 4] (pCons false (eCall 4 m__law_put [] (aCons (nO 3) (aCons (xO (eBin dIx (nO 6) (xO (eC (.int 0))))) (aCons (xO (eBin dIx (nO 6) (xO (eC (.int 1))))) (aCons (xO (eBin dIx (nO 6) (xO (eC (.int 2))))) aNil))))) (pCons false (eC (.bl true)) pNil)))
    sNx))))))
    (sRet (eVar 3))))
abbrev s__law_follow : Stmt := topS 49
abbrev N__law_follow : List Str := ["writing", "row", "every", "found", "is_moved", "step", "told"]
theorem sc__law_follow : FnScope N__law_follow ["writing", "row"] (defScope s__law_follow) := ⟨rfl, rfl, rfl, by decide +kernel, rfl, by decide +kernel, by decide +kernel⟩
def m__law_row : Fx := fnE 6
    (sSeq (sNew 3 (eLst aNil))
    (sSeq (sFor (iRange range1? (aCons (xO (eBin dAdd (xO (eC (.int 1))) (xO (eCall 2 m__law_draw [] (aCons (nO 0) (aCons (nO 2) aNil)))))) aNil)) (gNm 4)
    (sExpr (eList mApp 3 (aCons (xO (eB bTuple (aCons (xO (eComp [5] (iRange range1? (aCons (nO 1) aNil)) (gNm 5) tYesE (eBin dIx (xO (eLst (aCons (xO (eC .non)) (aCons (xO (eC .non)) (aCons (xO (eC .non)) (aCons (xO (eC (.bl false))) (aCons (xO (eC (.bl true))) aNil))))))) (xO (eCall 2 m__law_draw [] (aCons (nO 0) (aCons (xO (eC (.int 5))) aNil))))))) aNil))) aNil))))
    (sRet (eTake 3))))
abbrev s__law_row : Stmt := topS 51
abbrev N__law_row : List Str := ["pen", "size", "most", "found", "lap", "k"]
theorem sc__law_row : FnScope N__law_row ["pen", "size", "most"] (defScope s__law_row) := ⟨rfl, rfl, rfl, by decide +kernel, rfl, by decide +kernel, by decide +kernel⟩
def m__law_setting : Fx := fnE 6
    (sSeq (sNew 3 (eLst aNil))
    (sSeq (sFor (iRange range1? (aCons (xO (eBin dAdd (xO (eC (.int 1))) (xO (eCall 2 m__law_draw [] (aCons (nO 0) (aCons (nO 2) aNil)))))) aNil)) (gNm 4)
    (sExpr (eList mApp 3 (aCons (xO (eB bTuple (aCons (xO (eComp [5] (iRange range1? (aCons (nO 1) aNil)) (gNm 5) tYesE (eBin dIx (xO (eLst (aCons (xO (eC .non)) (aCons (xO (eC .non)) (aCons (xO (eC (.bl false))) (aCons (xO (eC (.bl true))) aNil)))))) (xO (eCall 2 m__law_draw [] (aCons (nO 0) (aCons (xO (eC (.int 4))) aNil))))))) aNil))) aNil))))
    (sRet (eTake 3))))
abbrev s__law_setting : Stmt := topS 44
abbrev N__law_setting : List Str := ["pen", "inputs", "most", "found", "lap", "k"]
theorem sc__law_setting : FnScope N__law_setting ["pen", "inputs", "most"] (defScope s__law_setting) := ⟨rfl, rfl, rfl, by decide +kernel, rfl, by decide +kernel, by decide +kernel⟩
def m__law_bare : Fx := fnE 3
    (sRet (eComp [2] (iVal (eVar 1)) (gNm 2) tYesE (eBin dAdd (xO (eVar 2)) (xO (eBin dMul (xO (eTup (aCons (xO (eC .non)) aNil))) (xO (eBin iSub (xO (eBin dIx (nO 0) (xO (eC (.int 1))))) (xO (eBin dIx (nO 0) (xO (eC (.int 0))))))))))))
abbrev s__law_bare : Stmt := topS 50
abbrev N__law_bare : List Str := ["writing", "setting", "column"]
theorem sc__law_bare : FnScope N__law_bare ["writing", "setting"] (defScope s__law_bare) := ⟨rfl, rfl, rfl, by decide +kernel, rfl, by decide +kernel, by decide +kernel⟩
def m_law : Fx := fnE 14
    (sSeq (sNew 1 (eCall 1 m__law_pen [] (aCons (nO 0) aNil)))
    (sSeq (sFor (iRange range1? (aCons (xO (eC (.int 8))) aNil)) (gNm 2)
    (sSeq (sSet 3 (eCall 4 m__law_writing [] (aCons (nO 1) (aCons (xO (eBin dAdd (xO (eC (.int 1))) (xO (eB bInt (aCons (xO (eBin dEq (xO (eCall 2 m__law_draw [] (aCons (nO 1) (aCons (xO (eC (.int 3))) aNil)))) (xO (eC (.int 0))))) aNil))))) (aCons (xO (eC (.int 4))) (aCons (xO (eC (.int 3))) aNil))))))
    (sFor (iRange range1? (aCons (xO (eC (.int 3))) aNil)) (gNm 4)
    (sSeq (sMulti [5, 6] (pCons false (eCall 3 m__law_row [] (aCons (nO 1) (aCons (xO (eBin dIx (nO 3) (xO (eC (.int 1))))) (aCons (xO (eC (.int 6))) aNil)))) (pCons false (eCall 3 m__law_setting [] (aCons (nO 1) (aCons (xO (eBin dIx (nO 3) (xO (eC (.int 0))))) (aCons (xO (eC (.int 6))) aNil)))) pNil)))
    (sSeq (sMulti [7, 8] (pCons false (eCall 2 m__law_follow [] (aCons (nO 3) (aCons (nO 5) aNil))) (pCons false (eB bRepr (aCons (xO (eLst (aCons (xO (eVar 3)) (aCons (xO (eVar 5)) (aCons (xO (eVar 6)) aNil))))) aNil)) pNil)))
    (sSeq (sSet 9 (eCall 2 m__law_follow [] (aCons (nO 3) (aCons (xO (eCall 2 m__law_bare [] (aCons (nO 3) (aCons (nO 6) aNil)))) aNil))))
    (sSeq (sSet 9 (eIf (bOf (eBin dIsN (nO 9) (xO (eC .non)))) (eC .non) (eComp [13] (iVal (eVar 9)) (gNm 13) tYesE (eSl (xO (eVar 13)) pNo (pAt (eBin dIx (nO 3) (xO (eC (.int 0)))))))))
    (sSeq (sFor (iRange range1? (aCons (xO (eC (.int 2))) aNil)) (gNm 10)
    (sSeq (sMulti [11, 12] (pConsM (eCall 2 m_followed [] (aCons (nO 3) (aCons (nO 5) aNil))) (pConsM (eCall 2 m_seen [] (aCons (nO 3) (aCons (nO 6) aNil))) pNil)))
    (sSeq (sIf (tOrE (bOf (eBin dNe (xO (eB bRepr (aCons (nO 11) aNil))) (xO (eB bRepr (aCons (nO 7) aNil))))) (bOf (eBin dNe (xO (eB bRepr (aCons (nO 12) aNil))) (xO (eB bRepr (aCons (nO 9) aNil))))))
    (sRet (eC (.bl false)))
    sNx)
    (sSeq (sIf (bOf (eBin dNotN (nO 11) (xO (eC .non))))
    (sExpr (eList mApp 11 (aCons (xO (eC .non)) aNil)))
    sNx)
    (sIf (bOf (eBin dNotN (nO 12) (xO (eC .non))))
    (sExpr (eList mApp 12 (aCons (xO (eC .non)) aNil)))
    sNx)))))
    (sIf (bOf (eBin dNe (xO (eB bRepr (aCons (xO (eLst (aCons (xO (eVar 3)) (aCons (xO (eVar 5)) (aCons (xO (eVar 6)) aNil))))) aNil))) (nO 8)))
    (sRet (eC (.bl false)))
    sNx)))))))))
    (sRet (eCall 0 m__law_long_right [] aNil))))
abbrev s_law : Stmt := topS 53
abbrev N_law : List Str := ["script", "pen", "lap", "writing", "again", "row", "setting", "due", "kept", "other", "more", "found", "told", "column"]
theorem sc_law : FnScope N_law ["script"] (defScope s_law) := ⟨rfl, rfl, rfl, by decide +kernel, rfl, by decide +kernel, by decide +kernel⟩
structure Txt (K : PySem.W.Frag) (mg : Str → Option Value) : Prop where
  d__law_pen : HasDef K mg "_law_pen" s__law_pen
  d_is_integer : HasDef K mg "is_integer" s_is_integer
  d_is_within : HasDef K mg "is_within" s_is_within
  d_is_literal : HasDef K mg "is_literal" s_is_literal
  d_is_clause : HasDef K mg "is_clause" s_is_clause
  d_are_clauses : HasDef K mg "are_clauses" s_are_clauses
  d_signs_of : HasDef K mg "signs_of" s_signs_of
  d_is_writing : HasDef K mg "is_writing" s_is_writing
  d_check_writing : HasDef K mg "check_writing" s_check_writing
  d_is_column : HasDef K mg "is_column" s_is_column
  d_is_row : HasDef K mg "is_row" s_is_row
  d_check_row : HasDef K mg "check_row" s_check_row
  d_steps_at : HasDef K mg "steps_at" s_steps_at
  d_clause_of : HasDef K mg "clause_of" s_clause_of
  d_place_of : HasDef K mg "place_of" s_place_of
  d_told_by : HasDef K mg "told_by" s_told_by
  d_follow : HasDef K mg "follow" s_follow
  d_followed : HasDef K mg "followed" s_followed
  d_is_setting : HasDef K mg "is_setting" s_is_setting
  d_check_setting : HasDef K mg "check_setting" s_check_setting
  d_bare_row : HasDef K mg "bare_row" s_bare_row
  d_seen : HasDef K mg "seen" s_seen
  d__law_long_right : HasDef K mg "_law_long_right" s__law_long_right
  d__law_knowns : HasDef K mg "_law_knowns" s__law_knowns
  d__law_next : HasDef K mg "_law_next" s__law_next
  d__law_draw : HasDef K mg "_law_draw" s__law_draw
  d__law_clause : HasDef K mg "_law_clause" s__law_clause
  d__law_lot : HasDef K mg "_law_lot" s__law_lot
  d__law_writing : HasDef K mg "_law_writing" s__law_writing
  d__law_flat : HasDef K mg "_law_flat" s__law_flat
  d__law_entries : HasDef K mg "_law_entries" s__law_entries
  d__law_worths : HasDef K mg "_law_worths" s__law_worths
  d__law_told : HasDef K mg "_law_told" s__law_told
  d__law_put : HasDef K mg "_law_put" s__law_put
  d__law_follow : HasDef K mg "_law_follow" s__law_follow
  d__law_row : HasDef K mg "_law_row" s__law_row
  d__law_setting : HasDef K mg "_law_setting" s__law_setting
  d__law_bare : HasDef K mg "_law_bare" s__law_bare
  d_law : HasDef K mg "law" s_law
  z_abs : mg "abs" = none
  z_all : mg "all" = none
  z_bool : mg "bool" = none
  z_enumerate : mg "enumerate" = none
  z_int : mg "int" = none
  z_isinstance : mg "isinstance" = none
  z_len : mg "len" = none
  z_list : mg "list" = none
  z_min : mg "min" = none
  z_range : mg "range" = none
  z_repr : mg "repr" = none
  z_set : mg "set" = none
  z_sorted : mg "sorted" = none
  z_tuple : mg "tuple" = none
  z_zip : mg "zip" = none
  c_MOST_CLAUSES : ∃ t : Tok, mg "MOST_CLAUSES" = some (.int 16 t)
  c_MOST_INPUTS : ∃ t : Tok, mg "MOST_INPUTS" = some (.int 2 t)
  c_MOST_LITERALS : ∃ t : Tok, mg "MOST_LITERALS" = some (.int 4 t)
  c_MOST_SIGNS : ∃ t : Tok, mg "MOST_SIGNS" = some (.int 4 t)
  c_PARTS : ∃ (a : Addr) (o : Obj) (its : List Value) (n : Nat), mg "PARTS" = some (.ref a) ∧ K.lookup a = some o ∧ o.cls = .type "tuple" ∧ o.dict = none ∧ o.data = .seq its.toArray n ∧ its.length ≤ sizeLine ∧ Vals ((["first", "each", "nexts", "last"] : List Str).map V.str) its
section
variable {P : Program} {w : World} {K : PySem.W.Frag} {mg : Str → Option Value} {base : Heap}
theorem ok__law_pen (T : Txt K mg) : HasFn P w K mg base 1 "_law_pen" ["script"] 1 m__law_pen := by
  obtain ⟨f, fd, F, g⟩ := T.d__law_pen
  refine ⟨f, fd, g, F.kp, fun_bs (ps := ["script"]) F (fun _ _ _ _ _ _ us hl => match us, hl with | [_], _ => rfl), fn_okG F sc__law_pen fun cdv A outer s H E hr hG => ?_⟩
  have hN : N__law_pen.Nodup := sc__law_pen.nd
  have hu := hr.units
  have hv : (A.deeper (PyProof.Rows.envOfC "_law_pen" (defScope s__law_pen) s.heap.objs.size f cdv)).units + 65 < cLine := by have := hr.un; omega
  have tk : Takes (cxOf (L2.CX P w) P w K mg base N__law_pen "_law_pen" (defScope s__law_pen) f cdv A outer s H E) (fun c d _ H => E c d H) := takes_of rfl rfl rfl rfl
  have hp : PassesOwn (model P w) (A.deeper (PyProof.Rows.envOfC "_law_pen" (defScope s__law_pen) s.heap.objs.size f cdv)) (PyProof.Rows.envOfC "_law_pen" (defScope s__law_pen) s.heap.objs.size f cdv) (cxOf (L2.CX P w) P w K mg base N__law_pen "_law_pen" (defScope s__law_pen) f cdv A outer s H E).xe := passes_of (X := cxOf (L2.CX P w) P w K mg base N__law_pen "_law_pen" (defScope s__law_pen) f cdv A outer s H E) rfl
  exact (s_one (s_ret (v_lst (a_cons (o_x (v_T c_list T.z_list rfl (a_cons (o_x (v_sl (o_n 0) p_no (p_at v_int))) a_nil))) (a_cons (o_x v_int) (a_cons (o_x v_int) a_nil))))))
theorem ok_is_integer (T : Txt K mg) : HasFn P w K mg base 1 "is_integer" ["thing"] 1 m_is_integer := by
  obtain ⟨f, fd, F, g⟩ := T.d_is_integer
  refine ⟨f, fd, g, F.kp, fun_bs (ps := ["thing"]) F (fun _ _ _ _ _ _ us hl => match us, hl with | [_], _ => rfl), fn_okG F sc_is_integer fun cdv A outer s H E hr hG => ?_⟩
  have hN : N_is_integer.Nodup := sc_is_integer.nd
  have hu := hr.units
  have hv : (A.deeper (PyProof.Rows.envOfC "is_integer" (defScope s_is_integer) s.heap.objs.size f cdv)).units + 65 < cLine := by have := hr.un; omega
  have tk : Takes (cxOf (L2.CX P w) P w K mg base N_is_integer "is_integer" (defScope s_is_integer) f cdv A outer s H E) (fun c d _ H => E c d H) := takes_of rfl rfl rfl rfl
  have hp : PassesOwn (model P w) (A.deeper (PyProof.Rows.envOfC "is_integer" (defScope s_is_integer) s.heap.objs.size f cdv)) (PyProof.Rows.envOfC "is_integer" (defScope s_is_integer) s.heap.objs.size f cdv) (cxOf (L2.CX P w) P w K mg base N_is_integer "is_integer" (defScope s_is_integer) f cdv A outer s H E).xe := passes_of (X := cxOf (L2.CX P w) P w K mg base N_is_integer "is_integer" (defScope s_is_integer) f cdv A outer s H E) rfl
  exact (s_one (s_ret (v_and (v_B c_isi T.z_isinstance rfl (a_cons (o_n 0) (a_cons (o_x (v_bltn rfl T.z_int rfl)) a_nil))) (v_one (v_not (v_B c_isi T.z_isinstance rfl (a_cons (o_n 0) (a_cons (o_x (v_bltn rfl T.z_bool rfl)) a_nil))))))))
theorem ok_is_within (T : Txt K mg) : HasFn P w K mg base 2 "is_within" ["thing", "least", "most"] 3 m_is_within := by
  obtain ⟨f_is_integer, fd_is_integer, g_is_integer, k_is_integer, b_is_integer, F_is_integer⟩ := ok_is_integer (P := P) (w := w) (base := base) T
  obtain ⟨f, fd, F, g⟩ := T.d_is_within
  refine ⟨f, fd, g, F.kp, fun_bs (ps := ["thing", "least", "most"]) F (fun _ _ _ _ _ _ us hl => match us, hl with | [_, _, _], _ => rfl), fn_okG F sc_is_within fun cdv A outer s H E hr hG => ?_⟩
  have hN : N_is_within.Nodup := sc_is_within.nd
  have hu := hr.units
  have hv : (A.deeper (PyProof.Rows.envOfC "is_within" (defScope s_is_within) s.heap.objs.size f cdv)).units + 65 < cLine := by have := hr.un; omega
  have tk : Takes (cxOf (L2.CX P w) P w K mg base N_is_within "is_within" (defScope s_is_within) f cdv A outer s H E) (fun c d _ H => E c d H) := takes_of rfl rfl rfl rfl
  have hp : PassesOwn (model P w) (A.deeper (PyProof.Rows.envOfC "is_within" (defScope s_is_within) s.heap.objs.size f cdv)) (PyProof.Rows.envOfC "is_within" (defScope s_is_within) s.heap.objs.size f cdv) (cxOf (L2.CX P w) P w K mg base N_is_within "is_within" (defScope s_is_within) f cdv A outer s H E).xe := passes_of (X := cxOf (L2.CX P w) P w K mg base N_is_within "is_within" (defScope s_is_within) f cdv A outer s H E) rfl
  exact (s_one (s_ret (v_and (v_callG F_is_integer (hr.mono (by decide)) hG g_is_integer k_is_integer (.all b_is_integer) tk (a_cons (o_n 0) a_nil)) (v_one (v_chain o_le o_le (o_n 1) (o_n 0) (o_n 2))))))
theorem ok_is_literal (T : Txt K mg) : HasFn P w K mg base 2 "is_literal" ["size", "thing"] 2 m_is_literal := by
  obtain ⟨f_is_integer, fd_is_integer, g_is_integer, k_is_integer, b_is_integer, F_is_integer⟩ := ok_is_integer (P := P) (w := w) (base := base) T
  obtain ⟨f, fd, F, g⟩ := T.d_is_literal
  refine ⟨f, fd, g, F.kp, fun_bs (ps := ["size", "thing"]) F (fun _ _ _ _ _ _ us hl => match us, hl with | [_, _], _ => rfl), fn_okG F sc_is_literal fun cdv A outer s H E hr hG => ?_⟩
  have hN : N_is_literal.Nodup := sc_is_literal.nd
  have hu := hr.units
  have hv : (A.deeper (PyProof.Rows.envOfC "is_literal" (defScope s_is_literal) s.heap.objs.size f cdv)).units + 65 < cLine := by have := hr.un; omega
  have tk : Takes (cxOf (L2.CX P w) P w K mg base N_is_literal "is_literal" (defScope s_is_literal) f cdv A outer s H E) (fun c d _ H => E c d H) := takes_of rfl rfl rfl rfl
  have hp : PassesOwn (model P w) (A.deeper (PyProof.Rows.envOfC "is_literal" (defScope s_is_literal) s.heap.objs.size f cdv)) (PyProof.Rows.envOfC "is_literal" (defScope s_is_literal) s.heap.objs.size f cdv) (cxOf (L2.CX P w) P w K mg base N_is_literal "is_literal" (defScope s_is_literal) f cdv A outer s H E).xe := passes_of (X := cxOf (L2.CX P w) P w K mg base N_is_literal "is_literal" (defScope s_is_literal) f cdv A outer s H E) rfl
  exact (s_one (s_ret (v_and (v_callG F_is_integer (hr.mono (by decide)) hG g_is_integer k_is_integer (.all b_is_integer) tk (a_cons (o_n 1) a_nil)) (v_one (v_chain o_le o_le (o_x v_int) (o_x (v_B c_abs T.z_abs rfl (a_cons (o_n 1) a_nil))) (o_n 0))))))
theorem ok_is_clause (T : Txt K mg) : HasFn P w K mg base 3 "is_clause" ["size", "thing"] 2 m_is_clause := by
  obtain ⟨f_is_literal, fd_is_literal, g_is_literal, k_is_literal, b_is_literal, F_is_literal⟩ := ok_is_literal (P := P) (w := w) (base := base) T
  obtain ⟨t_MOST_LITERALS, g_MOST_LITERALS⟩ := T.c_MOST_LITERALS
  obtain ⟨f, fd, F, g⟩ := T.d_is_clause
  refine ⟨f, fd, g, F.kp, fun_bs (ps := ["size", "thing"]) F (fun _ _ _ _ _ _ us hl => match us, hl with | [_, _], _ => rfl), fn_okG F sc_is_clause fun cdv A outer s H E hr hG => ?_⟩
  have hN : N_is_clause.Nodup := sc_is_clause.nd
  have hu := hr.units
  have hv : (A.deeper (PyProof.Rows.envOfC "is_clause" (defScope s_is_clause) s.heap.objs.size f cdv)).units + 65 < cLine := by have := hr.un; omega
  have tk : Takes (cxOf (L2.CX P w) P w K mg base N_is_clause "is_clause" (defScope s_is_clause) f cdv A outer s H E) (fun c d _ H => E c d H) := takes_of rfl rfl rfl rfl
  have hp : PassesOwn (model P w) (A.deeper (PyProof.Rows.envOfC "is_clause" (defScope s_is_clause) s.heap.objs.size f cdv)) (PyProof.Rows.envOfC "is_clause" (defScope s_is_clause) s.heap.objs.size f cdv) (cxOf (L2.CX P w) P w K mg base N_is_clause "is_clause" (defScope s_is_clause) f cdv A outer s H E).xe := passes_of (X := cxOf (L2.CX P w) P w K mg base N_is_clause "is_clause" (defScope s_is_clause) f cdv A outer s H E) rfl
  exact (s_cons (s_if (t_of (w_or (t_not (t_val (v_B c_isi T.z_isinstance rfl (a_cons (o_n 1) (a_cons (o_x (v_bltn rfl T.z_tuple rfl)) a_nil))))) (w_or1 (t_not (t_chain o_le o_le (o_x v_int) (o_x (v_B c_len T.z_len rfl (a_cons (o_n 1) a_nil))) (o_x (v_glInt rfl g_MOST_LITERALS))))))) (s_one (s_ret v_bl)) s_nil)
    (s_cons (s_if (t_not (t_val (v_B (c_all rfl) T.z_all rfl (a_cons (o_x (v_comp (own := [("literal", 2)]) rfl hN (i_val (v_var 1)) (blkOk_by (N := N_is_clause) (sc := defScope s_is_clause) (own := [("literal", 2)]) (by decide +kernel)) (by decide) (fun _ _ _ _ _ => (g_name (i := 2) hN)) (fun _ _ _ _ _ => ts_nil) (fun _ _ _ _ _ => (v_callG F_is_literal (hr.mono (by decide)) hG g_is_literal k_is_literal (.all b_is_literal) takes0 (a_cons (o_n 0) (a_cons (o_x (v_var 2)) a_nil)))))) a_nil)))) (s_one (s_ret v_bl)) s_nil)
    (s_cons (s_if (t_not (t_val (v_B (c_all rfl) T.z_all rfl (a_cons (o_x (v_comp (own := [("one", 3), ("other", 4)]) rfl hN (i_zip T.z_zip (a_cons (o_x (v_sl (o_n 1) p_no (p_at (v_un u_neg (o_x v_int))))) (a_cons (o_x (v_sl (o_n 1) (p_at v_int) p_no)) a_nil))) (blkOk_by (N := N_is_clause) (sc := defScope s_is_clause) (own := [("one", 3), ("other", 4)]) (by decide +kernel)) (by decide) (fun _ _ _ _ _ => (g_tup rfl (gs_cons (g_name (i := 3) hN) (gs_cons (g_name (i := 4) hN) gs_nil)))) (fun _ _ _ _ _ => ts_nil) (fun _ _ _ _ _ => (v_cmp o_lt (o_x (v_var 3)) (o_x (v_var 4)))))) a_nil)))) (s_one (s_ret v_bl)) s_nil)
    (s_one (s_ret (v_cmp (o_eq hu) (o_x (v_lenSc (own := [("literal", 2)]) rfl hN T.z_len (i_val (v_var 1)) (blkOk_by (N := N_is_clause) (sc := defScope s_is_clause) (own := [("literal", 2)]) (by decide +kernel)) (by decide) (fun _ _ _ _ _ => (g_name (i := 2) hN)) (fun _ _ _ _ _ => ts_nil) (fun _ _ _ _ _ => (v_B c_abs T.z_abs rfl (a_cons (o_x (v_var 2)) a_nil))))) (o_x (v_B c_len T.z_len rfl (a_cons (o_n 1) a_nil)))))))))
theorem ok_are_clauses (T : Txt K mg) : HasFn P w K mg base 4 "are_clauses" ["size", "thing"] 2 m_are_clauses := by
  obtain ⟨f_is_clause, fd_is_clause, g_is_clause, k_is_clause, b_is_clause, F_is_clause⟩ := ok_is_clause (P := P) (w := w) (base := base) T
  obtain ⟨t_MOST_CLAUSES, g_MOST_CLAUSES⟩ := T.c_MOST_CLAUSES
  obtain ⟨f, fd, F, g⟩ := T.d_are_clauses
  refine ⟨f, fd, g, F.kp, fun_bs (ps := ["size", "thing"]) F (fun _ _ _ _ _ _ us hl => match us, hl with | [_, _], _ => rfl), fn_okG F sc_are_clauses fun cdv A outer s H E hr hG => ?_⟩
  have hN : N_are_clauses.Nodup := sc_are_clauses.nd
  have hu := hr.units
  have hv : (A.deeper (PyProof.Rows.envOfC "are_clauses" (defScope s_are_clauses) s.heap.objs.size f cdv)).units + 65 < cLine := by have := hr.un; omega
  have tk : Takes (cxOf (L2.CX P w) P w K mg base N_are_clauses "are_clauses" (defScope s_are_clauses) f cdv A outer s H E) (fun c d _ H => E c d H) := takes_of rfl rfl rfl rfl
  have hp : PassesOwn (model P w) (A.deeper (PyProof.Rows.envOfC "are_clauses" (defScope s_are_clauses) s.heap.objs.size f cdv)) (PyProof.Rows.envOfC "are_clauses" (defScope s_are_clauses) s.heap.objs.size f cdv) (cxOf (L2.CX P w) P w K mg base N_are_clauses "are_clauses" (defScope s_are_clauses) f cdv A outer s H E).xe := passes_of (X := cxOf (L2.CX P w) P w K mg base N_are_clauses "are_clauses" (defScope s_are_clauses) f cdv A outer s H E) rfl
  exact (s_cons (s_if (t_of (w_or (t_not (t_val (v_B c_isi T.z_isinstance rfl (a_cons (o_n 1) (a_cons (o_x (v_bltn rfl T.z_tuple rfl)) a_nil))))) (w_or1 (t_cmp o_gt (o_x (v_B c_len T.z_len rfl (a_cons (o_n 1) a_nil))) (o_x (v_glInt rfl g_MOST_CLAUSES)))))) (s_one (s_ret v_bl)) s_nil)
    (s_one (s_ret (v_and (v_B (c_all rfl) T.z_all rfl (a_cons (o_x (v_comp (own := [("clause", 2)]) rfl hN (i_val (v_var 1)) (blkOk_by (N := N_are_clauses) (sc := defScope s_are_clauses) (own := [("clause", 2)]) (by decide +kernel)) (by decide) (fun _ _ _ _ _ => (g_name (i := 2) hN)) (fun _ _ _ _ _ => ts_nil) (fun _ _ _ _ _ => (v_callG F_is_clause (hr.mono (by decide)) hG g_is_clause k_is_clause (.all b_is_clause) takes0 (a_cons (o_n 0) (a_cons (o_x (v_var 2)) a_nil)))))) a_nil)) (v_one (v_cmp (o_eq hu) (o_x (v_lenSet rfl hu T.z_len T.z_set (v_var 1))) (o_x (v_B c_len T.z_len rfl (a_cons (o_n 1) a_nil)))))))))
theorem ok_signs_of (T : Txt K mg) : HasFn P w K mg base 1 "signs_of" ["size", "part"] 2 m_signs_of := by
  obtain ⟨f, fd, F, g⟩ := T.d_signs_of
  refine ⟨f, fd, g, F.kp, fun_bs (ps := ["size", "part"]) F (fun _ _ _ _ _ _ us hl => match us, hl with | [_, _], _ => rfl), fn_okG F sc_signs_of fun cdv A outer s H E hr hG => ?_⟩
  have hN : N_signs_of.Nodup := sc_signs_of.nd
  have hu := hr.units
  have hv : (A.deeper (PyProof.Rows.envOfC "signs_of" (defScope s_signs_of) s.heap.objs.size f cdv)).units + 65 < cLine := by have := hr.un; omega
  have tk : Takes (cxOf (L2.CX P w) P w K mg base N_signs_of "signs_of" (defScope s_signs_of) f cdv A outer s H E) (fun c d _ H => E c d H) := takes_of rfl rfl rfl rfl
  have hp : PassesOwn (model P w) (A.deeper (PyProof.Rows.envOfC "signs_of" (defScope s_signs_of) s.heap.objs.size f cdv)) (PyProof.Rows.envOfC "signs_of" (defScope s_signs_of) s.heap.objs.size f cdv) (cxOf (L2.CX P w) P w K mg base N_signs_of "signs_of" (defScope s_signs_of) f cdv A outer s H E).xe := passes_of (X := cxOf (L2.CX P w) P w K mg base N_signs_of "signs_of" (defScope s_signs_of) f cdv A outer s H E) rfl
  exact (s_one (s_ret (v_if (t_cmp (o_eq hu) (o_n 1) (o_x v_str)) (v_bin o_mul (o_x v_int) (o_n 0)) (v_var 0))))
theorem ok_is_writing (T : Txt K mg) : HasFn P w K mg base 5 "is_writing" ["thing"] 1 m_is_writing := by
  obtain ⟨f_is_within, fd_is_within, g_is_within, k_is_within, b_is_within, F_is_within⟩ := ok_is_within (P := P) (w := w) (base := base) T
  obtain ⟨f_are_clauses, fd_are_clauses, g_are_clauses, k_are_clauses, b_are_clauses, F_are_clauses⟩ := ok_are_clauses (P := P) (w := w) (base := base) T
  obtain ⟨f_signs_of, fd_signs_of, g_signs_of, k_signs_of, b_signs_of, F_signs_of⟩ := ok_signs_of (P := P) (w := w) (base := base) T
  obtain ⟨t_MOST_INPUTS, g_MOST_INPUTS⟩ := T.c_MOST_INPUTS
  obtain ⟨t_MOST_SIGNS, g_MOST_SIGNS⟩ := T.c_MOST_SIGNS
  obtain ⟨a_PARTS, o_PARTS, i_PARTS, n_PARTS, g_PARTS, k_PARTS, c_PARTS, e_PARTS, d_PARTS, z_PARTS, v_PARTS⟩ := T.c_PARTS
  obtain ⟨f, fd, F, g⟩ := T.d_is_writing
  refine ⟨f, fd, g, F.kp, fun_bs (ps := ["thing"]) F (fun _ _ _ _ _ _ us hl => match us, hl with | [_], _ => rfl), fn_okG F sc_is_writing fun cdv A outer s H E hr hG => ?_⟩
  have hN : N_is_writing.Nodup := sc_is_writing.nd
  have hu := hr.units
  have hv : (A.deeper (PyProof.Rows.envOfC "is_writing" (defScope s_is_writing) s.heap.objs.size f cdv)).units + 65 < cLine := by have := hr.un; omega
  have tk : Takes (cxOf (L2.CX P w) P w K mg base N_is_writing "is_writing" (defScope s_is_writing) f cdv A outer s H E) (fun c d _ H => E c d H) := takes_of rfl rfl rfl rfl
  have hp : PassesOwn (model P w) (A.deeper (PyProof.Rows.envOfC "is_writing" (defScope s_is_writing) s.heap.objs.size f cdv)) (PyProof.Rows.envOfC "is_writing" (defScope s_is_writing) s.heap.objs.size f cdv) (cxOf (L2.CX P w) P w K mg base N_is_writing "is_writing" (defScope s_is_writing) f cdv A outer s H E).xe := passes_of (X := cxOf (L2.CX P w) P w K mg base N_is_writing "is_writing" (defScope s_is_writing) f cdv A outer s H E) rfl
  exact (s_cons (s_if (t_of (w_or (t_not (t_val (v_B c_isi T.z_isinstance rfl (a_cons (o_n 0) (a_cons (o_x (v_bltn rfl T.z_tuple rfl)) a_nil))))) (w_or1 (t_cmp (o_ne hu) (o_x (v_B c_len T.z_len rfl (a_cons (o_n 0) a_nil))) (o_x (v_bin o_add (o_x v_int) (o_x (v_B c_len T.z_len rfl (a_cons (o_x (v_glStrs g_PARTS k_PARTS c_PARTS d_PARTS z_PARTS v_PARTS)) a_nil))))))))) (s_one (s_ret v_bl)) s_nil)
    (s_cons (s_asg (v_sl (o_n 0) p_no (p_at v_int)) (g_tup rfl (gs_cons (g_name (i := 1) hN) (gs_cons (g_name (i := 2) hN) gs_nil))))
    (s_cons (s_if (t_of (w_or (t_not (t_val (v_callG F_is_within (hr.mono (by decide)) hG g_is_within k_is_within (.all b_is_within) tk (a_cons (o_n 1) (a_cons (o_x v_int) (a_cons (o_x (v_glInt rfl g_MOST_INPUTS)) a_nil)))))) (w_or1 (t_not (t_val (v_callG F_is_within (hr.mono (by decide)) hG g_is_within k_is_within (.all b_is_within) tk (a_cons (o_n 2) (a_cons (o_n 1) (a_cons (o_x (v_glInt rfl g_MOST_SIGNS)) a_nil))))))))) (s_one (s_ret v_bl)) s_nil)
    (s_one (s_ret (v_B (c_all rfl) T.z_all rfl (a_cons (o_x (v_comp (own := [("part", 3), ("clauses", 4)]) rfl hN (i_zip T.z_zip (a_cons (o_x (v_glStrs g_PARTS k_PARTS c_PARTS d_PARTS z_PARTS v_PARTS)) (a_cons (o_x (v_sl (o_n 0) (p_at v_int) p_no)) a_nil))) (blkOk_by (N := N_is_writing) (sc := defScope s_is_writing) (own := [("part", 3), ("clauses", 4)]) (by decide +kernel)) (by decide) (fun _ _ _ _ _ => (g_tup rfl (gs_cons (g_name (i := 3) hN) (gs_cons (g_name (i := 4) hN) gs_nil)))) (fun _ _ _ _ _ => ts_nil) (fun _ _ _ _ _ => (v_callG F_are_clauses (hr.mono (by decide)) hG g_are_clauses k_are_clauses (.all b_are_clauses) takes0 (a_cons (o_x (v_callG F_signs_of (hr.mono (by decide)) hG g_signs_of k_signs_of (.all b_signs_of) takes0 (a_cons (o_n 2) (a_cons (o_x (v_var 3)) a_nil)))) (a_cons (o_x (v_var 4)) a_nil)))))) a_nil)))))))
theorem ok_check_writing (T : Txt K mg) : HasFn P w K mg base 6 "check_writing" ["thing"] 1 m_check_writing := by
  obtain ⟨f_is_writing, fd_is_writing, g_is_writing, k_is_writing, b_is_writing, F_is_writing⟩ := ok_is_writing (P := P) (w := w) (base := base) T
  obtain ⟨f, fd, F, g⟩ := T.d_check_writing
  refine ⟨f, fd, g, F.kp, fun_bs (ps := ["thing"]) F (fun _ _ _ _ _ _ us hl => match us, hl with | [_], _ => rfl), fn_okG F sc_check_writing fun cdv A outer s H E hr hG => ?_⟩
  have hN : N_check_writing.Nodup := sc_check_writing.nd
  have hu := hr.units
  have hv : (A.deeper (PyProof.Rows.envOfC "check_writing" (defScope s_check_writing) s.heap.objs.size f cdv)).units + 65 < cLine := by have := hr.un; omega
  have tk : Takes (cxOf (L2.CX P w) P w K mg base N_check_writing "check_writing" (defScope s_check_writing) f cdv A outer s H E) (fun c d _ H => E c d H) := takes_of rfl rfl rfl rfl
  have hp : PassesOwn (model P w) (A.deeper (PyProof.Rows.envOfC "check_writing" (defScope s_check_writing) s.heap.objs.size f cdv)) (PyProof.Rows.envOfC "check_writing" (defScope s_check_writing) s.heap.objs.size f cdv) (cxOf (L2.CX P w) P w K mg base N_check_writing "check_writing" (defScope s_check_writing) f cdv A outer s H E).xe := passes_of (X := cxOf (L2.CX P w) P w K mg base N_check_writing "check_writing" (defScope s_check_writing) f cdv A outer s H E) rfl
  exact (s_one (s_if (t_not (t_val (v_callG F_is_writing (hr.mono (by decide)) hG g_is_writing k_is_writing (.all b_is_writing) tk (a_cons (o_n 0) a_nil)))) (s_one s_never) s_nil))
theorem ok_is_column (T : Txt K mg) : HasFn P w K mg base 1 "is_column" ["size", "thing"] 2 m_is_column := by
  obtain ⟨f, fd, F, g⟩ := T.d_is_column
  refine ⟨f, fd, g, F.kp, fun_bs (ps := ["size", "thing"]) F (fun _ _ _ _ _ _ us hl => match us, hl with | [_, _], _ => rfl), fn_okG F sc_is_column fun cdv A outer s H E hr hG => ?_⟩
  have hN : N_is_column.Nodup := sc_is_column.nd
  have hu := hr.units
  have hv : (A.deeper (PyProof.Rows.envOfC "is_column" (defScope s_is_column) s.heap.objs.size f cdv)).units + 65 < cLine := by have := hr.un; omega
  have tk : Takes (cxOf (L2.CX P w) P w K mg base N_is_column "is_column" (defScope s_is_column) f cdv A outer s H E) (fun c d _ H => E c d H) := takes_of rfl rfl rfl rfl
  have hp : PassesOwn (model P w) (A.deeper (PyProof.Rows.envOfC "is_column" (defScope s_is_column) s.heap.objs.size f cdv)) (PyProof.Rows.envOfC "is_column" (defScope s_is_column) s.heap.objs.size f cdv) (cxOf (L2.CX P w) P w K mg base N_is_column "is_column" (defScope s_is_column) f cdv A outer s H E).xe := passes_of (X := cxOf (L2.CX P w) P w K mg base N_is_column "is_column" (defScope s_is_column) f cdv A outer s H E) rfl
  exact (s_cons (s_if (t_of (w_or (t_not (t_val (v_B c_isi T.z_isinstance rfl (a_cons (o_n 1) (a_cons (o_x (v_bltn rfl T.z_tuple rfl)) a_nil))))) (w_or1 (t_cmp (o_ne hu) (o_x (v_B c_len T.z_len rfl (a_cons (o_n 1) a_nil))) (o_n 0))))) (s_one (s_ret v_bl)) s_nil)
    (s_one (s_ret (v_B (c_all rfl) T.z_all rfl (a_cons (o_x (v_comp (own := [("value", 2)]) rfl hN (i_val (v_var 1)) (blkOk_by (N := N_is_column) (sc := defScope s_is_column) (own := [("value", 2)]) (by decide +kernel)) (by decide) (fun _ _ _ _ _ => (g_name (i := 2) hN)) (fun _ _ _ _ _ => ts_nil) (fun _ _ _ _ _ => (v_or (v_cmp o_is (o_x (v_var 2)) (o_x v_non)) (v_one (v_B c_isi T.z_isinstance rfl (a_cons (o_x (v_var 2)) (a_cons (o_x (v_bltn rfl T.z_bool rfl)) a_nil)))))))) a_nil)))))
theorem ok_is_row (T : Txt K mg) : HasFn P w K mg base 2 "is_row" ["size", "thing"] 2 m_is_row := by
  obtain ⟨f_is_column, fd_is_column, g_is_column, k_is_column, b_is_column, F_is_column⟩ := ok_is_column (P := P) (w := w) (base := base) T
  obtain ⟨f, fd, F, g⟩ := T.d_is_row
  refine ⟨f, fd, g, F.kp, fun_bs (ps := ["size", "thing"]) F (fun _ _ _ _ _ _ us hl => match us, hl with | [_, _], _ => rfl), fn_okG F sc_is_row fun cdv A outer s H E hr hG => ?_⟩
  have hN : N_is_row.Nodup := sc_is_row.nd
  have hu := hr.units
  have hv : (A.deeper (PyProof.Rows.envOfC "is_row" (defScope s_is_row) s.heap.objs.size f cdv)).units + 65 < cLine := by have := hr.un; omega
  have tk : Takes (cxOf (L2.CX P w) P w K mg base N_is_row "is_row" (defScope s_is_row) f cdv A outer s H E) (fun c d _ H => E c d H) := takes_of rfl rfl rfl rfl
  have hp : PassesOwn (model P w) (A.deeper (PyProof.Rows.envOfC "is_row" (defScope s_is_row) s.heap.objs.size f cdv)) (PyProof.Rows.envOfC "is_row" (defScope s_is_row) s.heap.objs.size f cdv) (cxOf (L2.CX P w) P w K mg base N_is_row "is_row" (defScope s_is_row) f cdv A outer s H E).xe := passes_of (X := cxOf (L2.CX P w) P w K mg base N_is_row "is_row" (defScope s_is_row) f cdv A outer s H E) rfl
  exact (s_one (s_ret (v_and (v_B c_isi T.z_isinstance rfl (a_cons (o_n 1) (a_cons (o_x (v_bltn rfl T.z_list rfl)) a_nil))) (v_and (v_cmp (o_ne hu) (o_n 1) (o_x (v_lst a_nil))) (v_one (v_B (c_all rfl) T.z_all rfl (a_cons (o_x (v_comp (own := [("column", 2)]) rfl hN (i_val (v_var 1)) (blkOk_by (N := N_is_row) (sc := defScope s_is_row) (own := [("column", 2)]) (by decide +kernel)) (by decide) (fun _ _ _ _ _ => (g_name (i := 2) hN)) (fun _ _ _ _ _ => ts_nil) (fun _ _ _ _ _ => (v_callG F_is_column (hr.mono (by decide)) hG g_is_column k_is_column (.all b_is_column) takes0 (a_cons (o_n 0) (a_cons (o_x (v_var 2)) a_nil)))))) a_nil)))))))
theorem ok_check_row (T : Txt K mg) : HasFn P w K mg base 3 "check_row" ["size", "thing"] 2 m_check_row := by
  obtain ⟨f_is_row, fd_is_row, g_is_row, k_is_row, b_is_row, F_is_row⟩ := ok_is_row (P := P) (w := w) (base := base) T
  obtain ⟨f, fd, F, g⟩ := T.d_check_row
  refine ⟨f, fd, g, F.kp, fun_bs (ps := ["size", "thing"]) F (fun _ _ _ _ _ _ us hl => match us, hl with | [_, _], _ => rfl), fn_okG F sc_check_row fun cdv A outer s H E hr hG => ?_⟩
  have hN : N_check_row.Nodup := sc_check_row.nd
  have hu := hr.units
  have hv : (A.deeper (PyProof.Rows.envOfC "check_row" (defScope s_check_row) s.heap.objs.size f cdv)).units + 65 < cLine := by have := hr.un; omega
  have tk : Takes (cxOf (L2.CX P w) P w K mg base N_check_row "check_row" (defScope s_check_row) f cdv A outer s H E) (fun c d _ H => E c d H) := takes_of rfl rfl rfl rfl
  have hp : PassesOwn (model P w) (A.deeper (PyProof.Rows.envOfC "check_row" (defScope s_check_row) s.heap.objs.size f cdv)) (PyProof.Rows.envOfC "check_row" (defScope s_check_row) s.heap.objs.size f cdv) (cxOf (L2.CX P w) P w K mg base N_check_row "check_row" (defScope s_check_row) f cdv A outer s H E).xe := passes_of (X := cxOf (L2.CX P w) P w K mg base N_check_row "check_row" (defScope s_check_row) f cdv A outer s H E) rfl
  exact (s_one (s_if (t_not (t_val (v_callG F_is_row (hr.mono (by decide)) hG g_is_row k_is_row (.all b_is_row) tk (a_cons (o_n 0) (a_cons (o_n 1) a_nil))))) (s_one s_never) s_nil))
theorem ok_steps_at (T : Txt K mg) : HasFn P w K mg base 1 "steps_at" ["writing", "many", "column"] 3 m_steps_at := by
  obtain ⟨a_PARTS, o_PARTS, i_PARTS, n_PARTS, g_PARTS, k_PARTS, c_PARTS, e_PARTS, d_PARTS, z_PARTS, v_PARTS⟩ := T.c_PARTS
  obtain ⟨f, fd, F, g⟩ := T.d_steps_at
  refine ⟨f, fd, g, F.kp, fun_bs (ps := ["writing", "many", "column"]) F (fun _ _ _ _ _ _ us hl => match us, hl with | [_, _, _], _ => rfl), fn_okG F sc_steps_at fun cdv A outer s H E hr hG => ?_⟩
  have hN : N_steps_at.Nodup := sc_steps_at.nd
  have hu := hr.units
  have hv : (A.deeper (PyProof.Rows.envOfC "steps_at" (defScope s_steps_at) s.heap.objs.size f cdv)).units + 65 < cLine := by have := hr.un; omega
  have tk : Takes (cxOf (L2.CX P w) P w K mg base N_steps_at "steps_at" (defScope s_steps_at) f cdv A outer s H E) (fun c d _ H => E c d H) := takes_of rfl rfl rfl rfl
  have hp : PassesOwn (model P w) (A.deeper (PyProof.Rows.envOfC "steps_at" (defScope s_steps_at) s.heap.objs.size f cdv)) (PyProof.Rows.envOfC "steps_at" (defScope s_steps_at) s.heap.objs.size f cdv) (cxOf (L2.CX P w) P w K mg base N_steps_at "steps_at" (defScope s_steps_at) f cdv A outer s H E).xe := passes_of (X := cxOf (L2.CX P w) P w K mg base N_steps_at "steps_at" (defScope s_steps_at) f cdv A outer s H E) rfl
  exact (s_cons (s_newD (i := 3) hN (pd_str (v_if (t_cmp (o_eq hu) (o_n 2) (o_x v_int)) (v_lst (a_cons (o_x v_int) a_nil)) (v_lst a_nil)) (pd_str (v_lst (a_cons (o_x (v_var 2)) a_nil)) pd_nil)) (by decide))
    (s_cons (s_storeD (i := 3) hv (v_comp (own := [("spot", 8)]) rfl hN (i_val (v_tup (a_cons (o_x (v_bin o_sub (o_n 2) (o_x v_int))) (a_cons (o_x (v_var 2)) a_nil)))) (blkOk_by (N := N_steps_at) (sc := defScope s_steps_at) (own := [("spot", 8)]) (by decide +kernel)) (by decide) (fun _ _ _ _ _ => (g_name (i := 8) hN)) (fun _ _ _ _ _ => (ts_one (t_chain o_le o_lt (o_x v_int) (o_x (v_var 8)) (o_x (v_bin o_sub (o_n 1) (o_x v_int)))))) (fun _ _ _ _ _ => (v_var 8))) v_str)
    (s_cons (s_storeD (i := 3) hv (v_if (t_cmp (o_eq hu) (o_n 2) (o_x (v_bin o_sub (o_n 1) (o_x v_int)))) (v_lst (a_cons (o_x (v_var 2)) a_nil)) (v_lst a_nil)) v_str)
    (s_cons (s_new (i := 4) hN (v_lst a_nil))
    (s_cons (s_for hp rfl (i_enum T.z_enumerate (a_cons (o_x (v_glStrs g_PARTS k_PARTS c_PARTS d_PARTS z_PARTS v_PARTS)) a_nil)) (g_tup rfl (gs_cons (g_name (i := 5) hN) (gs_cons (g_name (i := 6) hN) gs_nil))) (s_one (s_for hp rfl (i_range1 T.z_range (a_cons (o_x (v_B c_len T.z_len rfl (a_cons (o_x (v_ix o_ix (o_n 0) (o_x (v_bin o_add (o_x v_int) (o_n 5))))) a_nil))) a_nil)) (g_name (i := 7) hN) (s_one (s_expr (v_meth (i := 4) m_ext PySem.F.slot_list_extend PySem.F.type_list_extend (a_cons (o_x (v_comp (own := [("spot", 8)]) rfl hN (i_val (v_ixD (i := 3) hv (v_var 6))) (blkOk_by (N := N_steps_at) (sc := defScope s_steps_at) (own := [("spot", 8)]) (by decide +kernel)) (by decide) (fun _ _ _ _ _ => (g_name (i := 8) hN)) (fun _ _ _ _ _ => ts_nil) (fun _ _ _ _ _ => (v_tup (a_cons (o_x (v_var 6)) (a_cons (o_x (v_var 7)) (a_cons (o_x (v_var 8)) a_nil))))))) a_nil)))))))
    (s_one (s_ret (v_take 4))))))))
theorem ok_clause_of (T : Txt K mg) : HasFn P w K mg base 1 "clause_of" ["writing", "step"] 2 m_clause_of := by
  obtain ⟨a_PARTS, o_PARTS, i_PARTS, n_PARTS, g_PARTS, k_PARTS, c_PARTS, e_PARTS, d_PARTS, z_PARTS, v_PARTS⟩ := T.c_PARTS
  obtain ⟨f, fd, F, g⟩ := T.d_clause_of
  refine ⟨f, fd, g, F.kp, fun_bs (ps := ["writing", "step"]) F (fun _ _ _ _ _ _ us hl => match us, hl with | [_, _], _ => rfl), fn_okG F sc_clause_of fun cdv A outer s H E hr hG => ?_⟩
  have hN : N_clause_of.Nodup := sc_clause_of.nd
  have hu := hr.units
  have hv : (A.deeper (PyProof.Rows.envOfC "clause_of" (defScope s_clause_of) s.heap.objs.size f cdv)).units + 65 < cLine := by have := hr.un; omega
  have tk : Takes (cxOf (L2.CX P w) P w K mg base N_clause_of "clause_of" (defScope s_clause_of) f cdv A outer s H E) (fun c d _ H => E c d H) := takes_of rfl rfl rfl rfl
  have hp : PassesOwn (model P w) (A.deeper (PyProof.Rows.envOfC "clause_of" (defScope s_clause_of) s.heap.objs.size f cdv)) (PyProof.Rows.envOfC "clause_of" (defScope s_clause_of) s.heap.objs.size f cdv) (cxOf (L2.CX P w) P w K mg base N_clause_of "clause_of" (defScope s_clause_of) f cdv A outer s H E).xe := passes_of (X := cxOf (L2.CX P w) P w K mg base N_clause_of "clause_of" (defScope s_clause_of) f cdv A outer s H E) rfl
  exact (s_one (s_ret (v_ix o_ix (o_x (v_ix o_ix (o_n 0) (o_x (v_bin o_add (o_x v_int) (o_x (v_tindex g_PARTS k_PARTS c_PARTS e_PARTS d_PARTS z_PARTS v_PARTS (v_ix o_ix (o_n 1) (o_x v_int)))))))) (o_x (v_ix o_ix (o_n 1) (o_x v_int))))))
theorem ok_place_of (T : Txt K mg) : HasFn P w K mg base 1 "place_of" ["writing", "step", "literal"] 3 m_place_of := by
  obtain ⟨f, fd, F, g⟩ := T.d_place_of
  refine ⟨f, fd, g, F.kp, fun_bs (ps := ["writing", "step", "literal"]) F (fun _ _ _ _ _ _ us hl => match us, hl with | [_, _, _], _ => rfl), fn_okG F sc_place_of fun cdv A outer s H E hr hG => ?_⟩
  have hN : N_place_of.Nodup := sc_place_of.nd
  have hu := hr.units
  have hv : (A.deeper (PyProof.Rows.envOfC "place_of" (defScope s_place_of) s.heap.objs.size f cdv)).units + 65 < cLine := by have := hr.un; omega
  have tk : Takes (cxOf (L2.CX P w) P w K mg base N_place_of "place_of" (defScope s_place_of) f cdv A outer s H E) (fun c d _ H => E c d H) := takes_of rfl rfl rfl rfl
  have hp : PassesOwn (model P w) (A.deeper (PyProof.Rows.envOfC "place_of" (defScope s_place_of) s.heap.objs.size f cdv)) (PyProof.Rows.envOfC "place_of" (defScope s_place_of) s.heap.objs.size f cdv) (cxOf (L2.CX P w) P w K mg base N_place_of "place_of" (defScope s_place_of) f cdv A outer s H E).xe := passes_of (X := cxOf (L2.CX P w) P w K mg base N_place_of "place_of" (defScope s_place_of) f cdv A outer s H E) rfl
  exact (s_one (s_ret (v_tup (a_cons (o_x (v_bin o_add (o_x (v_ix o_ix (o_n 1) (o_x v_int))) (o_x (v_bin o_div (o_x (v_bin o_sub (o_x (v_B c_abs T.z_abs rfl (a_cons (o_n 2) a_nil))) (o_x v_int))) (o_x (v_ix o_ix (o_n 0) (o_x v_int))))))) (a_cons (o_x (v_bin o_mod (o_x (v_bin o_sub (o_x (v_B c_abs T.z_abs rfl (a_cons (o_n 2) a_nil))) (o_x v_int))) (o_x (v_ix o_ix (o_n 0) (o_x v_int))))) a_nil)))))
theorem ok_told_by (T : Txt K mg) : HasFn P w K mg base 2 "told_by" ["writing", "lists", "step"] 3 m_told_by := by
  obtain ⟨f_clause_of, fd_clause_of, g_clause_of, k_clause_of, b_clause_of, F_clause_of⟩ := ok_clause_of (P := P) (w := w) (base := base) T
  obtain ⟨f_place_of, fd_place_of, g_place_of, k_place_of, b_place_of, F_place_of⟩ := ok_place_of (P := P) (w := w) (base := base) T
  obtain ⟨f, fd, F, g⟩ := T.d_told_by
  refine ⟨f, fd, g, F.kp, fun_bs (ps := ["writing", "lists", "step"]) F (fun _ _ _ _ _ _ us hl => match us, hl with | [_, _, _], _ => rfl), fn_okG F sc_told_by fun cdv A outer s H E hr hG => ?_⟩
  have hN : N_told_by.Nodup := sc_told_by.nd
  have hu := hr.units
  have hv : (A.deeper (PyProof.Rows.envOfC "told_by" (defScope s_told_by) s.heap.objs.size f cdv)).units + 65 < cLine := by have := hr.un; omega
  have tk : Takes (cxOf (L2.CX P w) P w K mg base N_told_by "told_by" (defScope s_told_by) f cdv A outer s H E) (fun c d _ H => E c d H) := takes_of rfl rfl rfl rfl
  have hp : PassesOwn (model P w) (A.deeper (PyProof.Rows.envOfC "told_by" (defScope s_told_by) s.heap.objs.size f cdv)) (PyProof.Rows.envOfC "told_by" (defScope s_told_by) s.heap.objs.size f cdv) (cxOf (L2.CX P w) P w K mg base N_told_by "told_by" (defScope s_told_by) f cdv A outer s H E).xe := passes_of (X := cxOf (L2.CX P w) P w K mg base N_told_by "told_by" (defScope s_told_by) f cdv A outer s H E) rfl
  exact (s_cons (s_new (i := 3) hN (v_lst a_nil))
    (s_cons (s_for hp rfl (i_val (v_callG F_clause_of (hr.mono (by decide)) hG g_clause_of k_clause_of (.all b_clause_of) tk (a_cons (o_n 0) (a_cons (o_n 2) a_nil)))) (g_name (i := 4) hN) (s_cons (s_asg (v_callG F_place_of (hr.mono (by decide)) hG g_place_of k_place_of (.all b_place_of) tk (a_cons (o_n 0) (a_cons (o_n 2) (a_cons (o_n 4) a_nil)))) (g_tup rfl (gs_cons (g_name (i := 5) hN) (gs_cons (g_name (i := 6) hN) gs_nil))))
    (s_cons (s_set (i := 7) hN (v_ix2 (i := 1) (v_var 5) (v_var 6)))
    (s_one (s_if (t_cmp o_is (o_n 7) (o_x v_non)) (s_one (s_expr (v_meth (i := 3) m_app PySem.F.slot_list_append PySem.F.type_list_append (a_cons (o_x (v_tup (a_cons (o_x (v_var 5)) (a_cons (o_x (v_var 6)) (a_cons (o_x (v_cmp o_gt (o_n 4) (o_x v_int))) a_nil))))) a_nil)))) (s_one (s_if (t_cmp (o_eq hu) (o_n 7) (o_x (v_cmp o_gt (o_n 4) (o_x v_int)))) (s_one (s_ret v_non)) s_nil)))))))
    (s_one (s_ret (v_if (t_cmp o_lt (o_x (v_B c_len T.z_len rfl (a_cons (o_n 3) a_nil))) (o_x v_int)) (v_take 3) v_non)))))
theorem ok_follow (T : Txt K mg) : HasFn P w K mg base 3 "follow" ["writing", "row"] 2 m_follow := by
  obtain ⟨f_steps_at, fd_steps_at, g_steps_at, k_steps_at, b_steps_at, F_steps_at⟩ := ok_steps_at (P := P) (w := w) (base := base) T
  obtain ⟨f_told_by, fd_told_by, g_told_by, k_told_by, b_told_by, F_told_by⟩ := ok_told_by (P := P) (w := w) (base := base) T
  obtain ⟨f, fd, F, g⟩ := T.d_follow
  refine ⟨f, fd, g, F.kp, fun_bs (ps := ["writing", "row"]) F (fun _ _ _ _ _ _ us hl => match us, hl with | [_, _], _ => rfl), fn_okG F sc_follow fun cdv A outer s H E hr hG => ?_⟩
  have hN : N_follow.Nodup := sc_follow.nd
  have hu := hr.units
  have hv : (A.deeper (PyProof.Rows.envOfC "follow" (defScope s_follow) s.heap.objs.size f cdv)).units + 65 < cLine := by have := hr.un; omega
  have tk : Takes (cxOf (L2.CX P w) P w K mg base N_follow "follow" (defScope s_follow) f cdv A outer s H E) (fun c d _ H => E c d H) := takes_of rfl rfl rfl rfl
  have hp : PassesOwn (model P w) (A.deeper (PyProof.Rows.envOfC "follow" (defScope s_follow) s.heap.objs.size f cdv)) (PyProof.Rows.envOfC "follow" (defScope s_follow) s.heap.objs.size f cdv) (cxOf (L2.CX P w) P w K mg base N_follow "follow" (defScope s_follow) f cdv A outer s H E).xe := passes_of (X := cxOf (L2.CX P w) P w K mg base N_follow "follow" (defScope s_follow) f cdv A outer s H E) rfl
  exact (s_cons (s_multi rfl (ps_consLL (own := [("column", 8)]) rfl hN (i_val (v_var 1)) (blkOk_by (N := N_follow) (sc := defScope s_follow) (own := [("column", 8)]) (by decide +kernel)) (by decide) (fun _ _ _ _ _ => (g_name (i := 8) hN)) (fun _ _ _ _ _ => ts_nil) (fun _ _ _ _ _ => (v_T c_list T.z_list rfl (a_cons (o_x (v_var 8)) a_nil))) (ps_cons' (nw := true) (v_lst a_nil) (ps_cons' (nw := true) (v_lstRg1 rfl T.z_list T.z_range (v_B c_len T.z_len rfl (a_cons (o_n 1) a_nil))) ps_nil'))) (gn_cons (i := 2) hN (gn_cons (i := 3) hN (gn_cons (i := 4) hN gn_nil))))
    (s_cons (s_while hp (t_cmp (o_ne hu) (o_n 4) (o_x (v_lst a_nil))) (s_cons (s_set (i := 5) hN (v_meth (i := 4) m_popAt PySem.F.slot_list_pop PySem.F.type_list_pop (a_cons (o_x v_int) a_nil)))
    (s_one (s_for hp rfl (i_val (v_callG F_steps_at (hr.mono (by decide)) hG g_steps_at k_steps_at (.all b_steps_at) tk (a_cons (o_n 0) (a_cons (o_x (v_B c_len T.z_len rfl (a_cons (o_n 1) a_nil))) (a_cons (o_n 5) a_nil))))) (g_name (i := 6) hN) (s_cons (s_set (i := 7) hN (v_callG F_told_by (hr.mono (by decide)) hG g_told_by k_told_by (.all b_told_by) tk (a_cons (o_n 0) (a_cons (o_n 2) (a_cons (o_n 6) a_nil)))))
    (s_cons (s_if (t_cmp (o_eq hu) (o_n 7) (o_x (v_lst a_nil))) (s_one (s_ret (v_tup (a_cons (o_x (v_takeL 2)) (a_cons (o_x (v_lst (a_star (v_take 3) (a_cons (o_x (v_var 6)) a_nil)))) (a_cons (o_x v_bl) a_nil)))))) s_nil)
    (s_one (s_if (t_cmp o_isNot (o_n 7) (o_x v_non)) (s_cons (s_asg (v_ix o_ix (o_n 7) (o_x v_int)) (g_tup rfl (gs_cons (g_name (i := 8) hN) (gs_cons (g_name (i := 9) hN) (gs_cons (g_name (i := 10) hN) gs_nil)))))
    (s_cons (s_store2 (i := 2) (v_var 10) (v_var 8) (v_var 9))
    (s_cons (s_expr (v_meth (i := 3) m_app PySem.F.slot_list_append PySem.F.type_list_append (a_cons (o_x (v_var 6)) a_nil)))
    (s_one (s_expr (v_meth (i := 4) m_ext PySem.F.slot_list_extend PySem.F.type_list_extend (a_cons (o_x (v_comp (own := [("spot", 11)]) rfl hN (i_val (v_tup (a_cons (o_x (v_var 8)) (a_cons (o_x (v_var 5)) a_nil)))) (blkOk_by (N := N_follow) (sc := defScope s_follow) (own := [("spot", 11)]) (by decide +kernel)) (by decide) (fun _ _ _ _ _ => (g_name (i := 11) hN)) (fun _ _ _ _ _ => (ts_one (t_cmp (o_notIn hv) (o_x (v_var 11)) (o_n 4)))) (fun _ _ _ _ _ => (v_var 11)))) a_nil))))))) s_nil))))))))
    (s_one (s_ret (v_tup (a_cons (o_x (v_takeL 2)) (a_cons (o_x (v_take 3)) (a_cons (o_x v_bl) a_nil))))))))
theorem ok_followed (T : Txt K mg) : HasFn P w K mg base 7 "followed" ["writing", "row"] 2 m_followed := by
  obtain ⟨f_check_writing, fd_check_writing, g_check_writing, k_check_writing, b_check_writing, F_check_writing⟩ := ok_check_writing (P := P) (w := w) (base := base) T
  obtain ⟨f_check_row, fd_check_row, g_check_row, k_check_row, b_check_row, F_check_row⟩ := ok_check_row (P := P) (w := w) (base := base) T
  obtain ⟨f_follow, fd_follow, g_follow, k_follow, b_follow, F_follow⟩ := ok_follow (P := P) (w := w) (base := base) T
  obtain ⟨f, fd, F, g⟩ := T.d_followed
  refine ⟨f, fd, g, F.kp, fun_bs (ps := ["writing", "row"]) F (fun _ _ _ _ _ _ us hl => match us, hl with | [_, _], _ => rfl), fn_okG F sc_followed fun cdv A outer s H E hr hG => ?_⟩
  have hN : N_followed.Nodup := sc_followed.nd
  have hu := hr.units
  have hv : (A.deeper (PyProof.Rows.envOfC "followed" (defScope s_followed) s.heap.objs.size f cdv)).units + 65 < cLine := by have := hr.un; omega
  have tk : Takes (cxOf (L2.CX P w) P w K mg base N_followed "followed" (defScope s_followed) f cdv A outer s H E) (fun c d _ H => E c d H) := takes_of rfl rfl rfl rfl
  have hp : PassesOwn (model P w) (A.deeper (PyProof.Rows.envOfC "followed" (defScope s_followed) s.heap.objs.size f cdv)) (PyProof.Rows.envOfC "followed" (defScope s_followed) s.heap.objs.size f cdv) (cxOf (L2.CX P w) P w K mg base N_followed "followed" (defScope s_followed) f cdv A outer s H E).xe := passes_of (X := cxOf (L2.CX P w) P w K mg base N_followed "followed" (defScope s_followed) f cdv A outer s H E) rfl
  exact (s_cons (s_expr (v_callG F_check_writing (hr.mono (by decide)) hG g_check_writing k_check_writing (.all b_check_writing) tk (a_cons (o_n 0) a_nil)))
    (s_cons (s_expr (v_callG F_check_row (hr.mono (by decide)) hG g_check_row k_check_row (.all b_check_row) tk (a_cons (o_x (v_ix o_ix (o_n 0) (o_x v_int))) (a_cons (o_n 1) a_nil))))
    (s_cons (s_asg (v_callG F_follow (hr.mono (by decide)) hG g_follow k_follow (.all b_follow) tk (a_cons (o_n 0) (a_cons (o_n 1) a_nil))) (g_tup rfl (gs_cons (g_name (i := 2) hN) (gs_cons (g_name (i := 3) hN) (gs_cons (g_name (i := 4) hN) gs_nil)))))
    (s_one (s_ret (v_if (t_val (v_var 4)) (v_comp (own := [("entries", 5)]) rfl hN (i_val (v_var 2)) (blkOk_by (N := N_followed) (sc := defScope s_followed) (own := [("entries", 5)]) (by decide +kernel)) (by decide) (fun _ _ _ _ _ => (g_name (i := 5) hN)) (fun _ _ _ _ _ => ts_nil) (fun _ _ _ _ _ => (v_T c_tuple T.z_tuple rfl (a_cons (o_x (v_var 5)) a_nil)))) v_non))))))
theorem ok_is_setting (T : Txt K mg) : HasFn P w K mg base 3 "is_setting" ["inputs", "thing"] 2 m_is_setting := by
  obtain ⟨f_is_row, fd_is_row, g_is_row, k_is_row, b_is_row, F_is_row⟩ := ok_is_row (P := P) (w := w) (base := base) T
  obtain ⟨f, fd, F, g⟩ := T.d_is_setting
  refine ⟨f, fd, g, F.kp, fun_bs (ps := ["inputs", "thing"]) F (fun _ _ _ _ _ _ us hl => match us, hl with | [_, _], _ => rfl), fn_okG F sc_is_setting fun cdv A outer s H E hr hG => ?_⟩
  have hN : N_is_setting.Nodup := sc_is_setting.nd
  have hu := hr.units
  have hv : (A.deeper (PyProof.Rows.envOfC "is_setting" (defScope s_is_setting) s.heap.objs.size f cdv)).units + 65 < cLine := by have := hr.un; omega
  have tk : Takes (cxOf (L2.CX P w) P w K mg base N_is_setting "is_setting" (defScope s_is_setting) f cdv A outer s H E) (fun c d _ H => E c d H) := takes_of rfl rfl rfl rfl
  have hp : PassesOwn (model P w) (A.deeper (PyProof.Rows.envOfC "is_setting" (defScope s_is_setting) s.heap.objs.size f cdv)) (PyProof.Rows.envOfC "is_setting" (defScope s_is_setting) s.heap.objs.size f cdv) (cxOf (L2.CX P w) P w K mg base N_is_setting "is_setting" (defScope s_is_setting) f cdv A outer s H E).xe := passes_of (X := cxOf (L2.CX P w) P w K mg base N_is_setting "is_setting" (defScope s_is_setting) f cdv A outer s H E) rfl
  exact (s_one (s_ret (v_callG F_is_row (hr.mono (by decide)) hG g_is_row k_is_row (.all b_is_row) tk (a_cons (o_n 0) (a_cons (o_n 1) a_nil)))))
theorem ok_check_setting (T : Txt K mg) : HasFn P w K mg base 4 "check_setting" ["inputs", "thing"] 2 m_check_setting := by
  obtain ⟨f_is_setting, fd_is_setting, g_is_setting, k_is_setting, b_is_setting, F_is_setting⟩ := ok_is_setting (P := P) (w := w) (base := base) T
  obtain ⟨f, fd, F, g⟩ := T.d_check_setting
  refine ⟨f, fd, g, F.kp, fun_bs (ps := ["inputs", "thing"]) F (fun _ _ _ _ _ _ us hl => match us, hl with | [_, _], _ => rfl), fn_okG F sc_check_setting fun cdv A outer s H E hr hG => ?_⟩
  have hN : N_check_setting.Nodup := sc_check_setting.nd
  have hu := hr.units
  have hv : (A.deeper (PyProof.Rows.envOfC "check_setting" (defScope s_check_setting) s.heap.objs.size f cdv)).units + 65 < cLine := by have := hr.un; omega
  have tk : Takes (cxOf (L2.CX P w) P w K mg base N_check_setting "check_setting" (defScope s_check_setting) f cdv A outer s H E) (fun c d _ H => E c d H) := takes_of rfl rfl rfl rfl
  have hp : PassesOwn (model P w) (A.deeper (PyProof.Rows.envOfC "check_setting" (defScope s_check_setting) s.heap.objs.size f cdv)) (PyProof.Rows.envOfC "check_setting" (defScope s_check_setting) s.heap.objs.size f cdv) (cxOf (L2.CX P w) P w K mg base N_check_setting "check_setting" (defScope s_check_setting) f cdv A outer s H E).xe := passes_of (X := cxOf (L2.CX P w) P w K mg base N_check_setting "check_setting" (defScope s_check_setting) f cdv A outer s H E) rfl
  exact (s_one (s_if (t_not (t_val (v_callG F_is_setting (hr.mono (by decide)) hG g_is_setting k_is_setting (.all b_is_setting) tk (a_cons (o_n 0) (a_cons (o_n 1) a_nil))))) (s_one s_never) s_nil))
theorem ok_bare_row (T : Txt K mg) : HasFn P w K mg base 1 "bare_row" ["writing", "setting"] 2 m_bare_row := by
  obtain ⟨f, fd, F, g⟩ := T.d_bare_row
  refine ⟨f, fd, g, F.kp, fun_bs (ps := ["writing", "setting"]) F (fun _ _ _ _ _ _ us hl => match us, hl with | [_, _], _ => rfl), fn_okG F sc_bare_row fun cdv A outer s H E hr hG => ?_⟩
  have hN : N_bare_row.Nodup := sc_bare_row.nd
  have hu := hr.units
  have hv : (A.deeper (PyProof.Rows.envOfC "bare_row" (defScope s_bare_row) s.heap.objs.size f cdv)).units + 65 < cLine := by have := hr.un; omega
  have tk : Takes (cxOf (L2.CX P w) P w K mg base N_bare_row "bare_row" (defScope s_bare_row) f cdv A outer s H E) (fun c d _ H => E c d H) := takes_of rfl rfl rfl rfl
  have hp : PassesOwn (model P w) (A.deeper (PyProof.Rows.envOfC "bare_row" (defScope s_bare_row) s.heap.objs.size f cdv)) (PyProof.Rows.envOfC "bare_row" (defScope s_bare_row) s.heap.objs.size f cdv) (cxOf (L2.CX P w) P w K mg base N_bare_row "bare_row" (defScope s_bare_row) f cdv A outer s H E).xe := passes_of (X := cxOf (L2.CX P w) P w K mg base N_bare_row "bare_row" (defScope s_bare_row) f cdv A outer s H E) rfl
  exact (s_one (s_ret (v_comp (own := [("column", 2)]) rfl hN (i_val (v_var 1)) (blkOk_by (N := N_bare_row) (sc := defScope s_bare_row) (own := [("column", 2)]) (by decide +kernel)) (by decide) (fun _ _ _ _ _ => (g_name (i := 2) hN)) (fun _ _ _ _ _ => ts_nil) (fun _ _ _ _ _ => (v_bin o_add (o_x (v_var 2)) (o_x (v_bin o_mul (o_x (v_tup (a_cons (o_x v_non) a_nil))) (o_x (v_bin o_sub (o_x (v_ix o_ix (o_n 0) (o_x v_int))) (o_x (v_ix o_ix (o_n 0) (o_x v_int))))))))))))
theorem ok_seen (T : Txt K mg) : HasFn P w K mg base 8 "seen" ["writing", "setting"] 2 m_seen := by
  obtain ⟨f_check_writing, fd_check_writing, g_check_writing, k_check_writing, b_check_writing, F_check_writing⟩ := ok_check_writing (P := P) (w := w) (base := base) T
  obtain ⟨f_check_setting, fd_check_setting, g_check_setting, k_check_setting, b_check_setting, F_check_setting⟩ := ok_check_setting (P := P) (w := w) (base := base) T
  obtain ⟨f_followed, fd_followed, g_followed, k_followed, b_followed, F_followed⟩ := ok_followed (P := P) (w := w) (base := base) T
  obtain ⟨f_bare_row, fd_bare_row, g_bare_row, k_bare_row, b_bare_row, F_bare_row⟩ := ok_bare_row (P := P) (w := w) (base := base) T
  obtain ⟨f, fd, F, g⟩ := T.d_seen
  refine ⟨f, fd, g, F.kp, fun_bs (ps := ["writing", "setting"]) F (fun _ _ _ _ _ _ us hl => match us, hl with | [_, _], _ => rfl), fn_okG F sc_seen fun cdv A outer s H E hr hG => ?_⟩
  have hN : N_seen.Nodup := sc_seen.nd
  have hu := hr.units
  have hv : (A.deeper (PyProof.Rows.envOfC "seen" (defScope s_seen) s.heap.objs.size f cdv)).units + 65 < cLine := by have := hr.un; omega
  have tk : Takes (cxOf (L2.CX P w) P w K mg base N_seen "seen" (defScope s_seen) f cdv A outer s H E) (fun c d _ H => E c d H) := takes_of rfl rfl rfl rfl
  have hp : PassesOwn (model P w) (A.deeper (PyProof.Rows.envOfC "seen" (defScope s_seen) s.heap.objs.size f cdv)) (PyProof.Rows.envOfC "seen" (defScope s_seen) s.heap.objs.size f cdv) (cxOf (L2.CX P w) P w K mg base N_seen "seen" (defScope s_seen) f cdv A outer s H E).xe := passes_of (X := cxOf (L2.CX P w) P w K mg base N_seen "seen" (defScope s_seen) f cdv A outer s H E) rfl
  exact (s_cons (s_expr (v_callG F_check_writing (hr.mono (by decide)) hG g_check_writing k_check_writing (.all b_check_writing) tk (a_cons (o_n 0) a_nil)))
    (s_cons (s_expr (v_callG F_check_setting (hr.mono (by decide)) hG g_check_setting k_check_setting (.all b_check_setting) tk (a_cons (o_x (v_ix o_ix (o_n 0) (o_x v_int))) (a_cons (o_n 1) a_nil))))
    (s_cons (s_set (i := 2) hN (v_callG F_followed (hr.mono (by decide)) hG g_followed k_followed (.all b_followed) tk (a_cons (o_n 0) (a_cons (o_x (v_callG F_bare_row (hr.mono (by decide)) hG g_bare_row k_bare_row (.all b_bare_row) tk (a_cons (o_n 0) (a_cons (o_n 1) a_nil)))) a_nil))))
    (s_one (s_ret (v_if (t_cmp o_is (o_n 2) (o_x v_non)) v_non (v_comp (own := [("column", 3)]) rfl hN (i_val (v_var 2)) (blkOk_by (N := N_seen) (sc := defScope s_seen) (own := [("column", 3)]) (by decide +kernel)) (by decide) (fun _ _ _ _ _ => (g_name (i := 3) hN)) (fun _ _ _ _ _ => ts_nil) (fun _ _ _ _ _ => (v_sl (o_x (v_var 3)) p_no (p_at (v_ix o_ix (o_n 0) (o_x v_int))))))))))))
theorem ok__law_long_right (T : Txt K mg) : HasFn P w K mg base 9 "_law_long_right" [] 0 m__law_long_right := by
  obtain ⟨f_followed, fd_followed, g_followed, k_followed, b_followed, F_followed⟩ := ok_followed (P := P) (w := w) (base := base) T
  obtain ⟨f_seen, fd_seen, g_seen, k_seen, b_seen, F_seen⟩ := ok_seen (P := P) (w := w) (base := base) T
  obtain ⟨f, fd, F, g⟩ := T.d__law_long_right
  refine ⟨f, fd, g, F.kp, fun_bs (ps := []) F (fun _ _ _ _ _ _ us hl => match us, hl with | [], _ => rfl), fn_okG F sc__law_long_right fun cdv A outer s H E hr hG => ?_⟩
  have hN : N__law_long_right.Nodup := sc__law_long_right.nd
  have hu := hr.units
  have hv : (A.deeper (PyProof.Rows.envOfC "_law_long_right" (defScope s__law_long_right) s.heap.objs.size f cdv)).units + 65 < cLine := by have := hr.un; omega
  have tk : Takes (cxOf (L2.CX P w) P w K mg base N__law_long_right "_law_long_right" (defScope s__law_long_right) f cdv A outer s H E) (fun c d _ H => E c d H) := takes_of rfl rfl rfl rfl
  have hp : PassesOwn (model P w) (A.deeper (PyProof.Rows.envOfC "_law_long_right" (defScope s__law_long_right) s.heap.objs.size f cdv)) (PyProof.Rows.envOfC "_law_long_right" (defScope s__law_long_right) s.heap.objs.size f cdv) (cxOf (L2.CX P w) P w K mg base N__law_long_right "_law_long_right" (defScope s__law_long_right) f cdv A outer s H E).xe := passes_of (X := cxOf (L2.CX P w) P w K mg base N__law_long_right "_law_long_right" (defScope s__law_long_right) f cdv A outer s H E) rfl
  exact (s_cons (s_set (i := 0) hN (v_tup (a_cons (o_x v_int) (a_cons (o_x v_int) (a_cons (o_x (v_tup a_nil)) (a_cons (o_x (v_tup (a_cons (o_x (v_tup (a_cons (o_x (v_un u_neg (o_x v_int))) (a_cons (o_x v_int) a_nil)))) a_nil))) (a_cons (o_x (v_tup (a_cons (o_x (v_tup (a_cons (o_x (v_un u_neg (o_x v_int))) (a_cons (o_x v_int) a_nil)))) (a_cons (o_x (v_tup (a_cons (o_x (v_un u_neg (o_x v_int))) (a_cons (o_x (v_un u_neg (o_x v_int))) a_nil)))) a_nil)))) (a_cons (o_x (v_tup a_nil)) a_nil))))))))
    (s_cons (s_set (i := 1) hN (v_bin o_add (o_x (v_bin o_add (o_x (v_bin o_mul (o_x (v_lst (a_cons (o_x (v_tup (a_cons (o_x v_non) (a_cons (o_x v_non) a_nil)))) a_nil))) (o_x v_int))) (o_x (v_lst (a_cons (o_x (v_tup (a_cons (o_x v_bl) (a_cons (o_x v_non) a_nil)))) a_nil))))) (o_x (v_bin o_mul (o_x (v_lst (a_cons (o_x (v_tup (a_cons (o_x v_non) (a_cons (o_x v_non) a_nil)))) a_nil))) (o_x v_int)))))
    (s_cons (s_if (t_cmp (o_ne hu) (o_x (v_callG F_followed (hr.mono (by decide)) hG g_followed k_followed (.all b_followed) tk (a_cons (o_n 0) (a_cons (o_n 1) a_nil)))) (o_x (v_bin o_add (o_x (v_bin o_add (o_x (v_bin o_mul (o_x (v_lst (a_cons (o_x (v_tup (a_cons (o_x v_bl) (a_cons (o_x v_bl) a_nil)))) a_nil))) (o_x v_int))) (o_x (v_lst (a_cons (o_x (v_tup (a_cons (o_x v_bl) (a_cons (o_x v_bl) a_nil)))) a_nil))))) (o_x (v_bin o_mul (o_x (v_lst (a_cons (o_x (v_tup (a_cons (o_x v_bl) (a_cons (o_x v_bl) a_nil)))) a_nil))) (o_x v_int)))))) (s_one (s_ret v_bl)) s_nil)
    (s_cons (s_if (t_cmp o_isNot (o_x (v_callG F_followed (hr.mono (by decide)) hG g_followed k_followed (.all b_followed) tk (a_cons (o_n 0) (a_cons (o_x (v_bin o_add (o_x (v_bin o_add (o_x (v_sl (o_n 1) p_no (p_at v_int))) (o_x (v_lst (a_cons (o_x (v_tup (a_cons (o_x v_bl) (a_cons (o_x v_non) a_nil)))) a_nil))))) (o_x (v_sl (o_n 1) p_no (p_at v_int))))) a_nil)))) (o_x v_non)) (s_one (s_ret v_bl)) s_nil)
    (s_cons (s_set (i := 2) hN (v_bin o_add (o_x (v_bin o_mul (o_x (v_lst (a_cons (o_x (v_tup (a_cons (o_x v_non) a_nil))) a_nil))) (o_x v_int))) (o_x (v_lst (a_cons (o_x (v_tup (a_cons (o_x v_bl) a_nil))) a_nil)))))
    (s_one (s_ret (v_and (v_cmp (o_eq hu) (o_x (v_callG F_seen (hr.mono (by decide)) hG g_seen k_seen (.all b_seen) tk (a_cons (o_n 0) (a_cons (o_n 2) a_nil)))) (o_x (v_bin o_add (o_x (v_bin o_mul (o_x (v_lst (a_cons (o_x (v_tup (a_cons (o_x v_bl) a_nil))) a_nil))) (o_x v_int))) (o_x (v_lst (a_cons (o_x (v_tup (a_cons (o_x v_bl) a_nil))) a_nil)))))) (v_one (v_cmp o_is (o_x (v_callG F_seen (hr.mono (by decide)) hG g_seen k_seen (.all b_seen) tk (a_cons (o_n 0) (a_cons (o_x (v_bin o_add (o_n 2) (o_x (v_lst (a_cons (o_x (v_tup (a_cons (o_x v_bl) a_nil))) a_nil))))) a_nil)))) (o_x v_non)))))))))))
theorem ok__law_knowns (T : Txt K mg) : HasFn P w K mg base 1 "_law_knowns" [] 0 m__law_knowns := by
  obtain ⟨f, fd, F, g⟩ := T.d__law_knowns
  refine ⟨f, fd, g, F.kp, fun_bs (ps := []) F (fun _ _ _ _ _ _ us hl => match us, hl with | [], _ => rfl), fn_okG F sc__law_knowns fun cdv A outer s H E hr hG => ?_⟩
  have hN : N__law_knowns.Nodup := sc__law_knowns.nd
  have hu := hr.units
  have hv : (A.deeper (PyProof.Rows.envOfC "_law_knowns" (defScope s__law_knowns) s.heap.objs.size f cdv)).units + 65 < cLine := by have := hr.un; omega
  have tk : Takes (cxOf (L2.CX P w) P w K mg base N__law_knowns "_law_knowns" (defScope s__law_knowns) f cdv A outer s H E) (fun c d _ H => E c d H) := takes_of rfl rfl rfl rfl
  have hp : PassesOwn (model P w) (A.deeper (PyProof.Rows.envOfC "_law_knowns" (defScope s__law_knowns) s.heap.objs.size f cdv)) (PyProof.Rows.envOfC "_law_knowns" (defScope s__law_knowns) s.heap.objs.size f cdv) (cxOf (L2.CX P w) P w K mg base N__law_knowns "_law_knowns" (defScope s__law_knowns) f cdv A outer s H E).xe := passes_of (X := cxOf (L2.CX P w) P w K mg base N__law_knowns "_law_knowns" (defScope s__law_knowns) f cdv A outer s H E) rfl
  exact (s_cons (s_new (i := 0) hN (v_lst (a_cons (o_x (v_tup (a_cons (o_x v_int) (a_cons (o_x v_int) (a_cons (o_x (v_tup a_nil)) (a_cons (o_x (v_tup (a_cons (o_x (v_tup (a_cons (o_x (v_un u_neg (o_x v_int))) (a_cons (o_x v_int) a_nil)))) a_nil))) (a_cons (o_x (v_tup (a_cons (o_x (v_tup (a_cons (o_x (v_un u_neg (o_x v_int))) (a_cons (o_x v_int) a_nil)))) (a_cons (o_x (v_tup (a_cons (o_x (v_un u_neg (o_x v_int))) (a_cons (o_x (v_un u_neg (o_x v_int))) a_nil)))) a_nil)))) (a_cons (o_x (v_tup a_nil)) a_nil)))))))) a_nil)))
    (s_cons (s_expr (v_meth (i := 0) m_app PySem.F.slot_list_append PySem.F.type_list_append (a_cons (o_x (v_tup (a_cons (o_x v_int) (a_cons (o_x v_int) (a_cons (o_x (v_tup (a_cons (o_x (v_tup (a_cons (o_x (v_un u_neg (o_x v_int))) (a_cons (o_x v_int) a_nil)))) a_nil))) (a_cons (o_x (v_tup (a_cons (o_x (v_tup (a_cons (o_x (v_un u_neg (o_x v_int))) (a_cons (o_x v_int) a_nil)))) a_nil))) (a_cons (o_x (v_tup (a_cons (o_x (v_tup (a_cons (o_x (v_un u_neg (o_x v_int))) (a_cons (o_x v_int) (a_cons (o_x v_int) a_nil))))) (a_cons (o_x (v_tup (a_cons (o_x (v_un u_neg (o_x v_int))) (a_cons (o_x (v_un u_neg (o_x v_int))) a_nil)))) (a_cons (o_x (v_tup (a_cons (o_x (v_un u_neg (o_x v_int))) (a_cons (o_x v_int) a_nil)))) a_nil))))) (a_cons (o_x (v_tup (a_cons (o_x (v_tup (a_cons (o_x v_int) a_nil))) a_nil))) a_nil)))))))) a_nil)))
    (s_cons (s_expr (v_meth (i := 0) m_app PySem.F.slot_list_append PySem.F.type_list_append (a_cons (o_x (v_tup (a_cons (o_x v_int) (a_cons (o_x v_int) (a_cons (o_x (v_tup a_nil)) (a_cons (o_x (v_tup (a_cons (o_x (v_tup (a_cons (o_x (v_un u_neg (o_x v_int))) (a_cons (o_x v_int) a_nil)))) a_nil))) (a_cons (o_x (v_tup (a_cons (o_x (v_tup (a_cons (o_x (v_un u_neg (o_x v_int))) (a_cons (o_x v_int) a_nil)))) (a_cons (o_x (v_tup (a_cons (o_x (v_un u_neg (o_x v_int))) (a_cons (o_x (v_un u_neg (o_x v_int))) (a_cons (o_x v_int) a_nil))))) (a_cons (o_x (v_tup (a_cons (o_x (v_un u_neg (o_x v_int))) (a_cons (o_x (v_un u_neg (o_x v_int))) (a_cons (o_x (v_un u_neg (o_x v_int))) a_nil))))) a_nil))))) (a_cons (o_x (v_tup a_nil)) a_nil)))))))) a_nil)))
    (s_cons (s_set (i := 1) hN (v_tup (a_cons (o_x (v_tup (a_cons (o_x (v_un u_neg (o_x v_int))) (a_cons (o_x v_int) a_nil)))) (a_cons (o_x (v_tup (a_cons (o_x (v_un u_neg (o_x v_int))) (a_cons (o_x v_int) a_nil)))) (a_cons (o_x (v_tup (a_cons (o_x (v_un u_neg (o_x v_int))) (a_cons (o_x (v_un u_neg (o_x v_int))) (a_cons (o_x v_int) a_nil))))) (a_cons (o_x (v_tup (a_cons (o_x (v_un u_neg (o_x v_int))) (a_cons (o_x (v_un u_neg (o_x v_int))) a_nil)))) a_nil))))))
    (s_cons (s_expr (v_meth (i := 0) m_app PySem.F.slot_list_append PySem.F.type_list_append (a_cons (o_x (v_tup (a_cons (o_x v_int) (a_cons (o_x v_int) (a_cons (o_x (v_tup (a_cons (o_x (v_tup (a_cons (o_x (v_un u_neg (o_x v_int))) a_nil))) a_nil))) (a_cons (o_x (v_tup (a_cons (o_x (v_tup (a_cons (o_x (v_un u_neg (o_x v_int))) (a_cons (o_x v_int) a_nil)))) a_nil))) (a_cons (o_x (v_var 1)) (a_cons (o_x (v_tup a_nil)) a_nil)))))))) a_nil)))
    (s_cons (s_expr (v_meth (i := 0) m_app PySem.F.slot_list_append PySem.F.type_list_append (a_cons (o_x (v_tup (a_cons (o_x v_int) (a_cons (o_x v_int) (a_cons (o_x (v_tup a_nil)) (a_cons (o_x (v_tup a_nil)) (a_cons (o_x (v_tup (a_cons (o_x (v_tup (a_cons (o_x (v_un u_neg (o_x v_int))) (a_cons (o_x (v_un u_neg (o_x v_int))) a_nil)))) a_nil))) (a_cons (o_x (v_tup a_nil)) a_nil)))))))) a_nil)))
    (s_cons (s_set (i := 1) hN (v_tup (a_cons (o_x (v_tup (a_cons (o_x (v_un u_neg (o_x v_int))) (a_cons (o_x (v_un u_neg (o_x v_int))) (a_cons (o_x (v_un u_neg (o_x v_int))) a_nil))))) (a_cons (o_x (v_tup (a_cons (o_x (v_un u_neg (o_x v_int))) (a_cons (o_x v_int) (a_cons (o_x v_int) a_nil))))) (a_cons (o_x (v_tup (a_cons (o_x (v_un u_neg (o_x v_int))) (a_cons (o_x v_int) (a_cons (o_x v_int) a_nil))))) (a_cons (o_x (v_tup (a_cons (o_x (v_un u_neg (o_x v_int))) (a_cons (o_x v_int) (a_cons (o_x v_int) a_nil))))) a_nil))))))
    (s_cons (s_expr (v_meth (i := 0) m_app PySem.F.slot_list_append PySem.F.type_list_append (a_cons (o_x (v_tup (a_cons (o_x v_int) (a_cons (o_x v_int) (a_cons (o_x (v_tup (a_cons (o_x (v_tup (a_cons (o_x (v_un u_neg (o_x v_int))) (a_cons (o_x v_int) a_nil)))) (a_cons (o_x (v_tup (a_cons (o_x (v_un u_neg (o_x v_int))) (a_cons (o_x v_int) a_nil)))) a_nil)))) (a_cons (o_x (v_tup a_nil)) (a_cons (o_x (v_var 1)) (a_cons (o_x (v_tup (a_cons (o_x (v_tup (a_cons (o_x v_int) a_nil))) a_nil))) a_nil)))))))) a_nil)))
    (s_cons (s_expr (v_meth (i := 0) m_app PySem.F.slot_list_append PySem.F.type_list_append (a_cons (o_x (v_tup (a_cons (o_x v_int) (a_cons (o_x v_int) (a_cons (o_x (v_tup a_nil)) (a_cons (o_x (v_tup (a_cons (o_x (v_tup (a_cons (o_x (v_un u_neg (o_x v_int))) (a_cons (o_x (v_un u_neg (o_x v_int))) a_nil)))) a_nil))) (a_cons (o_x (v_tup (a_cons (o_x (v_tup (a_cons (o_x (v_un u_neg (o_x v_int))) (a_cons (o_x (v_un u_neg (o_x v_int))) a_nil)))) (a_cons (o_x (v_tup (a_cons (o_x (v_un u_neg (o_x v_int))) (a_cons (o_x (v_un u_neg (o_x v_int))) a_nil)))) a_nil)))) (a_cons (o_x (v_tup (a_cons (o_x (v_tup (a_cons (o_x v_int) (a_cons (o_x v_int) a_nil)))) a_nil))) a_nil)))))))) a_nil)))
    (s_cons (s_expr (v_meth (i := 0) m_app PySem.F.slot_list_append PySem.F.type_list_append (a_cons (o_x (v_tup (a_cons (o_x v_int) (a_cons (o_x v_int) (a_cons (o_x (v_tup a_nil)) (a_cons (o_x (v_tup (a_cons (o_x (v_tup (a_cons (o_x (v_un u_neg (o_x v_int))) (a_cons (o_x (v_un u_neg (o_x v_int))) (a_cons (o_x v_int) a_nil))))) (a_cons (o_x (v_tup (a_cons (o_x (v_un u_neg (o_x v_int))) (a_cons (o_x (v_un u_neg (o_x v_int))) (a_cons (o_x v_int) a_nil))))) a_nil)))) (a_cons (o_x (v_tup (a_cons (o_x (v_tup (a_cons (o_x (v_un u_neg (o_x v_int))) (a_cons (o_x v_int) a_nil)))) a_nil))) (a_cons (o_x (v_tup (a_cons (o_x (v_tup (a_cons (o_x v_int) a_nil))) a_nil))) a_nil)))))))) a_nil)))
    (s_one (s_ret (v_take 0)))))))))))))
theorem ok__law_next (T : Txt K mg) : HasFn P w K mg base 1 "_law_next" ["pen"] 1 m__law_next := by
  obtain ⟨f, fd, F, g⟩ := T.d__law_next
  refine ⟨f, fd, g, F.kp, fun_bs (ps := ["pen"]) F (fun _ _ _ _ _ _ us hl => match us, hl with | [_], _ => rfl), fn_okG F sc__law_next fun cdv A outer s H E hr hG => ?_⟩
  have hN : N__law_next.Nodup := sc__law_next.nd
  have hu := hr.units
  have hv : (A.deeper (PyProof.Rows.envOfC "_law_next" (defScope s__law_next) s.heap.objs.size f cdv)).units + 65 < cLine := by have := hr.un; omega
  have tk : Takes (cxOf (L2.CX P w) P w K mg base N__law_next "_law_next" (defScope s__law_next) f cdv A outer s H E) (fun c d _ H => E c d H) := takes_of rfl rfl rfl rfl
  have hp : PassesOwn (model P w) (A.deeper (PyProof.Rows.envOfC "_law_next" (defScope s__law_next) s.heap.objs.size f cdv)) (PyProof.Rows.envOfC "_law_next" (defScope s__law_next) s.heap.objs.size f cdv) (cxOf (L2.CX P w) P w K mg base N__law_next "_law_next" (defScope s__law_next) f cdv A outer s H E).xe := passes_of (X := cxOf (L2.CX P w) P w K mg base N__law_next "_law_next" (defScope s__law_next) f cdv A outer s H E) rfl
  exact (s_cons (s_set (i := 1) hN (v_ix o_ix (o_n 0) (o_x v_int)))
    (s_cons (s_store (i := 0) (v_bin o_add (o_n 1) (o_x v_int)) v_int)
    (s_cons (s_set (i := 2) hN (v_bin o_add (o_x (v_bin o_mul (o_n 1) (o_x v_int))) (o_x v_int)))
    (s_cons (s_if (t_cmp (o_ne hu) (o_x (v_ix o_ix (o_n 0) (o_x v_int))) (o_x (v_lst a_nil))) (s_one (s_set (i := 2) hN (v_ix o_ix (o_x (v_ix o_ix (o_n 0) (o_x v_int))) (o_x (v_bin o_mod (o_x (v_T c_int T.z_int rfl (a_cons (o_n 1) a_nil))) (o_x (v_B c_len T.z_len rfl (a_cons (o_x (v_ix o_ix (o_n 0) (o_x v_int))) a_nil)))))))) s_nil)
    (s_cons (s_if (t_of (w_and (t_cmp o_lt (o_n 1) (o_x (v_B c_len T.z_len rfl (a_cons (o_x (v_ix o_ix (o_n 0) (o_x v_int))) a_nil)))) (w_and1 (t_cmp o_ge (o_n 2) (o_x (v_bin o_pow (o_x v_int) (o_x v_int))))))) (s_one (s_ret (v_var 2))) s_nil)
    (s_cons (s_set (i := 3) hN (v_bin o_mod (o_x (v_T c_int T.z_int rfl (a_cons (o_x (v_bin o_add (o_x (v_bin o_add (o_x (v_bin o_mod (o_x (v_T c_int T.z_int rfl (a_cons (o_n 2) a_nil))) (o_x v_int))) (o_x (v_bin o_mul (o_n 1) (o_x v_int))))) (o_x v_int))) a_nil))) (o_x v_int)))
    (s_cons (s_set (i := 4) hN (v_bin o_mod (o_x (v_T c_int T.z_int rfl (a_cons (o_x (v_bin o_add (o_x (v_bin o_add (o_x (v_bin o_mul (o_n 3) (o_n 3))) (o_x (v_bin o_mul (o_n 1) (o_x v_int))))) (o_x v_int))) a_nil))) (o_x v_int)))
    (s_cons (s_set (i := 5) hN (v_bin o_mod (o_x (v_T c_int T.z_int rfl (a_cons (o_x (v_bin o_add (o_x (v_bin o_add (o_x (v_bin o_mul (o_n 4) (o_n 4))) (o_n 3))) (o_x (v_bin o_mul (o_x (v_bin o_mul (o_n 1) (o_n 1))) (o_x v_int))))) a_nil))) (o_x v_int)))
    (s_one (s_ret (v_bin o_add (o_x (v_bin o_mul (o_x (v_bin o_add (o_x (v_bin o_mul (o_n 5) (o_x v_int))) (o_n 4))) (o_x v_int))) (o_n 3))))))))))))
theorem ok__law_draw (T : Txt K mg) : HasFn P w K mg base 2 "_law_draw" ["pen", "under"] 2 m__law_draw := by
  obtain ⟨f__law_next, fd__law_next, g__law_next, k__law_next, b__law_next, F__law_next⟩ := ok__law_next (P := P) (w := w) (base := base) T
  obtain ⟨f, fd, F, g⟩ := T.d__law_draw
  refine ⟨f, fd, g, F.kp, fun_bs (ps := ["pen", "under"]) F (fun _ _ _ _ _ _ us hl => match us, hl with | [_, _], _ => rfl), fn_okG F sc__law_draw fun cdv A outer s H E hr hG => ?_⟩
  have hN : N__law_draw.Nodup := sc__law_draw.nd
  have hu := hr.units
  have hv : (A.deeper (PyProof.Rows.envOfC "_law_draw" (defScope s__law_draw) s.heap.objs.size f cdv)).units + 65 < cLine := by have := hr.un; omega
  have tk : Takes (cxOf (L2.CX P w) P w K mg base N__law_draw "_law_draw" (defScope s__law_draw) f cdv A outer s H E) (fun c d _ H => E c d H) := takes_of rfl rfl rfl rfl
  have hp : PassesOwn (model P w) (A.deeper (PyProof.Rows.envOfC "_law_draw" (defScope s__law_draw) s.heap.objs.size f cdv)) (PyProof.Rows.envOfC "_law_draw" (defScope s__law_draw) s.heap.objs.size f cdv) (cxOf (L2.CX P w) P w K mg base N__law_draw "_law_draw" (defScope s__law_draw) f cdv A outer s H E).xe := passes_of (X := cxOf (L2.CX P w) P w K mg base N__law_draw "_law_draw" (defScope s__law_draw) f cdv A outer s H E) rfl
  exact (s_cons (s_if (t_cmp o_lt (o_x (v_ix o_ix (o_n 0) (o_x v_int))) (o_n 1)) (s_one (s_store (i := 0) (v_callG F__law_next (hr.mono (by decide)) hG g__law_next k__law_next (.all b__law_next) tk (a_cons (o_n 0) a_nil)) v_int)) s_nil)
    (s_cons (s_set (i := 2) hN (v_bin o_mod (o_x (v_T c_int T.z_int rfl (a_cons (o_x (v_ix o_ix (o_n 0) (o_x v_int))) a_nil))) (o_n 1)))
    (s_cons (s_store (i := 0) (v_bin o_div (o_x (v_ix o_ix (o_n 0) (o_x v_int))) (o_n 1)) v_int)
    (s_one (s_ret (v_var 2))))))
theorem ok__law_clause (T : Txt K mg) : HasFn P w K mg base 3 "_law_clause" ["pen", "size", "most"] 3 m__law_clause := by
  obtain ⟨f__law_draw, fd__law_draw, g__law_draw, k__law_draw, b__law_draw, F__law_draw⟩ := ok__law_draw (P := P) (w := w) (base := base) T
  obtain ⟨f, fd, F, g⟩ := T.d__law_clause
  refine ⟨f, fd, g, F.kp, fun_bs (ps := ["pen", "size", "most"]) F (fun _ _ _ _ _ _ us hl => match us, hl with | [_, _, _], _ => rfl), fn_okG F sc__law_clause fun cdv A outer s H E hr hG => ?_⟩
  have hN : N__law_clause.Nodup := sc__law_clause.nd
  have hu := hr.units
  have hv : (A.deeper (PyProof.Rows.envOfC "_law_clause" (defScope s__law_clause) s.heap.objs.size f cdv)).units + 65 < cLine := by have := hr.un; omega
  have tk : Takes (cxOf (L2.CX P w) P w K mg base N__law_clause "_law_clause" (defScope s__law_clause) f cdv A outer s H E) (fun c d _ H => E c d H) := takes_of rfl rfl rfl rfl
  have hp : PassesOwn (model P w) (A.deeper (PyProof.Rows.envOfC "_law_clause" (defScope s__law_clause) s.heap.objs.size f cdv)) (PyProof.Rows.envOfC "_law_clause" (defScope s__law_clause) s.heap.objs.size f cdv) (cxOf (L2.CX P w) P w K mg base N__law_clause "_law_clause" (defScope s__law_clause) f cdv A outer s H E).xe := passes_of (X := cxOf (L2.CX P w) P w K mg base N__law_clause "_law_clause" (defScope s__law_clause) f cdv A outer s H E) rfl
  exact (s_cons (s_par (i := 3) (j := 4) rfl hN (ps_cons' (nw := true) (v_lstRg2 rfl T.z_list T.z_range v_int (v_bin o_add (o_n 1) (o_x v_int))) (ps_cons' (nw := true) (v_lst a_nil) ps_nil')))
    (s_cons (s_for hp rfl (i_range1 T.z_range (a_cons (o_x (v_bin o_add (o_x v_int) (o_x (v_callG F__law_draw (hr.mono (by decide)) hG g__law_draw k__law_draw (.all b__law_draw) tk (a_cons (o_n 0) (a_cons (o_x (v_B (c_min rfl) T.z_min rfl (a_cons (o_n 2) (a_cons (o_n 1) a_nil)))) a_nil)))))) a_nil)) (g_name (i := 5) hN) (s_cons (s_set (i := 6) hN (v_meth (i := 3) m_popAt PySem.F.slot_list_pop PySem.F.type_list_pop (a_cons (o_x (v_callG F__law_draw (hr.mono (by decide)) hG g__law_draw k__law_draw (.all b__law_draw) tk (a_cons (o_n 0) (a_cons (o_x (v_B c_len T.z_len rfl (a_cons (o_n 3) a_nil))) a_nil)))) a_nil)))
    (s_one (s_expr (v_meth (i := 4) m_app PySem.F.slot_list_append PySem.F.type_list_append (a_cons (o_x (v_if (t_cmp (o_eq hu) (o_x (v_callG F__law_draw (hr.mono (by decide)) hG g__law_draw k__law_draw (.all b__law_draw) tk (a_cons (o_n 0) (a_cons (o_x v_int) a_nil)))) (o_x v_int)) (v_var 6) (v_un u_neg (o_n 6)))) a_nil))))))
    (s_one (s_ret (v_T c_tuple T.z_tuple rfl (a_cons (o_x (v_B c_sorted T.z_sorted rfl (a_cons (o_n 4) a_nil))) a_nil))))))
theorem ok__law_lot (T : Txt K mg) : HasFn P w K mg base 4 "_law_lot" ["pen", "size", "most", "long"] 4 m__law_lot := by
  obtain ⟨f__law_draw, fd__law_draw, g__law_draw, k__law_draw, b__law_draw, F__law_draw⟩ := ok__law_draw (P := P) (w := w) (base := base) T
  obtain ⟨f__law_clause, fd__law_clause, g__law_clause, k__law_clause, b__law_clause, F__law_clause⟩ := ok__law_clause (P := P) (w := w) (base := base) T
  obtain ⟨f, fd, F, g⟩ := T.d__law_lot
  refine ⟨f, fd, g, F.kp, fun_bs (ps := ["pen", "size", "most", "long"]) F (fun _ _ _ _ _ _ us hl => match us, hl with | [_, _, _, _], _ => rfl), fn_okG F sc__law_lot fun cdv A outer s H E hr hG => ?_⟩
  have hN : N__law_lot.Nodup := sc__law_lot.nd
  have hu := hr.units
  have hv : (A.deeper (PyProof.Rows.envOfC "_law_lot" (defScope s__law_lot) s.heap.objs.size f cdv)).units + 65 < cLine := by have := hr.un; omega
  have tk : Takes (cxOf (L2.CX P w) P w K mg base N__law_lot "_law_lot" (defScope s__law_lot) f cdv A outer s H E) (fun c d _ H => E c d H) := takes_of rfl rfl rfl rfl
  have hp : PassesOwn (model P w) (A.deeper (PyProof.Rows.envOfC "_law_lot" (defScope s__law_lot) s.heap.objs.size f cdv)) (PyProof.Rows.envOfC "_law_lot" (defScope s__law_lot) s.heap.objs.size f cdv) (cxOf (L2.CX P w) P w K mg base N__law_lot "_law_lot" (defScope s__law_lot) f cdv A outer s H E).xe := passes_of (X := cxOf (L2.CX P w) P w K mg base N__law_lot "_law_lot" (defScope s__law_lot) f cdv A outer s H E) rfl
  exact (s_cons (s_new (i := 4) hN (v_lst a_nil))
    (s_cons (s_for hp rfl (i_range1 T.z_range (a_cons (o_x (v_callG F__law_draw (hr.mono (by decide)) hG g__law_draw k__law_draw (.all b__law_draw) tk (a_cons (o_n 0) (a_cons (o_x (v_bin o_add (o_n 2) (o_x v_int))) a_nil)))) a_nil)) (g_name (i := 5) hN) (s_cons (s_set (i := 6) hN (v_callG F__law_clause (hr.mono (by decide)) hG g__law_clause k__law_clause (.all b__law_clause) tk (a_cons (o_n 0) (a_cons (o_n 1) (a_cons (o_n 3) a_nil)))))
    (s_one (s_if (t_cmp (o_notIn hv) (o_n 6) (o_n 4)) (s_one (s_expr (v_meth (i := 4) m_app PySem.F.slot_list_append PySem.F.type_list_append (a_cons (o_x (v_var 6)) a_nil)))) s_nil))))
    (s_one (s_ret (v_T c_tuple T.z_tuple rfl (a_cons (o_n 4) a_nil))))))
theorem ok__law_writing (T : Txt K mg) : HasFn P w K mg base 5 "_law_writing" ["pen", "inputs", "size", "most"] 4 m__law_writing := by
  obtain ⟨f__law_knowns, fd__law_knowns, g__law_knowns, k__law_knowns, b__law_knowns, F__law_knowns⟩ := ok__law_knowns (P := P) (w := w) (base := base) T
  obtain ⟨f__law_draw, fd__law_draw, g__law_draw, k__law_draw, b__law_draw, F__law_draw⟩ := ok__law_draw (P := P) (w := w) (base := base) T
  obtain ⟨f__law_lot, fd__law_lot, g__law_lot, k__law_lot, b__law_lot, F__law_lot⟩ := ok__law_lot (P := P) (w := w) (base := base) T
  obtain ⟨f, fd, F, g⟩ := T.d__law_writing
  refine ⟨f, fd, g, F.kp, fun_bs (ps := ["pen", "inputs", "size", "most"]) F (fun _ _ _ _ _ _ us hl => match us, hl with | [_, _, _, _], _ => rfl), fn_okG F sc__law_writing fun cdv A outer s H E hr hG => ?_⟩
  have hN : N__law_writing.Nodup := sc__law_writing.nd
  have hu := hr.units
  have hv : (A.deeper (PyProof.Rows.envOfC "_law_writing" (defScope s__law_writing) s.heap.objs.size f cdv)).units + 65 < cLine := by have := hr.un; omega
  have tk : Takes (cxOf (L2.CX P w) P w K mg base N__law_writing "_law_writing" (defScope s__law_writing) f cdv A outer s H E) (fun c d _ H => E c d H) := takes_of rfl rfl rfl rfl
  have hp : PassesOwn (model P w) (A.deeper (PyProof.Rows.envOfC "_law_writing" (defScope s__law_writing) s.heap.objs.size f cdv)) (PyProof.Rows.envOfC "_law_writing" (defScope s__law_writing) s.heap.objs.size f cdv) (cxOf (L2.CX P w) P w K mg base N__law_writing "_law_writing" (defScope s__law_writing) f cdv A outer s H E).xe := passes_of (X := cxOf (L2.CX P w) P w K mg base N__law_writing "_law_writing" (defScope s__law_writing) f cdv A outer s H E) rfl
  exact (s_cons (s_set (i := 4) hN (v_ix o_ix (o_x (v_callG0 F__law_knowns (hr.mono (by decide)) hG g__law_knowns k__law_knowns (.all b__law_knowns) tk)) (o_x (v_callG F__law_draw (hr.mono (by decide)) hG g__law_draw k__law_draw (.all b__law_draw) tk (a_cons (o_n 0) (a_cons (o_x v_int) a_nil))))))
    (s_cons (s_if (t_of (w_and (t_cmp o_le (o_x (v_ix o_ix (o_n 4) (o_x v_int))) (o_n 2)) (w_and1 (t_cmp (o_eq hu) (o_x (v_callG F__law_draw (hr.mono (by decide)) hG g__law_draw k__law_draw (.all b__law_draw) tk (a_cons (o_n 0) (a_cons (o_x v_int) a_nil)))) (o_x v_int))))) (s_cons (s_set (i := 5) hN (v_bin o_add (o_x v_int) (o_x (v_callG F__law_draw (hr.mono (by decide)) hG g__law_draw k__law_draw (.all b__law_draw) tk (a_cons (o_n 0) (a_cons (o_x v_int) a_nil))))))
    (s_cons (s_set (i := 6) hN (v_callG F__law_draw (hr.mono (by decide)) hG g__law_draw k__law_draw (.all b__law_draw) tk (a_cons (o_n 0) (a_cons (o_x (v_bin o_add (o_x (v_B c_len T.z_len rfl (a_cons (o_x (v_ix o_ix (o_n 4) (o_n 5))) a_nil))) (o_x v_int))) a_nil))))
    (s_cons (s_set (i := 7) hN (v_bin o_add (o_x (v_sl (o_x (v_ix o_ix (o_n 4) (o_n 5))) p_no (p_at (v_var 6)))) (o_x (v_sl (o_x (v_ix o_ix (o_n 4) (o_n 5))) (p_at (v_bin o_add (o_n 6) (o_x v_int))) p_no))))
    (s_one (s_ret (v_bin o_add (o_x (v_bin o_add (o_x (v_sl (o_n 4) p_no (p_at (v_var 5)))) (o_x (v_tup (a_cons (o_x (v_var 7)) a_nil))))) (o_x (v_sl (o_n 4) (p_at (v_bin o_add (o_n 5) (o_x v_int))) p_no)))))))) s_nil)
    (s_cons (s_set (i := 2) hN (v_bin o_add (o_n 1) (o_x (v_callG F__law_draw (hr.mono (by decide)) hG g__law_draw k__law_draw (.all b__law_draw) tk (a_cons (o_n 0) (a_cons (o_x (v_bin o_add (o_x (v_bin o_sub (o_n 2) (o_n 1))) (o_x v_int))) a_nil))))))
    (s_cons (s_set (i := 8) hN (v_lst (a_cons (o_x (v_callG F__law_lot (hr.mono (by decide)) hG g__law_lot k__law_lot (.all b__law_lot) tk (a_cons (o_n 0) (a_cons (o_n 2) (a_cons (o_x v_int) (a_cons (o_x v_int) a_nil)))))) (a_cons (o_x (v_callG F__law_lot (hr.mono (by decide)) hG g__law_lot k__law_lot (.all b__law_lot) tk (a_cons (o_n 0) (a_cons (o_n 2) (a_cons (o_x v_int) (a_cons (o_x v_int) a_nil)))))) (a_cons (o_x (v_callG F__law_lot (hr.mono (by decide)) hG g__law_lot k__law_lot (.all b__law_lot) tk (a_cons (o_n 0) (a_cons (o_x (v_bin o_mul (o_x v_int) (o_n 2))) (a_cons (o_n 3) (a_cons (o_x v_int) a_nil)))))) a_nil)))))
    (s_one (s_ret (v_bin o_add (o_x (v_bin o_add (o_x (v_tup (a_cons (o_x (v_var 1)) (a_cons (o_x (v_var 2)) a_nil)))) (o_x (v_T c_tuple T.z_tuple rfl (a_cons (o_n 8) a_nil))))) (o_x (v_tup (a_cons (o_x (v_callG F__law_lot (hr.mono (by decide)) hG g__law_lot k__law_lot (.all b__law_lot) tk (a_cons (o_n 0) (a_cons (o_n 2) (a_cons (o_x v_int) (a_cons (o_x v_int) a_nil)))))) a_nil))))))))))
theorem ok__law_flat (T : Txt K mg) : HasFn P w K mg base 1 "_law_flat" ["writing", "many"] 2 m__law_flat := by
  obtain ⟨f, fd, F, g⟩ := T.d__law_flat
  refine ⟨f, fd, g, F.kp, fun_bs (ps := ["writing", "many"]) F (fun _ _ _ _ _ _ us hl => match us, hl with | [_, _], _ => rfl), fn_okG F sc__law_flat fun cdv A outer s H E hr hG => ?_⟩
  have hN : N__law_flat.Nodup := sc__law_flat.nd
  have hu := hr.units
  have hv : (A.deeper (PyProof.Rows.envOfC "_law_flat" (defScope s__law_flat) s.heap.objs.size f cdv)).units + 65 < cLine := by have := hr.un; omega
  have tk : Takes (cxOf (L2.CX P w) P w K mg base N__law_flat "_law_flat" (defScope s__law_flat) f cdv A outer s H E) (fun c d _ H => E c d H) := takes_of rfl rfl rfl rfl
  have hp : PassesOwn (model P w) (A.deeper (PyProof.Rows.envOfC "_law_flat" (defScope s__law_flat) s.heap.objs.size f cdv)) (PyProof.Rows.envOfC "_law_flat" (defScope s__law_flat) s.heap.objs.size f cdv) (cxOf (L2.CX P w) P w K mg base N__law_flat "_law_flat" (defScope s__law_flat) f cdv A outer s H E).xe := passes_of (X := cxOf (L2.CX P w) P w K mg base N__law_flat "_law_flat" (defScope s__law_flat) f cdv A outer s H E) rfl
  exact (s_cons (s_set (i := 2) hN (v_lst a_nil))
    (s_cons (s_for hp rfl (i_enum T.z_enumerate (a_cons (o_x (v_lst (a_cons (o_x v_str) (a_cons (o_x v_str) (a_cons (o_x v_str) (a_cons (o_x v_str) a_nil)))))) a_nil)) (g_tup rfl (gs_cons (g_name (i := 3) hN) (gs_cons (g_name (i := 4) hN) gs_nil))) (s_cons (s_set (i := 5) hN (v_ix o_ix (o_x (v_lst (a_cons (o_x (v_lst (a_cons (o_x v_int) a_nil))) (a_cons (o_x (v_lstRg1 rfl T.z_list T.z_range (v_var 1))) (a_cons (o_x (v_lstRg1 rfl T.z_list T.z_range (v_bin o_sub (o_n 1) (o_x v_int)))) (a_cons (o_x (v_lst (a_cons (o_x (v_bin o_sub (o_n 1) (o_x v_int))) a_nil))) a_nil)))))) (o_n 3)))
    (s_one (s_for hp rfl (i_enum T.z_enumerate (a_cons (o_x (v_ix o_ix (o_n 0) (o_x (v_bin o_add (o_x v_int) (o_n 3))))) a_nil)) (g_tup rfl (gs_cons (g_name (i := 6) hN) (gs_cons (g_name (i := 7) hN) gs_nil))) (s_one (s_set (i := 2) hN (v_bin o_add (o_n 2) (o_x (v_comp (own := [("column", 8)]) rfl hN (i_val (v_var 5)) (blkOk_by (N := N__law_flat) (sc := defScope s__law_flat) (own := [("column", 8)]) (by decide +kernel)) (by decide) (fun _ _ _ _ _ => (g_name (i := 8) hN)) (fun _ _ _ _ _ => ts_nil) (fun _ _ _ _ _ => (v_tup (a_cons (o_x (v_var 4)) (a_cons (o_x (v_var 6)) (a_cons (o_x (v_var 8)) (a_cons (o_x (v_var 7)) a_nil)))))))))))))))
    (s_one (s_ret (v_var 2)))))
theorem ok__law_entries (T : Txt K mg) : HasFn P w K mg base 1 "_law_entries" ["row", "column"] 2 m__law_entries := by
  obtain ⟨f, fd, F, g⟩ := T.d__law_entries
  refine ⟨f, fd, g, F.kp, fun_bs (ps := ["row", "column"]) F (fun _ _ _ _ _ _ us hl => match us, hl with | [_, _], _ => rfl), fn_okG F sc__law_entries fun cdv A outer s H E hr hG => ?_⟩
  have hN : N__law_entries.Nodup := sc__law_entries.nd
  have hu := hr.units
  have hv : (A.deeper (PyProof.Rows.envOfC "_law_entries" (defScope s__law_entries) s.heap.objs.size f cdv)).units + 65 < cLine := by have := hr.un; omega
  have tk : Takes (cxOf (L2.CX P w) P w K mg base N__law_entries "_law_entries" (defScope s__law_entries) f cdv A outer s H E) (fun c d _ H => E c d H) := takes_of rfl rfl rfl rfl
  have hp : PassesOwn (model P w) (A.deeper (PyProof.Rows.envOfC "_law_entries" (defScope s__law_entries) s.heap.objs.size f cdv)) (PyProof.Rows.envOfC "_law_entries" (defScope s__law_entries) s.heap.objs.size f cdv) (cxOf (L2.CX P w) P w K mg base N__law_entries "_law_entries" (defScope s__law_entries) f cdv A outer s H E).xe := passes_of (X := cxOf (L2.CX P w) P w K mg base N__law_entries "_law_entries" (defScope s__law_entries) f cdv A outer s H E) rfl
  exact (s_one (s_ret (v_bin o_add (o_x (v_T c_list T.z_list rfl (a_cons (o_x (v_ix o_ix (o_n 0) (o_n 1))) a_nil))) (o_x (v_if (t_cmp o_lt (o_x (v_bin o_add (o_n 1) (o_x v_int))) (o_x (v_B c_len T.z_len rfl (a_cons (o_n 0) a_nil)))) (v_T c_list T.z_list rfl (a_cons (o_x (v_ix o_ix (o_n 0) (o_x (v_bin o_add (o_n 1) (o_x v_int))))) a_nil)) (v_lst a_nil))))))
theorem ok__law_worths (T : Txt K mg) : HasFn P w K mg base 1 "_law_worths" ["clause", "entries"] 2 m__law_worths := by
  obtain ⟨f, fd, F, g⟩ := T.d__law_worths
  refine ⟨f, fd, g, F.kp, fun_bs (ps := ["clause", "entries"]) F (fun _ _ _ _ _ _ us hl => match us, hl with | [_, _], _ => rfl), fn_okG F sc__law_worths fun cdv A outer s H E hr hG => ?_⟩
  have hN : N__law_worths.Nodup := sc__law_worths.nd
  have hu := hr.units
  have hv : (A.deeper (PyProof.Rows.envOfC "_law_worths" (defScope s__law_worths) s.heap.objs.size f cdv)).units + 65 < cLine := by have := hr.un; omega
  have tk : Takes (cxOf (L2.CX P w) P w K mg base N__law_worths "_law_worths" (defScope s__law_worths) f cdv A outer s H E) (fun c d _ H => E c d H) := takes_of rfl rfl rfl rfl
  have hp : PassesOwn (model P w) (A.deeper (PyProof.Rows.envOfC "_law_worths" (defScope s__law_worths) s.heap.objs.size f cdv)) (PyProof.Rows.envOfC "_law_worths" (defScope s__law_worths) s.heap.objs.size f cdv) (cxOf (L2.CX P w) P w K mg base N__law_worths "_law_worths" (defScope s__law_worths) f cdv A outer s H E).xe := passes_of (X := cxOf (L2.CX P w) P w K mg base N__law_worths "_law_worths" (defScope s__law_worths) f cdv A outer s H E) rfl
  exact (s_cons (s_new (i := 2) hN (v_lst a_nil))
    (s_cons (s_for hp rfl (i_val (v_var 0)) (g_name (i := 3) hN) (s_cons (s_set (i := 4) hN (v_ix o_ix (o_n 1) (o_x (v_bin o_sub (o_x (v_B c_abs T.z_abs rfl (a_cons (o_n 3) a_nil))) (o_x v_int)))))
    (s_one (s_expr (v_meth (i := 2) m_app PySem.F.slot_list_append PySem.F.type_list_append (a_cons (o_x (v_if (t_cmp o_is (o_n 4) (o_x v_non)) v_non (v_cmp (o_eq hu) (o_n 4) (o_x (v_cmp o_gt (o_n 3) (o_x v_int)))))) a_nil))))))
    (s_one (s_ret (v_take 2)))))
theorem ok__law_told (T : Txt K mg) : HasFn P w K mg base 2 "_law_told" ["writing", "row", "step"] 3 m__law_told := by
  obtain ⟨f__law_entries, fd__law_entries, g__law_entries, k__law_entries, b__law_entries, F__law_entries⟩ := ok__law_entries (P := P) (w := w) (base := base) T
  obtain ⟨f__law_worths, fd__law_worths, g__law_worths, k__law_worths, b__law_worths, F__law_worths⟩ := ok__law_worths (P := P) (w := w) (base := base) T
  obtain ⟨f, fd, F, g⟩ := T.d__law_told
  refine ⟨f, fd, g, F.kp, fun_bs (ps := ["writing", "row", "step"]) F (fun _ _ _ _ _ _ us hl => match us, hl with | [_, _, _], _ => rfl), fn_okG F sc__law_told fun cdv A outer s H E hr hG => ?_⟩
  have hN : N__law_told.Nodup := sc__law_told.nd
  have hu := hr.units
  have hv : (A.deeper (PyProof.Rows.envOfC "_law_told" (defScope s__law_told) s.heap.objs.size f cdv)).units + 65 < cLine := by have := hr.un; omega
  have tk : Takes (cxOf (L2.CX P w) P w K mg base N__law_told "_law_told" (defScope s__law_told) f cdv A outer s H E) (fun c d _ H => E c d H) := takes_of rfl rfl rfl rfl
  have hp : PassesOwn (model P w) (A.deeper (PyProof.Rows.envOfC "_law_told" (defScope s__law_told) s.heap.objs.size f cdv)) (PyProof.Rows.envOfC "_law_told" (defScope s__law_told) s.heap.objs.size f cdv) (cxOf (L2.CX P w) P w K mg base N__law_told "_law_told" (defScope s__law_told) f cdv A outer s H E).xe := passes_of (X := cxOf (L2.CX P w) P w K mg base N__law_told "_law_told" (defScope s__law_told) f cdv A outer s H E) rfl
  exact (s_cons (s_asg (v_sl (o_n 2) (p_at v_int) p_no) (g_tup rfl (gs_cons (g_name (i := 3) hN) (gs_cons (g_name (i := 4) hN) gs_nil))))
    (s_cons (s_set (i := 5) hN (v_callG F__law_entries (hr.mono (by decide)) hG g__law_entries k__law_entries (.all b__law_entries) tk (a_cons (o_n 1) (a_cons (o_n 3) a_nil))))
    (s_cons (s_set (i := 6) hN (v_callG F__law_worths (hr.mono (by decide)) hG g__law_worths k__law_worths (.all b__law_worths) tk (a_cons (o_n 4) (a_cons (o_n 5) a_nil))))
    (s_cons (s_if (t_of (w_or (t_cmp (o_in hv) (o_x v_bl) (o_n 6)) (w_or1 (t_cmp o_gt (o_x (v_vmeth (m_count hv) PySem.F.slot_list_count PySem.F.type_list_count (v_var 6) (a_cons (o_x v_non) a_nil))) (o_x v_int))))) (s_one (s_ret v_non)) s_nil)
    (s_cons (s_if (t_cmp (o_notIn hv) (o_x v_non) (o_n 6)) (s_one (s_ret v_str)) s_nil)
    (s_cons (s_set (i := 7) hN (v_ix o_ix (o_n 4) (o_x (v_vmeth (m_index hv) PySem.F.slot_list_index PySem.F.type_list_index (v_var 6) (a_cons (o_x v_non) a_nil)))))
    (s_one (s_ret (v_tup (a_cons (o_x (v_bin o_add (o_n 3) (o_x (v_bin o_div (o_x (v_bin o_sub (o_x (v_B c_abs T.z_abs rfl (a_cons (o_n 7) a_nil))) (o_x v_int))) (o_x (v_ix o_ix (o_n 0) (o_x v_int))))))) (a_cons (o_x (v_bin o_add (o_x v_int) (o_x (v_bin o_mod (o_x (v_T c_int T.z_int rfl (a_cons (o_x (v_bin o_sub (o_x (v_B c_abs T.z_abs rfl (a_cons (o_n 7) a_nil))) (o_x v_int))) a_nil))) (o_x (v_ix o_ix (o_n 0) (o_x v_int))))))) (a_cons (o_x (v_cmp o_gt (o_n 7) (o_x v_int))) a_nil))))))))))))
theorem ok__law_put (T : Txt K mg) : HasFn P w K mg base 1 "_law_put" ["row", "column", "sign", "value"] 4 m__law_put := by
  obtain ⟨f, fd, F, g⟩ := T.d__law_put
  refine ⟨f, fd, g, F.kp, fun_bs (ps := ["row", "column", "sign", "value"]) F (fun _ _ _ _ _ _ us hl => match us, hl with | [_, _, _, _], _ => rfl), fn_okG F sc__law_put fun cdv A outer s H E hr hG => ?_⟩
  have hN : N__law_put.Nodup := sc__law_put.nd
  have hu := hr.units
  have hv : (A.deeper (PyProof.Rows.envOfC "_law_put" (defScope s__law_put) s.heap.objs.size f cdv)).units + 65 < cLine := by have := hr.un; omega
  have tk : Takes (cxOf (L2.CX P w) P w K mg base N__law_put "_law_put" (defScope s__law_put) f cdv A outer s H E) (fun c d _ H => E c d H) := takes_of rfl rfl rfl rfl
  have hp : PassesOwn (model P w) (A.deeper (PyProof.Rows.envOfC "_law_put" (defScope s__law_put) s.heap.objs.size f cdv)) (PyProof.Rows.envOfC "_law_put" (defScope s__law_put) s.heap.objs.size f cdv) (cxOf (L2.CX P w) P w K mg base N__law_put "_law_put" (defScope s__law_put) f cdv A outer s H E).xe := passes_of (X := cxOf (L2.CX P w) P w K mg base N__law_put "_law_put" (defScope s__law_put) f cdv A outer s H E) rfl
  exact (s_cons (s_set (i := 4) hN (v_bin o_add (o_x (v_bin o_add (o_x (v_sl (o_x (v_ix o_ix (o_n 0) (o_n 1))) p_no (p_at (v_bin o_sub (o_n 2) (o_x v_int))))) (o_x (v_tup (a_cons (o_x (v_var 3)) a_nil))))) (o_x (v_sl (o_x (v_ix o_ix (o_n 0) (o_n 1))) (p_at (v_var 2)) p_no))))
    (s_one (s_ret (v_bin o_add (o_x (v_bin o_add (o_x (v_sl (o_n 0) p_no (p_at (v_var 1)))) (o_x (v_lst (a_cons (o_x (v_var 4)) a_nil))))) (o_x (v_sl (o_n 0) (p_at (v_bin o_add (o_n 1) (o_x v_int))) p_no))))))
theorem ok__law_follow (T : Txt K mg) : HasFn P w K mg base 3 "_law_follow" ["writing", "row"] 2 m__law_follow := by
  obtain ⟨f__law_flat, fd__law_flat, g__law_flat, k__law_flat, b__law_flat, F__law_flat⟩ := ok__law_flat (P := P) (w := w) (base := base) T
  obtain ⟨f__law_told, fd__law_told, g__law_told, k__law_told, b__law_told, F__law_told⟩ := ok__law_told (P := P) (w := w) (base := base) T
  obtain ⟨f__law_put, fd__law_put, g__law_put, k__law_put, b__law_put, F__law_put⟩ := ok__law_put (P := P) (w := w) (base := base) T
  obtain ⟨f, fd, F, g⟩ := T.d__law_follow
  refine ⟨f, fd, g, F.kp, fun_bs (ps := ["writing", "row"]) F (fun _ _ _ _ _ _ us hl => match us, hl with | [_, _], _ => rfl), fn_okG F sc__law_follow fun cdv A outer s H E hr hG => ?_⟩
  have hN : N__law_follow.Nodup := sc__law_follow.nd
  have hu := hr.units
  have hv : (A.deeper (PyProof.Rows.envOfC "_law_follow" (defScope s__law_follow) s.heap.objs.size f cdv)).units + 65 < cLine := by have := hr.un; omega
  have tk : Takes (cxOf (L2.CX P w) P w K mg base N__law_follow "_law_follow" (defScope s__law_follow) f cdv A outer s H E) (fun c d _ H => E c d H) := takes_of rfl rfl rfl rfl
  have hp : PassesOwn (model P w) (A.deeper (PyProof.Rows.envOfC "_law_follow" (defScope s__law_follow) s.heap.objs.size f cdv)) (PyProof.Rows.envOfC "_law_follow" (defScope s__law_follow) s.heap.objs.size f cdv) (cxOf (L2.CX P w) P w K mg base N__law_follow "_law_follow" (defScope s__law_follow) f cdv A outer s H E).xe := passes_of (X := cxOf (L2.CX P w) P w K mg base N__law_follow "_law_follow" (defScope s__law_follow) f cdv A outer s H E) rfl
  exact (s_cons (s_par3 (i := 2) (j := 3) (l := 4) rfl hN (ps_cons' (nw := false) (v_callG F__law_flat (hr.mono (by decide)) hG g__law_flat k__law_flat (.all b__law_flat) tk (a_cons (o_n 0) (a_cons (o_x (v_B c_len T.z_len rfl (a_cons (o_n 1) a_nil))) a_nil))) (ps_cons' (nw := false) (v_T c_list T.z_list rfl (a_cons (o_n 1) a_nil)) (ps_cons' (nw := false) v_bl ps_nil'))))
    (s_cons (s_while hp (t_val (v_var 4)) (s_cons (s_set (i := 4) hN v_bl)
    (s_one (s_for hp rfl (i_val (v_var 2)) (g_name (i := 5) hN) (s_cons (s_set (i := 6) hN (v_callG F__law_told (hr.mono (by decide)) hG g__law_told k__law_told (.all b__law_told) tk (a_cons (o_n 0) (a_cons (o_n 3) (a_cons (o_n 5) a_nil)))))
    (s_cons (s_if (t_cmp (o_eq hu) (o_n 6) (o_x v_str)) (s_one (s_ret v_non)) s_nil)
    (s_one (s_if (t_cmp o_isNot (o_n 6) (o_x v_non)) (s_one (s_par (i := 3) (j := 4) rfl hN (ps_cons' (nw := false) (v_callG F__law_put (hr.mono (by decide)) hG g__law_put k__law_put (.all b__law_put) tk (a_cons (o_n 3) (a_cons (o_x (v_ix o_ix (o_n 6) (o_x v_int))) (a_cons (o_x (v_ix o_ix (o_n 6) (o_x v_int))) (a_cons (o_x (v_ix o_ix (o_n 6) (o_x v_int))) a_nil))))) (ps_cons' (nw := false) v_bl ps_nil')))) s_nil))))))))
    (s_one (s_ret (v_var 3)))))
theorem ok__law_row (T : Txt K mg) : HasFn P w K mg base 3 "_law_row" ["pen", "size", "most"] 3 m__law_row := by
  obtain ⟨f__law_draw, fd__law_draw, g__law_draw, k__law_draw, b__law_draw, F__law_draw⟩ := ok__law_draw (P := P) (w := w) (base := base) T
  obtain ⟨f, fd, F, g⟩ := T.d__law_row
  refine ⟨f, fd, g, F.kp, fun_bs (ps := ["pen", "size", "most"]) F (fun _ _ _ _ _ _ us hl => match us, hl with | [_, _, _], _ => rfl), fn_okG F sc__law_row fun cdv A outer s H E hr hG => ?_⟩
  have hN : N__law_row.Nodup := sc__law_row.nd
  have hu := hr.units
  have hv : (A.deeper (PyProof.Rows.envOfC "_law_row" (defScope s__law_row) s.heap.objs.size f cdv)).units + 65 < cLine := by have := hr.un; omega
  have tk : Takes (cxOf (L2.CX P w) P w K mg base N__law_row "_law_row" (defScope s__law_row) f cdv A outer s H E) (fun c d _ H => E c d H) := takes_of rfl rfl rfl rfl
  have hp : PassesOwn (model P w) (A.deeper (PyProof.Rows.envOfC "_law_row" (defScope s__law_row) s.heap.objs.size f cdv)) (PyProof.Rows.envOfC "_law_row" (defScope s__law_row) s.heap.objs.size f cdv) (cxOf (L2.CX P w) P w K mg base N__law_row "_law_row" (defScope s__law_row) f cdv A outer s H E).xe := passes_of (X := cxOf (L2.CX P w) P w K mg base N__law_row "_law_row" (defScope s__law_row) f cdv A outer s H E) rfl
  exact (s_cons (s_new (i := 3) hN (v_lst a_nil))
    (s_cons (s_for hp rfl (i_range1 T.z_range (a_cons (o_x (v_bin o_add (o_x v_int) (o_x (v_callG F__law_draw (hr.mono (by decide)) hG g__law_draw k__law_draw (.all b__law_draw) tk (a_cons (o_n 0) (a_cons (o_n 2) a_nil)))))) a_nil)) (g_name (i := 4) hN) (s_one (s_expr (v_meth (i := 3) m_app PySem.F.slot_list_append PySem.F.type_list_append (a_cons (o_x (v_T c_tuple T.z_tuple rfl (a_cons (o_x (v_comp (own := [("k", 5)]) rfl hN (i_range1 T.z_range (a_cons (o_n 1) a_nil)) (blkOk_by (N := N__law_row) (sc := defScope s__law_row) (own := [("k", 5)]) (by decide +kernel)) (by decide) (fun _ _ _ _ _ => (g_name (i := 5) hN)) (fun _ _ _ _ _ => ts_nil) (fun _ _ _ _ _ => (v_ix o_ix (o_x (v_lst (a_cons (o_x v_non) (a_cons (o_x v_non) (a_cons (o_x v_non) (a_cons (o_x v_bl) (a_cons (o_x v_bl) a_nil))))))) (o_x (v_callG F__law_draw (hr.mono (by decide)) hG g__law_draw k__law_draw (.all b__law_draw) takes0 (a_cons (o_n 0) (a_cons (o_x v_int) a_nil)))))))) a_nil))) a_nil)))))
    (s_one (s_ret (v_take 3)))))
theorem ok__law_setting (T : Txt K mg) : HasFn P w K mg base 3 "_law_setting" ["pen", "inputs", "most"] 3 m__law_setting := by
  obtain ⟨f__law_draw, fd__law_draw, g__law_draw, k__law_draw, b__law_draw, F__law_draw⟩ := ok__law_draw (P := P) (w := w) (base := base) T
  obtain ⟨f, fd, F, g⟩ := T.d__law_setting
  refine ⟨f, fd, g, F.kp, fun_bs (ps := ["pen", "inputs", "most"]) F (fun _ _ _ _ _ _ us hl => match us, hl with | [_, _, _], _ => rfl), fn_okG F sc__law_setting fun cdv A outer s H E hr hG => ?_⟩
  have hN : N__law_setting.Nodup := sc__law_setting.nd
  have hu := hr.units
  have hv : (A.deeper (PyProof.Rows.envOfC "_law_setting" (defScope s__law_setting) s.heap.objs.size f cdv)).units + 65 < cLine := by have := hr.un; omega
  have tk : Takes (cxOf (L2.CX P w) P w K mg base N__law_setting "_law_setting" (defScope s__law_setting) f cdv A outer s H E) (fun c d _ H => E c d H) := takes_of rfl rfl rfl rfl
  have hp : PassesOwn (model P w) (A.deeper (PyProof.Rows.envOfC "_law_setting" (defScope s__law_setting) s.heap.objs.size f cdv)) (PyProof.Rows.envOfC "_law_setting" (defScope s__law_setting) s.heap.objs.size f cdv) (cxOf (L2.CX P w) P w K mg base N__law_setting "_law_setting" (defScope s__law_setting) f cdv A outer s H E).xe := passes_of (X := cxOf (L2.CX P w) P w K mg base N__law_setting "_law_setting" (defScope s__law_setting) f cdv A outer s H E) rfl
  exact (s_cons (s_new (i := 3) hN (v_lst a_nil))
    (s_cons (s_for hp rfl (i_range1 T.z_range (a_cons (o_x (v_bin o_add (o_x v_int) (o_x (v_callG F__law_draw (hr.mono (by decide)) hG g__law_draw k__law_draw (.all b__law_draw) tk (a_cons (o_n 0) (a_cons (o_n 2) a_nil)))))) a_nil)) (g_name (i := 4) hN) (s_one (s_expr (v_meth (i := 3) m_app PySem.F.slot_list_append PySem.F.type_list_append (a_cons (o_x (v_T c_tuple T.z_tuple rfl (a_cons (o_x (v_comp (own := [("k", 5)]) rfl hN (i_range1 T.z_range (a_cons (o_n 1) a_nil)) (blkOk_by (N := N__law_setting) (sc := defScope s__law_setting) (own := [("k", 5)]) (by decide +kernel)) (by decide) (fun _ _ _ _ _ => (g_name (i := 5) hN)) (fun _ _ _ _ _ => ts_nil) (fun _ _ _ _ _ => (v_ix o_ix (o_x (v_lst (a_cons (o_x v_non) (a_cons (o_x v_non) (a_cons (o_x v_bl) (a_cons (o_x v_bl) a_nil)))))) (o_x (v_callG F__law_draw (hr.mono (by decide)) hG g__law_draw k__law_draw (.all b__law_draw) takes0 (a_cons (o_n 0) (a_cons (o_x v_int) a_nil)))))))) a_nil))) a_nil)))))
    (s_one (s_ret (v_take 3)))))
theorem ok__law_bare (T : Txt K mg) : HasFn P w K mg base 1 "_law_bare" ["writing", "setting"] 2 m__law_bare := by
  obtain ⟨f, fd, F, g⟩ := T.d__law_bare
  refine ⟨f, fd, g, F.kp, fun_bs (ps := ["writing", "setting"]) F (fun _ _ _ _ _ _ us hl => match us, hl with | [_, _], _ => rfl), fn_okG F sc__law_bare fun cdv A outer s H E hr hG => ?_⟩
  have hN : N__law_bare.Nodup := sc__law_bare.nd
  have hu := hr.units
  have hv : (A.deeper (PyProof.Rows.envOfC "_law_bare" (defScope s__law_bare) s.heap.objs.size f cdv)).units + 65 < cLine := by have := hr.un; omega
  have tk : Takes (cxOf (L2.CX P w) P w K mg base N__law_bare "_law_bare" (defScope s__law_bare) f cdv A outer s H E) (fun c d _ H => E c d H) := takes_of rfl rfl rfl rfl
  have hp : PassesOwn (model P w) (A.deeper (PyProof.Rows.envOfC "_law_bare" (defScope s__law_bare) s.heap.objs.size f cdv)) (PyProof.Rows.envOfC "_law_bare" (defScope s__law_bare) s.heap.objs.size f cdv) (cxOf (L2.CX P w) P w K mg base N__law_bare "_law_bare" (defScope s__law_bare) f cdv A outer s H E).xe := passes_of (X := cxOf (L2.CX P w) P w K mg base N__law_bare "_law_bare" (defScope s__law_bare) f cdv A outer s H E) rfl
  exact (s_one (s_ret (v_comp (own := [("column", 2)]) rfl hN (i_val (v_var 1)) (blkOk_by (N := N__law_bare) (sc := defScope s__law_bare) (own := [("column", 2)]) (by decide +kernel)) (by decide) (fun _ _ _ _ _ => (g_name (i := 2) hN)) (fun _ _ _ _ _ => ts_nil) (fun _ _ _ _ _ => (v_bin o_add (o_x (v_var 2)) (o_x (v_bin o_mul (o_x (v_tup (a_cons (o_x v_non) a_nil))) (o_x (v_bin o_sub (o_x (v_ix o_ix (o_n 0) (o_x v_int))) (o_x (v_ix o_ix (o_n 0) (o_x v_int))))))))))))
theorem ok_law (T : Txt K mg) : HasFn P w K mg base 10 "law" ["script"] 1 m_law := by
  obtain ⟨f__law_pen, fd__law_pen, g__law_pen, k__law_pen, b__law_pen, F__law_pen⟩ := ok__law_pen (P := P) (w := w) (base := base) T
  obtain ⟨f__law_long_right, fd__law_long_right, g__law_long_right, k__law_long_right, b__law_long_right, F__law_long_right⟩ := ok__law_long_right (P := P) (w := w) (base := base) T
  obtain ⟨f__law_writing, fd__law_writing, g__law_writing, k__law_writing, b__law_writing, F__law_writing⟩ := ok__law_writing (P := P) (w := w) (base := base) T
  obtain ⟨f__law_follow, fd__law_follow, g__law_follow, k__law_follow, b__law_follow, F__law_follow⟩ := ok__law_follow (P := P) (w := w) (base := base) T
  obtain ⟨f__law_row, fd__law_row, g__law_row, k__law_row, b__law_row, F__law_row⟩ := ok__law_row (P := P) (w := w) (base := base) T
  obtain ⟨f__law_setting, fd__law_setting, g__law_setting, k__law_setting, b__law_setting, F__law_setting⟩ := ok__law_setting (P := P) (w := w) (base := base) T
  obtain ⟨f__law_bare, fd__law_bare, g__law_bare, k__law_bare, b__law_bare, F__law_bare⟩ := ok__law_bare (P := P) (w := w) (base := base) T
  obtain ⟨f_followed, fd_followed, g_followed, k_followed, b_followed, F_followed⟩ := ok_followed (P := P) (w := w) (base := base) T
  obtain ⟨f_seen, fd_seen, g_seen, k_seen, b_seen, F_seen⟩ := ok_seen (P := P) (w := w) (base := base) T
  obtain ⟨f__law_draw, fd__law_draw, g__law_draw, k__law_draw, b__law_draw, F__law_draw⟩ := ok__law_draw (P := P) (w := w) (base := base) T
  obtain ⟨f, fd, F, g⟩ := T.d_law
  refine ⟨f, fd, g, F.kp, fun_bs (ps := ["script"]) F (fun _ _ _ _ _ _ us hl => match us, hl with | [_], _ => rfl), fn_okG F sc_law fun cdv A outer s H E hr hG => ?_⟩
  have hN : N_law.Nodup := sc_law.nd
  have hu := hr.units
  have hv : (A.deeper (PyProof.Rows.envOfC "law" (defScope s_law) s.heap.objs.size f cdv)).units + 65 < cLine := by have := hr.un; omega
  have tk : Takes (cxOf (L2.CX P w) P w K mg base N_law "law" (defScope s_law) f cdv A outer s H E) (fun c d _ H => E c d H) := takes_of rfl rfl rfl rfl
  have hp : PassesOwn (model P w) (A.deeper (PyProof.Rows.envOfC "law" (defScope s_law) s.heap.objs.size f cdv)) (PyProof.Rows.envOfC "law" (defScope s_law) s.heap.objs.size f cdv) (cxOf (L2.CX P w) P w K mg base N_law "law" (defScope s_law) f cdv A outer s H E).xe := passes_of (X := cxOf (L2.CX P w) P w K mg base N_law "law" (defScope s_law) f cdv A outer s H E) rfl
  exact (s_cons (s_new (i := 1) hN (v_callG F__law_pen (hr.mono (by decide)) hG g__law_pen k__law_pen (.all b__law_pen) tk (a_cons (o_n 0) a_nil)))
    (s_cons (s_for hp rfl (i_range1 T.z_range (a_cons (o_x v_int) a_nil)) (g_name (i := 2) hN) (s_cons (s_set (i := 3) hN (v_callG F__law_writing (hr.mono (by decide)) hG g__law_writing k__law_writing (.all b__law_writing) tk (a_cons (o_n 1) (a_cons (o_x (v_bin o_add (o_x v_int) (o_x (v_T c_int T.z_int rfl (a_cons (o_x (v_cmp (o_eq hu) (o_x (v_callG F__law_draw (hr.mono (by decide)) hG g__law_draw k__law_draw (.all b__law_draw) tk (a_cons (o_n 1) (a_cons (o_x v_int) a_nil)))) (o_x v_int))) a_nil))))) (a_cons (o_x v_int) (a_cons (o_x v_int) a_nil))))))
    (s_one (s_for hp rfl (i_range1 T.z_range (a_cons (o_x v_int) a_nil)) (g_name (i := 4) hN) (s_cons (s_par (i := 5) (j := 6) rfl hN (ps_cons' (nw := false) (v_callG F__law_row (hr.mono (by decide)) hG g__law_row k__law_row (.all b__law_row) tk (a_cons (o_n 1) (a_cons (o_x (v_ix o_ix (o_n 3) (o_x v_int))) (a_cons (o_x v_int) a_nil)))) (ps_cons' (nw := false) (v_callG F__law_setting (hr.mono (by decide)) hG g__law_setting k__law_setting (.all b__law_setting) tk (a_cons (o_n 1) (a_cons (o_x (v_ix o_ix (o_n 3) (o_x v_int))) (a_cons (o_x v_int) a_nil)))) ps_nil')))
    (s_cons (s_par (i := 7) (j := 8) rfl hN (ps_cons' (nw := false) (v_callG F__law_follow (hr.mono (by decide)) hG g__law_follow k__law_follow (.all b__law_follow) tk (a_cons (o_n 3) (a_cons (o_n 5) a_nil))) (ps_cons' (nw := false) (v_B (c_repr hG hu) T.z_repr rfl (a_cons (o_x (v_lst (a_cons (o_x (v_var 3)) (a_cons (o_x (v_var 5)) (a_cons (o_x (v_var 6)) a_nil))))) a_nil)) ps_nil')))
    (s_cons (s_set (i := 9) hN (v_callG F__law_follow (hr.mono (by decide)) hG g__law_follow k__law_follow (.all b__law_follow) tk (a_cons (o_n 3) (a_cons (o_x (v_callG F__law_bare (hr.mono (by decide)) hG g__law_bare k__law_bare (.all b__law_bare) tk (a_cons (o_n 3) (a_cons (o_n 6) a_nil)))) a_nil))))
    (s_cons (s_set (i := 9) hN (v_if (t_cmp o_is (o_n 9) (o_x v_non)) v_non (v_comp (own := [("column", 13)]) rfl hN (i_val (v_var 9)) (blkOk_by (N := N_law) (sc := defScope s_law) (own := [("column", 13)]) (by decide +kernel)) (by decide) (fun _ _ _ _ _ => (g_name (i := 13) hN)) (fun _ _ _ _ _ => ts_nil) (fun _ _ _ _ _ => (v_sl (o_x (v_var 13)) p_no (p_at (v_ix o_ix (o_n 3) (o_x v_int))))))))
    (s_cons (s_for hp rfl (i_range1 T.z_range (a_cons (o_x v_int) a_nil)) (g_name (i := 10) hN) (s_cons (s_par (i := 11) (j := 12) rfl hN (ps_consM (v_callG F_followed (hr.mono (by decide)) hG g_followed k_followed (.all b_followed) tk (a_cons (o_n 3) (a_cons (o_n 5) a_nil))) (ps_consM (v_callG F_seen (hr.mono (by decide)) hG g_seen k_seen (.all b_seen) tk (a_cons (o_n 3) (a_cons (o_n 6) a_nil))) ps_nil')))
    (s_cons (s_if (t_of (w_or (t_cmp (o_ne hu) (o_x (v_B (c_repr hG hu) T.z_repr rfl (a_cons (o_n 11) a_nil))) (o_x (v_B (c_repr hG hu) T.z_repr rfl (a_cons (o_n 7) a_nil)))) (w_or1 (t_cmp (o_ne hu) (o_x (v_B (c_repr hG hu) T.z_repr rfl (a_cons (o_n 12) a_nil))) (o_x (v_B (c_repr hG hu) T.z_repr rfl (a_cons (o_n 9) a_nil))))))) (s_one (s_ret v_bl)) s_nil)
    (s_cons (s_if (t_cmp o_isNot (o_n 11) (o_x v_non)) (s_one (s_expr (v_meth (i := 11) m_app PySem.F.slot_list_append PySem.F.type_list_append (a_cons (o_x v_non) a_nil)))) s_nil)
    (s_one (s_if (t_cmp o_isNot (o_n 12) (o_x v_non)) (s_one (s_expr (v_meth (i := 12) m_app PySem.F.slot_list_append PySem.F.type_list_append (a_cons (o_x v_non) a_nil)))) s_nil))))))
    (s_one (s_if (t_cmp (o_ne hu) (o_x (v_B (c_repr hG hu) T.z_repr rfl (a_cons (o_x (v_lst (a_cons (o_x (v_var 3)) (a_cons (o_x (v_var 5)) (a_cons (o_x (v_var 6)) a_nil))))) a_nil))) (o_n 8)) (s_one (s_ret v_bl)) s_nil)))))))))))
    (s_one (s_ret (v_callG0 F__law_long_right (hr.mono (by decide)) hG g__law_long_right k__law_long_right (.all b__law_long_right) tk)))))
end
theorem txt_mk {K : PySem.W.Frag} {h : Heap} {mg : Str → Option Value} (X : K.In h) (G : h.Ns mainGlobals mg)
    {f0 : Addr} {oc0 kV0 dc0 pm0 cd0 ct0 : Value} {od0 an0 : Option Addr} {sl0 : Array (Option Value)} (a0 : PySem.W.nsIn K mainGlobals "_law_pen" = some (some (.ref f0))) (l0 : K.lookup f0 = some ⟨oc0, od0, .func (PySem.W.fnOf "_law_pen" "_law_pen" (defArgs s__law_pen) (defBody s__law_pen) (defScope s__law_pen) .none kV0 dc0 pm0 an0 cd0 ct0), sl0⟩) (c0 : PySem.W.codeIn K cd0 "_law_pen" = true) (k0 : PySem.W.keepIn K (.ref f0) = true)
    {f1 : Addr} {oc1 kV1 dc1 pm1 cd1 ct1 : Value} {od1 an1 : Option Addr} {sl1 : Array (Option Value)} (a1 : PySem.W.nsIn K mainGlobals "is_integer" = some (some (.ref f1))) (l1 : K.lookup f1 = some ⟨oc1, od1, .func (PySem.W.fnOf "is_integer" "is_integer" (defArgs s_is_integer) (defBody s_is_integer) (defScope s_is_integer) .none kV1 dc1 pm1 an1 cd1 ct1), sl1⟩) (c1 : PySem.W.codeIn K cd1 "is_integer" = true) (k1 : PySem.W.keepIn K (.ref f1) = true)
    {f2 : Addr} {oc2 kV2 dc2 pm2 cd2 ct2 : Value} {od2 an2 : Option Addr} {sl2 : Array (Option Value)} (a2 : PySem.W.nsIn K mainGlobals "is_within" = some (some (.ref f2))) (l2 : K.lookup f2 = some ⟨oc2, od2, .func (PySem.W.fnOf "is_within" "is_within" (defArgs s_is_within) (defBody s_is_within) (defScope s_is_within) .none kV2 dc2 pm2 an2 cd2 ct2), sl2⟩) (c2 : PySem.W.codeIn K cd2 "is_within" = true) (k2 : PySem.W.keepIn K (.ref f2) = true)
    {f3 : Addr} {oc3 kV3 dc3 pm3 cd3 ct3 : Value} {od3 an3 : Option Addr} {sl3 : Array (Option Value)} (a3 : PySem.W.nsIn K mainGlobals "is_literal" = some (some (.ref f3))) (l3 : K.lookup f3 = some ⟨oc3, od3, .func (PySem.W.fnOf "is_literal" "is_literal" (defArgs s_is_literal) (defBody s_is_literal) (defScope s_is_literal) .none kV3 dc3 pm3 an3 cd3 ct3), sl3⟩) (c3 : PySem.W.codeIn K cd3 "is_literal" = true) (k3 : PySem.W.keepIn K (.ref f3) = true)
    {f4 : Addr} {oc4 kV4 dc4 pm4 cd4 ct4 : Value} {od4 an4 : Option Addr} {sl4 : Array (Option Value)} (a4 : PySem.W.nsIn K mainGlobals "is_clause" = some (some (.ref f4))) (l4 : K.lookup f4 = some ⟨oc4, od4, .func (PySem.W.fnOf "is_clause" "is_clause" (defArgs s_is_clause) (defBody s_is_clause) (defScope s_is_clause) .none kV4 dc4 pm4 an4 cd4 ct4), sl4⟩) (c4 : PySem.W.codeIn K cd4 "is_clause" = true) (k4 : PySem.W.keepIn K (.ref f4) = true)
    {f5 : Addr} {oc5 kV5 dc5 pm5 cd5 ct5 : Value} {od5 an5 : Option Addr} {sl5 : Array (Option Value)} (a5 : PySem.W.nsIn K mainGlobals "are_clauses" = some (some (.ref f5))) (l5 : K.lookup f5 = some ⟨oc5, od5, .func (PySem.W.fnOf "are_clauses" "are_clauses" (defArgs s_are_clauses) (defBody s_are_clauses) (defScope s_are_clauses) .none kV5 dc5 pm5 an5 cd5 ct5), sl5⟩) (c5 : PySem.W.codeIn K cd5 "are_clauses" = true) (k5 : PySem.W.keepIn K (.ref f5) = true)
    {f6 : Addr} {oc6 kV6 dc6 pm6 cd6 ct6 : Value} {od6 an6 : Option Addr} {sl6 : Array (Option Value)} (a6 : PySem.W.nsIn K mainGlobals "signs_of" = some (some (.ref f6))) (l6 : K.lookup f6 = some ⟨oc6, od6, .func (PySem.W.fnOf "signs_of" "signs_of" (defArgs s_signs_of) (defBody s_signs_of) (defScope s_signs_of) .none kV6 dc6 pm6 an6 cd6 ct6), sl6⟩) (c6 : PySem.W.codeIn K cd6 "signs_of" = true) (k6 : PySem.W.keepIn K (.ref f6) = true)
    {f7 : Addr} {oc7 kV7 dc7 pm7 cd7 ct7 : Value} {od7 an7 : Option Addr} {sl7 : Array (Option Value)} (a7 : PySem.W.nsIn K mainGlobals "is_writing" = some (some (.ref f7))) (l7 : K.lookup f7 = some ⟨oc7, od7, .func (PySem.W.fnOf "is_writing" "is_writing" (defArgs s_is_writing) (defBody s_is_writing) (defScope s_is_writing) .none kV7 dc7 pm7 an7 cd7 ct7), sl7⟩) (c7 : PySem.W.codeIn K cd7 "is_writing" = true) (k7 : PySem.W.keepIn K (.ref f7) = true)
    {f8 : Addr} {oc8 kV8 dc8 pm8 cd8 ct8 : Value} {od8 an8 : Option Addr} {sl8 : Array (Option Value)} (a8 : PySem.W.nsIn K mainGlobals "check_writing" = some (some (.ref f8))) (l8 : K.lookup f8 = some ⟨oc8, od8, .func (PySem.W.fnOf "check_writing" "check_writing" (defArgs s_check_writing) (defBody s_check_writing) (defScope s_check_writing) .none kV8 dc8 pm8 an8 cd8 ct8), sl8⟩) (c8 : PySem.W.codeIn K cd8 "check_writing" = true) (k8 : PySem.W.keepIn K (.ref f8) = true)
    {f9 : Addr} {oc9 kV9 dc9 pm9 cd9 ct9 : Value} {od9 an9 : Option Addr} {sl9 : Array (Option Value)} (a9 : PySem.W.nsIn K mainGlobals "is_column" = some (some (.ref f9))) (l9 : K.lookup f9 = some ⟨oc9, od9, .func (PySem.W.fnOf "is_column" "is_column" (defArgs s_is_column) (defBody s_is_column) (defScope s_is_column) .none kV9 dc9 pm9 an9 cd9 ct9), sl9⟩) (c9 : PySem.W.codeIn K cd9 "is_column" = true) (k9 : PySem.W.keepIn K (.ref f9) = true)
    {f10 : Addr} {oc10 kV10 dc10 pm10 cd10 ct10 : Value} {od10 an10 : Option Addr} {sl10 : Array (Option Value)} (a10 : PySem.W.nsIn K mainGlobals "is_row" = some (some (.ref f10))) (l10 : K.lookup f10 = some ⟨oc10, od10, .func (PySem.W.fnOf "is_row" "is_row" (defArgs s_is_row) (defBody s_is_row) (defScope s_is_row) .none kV10 dc10 pm10 an10 cd10 ct10), sl10⟩) (c10 : PySem.W.codeIn K cd10 "is_row" = true) (k10 : PySem.W.keepIn K (.ref f10) = true)
    {f11 : Addr} {oc11 kV11 dc11 pm11 cd11 ct11 : Value} {od11 an11 : Option Addr} {sl11 : Array (Option Value)} (a11 : PySem.W.nsIn K mainGlobals "check_row" = some (some (.ref f11))) (l11 : K.lookup f11 = some ⟨oc11, od11, .func (PySem.W.fnOf "check_row" "check_row" (defArgs s_check_row) (defBody s_check_row) (defScope s_check_row) .none kV11 dc11 pm11 an11 cd11 ct11), sl11⟩) (c11 : PySem.W.codeIn K cd11 "check_row" = true) (k11 : PySem.W.keepIn K (.ref f11) = true)
    {f12 : Addr} {oc12 kV12 dc12 pm12 cd12 ct12 : Value} {od12 an12 : Option Addr} {sl12 : Array (Option Value)} (a12 : PySem.W.nsIn K mainGlobals "steps_at" = some (some (.ref f12))) (l12 : K.lookup f12 = some ⟨oc12, od12, .func (PySem.W.fnOf "steps_at" "steps_at" (defArgs s_steps_at) (defBody s_steps_at) (defScope s_steps_at) .none kV12 dc12 pm12 an12 cd12 ct12), sl12⟩) (c12 : PySem.W.codeIn K cd12 "steps_at" = true) (k12 : PySem.W.keepIn K (.ref f12) = true)
    {f13 : Addr} {oc13 kV13 dc13 pm13 cd13 ct13 : Value} {od13 an13 : Option Addr} {sl13 : Array (Option Value)} (a13 : PySem.W.nsIn K mainGlobals "clause_of" = some (some (.ref f13))) (l13 : K.lookup f13 = some ⟨oc13, od13, .func (PySem.W.fnOf "clause_of" "clause_of" (defArgs s_clause_of) (defBody s_clause_of) (defScope s_clause_of) .none kV13 dc13 pm13 an13 cd13 ct13), sl13⟩) (c13 : PySem.W.codeIn K cd13 "clause_of" = true) (k13 : PySem.W.keepIn K (.ref f13) = true)
    {f14 : Addr} {oc14 kV14 dc14 pm14 cd14 ct14 : Value} {od14 an14 : Option Addr} {sl14 : Array (Option Value)} (a14 : PySem.W.nsIn K mainGlobals "place_of" = some (some (.ref f14))) (l14 : K.lookup f14 = some ⟨oc14, od14, .func (PySem.W.fnOf "place_of" "place_of" (defArgs s_place_of) (defBody s_place_of) (defScope s_place_of) .none kV14 dc14 pm14 an14 cd14 ct14), sl14⟩) (c14 : PySem.W.codeIn K cd14 "place_of" = true) (k14 : PySem.W.keepIn K (.ref f14) = true)
    {f15 : Addr} {oc15 kV15 dc15 pm15 cd15 ct15 : Value} {od15 an15 : Option Addr} {sl15 : Array (Option Value)} (a15 : PySem.W.nsIn K mainGlobals "told_by" = some (some (.ref f15))) (l15 : K.lookup f15 = some ⟨oc15, od15, .func (PySem.W.fnOf "told_by" "told_by" (defArgs s_told_by) (defBody s_told_by) (defScope s_told_by) .none kV15 dc15 pm15 an15 cd15 ct15), sl15⟩) (c15 : PySem.W.codeIn K cd15 "told_by" = true) (k15 : PySem.W.keepIn K (.ref f15) = true)
    {f16 : Addr} {oc16 kV16 dc16 pm16 cd16 ct16 : Value} {od16 an16 : Option Addr} {sl16 : Array (Option Value)} (a16 : PySem.W.nsIn K mainGlobals "follow" = some (some (.ref f16))) (l16 : K.lookup f16 = some ⟨oc16, od16, .func (PySem.W.fnOf "follow" "follow" (defArgs s_follow) (defBody s_follow) (defScope s_follow) .none kV16 dc16 pm16 an16 cd16 ct16), sl16⟩) (c16 : PySem.W.codeIn K cd16 "follow" = true) (k16 : PySem.W.keepIn K (.ref f16) = true)
    {f17 : Addr} {oc17 kV17 dc17 pm17 cd17 ct17 : Value} {od17 an17 : Option Addr} {sl17 : Array (Option Value)} (a17 : PySem.W.nsIn K mainGlobals "followed" = some (some (.ref f17))) (l17 : K.lookup f17 = some ⟨oc17, od17, .func (PySem.W.fnOf "followed" "followed" (defArgs s_followed) (defBody s_followed) (defScope s_followed) .none kV17 dc17 pm17 an17 cd17 ct17), sl17⟩) (c17 : PySem.W.codeIn K cd17 "followed" = true) (k17 : PySem.W.keepIn K (.ref f17) = true)
    {f18 : Addr} {oc18 kV18 dc18 pm18 cd18 ct18 : Value} {od18 an18 : Option Addr} {sl18 : Array (Option Value)} (a18 : PySem.W.nsIn K mainGlobals "is_setting" = some (some (.ref f18))) (l18 : K.lookup f18 = some ⟨oc18, od18, .func (PySem.W.fnOf "is_setting" "is_setting" (defArgs s_is_setting) (defBody s_is_setting) (defScope s_is_setting) .none kV18 dc18 pm18 an18 cd18 ct18), sl18⟩) (c18 : PySem.W.codeIn K cd18 "is_setting" = true) (k18 : PySem.W.keepIn K (.ref f18) = true)
    {f19 : Addr} {oc19 kV19 dc19 pm19 cd19 ct19 : Value} {od19 an19 : Option Addr} {sl19 : Array (Option Value)} (a19 : PySem.W.nsIn K mainGlobals "check_setting" = some (some (.ref f19))) (l19 : K.lookup f19 = some ⟨oc19, od19, .func (PySem.W.fnOf "check_setting" "check_setting" (defArgs s_check_setting) (defBody s_check_setting) (defScope s_check_setting) .none kV19 dc19 pm19 an19 cd19 ct19), sl19⟩) (c19 : PySem.W.codeIn K cd19 "check_setting" = true) (k19 : PySem.W.keepIn K (.ref f19) = true)
    {f20 : Addr} {oc20 kV20 dc20 pm20 cd20 ct20 : Value} {od20 an20 : Option Addr} {sl20 : Array (Option Value)} (a20 : PySem.W.nsIn K mainGlobals "bare_row" = some (some (.ref f20))) (l20 : K.lookup f20 = some ⟨oc20, od20, .func (PySem.W.fnOf "bare_row" "bare_row" (defArgs s_bare_row) (defBody s_bare_row) (defScope s_bare_row) .none kV20 dc20 pm20 an20 cd20 ct20), sl20⟩) (c20 : PySem.W.codeIn K cd20 "bare_row" = true) (k20 : PySem.W.keepIn K (.ref f20) = true)
    {f21 : Addr} {oc21 kV21 dc21 pm21 cd21 ct21 : Value} {od21 an21 : Option Addr} {sl21 : Array (Option Value)} (a21 : PySem.W.nsIn K mainGlobals "seen" = some (some (.ref f21))) (l21 : K.lookup f21 = some ⟨oc21, od21, .func (PySem.W.fnOf "seen" "seen" (defArgs s_seen) (defBody s_seen) (defScope s_seen) .none kV21 dc21 pm21 an21 cd21 ct21), sl21⟩) (c21 : PySem.W.codeIn K cd21 "seen" = true) (k21 : PySem.W.keepIn K (.ref f21) = true)
    {f22 : Addr} {oc22 kV22 dc22 pm22 cd22 ct22 : Value} {od22 an22 : Option Addr} {sl22 : Array (Option Value)} (a22 : PySem.W.nsIn K mainGlobals "_law_long_right" = some (some (.ref f22))) (l22 : K.lookup f22 = some ⟨oc22, od22, .func (PySem.W.fnOf "_law_long_right" "_law_long_right" (defArgs s__law_long_right) (defBody s__law_long_right) (defScope s__law_long_right) .none kV22 dc22 pm22 an22 cd22 ct22), sl22⟩) (c22 : PySem.W.codeIn K cd22 "_law_long_right" = true) (k22 : PySem.W.keepIn K (.ref f22) = true)
    {f23 : Addr} {oc23 kV23 dc23 pm23 cd23 ct23 : Value} {od23 an23 : Option Addr} {sl23 : Array (Option Value)} (a23 : PySem.W.nsIn K mainGlobals "_law_knowns" = some (some (.ref f23))) (l23 : K.lookup f23 = some ⟨oc23, od23, .func (PySem.W.fnOf "_law_knowns" "_law_knowns" (defArgs s__law_knowns) (defBody s__law_knowns) (defScope s__law_knowns) .none kV23 dc23 pm23 an23 cd23 ct23), sl23⟩) (c23 : PySem.W.codeIn K cd23 "_law_knowns" = true) (k23 : PySem.W.keepIn K (.ref f23) = true)
    {f24 : Addr} {oc24 kV24 dc24 pm24 cd24 ct24 : Value} {od24 an24 : Option Addr} {sl24 : Array (Option Value)} (a24 : PySem.W.nsIn K mainGlobals "_law_next" = some (some (.ref f24))) (l24 : K.lookup f24 = some ⟨oc24, od24, .func (PySem.W.fnOf "_law_next" "_law_next" (defArgs s__law_next) (defBody s__law_next) (defScope s__law_next) .none kV24 dc24 pm24 an24 cd24 ct24), sl24⟩) (c24 : PySem.W.codeIn K cd24 "_law_next" = true) (k24 : PySem.W.keepIn K (.ref f24) = true)
    {f25 : Addr} {oc25 kV25 dc25 pm25 cd25 ct25 : Value} {od25 an25 : Option Addr} {sl25 : Array (Option Value)} (a25 : PySem.W.nsIn K mainGlobals "_law_draw" = some (some (.ref f25))) (l25 : K.lookup f25 = some ⟨oc25, od25, .func (PySem.W.fnOf "_law_draw" "_law_draw" (defArgs s__law_draw) (defBody s__law_draw) (defScope s__law_draw) .none kV25 dc25 pm25 an25 cd25 ct25), sl25⟩) (c25 : PySem.W.codeIn K cd25 "_law_draw" = true) (k25 : PySem.W.keepIn K (.ref f25) = true)
    {f26 : Addr} {oc26 kV26 dc26 pm26 cd26 ct26 : Value} {od26 an26 : Option Addr} {sl26 : Array (Option Value)} (a26 : PySem.W.nsIn K mainGlobals "_law_clause" = some (some (.ref f26))) (l26 : K.lookup f26 = some ⟨oc26, od26, .func (PySem.W.fnOf "_law_clause" "_law_clause" (defArgs s__law_clause) (defBody s__law_clause) (defScope s__law_clause) .none kV26 dc26 pm26 an26 cd26 ct26), sl26⟩) (c26 : PySem.W.codeIn K cd26 "_law_clause" = true) (k26 : PySem.W.keepIn K (.ref f26) = true)
    {f27 : Addr} {oc27 kV27 dc27 pm27 cd27 ct27 : Value} {od27 an27 : Option Addr} {sl27 : Array (Option Value)} (a27 : PySem.W.nsIn K mainGlobals "_law_lot" = some (some (.ref f27))) (l27 : K.lookup f27 = some ⟨oc27, od27, .func (PySem.W.fnOf "_law_lot" "_law_lot" (defArgs s__law_lot) (defBody s__law_lot) (defScope s__law_lot) .none kV27 dc27 pm27 an27 cd27 ct27), sl27⟩) (c27 : PySem.W.codeIn K cd27 "_law_lot" = true) (k27 : PySem.W.keepIn K (.ref f27) = true)
    {f28 : Addr} {oc28 kV28 dc28 pm28 cd28 ct28 : Value} {od28 an28 : Option Addr} {sl28 : Array (Option Value)} (a28 : PySem.W.nsIn K mainGlobals "_law_writing" = some (some (.ref f28))) (l28 : K.lookup f28 = some ⟨oc28, od28, .func (PySem.W.fnOf "_law_writing" "_law_writing" (defArgs s__law_writing) (defBody s__law_writing) (defScope s__law_writing) .none kV28 dc28 pm28 an28 cd28 ct28), sl28⟩) (c28 : PySem.W.codeIn K cd28 "_law_writing" = true) (k28 : PySem.W.keepIn K (.ref f28) = true)
    {f29 : Addr} {oc29 kV29 dc29 pm29 cd29 ct29 : Value} {od29 an29 : Option Addr} {sl29 : Array (Option Value)} (a29 : PySem.W.nsIn K mainGlobals "_law_flat" = some (some (.ref f29))) (l29 : K.lookup f29 = some ⟨oc29, od29, .func (PySem.W.fnOf "_law_flat" "_law_flat" (defArgs s__law_flat) (defBody s__law_flat) (defScope s__law_flat) .none kV29 dc29 pm29 an29 cd29 ct29), sl29⟩) (c29 : PySem.W.codeIn K cd29 "_law_flat" = true) (k29 : PySem.W.keepIn K (.ref f29) = true)
    {f30 : Addr} {oc30 kV30 dc30 pm30 cd30 ct30 : Value} {od30 an30 : Option Addr} {sl30 : Array (Option Value)} (a30 : PySem.W.nsIn K mainGlobals "_law_entries" = some (some (.ref f30))) (l30 : K.lookup f30 = some ⟨oc30, od30, .func (PySem.W.fnOf "_law_entries" "_law_entries" (defArgs s__law_entries) (defBody s__law_entries) (defScope s__law_entries) .none kV30 dc30 pm30 an30 cd30 ct30), sl30⟩) (c30 : PySem.W.codeIn K cd30 "_law_entries" = true) (k30 : PySem.W.keepIn K (.ref f30) = true)
    {f31 : Addr} {oc31 kV31 dc31 pm31 cd31 ct31 : Value} {od31 an31 : Option Addr} {sl31 : Array (Option Value)} (a31 : PySem.W.nsIn K mainGlobals "_law_worths" = some (some (.ref f31))) (l31 : K.lookup f31 = some ⟨oc31, od31, .func (PySem.W.fnOf "_law_worths" "_law_worths" (defArgs s__law_worths) (defBody s__law_worths) (defScope s__law_worths) .none kV31 dc31 pm31 an31 cd31 ct31), sl31⟩) (c31 : PySem.W.codeIn K cd31 "_law_worths" = true) (k31 : PySem.W.keepIn K (.ref f31) = true)
    {f32 : Addr} {oc32 kV32 dc32 pm32 cd32 ct32 : Value} {od32 an32 : Option Addr} {sl32 : Array (Option Value)} (a32 : PySem.W.nsIn K mainGlobals "_law_told" = some (some (.ref f32))) (l32 : K.lookup f32 = some ⟨oc32, od32, .func (PySem.W.fnOf "_law_told" "_law_told" (defArgs s__law_told) (defBody s__law_told) (defScope s__law_told) .none kV32 dc32 pm32 an32 cd32 ct32), sl32⟩) (c32 : PySem.W.codeIn K cd32 "_law_told" = true) (k32 : PySem.W.keepIn K (.ref f32) = true)
    {f33 : Addr} {oc33 kV33 dc33 pm33 cd33 ct33 : Value} {od33 an33 : Option Addr} {sl33 : Array (Option Value)} (a33 : PySem.W.nsIn K mainGlobals "_law_put" = some (some (.ref f33))) (l33 : K.lookup f33 = some ⟨oc33, od33, .func (PySem.W.fnOf "_law_put" "_law_put" (defArgs s__law_put) (defBody s__law_put) (defScope s__law_put) .none kV33 dc33 pm33 an33 cd33 ct33), sl33⟩) (c33 : PySem.W.codeIn K cd33 "_law_put" = true) (k33 : PySem.W.keepIn K (.ref f33) = true)
    {f34 : Addr} {oc34 kV34 dc34 pm34 cd34 ct34 : Value} {od34 an34 : Option Addr} {sl34 : Array (Option Value)} (a34 : PySem.W.nsIn K mainGlobals "_law_follow" = some (some (.ref f34))) (l34 : K.lookup f34 = some ⟨oc34, od34, .func (PySem.W.fnOf "_law_follow" "_law_follow" (defArgs s__law_follow) (defBody s__law_follow) (defScope s__law_follow) .none kV34 dc34 pm34 an34 cd34 ct34), sl34⟩) (c34 : PySem.W.codeIn K cd34 "_law_follow" = true) (k34 : PySem.W.keepIn K (.ref f34) = true)
    {f35 : Addr} {oc35 kV35 dc35 pm35 cd35 ct35 : Value} {od35 an35 : Option Addr} {sl35 : Array (Option Value)} (a35 : PySem.W.nsIn K mainGlobals "_law_row" = some (some (.ref f35))) (l35 : K.lookup f35 = some ⟨oc35, od35, .func (PySem.W.fnOf "_law_row" "_law_row" (defArgs s__law_row) (defBody s__law_row) (defScope s__law_row) .none kV35 dc35 pm35 an35 cd35 ct35), sl35⟩) (c35 : PySem.W.codeIn K cd35 "_law_row" = true) (k35 : PySem.W.keepIn K (.ref f35) = true)
    {f36 : Addr} {oc36 kV36 dc36 pm36 cd36 ct36 : Value} {od36 an36 : Option Addr} {sl36 : Array (Option Value)} (a36 : PySem.W.nsIn K mainGlobals "_law_setting" = some (some (.ref f36))) (l36 : K.lookup f36 = some ⟨oc36, od36, .func (PySem.W.fnOf "_law_setting" "_law_setting" (defArgs s__law_setting) (defBody s__law_setting) (defScope s__law_setting) .none kV36 dc36 pm36 an36 cd36 ct36), sl36⟩) (c36 : PySem.W.codeIn K cd36 "_law_setting" = true) (k36 : PySem.W.keepIn K (.ref f36) = true)
    {f37 : Addr} {oc37 kV37 dc37 pm37 cd37 ct37 : Value} {od37 an37 : Option Addr} {sl37 : Array (Option Value)} (a37 : PySem.W.nsIn K mainGlobals "_law_bare" = some (some (.ref f37))) (l37 : K.lookup f37 = some ⟨oc37, od37, .func (PySem.W.fnOf "_law_bare" "_law_bare" (defArgs s__law_bare) (defBody s__law_bare) (defScope s__law_bare) .none kV37 dc37 pm37 an37 cd37 ct37), sl37⟩) (c37 : PySem.W.codeIn K cd37 "_law_bare" = true) (k37 : PySem.W.keepIn K (.ref f37) = true)
    {f38 : Addr} {oc38 kV38 dc38 pm38 cd38 ct38 : Value} {od38 an38 : Option Addr} {sl38 : Array (Option Value)} (a38 : PySem.W.nsIn K mainGlobals "law" = some (some (.ref f38))) (l38 : K.lookup f38 = some ⟨oc38, od38, .func (PySem.W.fnOf "law" "law" (defArgs s_law) (defBody s_law) (defScope s_law) .none kV38 dc38 pm38 an38 cd38 ct38), sl38⟩) (c38 : PySem.W.codeIn K cd38 "law" = true) (k38 : PySem.W.keepIn K (.ref f38) = true)
    (z_abs : PySem.W.nsIn K mainGlobals "abs" = some none)
    (z_all : PySem.W.nsIn K mainGlobals "all" = some none)
    (z_bool : PySem.W.nsIn K mainGlobals "bool" = some none)
    (z_enumerate : PySem.W.nsIn K mainGlobals "enumerate" = some none)
    (z_int : PySem.W.nsIn K mainGlobals "int" = some none)
    (z_isinstance : PySem.W.nsIn K mainGlobals "isinstance" = some none)
    (z_len : PySem.W.nsIn K mainGlobals "len" = some none)
    (z_list : PySem.W.nsIn K mainGlobals "list" = some none)
    (z_min : PySem.W.nsIn K mainGlobals "min" = some none)
    (z_range : PySem.W.nsIn K mainGlobals "range" = some none)
    (z_repr : PySem.W.nsIn K mainGlobals "repr" = some none)
    (z_set : PySem.W.nsIn K mainGlobals "set" = some none)
    (z_sorted : PySem.W.nsIn K mainGlobals "sorted" = some none)
    (z_tuple : PySem.W.nsIn K mainGlobals "tuple" = some none)
    (z_zip : PySem.W.nsIn K mainGlobals "zip" = some none)
    {t_MOST_CLAUSES : Tok} (c_MOST_CLAUSES : PySem.W.nsIn K mainGlobals "MOST_CLAUSES" = some (some (.int 16 t_MOST_CLAUSES)))
    {t_MOST_INPUTS : Tok} (c_MOST_INPUTS : PySem.W.nsIn K mainGlobals "MOST_INPUTS" = some (some (.int 2 t_MOST_INPUTS)))
    {t_MOST_LITERALS : Tok} (c_MOST_LITERALS : PySem.W.nsIn K mainGlobals "MOST_LITERALS" = some (some (.int 4 t_MOST_LITERALS)))
    {t_MOST_SIGNS : Tok} (c_MOST_SIGNS : PySem.W.nsIn K mainGlobals "MOST_SIGNS" = some (some (.int 4 t_MOST_SIGNS)))
    {a_PARTS : Addr} {sl_PARTS : Array (Option Value)} {n_PARTS : Nat} {u0_PARTS u1_PARTS u2_PARTS u3_PARTS : Tok} (c_PARTS : PySem.W.nsIn K mainGlobals "PARTS" = some (some (.ref a_PARTS))) (l_PARTS : K.lookup a_PARTS = some ⟨.type "tuple", none, .seq #[.str "first" u0_PARTS, .str "each" u1_PARTS, .str "nexts" u2_PARTS, .str "last" u3_PARTS] n_PARTS, sl_PARTS⟩) : Txt K mg :=
  {
    d__law_pen := ⟨f0, _, fun_mk (st := s__law_pen) l0 c0 k0, PySem.W.mg_of X G a0⟩,
    d_is_integer := ⟨f1, _, fun_mk (st := s_is_integer) l1 c1 k1, PySem.W.mg_of X G a1⟩,
    d_is_within := ⟨f2, _, fun_mk (st := s_is_within) l2 c2 k2, PySem.W.mg_of X G a2⟩,
    d_is_literal := ⟨f3, _, fun_mk (st := s_is_literal) l3 c3 k3, PySem.W.mg_of X G a3⟩,
    d_is_clause := ⟨f4, _, fun_mk (st := s_is_clause) l4 c4 k4, PySem.W.mg_of X G a4⟩,
    d_are_clauses := ⟨f5, _, fun_mk (st := s_are_clauses) l5 c5 k5, PySem.W.mg_of X G a5⟩,
    d_signs_of := ⟨f6, _, fun_mk (st := s_signs_of) l6 c6 k6, PySem.W.mg_of X G a6⟩,
    d_is_writing := ⟨f7, _, fun_mk (st := s_is_writing) l7 c7 k7, PySem.W.mg_of X G a7⟩,
    d_check_writing := ⟨f8, _, fun_mk (st := s_check_writing) l8 c8 k8, PySem.W.mg_of X G a8⟩,
    d_is_column := ⟨f9, _, fun_mk (st := s_is_column) l9 c9 k9, PySem.W.mg_of X G a9⟩,
    d_is_row := ⟨f10, _, fun_mk (st := s_is_row) l10 c10 k10, PySem.W.mg_of X G a10⟩,
    d_check_row := ⟨f11, _, fun_mk (st := s_check_row) l11 c11 k11, PySem.W.mg_of X G a11⟩,
    d_steps_at := ⟨f12, _, fun_mk (st := s_steps_at) l12 c12 k12, PySem.W.mg_of X G a12⟩,
    d_clause_of := ⟨f13, _, fun_mk (st := s_clause_of) l13 c13 k13, PySem.W.mg_of X G a13⟩,
    d_place_of := ⟨f14, _, fun_mk (st := s_place_of) l14 c14 k14, PySem.W.mg_of X G a14⟩,
    d_told_by := ⟨f15, _, fun_mk (st := s_told_by) l15 c15 k15, PySem.W.mg_of X G a15⟩,
    d_follow := ⟨f16, _, fun_mk (st := s_follow) l16 c16 k16, PySem.W.mg_of X G a16⟩,
    d_followed := ⟨f17, _, fun_mk (st := s_followed) l17 c17 k17, PySem.W.mg_of X G a17⟩,
    d_is_setting := ⟨f18, _, fun_mk (st := s_is_setting) l18 c18 k18, PySem.W.mg_of X G a18⟩,
    d_check_setting := ⟨f19, _, fun_mk (st := s_check_setting) l19 c19 k19, PySem.W.mg_of X G a19⟩,
    d_bare_row := ⟨f20, _, fun_mk (st := s_bare_row) l20 c20 k20, PySem.W.mg_of X G a20⟩,
    d_seen := ⟨f21, _, fun_mk (st := s_seen) l21 c21 k21, PySem.W.mg_of X G a21⟩,
    d__law_long_right := ⟨f22, _, fun_mk (st := s__law_long_right) l22 c22 k22, PySem.W.mg_of X G a22⟩,
    d__law_knowns := ⟨f23, _, fun_mk (st := s__law_knowns) l23 c23 k23, PySem.W.mg_of X G a23⟩,
    d__law_next := ⟨f24, _, fun_mk (st := s__law_next) l24 c24 k24, PySem.W.mg_of X G a24⟩,
    d__law_draw := ⟨f25, _, fun_mk (st := s__law_draw) l25 c25 k25, PySem.W.mg_of X G a25⟩,
    d__law_clause := ⟨f26, _, fun_mk (st := s__law_clause) l26 c26 k26, PySem.W.mg_of X G a26⟩,
    d__law_lot := ⟨f27, _, fun_mk (st := s__law_lot) l27 c27 k27, PySem.W.mg_of X G a27⟩,
    d__law_writing := ⟨f28, _, fun_mk (st := s__law_writing) l28 c28 k28, PySem.W.mg_of X G a28⟩,
    d__law_flat := ⟨f29, _, fun_mk (st := s__law_flat) l29 c29 k29, PySem.W.mg_of X G a29⟩,
    d__law_entries := ⟨f30, _, fun_mk (st := s__law_entries) l30 c30 k30, PySem.W.mg_of X G a30⟩,
    d__law_worths := ⟨f31, _, fun_mk (st := s__law_worths) l31 c31 k31, PySem.W.mg_of X G a31⟩,
    d__law_told := ⟨f32, _, fun_mk (st := s__law_told) l32 c32 k32, PySem.W.mg_of X G a32⟩,
    d__law_put := ⟨f33, _, fun_mk (st := s__law_put) l33 c33 k33, PySem.W.mg_of X G a33⟩,
    d__law_follow := ⟨f34, _, fun_mk (st := s__law_follow) l34 c34 k34, PySem.W.mg_of X G a34⟩,
    d__law_row := ⟨f35, _, fun_mk (st := s__law_row) l35 c35 k35, PySem.W.mg_of X G a35⟩,
    d__law_setting := ⟨f36, _, fun_mk (st := s__law_setting) l36 c36 k36, PySem.W.mg_of X G a36⟩,
    d__law_bare := ⟨f37, _, fun_mk (st := s__law_bare) l37 c37 k37, PySem.W.mg_of X G a37⟩,
    d_law := ⟨f38, _, fun_mk (st := s_law) l38 c38 k38, PySem.W.mg_of X G a38⟩,
    z_abs := PySem.W.mg_none_of X G z_abs,
    z_all := PySem.W.mg_none_of X G z_all,
    z_bool := PySem.W.mg_none_of X G z_bool,
    z_enumerate := PySem.W.mg_none_of X G z_enumerate,
    z_int := PySem.W.mg_none_of X G z_int,
    z_isinstance := PySem.W.mg_none_of X G z_isinstance,
    z_len := PySem.W.mg_none_of X G z_len,
    z_list := PySem.W.mg_none_of X G z_list,
    z_min := PySem.W.mg_none_of X G z_min,
    z_range := PySem.W.mg_none_of X G z_range,
    z_repr := PySem.W.mg_none_of X G z_repr,
    z_set := PySem.W.mg_none_of X G z_set,
    z_sorted := PySem.W.mg_none_of X G z_sorted,
    z_tuple := PySem.W.mg_none_of X G z_tuple,
    z_zip := PySem.W.mg_none_of X G z_zip,
    c_MOST_CLAUSES := ⟨t_MOST_CLAUSES, PySem.W.mg_of X G c_MOST_CLAUSES⟩,
    c_MOST_INPUTS := ⟨t_MOST_INPUTS, PySem.W.mg_of X G c_MOST_INPUTS⟩,
    c_MOST_LITERALS := ⟨t_MOST_LITERALS, PySem.W.mg_of X G c_MOST_LITERALS⟩,
    c_MOST_SIGNS := ⟨t_MOST_SIGNS, PySem.W.mg_of X G c_MOST_SIGNS⟩,
    c_PARTS := ⟨a_PARTS, _, [.str "first" u0_PARTS, .str "each" u1_PARTS, .str "nexts" u2_PARTS, .str "last" u3_PARTS], n_PARTS, PySem.W.mg_of X G c_PARTS, l_PARTS, rfl, rfl, rfl, (by decide : (4 : Nat) ≤ sizeLine), (.cons ⟨u0_PARTS, rfl⟩ (.cons ⟨u1_PARTS, rfl⟩ (.cons ⟨u2_PARTS, rfl⟩ (.cons ⟨u3_PARTS, rfl⟩ .nil))))⟩ }
theorem walk {l : PySem.W.OpenLaw} {q : Program} {loose : List Str} {XP : (Str → Option Value) → Heap → Prop} {YP : World → Heap → Prop} {d : DefRec} {K : Params → PySem.W.Frag} (hn : l.most = some 63) (hdf : d.params.defaults = []) (hd : d.name = "law")
    (hY : ∀ (w : World) (h : Heap), YP w h → (K w.params).In h)
    (F : ∀ (w : World) (mg : Str → Option Value) (h : Heap), (K w.params).In h → h.Ns mainGlobals mg → Txt (K w.params) mg)
    (T : Truly m_law 63) : PySem.W.WalkO q loose XP YP l.row.toRowW d [] (fun f vs => PySem.call f vs) :=
  walk_law (k := 10) (x := "script") m_law hn (by decide) hdf ⟨rfl, by decide, by decide⟩ hY (fun w mg h KX G base => by
    rw [hd]
    exact ok_law (F w mg h KX G)) T
end Dk
end
section
set_option Elab.async false
set_option linter.all false
set_option maxRecDepth 100000
set_option maxHeartbeats 1000000
/-! Ew: what the semantics comes to, in weakest preconditions: plain Lean, no program in sight. -/
namespace Ev
open PySem L2
def WR {α : Type} (Q : α → Hs → Prop) : Res α → Prop
  | .ok a h => Q a h
  | _ => False
def WE (m : Ex) (env : Nv) (h : Hs) (Q : RV → Hs → Prop) : Prop := WR Q (m env h)
def WO (m : Ox) (env : Nv) (h : Hs) (Q : OV → Hs → Prop) : Prop := WR Q (m env h)
def WA (m : As) (env : Nv) (h : Hs) (Q : List OV → Hs → Prop) : Prop := WR Q (m env h)
def WT (m : Tx) (env : Nv) (h : Hs) (Q : Bool → Hs → Prop) : Prop := WR Q (m env h)
def WI (m : Ix) (env : Nv) (h : Hs) (Q : List D → Hs → Prop) : Prop := WR Q (m env h)
def WP' (m : Ps) (env : Nv) (h : Hs) (Q : List SV → Hs → Prop) : Prop := WR Q (m env h)
def WX' (m : Px) (env : Nv) (h : Hs) (Q : Option Int → Hs → Prop) : Prop := WR Q (m env h)
def WF (m : Fx) (svs : List SV) (h : Hs) (Q : RV → Hs → Prop) : Prop := WR Q (m svs h)
/-- a statement: goes on, or returns -/
def WSr (N : Nv → Hs → Prop) (R : RV → Hs → Prop) : SRes → Prop
  | .nx e h => N e h
  | .rt v h => R v h
  | _ => False
def WS (m : Sx) (env : Nv) (h : Hs) (N : Nv → Hs → Prop) (R : RV → Hs → Prop) : Prop := WSr N R (m env h)
theorem WR.imp {α : Type} {Q Q' : α → Hs → Prop} {r : Res α} (w : WR Q r) (f : ∀ a h, Q a h → Q' a h) : WR Q' r := by
  cases r with
  | ok a h => exact f a h w
  | exc x h => exact w
  | bad => exact w
theorem WSr.imp {N N' : Nv → Hs → Prop} {R R' : RV → Hs → Prop} {r : SRes} (w : WSr N R r) (f : ∀ e h, N e h → N' e h) (g : ∀ v h, R v h → R' v h) : WSr N' R' r := by
  cases r with
  | nx e h => exact f e h w
  | rt v h => exact g v h w
  | _ => exact w
section
variable {env : Nv} {h : Hs} {Q : RV → Hs → Prop} {QO : OV → Hs → Prop} {QA : List OV → Hs → Prop} {QT : Bool → Hs → Prop} {QI : List D → Hs → Prop} {QX : Option Int → Hs → Prop} {QP : List SV → Hs → Prop} {N : Nv → Hs → Prop} {R : RV → Hs → Prop}
@[simp] theorem we_c {d : D} : WE (eC d) env h Q ↔ Q (.val d) h := Iff.rfl
@[simp] theorem we_var {i : Nat} : WE (eVar i) env h Q ↔ ∃ d, env[i]? = some (some (.val d)) ∧ Q (.val d) h := by
  unfold WE eVar
  split
  · rename_i d e
    exact ⟨fun q => ⟨d, e, q⟩, fun ⟨d', e', q⟩ => by rw [e] at e'; cases e'; exact q⟩
  · rename_i hn
    exact ⟨fun q => q.elim, fun ⟨d, e, q⟩ => (hn d e).elim⟩
theorem we_take {i n : Nat} {ds : List D} (e1 : env[i]? = some (some (.loc n))) (e2 : h[n]? = some (.lst ds)) (q : Q (.fresh ds) (h.set n .dead)) : WE (eTake i) env h Q := by
  unfold WE eTake
  rw [e1]
  dsimp only
  rw [e2]
  exact q
@[simp] theorem wo_x {m : Ex} : WO (xO m) env h QO ↔ WE m env h fun rv h1 => QO (.vl rv.vl) h1 := by
  unfold WO WE xO
  cases m env h <;> exact Iff.rfl
theorem wo_n {i : Nat} {s : SV} (e : env[i]? = some (some s)) : WO (nO i) env h QO ↔ QO (.sl i) h := by
  unfold WO nO
  rw [e]
  exact Iff.rfl
theorem wr_bindO {m : Ox} {k : OV → Hs → Res RV} : WR Q (bindO m k env h) ↔ WO m env h fun o h1 => WR Q (k o h1) := by
  unfold bindO WO
  cases m env h <;> exact Iff.rfl
theorem wr_bindA {m : As} {k : List OV → Hs → Res RV} : WR Q (bindA m k env h) ↔ WA m env h fun o h1 => WR Q (k o h1) := by
  unfold bindA WA
  cases m env h <;> exact Iff.rfl
theorem wr_lift {o : Option RV} : WR Q (liftO o h) ↔ ∃ rv, o = some rv ∧ Q rv h := by
  cases o with
  | none => exact ⟨fun q => q.elim, fun ⟨_, e, _⟩ => nomatch e⟩
  | some rv => exact ⟨fun q => ⟨rv, rfl, q⟩, fun ⟨_, e, q⟩ => by cases e; exact q⟩
theorem wr_op2 {op : D → D → Option RV} {x y : OV} : WR Q (op2 op env h x y) ↔ ∃ d, force env h x = some d ∧ ∃ e, force env h y = some e ∧ ∃ rv, op d e = some rv ∧ Q rv h := by
  unfold op2
  cases q1 : force env h x with
  | none => exact ⟨fun q => q.elim, fun ⟨_, e, _⟩ => nomatch e⟩
  | some d =>
    cases q2 : force env h y with
    | none => exact ⟨fun q => q.elim, fun ⟨_, _, _, e, _⟩ => nomatch e⟩
    | some e =>
      rw [wr_lift]
      exact ⟨fun z => ⟨d, rfl, e, rfl, z⟩, fun ⟨_, e1, _, e2, z⟩ => by cases e1; cases e2; exact z⟩
@[simp] theorem we_bin {op : D → D → Option RV} {a b : Ox} : WE (eBin op a b) env h Q ↔ WO a env h fun x h1 => WO b env h1 fun y h2 => ∃ d, force env h2 x = some d ∧ ∃ e, force env h2 y = some e ∧ ∃ rv, op d e = some rv ∧ Q rv h2 := by
  unfold WE eBin
  rw [wr_bindO]
  have : ∀ x h1, WR Q (bindO b (fun y h2 => op2 op env h2 x y) env h1) ↔ WO b env h1 fun y h2 => ∃ d, force env h2 x = some d ∧ ∃ e, force env h2 y = some e ∧ ∃ rv, op d e = some rv ∧ Q rv h2 := fun x h1 => by
    rw [wr_bindO]
    exact ⟨fun z => WR.imp z fun y h2 => wr_op2.mp, fun z => WR.imp z fun y h2 => wr_op2.mpr⟩
  exact ⟨fun z => WR.imp z fun y h2 => (this y h2).mp, fun z => WR.imp z fun y h2 => (this y h2).mpr⟩
@[simp] theorem we_un {op : D → Option RV} {a : Ox} : WE (eUn op a) env h Q ↔ WO a env h fun x h1 => ∃ d, force env h1 x = some d ∧ ∃ rv, op d = some rv ∧ Q rv h1 := by
  unfold WE eUn
  rw [wr_bindO]
  have : ∀ x h1, WR Q (op1 op env h1 x) ↔ ∃ d, force env h1 x = some d ∧ ∃ rv, op d = some rv ∧ Q rv h1 := fun x h1 => by
    unfold op1
    cases q1 : force env h1 x with
    | none => exact ⟨fun q => q.elim, fun ⟨_, e, _⟩ => nomatch e⟩
    | some d =>
      rw [wr_lift]
      exact ⟨fun z => ⟨d, rfl, z⟩, fun ⟨_, e1, z⟩ => by cases e1; exact z⟩
  exact ⟨fun z => WR.imp z fun y h2 => (this y h2).mp, fun z => WR.imp z fun y h2 => (this y h2).mpr⟩
@[simp] theorem force_vl {d : D} : force env h (.vl d) = some d := rfl
theorem force_val {i : Nat} {d : D} (e : env[i]? = some (some (.val d))) : force env h (.sl i) = some d := by
  show deref env h i = some d
  unfold deref
  rw [e]
theorem force_loc {i n : Nat} {ds : List D} (e : env[i]? = some (some (.loc n))) (e2 : h[n]? = some (.lst ds)) : force env h (.sl i) = some (.lst ds) := by
  show deref env h i = some _
  unfold deref
  rw [e]
  dsimp only
  rw [e2]
@[simp] theorem wa_nil : WA aNil env h QA ↔ QA [] h := Iff.rfl
@[simp] theorem wa_cons {m : Ox} {r : As} : WA (aCons m r) env h QA ↔ WO m env h fun o h1 => WA r env h1 fun os h2 => QA (o :: os) h2 := by
  unfold WA WO aCons
  cases m env h with
  | ok o h1 =>
    dsimp only [WR]
    cases r env h1 <;> exact Iff.rfl
  | _ => exact Iff.rfl
@[simp] theorem we_B {op : List D → Option RV} {m : As} : WE (eB op m) env h Q ↔ WA m env h fun os h1 => ∃ ds, forces env h1 os = some ds ∧ ∃ rv, op ds = some rv ∧ Q rv h1 := by
  unfold WE eB
  rw [wr_bindA]
  have : ∀ os h1, WR Q (opN op env h1 os) ↔ ∃ ds, forces env h1 os = some ds ∧ ∃ rv, op ds = some rv ∧ Q rv h1 := fun os h1 => by
    unfold opN
    cases q1 : forces env h1 os with
    | none => exact ⟨fun q => q.elim, fun ⟨_, e, _⟩ => nomatch e⟩
    | some d =>
      rw [wr_lift]
      exact ⟨fun z => ⟨d, rfl, z⟩, fun ⟨_, e1, z⟩ => by cases e1; exact z⟩
  exact ⟨fun z => WR.imp z fun y h2 => (this y h2).mp, fun z => WR.imp z fun y h2 => (this y h2).mpr⟩
@[simp] theorem forces_nil : forces env h [] = some [] := rfl
theorem forces_cons {o : OV} {os : List OV} {d : D} {ds : List D} (e : force env h o = some d) (e2 : forces env h os = some ds) : forces env h (o :: os) = some (d :: ds) := by
  unfold forces
  rw [e, e2]
@[simp] theorem forces_vl {d : D} {os : List OV} : forces env h (.vl d :: os) = (forces env h os).map (d :: ·) := by
  rw [forces]
  cases forces env h os <;> rfl
@[simp] theorem plains_nil : plains [] = some [] := rfl
@[simp] theorem plains_vl {d : D} {os : List OV} : plains (.vl d :: os) = (plains os).map (d :: ·) := by
  rw [plains]
  cases plains os <;> rfl
@[simp] theorem we_tup {m : As} : WE (eTup m) env h Q ↔ WA m env h fun os h1 => ∃ ds, plains os = some ds ∧ ds.length ≤ sizeLine ∧ Q (.val (.tup ds)) h1 := by
  unfold WE eTup
  rw [wr_bindA]
  have : ∀ (os : List OV) (h1 : Hs), WR Q (match plains os with | some ds => if ds.length ≤ sizeLine then .ok (.val (.tup ds)) h1 else .bad | none => .bad) ↔ ∃ ds, plains os = some ds ∧ ds.length ≤ sizeLine ∧ Q (.val (.tup ds)) h1 := fun os h1 => by
    cases q1 : plains os with
    | none => exact ⟨fun q => q.elim, fun ⟨_, e, _⟩ => nomatch e⟩
    | some ds =>
      dsimp only
      split
      · rename_i hl
        exact ⟨fun z => ⟨ds, rfl, hl, z⟩, fun ⟨_, e1, _, z⟩ => by cases e1; exact z⟩
      · rename_i hl
        exact ⟨fun z => z.elim, fun ⟨_, e1, z, _⟩ => by cases e1; exact hl z⟩
  exact ⟨fun z => WR.imp z fun y h2 => (this y h2).mp, fun z => WR.imp z fun y h2 => (this y h2).mpr⟩
@[simp] theorem we_lst {m : As} : WE (eLst m) env h Q ↔ WA m env h fun os h1 => ∃ ds, plains os = some ds ∧ ds.length ≤ sizeLine ∧ Q (.fresh ds) h1 := by
  unfold WE eLst
  rw [wr_bindA]
  have : ∀ (os : List OV) (h1 : Hs), WR Q (match plains os with | some ds => if ds.length ≤ sizeLine then .ok (.fresh ds) h1 else .bad | none => .bad) ↔ ∃ ds, plains os = some ds ∧ ds.length ≤ sizeLine ∧ Q (.fresh ds) h1 := fun os h1 => by
    cases q1 : plains os with
    | none => exact ⟨fun q => q.elim, fun ⟨_, e, _⟩ => nomatch e⟩
    | some ds =>
      dsimp only
      split
      · rename_i hl
        exact ⟨fun z => ⟨ds, rfl, hl, z⟩, fun ⟨_, e1, _, z⟩ => by cases e1; exact z⟩
      · rename_i hl
        exact ⟨fun z => z.elim, fun ⟨_, e1, z, _⟩ => by cases e1; exact hl z⟩
  exact ⟨fun z => WR.imp z fun y h2 => (this y h2).mp, fun z => WR.imp z fun y h2 => (this y h2).mpr⟩
@[simp] theorem we_if {t : Tx} {a b : Ex} : WE (eIf t a b) env h Q ↔ WT t env h fun k h1 => if k then WE a env h1 Q else WE b env h1 Q := by
  unfold WE WT eIf
  cases t env h with
  | ok k h1 => cases k <;> exact Iff.rfl
  | _ => exact Iff.rfl
@[simp] theorem wt_of {m : Ex} : WT (bOf m) env h QT ↔ WE m env h fun rv h1 => ∃ b, rv = .val (.bl b) ∧ QT b h1 := by
  unfold WE WT bOf
  cases m env h with
  | ok rv h1 =>
    cases rv with
    | val d =>
      cases d with
      | bl b => exact ⟨fun z => ⟨b, rfl, z⟩, fun ⟨_, e, z⟩ => by cases e; exact z⟩
      | _ => exact ⟨fun z => z.elim, fun ⟨_, e, _⟩ => nomatch e⟩
    | fresh ds => exact ⟨fun z => z.elim, fun ⟨_, e, _⟩ => nomatch e⟩
  | _ => exact Iff.rfl
@[simp] theorem wt_not {t : Tx} : WT (tNotE t) env h QT ↔ WT t env h fun k h1 => QT (!k) h1 := by
  unfold WT tNotE
  cases t env h <;> exact Iff.rfl
@[simp] theorem wt_and {t k : Tx} : WT (tAndE t k) env h QT ↔ WT t env h fun b h1 => if b then WT k env h1 QT else QT false h1 := by
  unfold WT tAndE
  cases t env h with
  | ok b h1 => cases b <;> exact Iff.rfl
  | _ => exact Iff.rfl
@[simp] theorem wt_or {t k : Tx} : WT (tOrE t k) env h QT ↔ WT t env h fun b h1 => if b then QT true h1 else WT k env h1 QT := by
  unfold WT tOrE
  cases t env h with
  | ok b h1 => cases b <;> exact Iff.rfl
  | _ => exact Iff.rfl
@[simp] theorem we_call {n : Nat} {m : Fx} {as : As} : WE (eCall n m [] as) env h Q ↔ WA as env h fun os h1 => ∃ svs, svsOf env os = some svs ∧ svs.length = n ∧ WF m svs h1 Q := by
  unfold WE eCall
  rw [wr_bindA]
  have : ∀ (os : List OV) (h1 : Hs), WR Q (match svsOf env os with | some svs => if svs.length + ([] : List D).length = n then m (svs ++ ([] : List D).map .val) h1 else .bad | none => .bad) ↔ ∃ svs, svsOf env os = some svs ∧ svs.length = n ∧ WF m svs h1 Q := fun os h1 => by
    cases q1 : svsOf env os with
    | none => exact ⟨fun q => q.elim, fun ⟨_, e, _⟩ => nomatch e⟩
    | some svs =>
      dsimp only
      rw [List.map_nil, List.append_nil, List.length_nil, Nat.add_zero]
      split
      · rename_i hl
        exact ⟨fun z => ⟨svs, rfl, hl, z⟩, fun ⟨_, e1, _, z⟩ => by cases e1; exact z⟩
      · rename_i hl
        exact ⟨fun z => z.elim, fun ⟨_, e1, z, _⟩ => by cases e1; exact hl z⟩
  exact ⟨fun z => WR.imp z fun y h2 => (this y h2).mp, fun z => WR.imp z fun y h2 => (this y h2).mpr⟩
@[simp] theorem svs_nil : svsOf env [] = some [] := rfl
@[simp] theorem svs_vl {d : D} {os : List OV} : svsOf env (.vl d :: os) = (svsOf env os).map (.val d :: ·) := by
  rw [svsOf]
  show (match some (SV.val d), svsOf env os with | some s, some ss => some (s :: ss) | _, _ => none) = _
  cases svsOf env os <;> rfl
theorem svs_sl {i : Nat} {s : SV} {os : List OV} (e : env[i]? = some (some s)) : svsOf env (.sl i :: os) = (svsOf env os).map (s :: ·) := by
  have e1 : svOf env (.sl i) = some s := by
    show (match env[i]? with | some (some sv) => some sv | _ => none) = some s
    rw [e]
  rw [svsOf, e1]
  cases svsOf env os <;> rfl
/-! ### statements -/
@[simp] theorem ws_nx : WS sNx env h N R ↔ N env h := Iff.rfl
@[simp] theorem ws_seq {m k : Sx} : WS (sSeq m k) env h N R ↔ WS m env h (fun e h1 => WS k e h1 N R) R := by
  unfold WS sSeq
  cases m env h <;> exact Iff.rfl
theorem ws_bindS {m : Ex} {k : RV → Nv → Hs → SRes} : WSr N R (bindS m k env h) ↔ WE m env h fun rv h1 => WSr N R (k rv env h1) := by
  unfold bindS WE
  cases m env h <;> exact Iff.rfl
@[simp] theorem ws_set {i : Nat} {m : Ex} : WS (sSet i m) env h N R ↔ WE m env h fun rv h1 => N (env.set i (some (.val rv.vl))) h1 := ws_bindS
theorem ws_new {i : Nat} {m : Ex} : WS (sNew i m) env h N R ↔ WE m env h fun rv h1 => ∃ ds, rv = .fresh ds ∧ N (env.set i (some (.loc h1.length))) (h1 ++ [.lst ds]) := by
  unfold WS sNew
  rw [ws_bindS]
  have : ∀ (rv : RV) (h1 : Hs), WSr N R (match rv with | .fresh ds => .nx (env.set i (some (.loc h1.length))) (h1 ++ [.lst ds]) | .val _ => .bad) ↔ ∃ ds, rv = .fresh ds ∧ N (env.set i (some (.loc h1.length))) (h1 ++ [.lst ds]) := fun rv h1 => by
    cases rv with
    | fresh ds => exact ⟨fun z => ⟨ds, rfl, z⟩, fun ⟨_, e, z⟩ => by cases e; exact z⟩
    | val d => exact ⟨fun z => z.elim, fun ⟨_, e, _⟩ => nomatch e⟩
  exact ⟨fun z => WR.imp z fun y h2 => (this y h2).mp, fun z => WR.imp z fun y h2 => (this y h2).mpr⟩
@[simp] theorem ws_expr {m : Ex} : WS (sExpr m) env h N R ↔ WE m env h fun _ h1 => N env h1 := ws_bindS
@[simp] theorem ws_ret {m : Ex} : WS (sRet m) env h N R ↔ WE m env h fun rv h1 => R rv h1 := ws_bindS
@[simp] theorem ws_if {t : Tx} {a b : Sx} : WS (sIf t a b) env h N R ↔ WT t env h fun k h1 => if k then WS a env h1 N R else WS b env h1 N R := by
  unfold WS WT sIf
  cases t env h with
  | ok k h1 => cases k <;> exact Iff.rfl
  | _ => exact Iff.rfl
theorem ws_store {i n : Nat} {mi m : Ex} (e : env[i]? = some (some (.loc n))) : WS (sStore i mi m) env h N R ↔ WE m env h fun rv h1 => WE mi env h1 fun ri h2 => ∃ k ds j, ri = .val (.int k) ∧ h2[n]? = some (.lst ds) ∧ ixN ds.length k = some j ∧ N env (h2.set n (.lst (ds.set j rv.vl))) := by
  unfold WS sStore
  rw [e]
  dsimp only
  rw [ws_bindS]
  have key : ∀ (d : D) (ri : RV) (h2 : Hs), WSr N R (storeAt n d ri env h2) ↔ ∃ k ds j, ri = .val (.int k) ∧ h2[n]? = some (.lst ds) ∧ ixN ds.length k = some j ∧ N env (h2.set n (.lst (ds.set j d))) := fun d ri h2 => by
    unfold storeAt
    split
    · rename_i k
      split
      · rename_i ds e1
        split
        · rename_i j e2
          exact ⟨fun z => ⟨k, ds, j, rfl, e1, e2, z⟩, fun ⟨_, _, _, a, b, c, z⟩ => by cases a; rw [e1] at b; cases b; rw [e2] at c; cases c; exact z⟩
        · rename_i e2
          exact ⟨fun z => z.elim, fun ⟨_, _, _, a, b, c, z⟩ => by cases a; rw [e1] at b; cases b; rw [e2] at c; cases c⟩
      · rename_i hn
        exact ⟨fun z => z.elim, fun ⟨_, ds, _, a, b, c, z⟩ => (hn ds b).elim⟩
    · rename_i hn
      exact ⟨fun z => z.elim, fun ⟨k, ds, _, a, b, c, z⟩ => (hn k a).elim⟩
  have : ∀ (rv : RV) (h1 : Hs), WSr N R (bindS mi (storeAt n rv.vl) env h1) ↔ WE mi env h1 fun ri h2 => ∃ k ds j, ri = .val (.int k) ∧ h2[n]? = some (.lst ds) ∧ ixN ds.length k = some j ∧ N env (h2.set n (.lst (ds.set j rv.vl))) := fun rv h1 => by
    rw [ws_bindS]
    exact ⟨fun z => WR.imp z fun y h2 => (key _ y h2).mp, fun z => WR.imp z fun y h2 => (key _ y h2).mpr⟩
  exact ⟨fun z => WR.imp z fun y h2 => (this y h2).mp, fun z => WR.imp z fun y h2 => (this y h2).mpr⟩
/-- a def -/
theorem wf_fn {n : Nat} {m : Sx} {svs : List SV} : WF (fnE n m) svs h Q ↔ WS m (svs.map some ++ List.replicate (n - svs.length) none) h (fun _ h1 => Q (.val .non) (h1.take h.length)) (fun rv h1 => Q rv (h1.take h.length)) := by
  unfold WF fnE WS
  cases m (svs.map some ++ List.replicate (n - svs.length) none) h <;> exact Iff.rfl
/-- a loop, by an invariant -/
theorem ws_for {it : Ix} {g : Gx} {b : Sx} (hi : WI it env h fun ds h1 => ∃ I : Nat → Nv → Hs → Prop, I 0 env h1 ∧ (∀ i d e h2, ds[i]? = some d → I i e h2 → ∃ e1, g d e = some e1 ∧ WS b e1 h2 (I (i + 1)) R) ∧ ∀ e h2, I ds.length e h2 → N e h2) : WS (sFor it g b) env h N R := by
  unfold WS sFor
  unfold WI at hi
  cases q : it env h with
  | exc x h1 => rw [q] at hi; exact hi.elim
  | bad => rw [q] at hi; exact hi.elim
  | ok ds h1 =>
    rw [q] at hi
    obtain ⟨I, i0, step, done⟩ := hi
    have go : ∀ (l : List D) (i : Nat) (e : Nv) (h2 : Hs), ds.drop i = l → i ≤ ds.length → I i e h2 → WSr N R (forL g b l e h2) := by
      intro l
      induction l with
      | nil =>
        intro i e h2 hd hle hI
        by_cases hl : i < ds.length
        · rw [List.drop_eq_getElem_cons hl] at hd; cases hd
        · unfold forL
          have he : i = ds.length := by omega
          subst he; exact done e h2 hI
      | cons d l ih =>
        intro i e h2 hd hle hI
        have hl : i < ds.length := by
          by_cases hl : i < ds.length
          · exact hl
          · rw [List.drop_eq_nil_of_le (by omega)] at hd; cases hd
        rw [List.drop_eq_getElem_cons hl] at hd
        cases hd
        obtain ⟨e1, hg, hb⟩ := step i _ e h2 (List.getElem?_eq_getElem hl) hI
        unfold forL
        rw [hg]
        dsimp only
        unfold WS at hb
        cases q2 : b e1 h2 with
        | nx e2 h3 => rw [q2] at hb; exact ih (i + 1) e2 h3 rfl hl hb
        | rt rv h3 => rw [q2] at hb; exact hb
        | bk _ _ => rw [q2] at hb; exact hb.elim
        | ct _ _ => rw [q2] at hb; exact hb.elim
        | exc _ _ _ => rw [q2] at hb; exact hb.elim
        | bad => rw [q2] at hb; exact hb.elim
    exact go ds 0 env h1 rfl (Nat.zero_le _) i0
/-! ### what is walked; pairs; slices; methods -/
@[simp] theorem wi_range1 {m : As} : WI (iRange range1? m) env h QI ↔ WA m env h fun os h1 => ∃ ds, forces env h1 os = some ds ∧ ∃ es, range1? ds = some es ∧ QI es h1 := by
  unfold WI WA iRange
  cases m env h with
  | ok os h1 =>
    dsimp only [WR]
    cases q1 : forces env h1 os with
    | none => exact ⟨fun q => q.elim, fun ⟨_, e, _⟩ => nomatch e⟩
    | some ds =>
      dsimp only
      cases q2 : range1? ds with
      | none => exact ⟨fun q => q.elim, fun ⟨_, e, _, e2, _⟩ => by cases e; rw [q2] at e2; cases e2⟩
      | some es => exact ⟨fun z => ⟨ds, rfl, es, q2, z⟩, fun ⟨_, e, _, e2, z⟩ => by cases e; rw [q2] at e2; cases e2; exact z⟩
  | _ => exact Iff.rfl
def seqD : D → Option (List D)
  | .lst ds => some ds
  | .scr ds => some ds
  | .tup ds => some ds
  | _ => none
@[simp] theorem wi_val {m : Ex} : WI (iVal m) env h QI ↔ WE m env h fun rv h1 => ∃ ds, seqD rv.vl = some ds ∧ QI ds h1 := by
  unfold WI WE iVal
  cases m env h with
  | ok rv h1 =>
    dsimp only [WR]
    cases rv.vl <;> first | exact ⟨fun z => ⟨_, rfl, z⟩, fun ⟨_, e, z⟩ => by cases e; exact z⟩ | exact ⟨fun q => q.elim, fun ⟨_, e, _⟩ => nomatch e⟩
  | _ => exact Iff.rfl
@[simp] theorem wi_zip {m : As} : WI (iZip2 m) env h QI ↔ WA m env h fun os h1 => ∃ ds, plains os = some ds ∧ ∃ es, zip2? ds = some es ∧ QI es h1 := by
  unfold WI WA iZip2
  cases m env h with
  | ok os h1 =>
    dsimp only [WR]
    cases q1 : plains os with
    | none => exact ⟨fun q => q.elim, fun ⟨_, e, _⟩ => nomatch e⟩
    | some ds =>
      dsimp only
      cases q2 : zip2? ds with
      | none => exact ⟨fun q => q.elim, fun ⟨_, e, _, e2, _⟩ => by cases e; rw [q2] at e2; cases e2⟩
      | some es => exact ⟨fun z => ⟨ds, rfl, es, q2, z⟩, fun ⟨_, e, _, e2, z⟩ => by cases e; rw [q2] at e2; cases e2; exact z⟩
  | _ => exact Iff.rfl
@[simp] theorem wx_no : WX' pNo env h QX ↔ QX none h := Iff.rfl
@[simp] theorem wx_at {m : Ex} : WX' (pAt m) env h QX ↔ WE m env h fun rv h1 => ∃ i, rv = .val (.int i) ∧ QX (some i) h1 := by
  unfold WX' WE pAt
  cases m env h with
  | ok rv h1 =>
    cases rv with
    | val d =>
      cases d with
      | int b => exact ⟨fun z => ⟨b, rfl, z⟩, fun ⟨_, e, z⟩ => by cases e; exact z⟩
      | _ => exact ⟨fun z => z.elim, fun ⟨_, e, _⟩ => nomatch e⟩
    | fresh ds => exact ⟨fun z => z.elim, fun ⟨_, e, _⟩ => nomatch e⟩
  | _ => exact Iff.rfl
theorem wr_bindP {m : Px} {k : Option Int → Hs → Res RV} : WR Q (bindP m k env h) ↔ WX' m env h fun o h1 => WR Q (k o h1) := by
  unfold bindP WX'
  cases m env h <;> exact Iff.rfl
@[simp] theorem we_sl {a : Ox} {lo hi : Px} : WE (eSl a lo hi) env h Q ↔ WO a env h fun x h1 => WX' lo env h1 fun l h2 => WX' hi env h2 fun u h3 => ∃ d, force env h3 x = some d ∧ ∃ rv, dSl d l u = some rv ∧ Q rv h3 := by
  unfold WE eSl
  rw [wr_bindO]
  have k3 : ∀ x l u h3, WR Q (opS l u env h3 x) ↔ ∃ d, force env h3 x = some d ∧ ∃ rv, dSl d l u = some rv ∧ Q rv h3 := fun x l u h3 => by
    unfold opS
    cases q1 : force env h3 x with
    | none => exact ⟨fun q => q.elim, fun ⟨_, e, _⟩ => nomatch e⟩
    | some d =>
      rw [wr_lift]
      exact ⟨fun z => ⟨d, rfl, z⟩, fun ⟨_, e1, z⟩ => by cases e1; exact z⟩
  have k2 : ∀ x l h2, WR Q (bindP hi (fun u h3 => opS l u env h3 x) env h2) ↔ WX' hi env h2 fun u h3 => ∃ d, force env h3 x = some d ∧ ∃ rv, dSl d l u = some rv ∧ Q rv h3 := fun x l h2 => by
    rw [wr_bindP]
    exact ⟨fun z => WR.imp z fun u h3 => (k3 x l u h3).mp, fun z => WR.imp z fun u h3 => (k3 x l u h3).mpr⟩
  have k1 : ∀ x h1, WR Q (bindP lo (fun l h2 => bindP hi (fun u h3 => opS l u env h3 x) env h2) env h1) ↔ WX' lo env h1 fun l h2 => WX' hi env h2 fun u h3 => ∃ d, force env h3 x = some d ∧ ∃ rv, dSl d l u = some rv ∧ Q rv h3 := fun x h1 => by
    rw [wr_bindP]
    exact ⟨fun z => WR.imp z fun l h2 => (k2 x l h2).mp, fun z => WR.imp z fun l h2 => (k2 x l h2).mpr⟩
  exact ⟨fun z => WR.imp z fun y h2 => (k1 y h2).mp, fun z => WR.imp z fun y h2 => (k1 y h2).mpr⟩
/-- a method of the list in slot i -/
theorem we_meth {op : List D → List D → Option (List D × D)} {i n : Nat} {m : As} {ds0 : List D} (e : env[i]? = some (some (.loc n))) (e0 : h[n]? = some (.lst ds0)) :
    WE (eList op i m) env h Q ↔ WA m env h fun os h1 => ∃ as, plains os = some as ∧ ∃ ds, h1[n]? = some (.lst ds) ∧ ∃ p, op ds as = some p ∧ Q (.val p.2) (h1.set n (.lst p.1)) := by
  unfold WE eList
  rw [e]
  dsimp only
  rw [e0]
  dsimp only
  unfold eMeth
  rw [wr_bindA]
  have : ∀ os h1, WR Q (match plains os with | some as => onList op env i as h1 | none => .bad) ↔ ∃ as, plains os = some as ∧ ∃ ds, h1[n]? = some (.lst ds) ∧ ∃ p, op ds as = some p ∧ Q (.val p.2) (h1.set n (.lst p.1)) := fun os h1 => by
    cases q1 : plains os with
    | none => exact ⟨fun q => q.elim, fun ⟨_, e, _⟩ => nomatch e⟩
    | some as =>
      dsimp only
      unfold onList
      rw [e]
      dsimp only
      cases q2 : h1[n]? with
      | none => exact ⟨fun q => q.elim, fun ⟨_, _, _, e, _⟩ => nomatch e⟩
      | some c =>
        cases c with
        | dead => exact ⟨fun q => q.elim, fun ⟨_, _, _, e, _⟩ => nomatch e⟩
        | lls rows => exact ⟨fun q => q.elim, fun ⟨_, _, _, e, _⟩ => nomatch e⟩
        | dct ks ds => exact ⟨fun q => q.elim, fun ⟨_, _, _, e, _⟩ => nomatch e⟩
        | lst ds =>
          dsimp only
          cases q3 : op ds as with
          | none => exact ⟨fun q => q.elim, fun ⟨_, a, _, b, _, c, _⟩ => by cases a; cases b; rw [q3] at c; cases c⟩
          | some p => exact ⟨fun z => ⟨as, rfl, ds, rfl, p, q3, z⟩, fun ⟨_, a, _, b, _, c, z⟩ => by cases a; cases b; rw [q3] at c; cases c; exact z⟩
  exact ⟨fun z => WR.imp z fun y h2 => (this y h2).mp, fun z => WR.imp z fun y h2 => (this y h2).mpr⟩
@[simp] theorem wp_nil : WP' pNil env h QP ↔ QP [] h := Iff.rfl
@[simp] theorem wp_val {m : Ex} {r : Ps} : WP' (pCons false m r) env h QP ↔ WE m env h fun rv h1 => WP' r env h1 fun svs h2 => QP (.val rv.vl :: svs) h2 := by
  unfold WP' WE pCons put
  cases m env h with
  | ok rv h1 =>
    dsimp only [WR]
    simp only [Bool.false_eq_true, if_false]
    cases r env h1 <;> exact Iff.rfl
  | _ => exact Iff.rfl
@[simp] theorem wp_new {m : Ex} {r : Ps} : WP' (pCons true m r) env h QP ↔ WE m env h fun rv h1 => ∃ ds, rv = .fresh ds ∧ WP' r env (h1 ++ [.lst ds]) fun svs h2 => QP (.loc h1.length :: svs) h2 := by
  unfold WP' WE pCons put
  cases m env h with
  | ok rv h1 =>
    dsimp only [WR]
    cases rv with
    | val d => exact ⟨fun q => q.elim, fun ⟨_, e, _⟩ => nomatch e⟩
    | fresh ds =>
      simp only [if_true]
      constructor
      · intro z
        refine ⟨ds, rfl, ?_⟩
        cases q : r env (h1 ++ [.lst ds]) with
        | ok svs h3 => rw [q] at z; exact z
        | exc x h3 => rw [q] at z; exact z
        | bad => rw [q] at z; exact z
      · rintro ⟨_, e, z⟩
        cases e
        cases q : r env (h1 ++ [.lst ds]) with
        | ok svs h3 => rw [q] at z; exact z
        | exc x h3 => rw [q] at z; exact z
        | bad => rw [q] at z; exact z
  | _ => exact Iff.rfl
@[simp] theorem ws_multi {is : List Nat} {m : Ps} : WS (sMulti is m) env h N R ↔ WP' m env h fun svs h1 => ∃ e1, setsE is svs env = some e1 ∧ N e1 h1 := by
  unfold WS WP' sMulti
  cases m env h with
  | ok svs h1 =>
    dsimp only [WR]
    cases q : setsE is svs env with
    | none => exact ⟨fun q => q.elim, fun ⟨_, e, _⟩ => nomatch e⟩
    | some e1 => exact ⟨fun z => ⟨e1, rfl, z⟩, fun ⟨_, e, z⟩ => by cases e; exact z⟩
  | _ => exact Iff.rfl
@[simp] theorem ws_asg {g : Gx} {m : Ex} : WS (sAsg g m) env h N R ↔ WE m env h fun rv h1 => ∃ e1, g rv.vl env = some e1 ∧ N e1 h1 := by
  unfold WS sAsg
  rw [ws_bindS]
  have : ∀ (rv : RV) (h1 : Hs), WSr N R (match g rv.vl env with | some e1 => .nx e1 h1 | none => .bad) ↔ ∃ e1, g rv.vl env = some e1 ∧ N e1 h1 := fun rv h1 => by
    cases q : g rv.vl env with
    | none => exact ⟨fun q => q.elim, fun ⟨_, e, _⟩ => nomatch e⟩
    | some e1 => exact ⟨fun z => ⟨e1, rfl, z⟩, fun ⟨_, e, z⟩ => by cases e; exact z⟩
  exact ⟨fun z => WR.imp z fun y h2 => (this y h2).mp, fun z => WR.imp z fun y h2 => (this y h2).mpr⟩
theorem we_lstRg2 {m m2 : Ex} : WE (eLstRg2 m m2) env h Q ↔ WE m env h fun rv h1 => WE m2 env h1 fun rw h2 => ∃ i j, rv.vl = .int i ∧ rw.vl = .int j ∧ rgOk i j = true ∧ Q (.fresh (rangeD i (j - i).toNat)) h2 := by
  unfold WE eLstRg2 bindV
  cases m env h with
  | ok rv h1 =>
    dsimp only [WR]
    cases m2 env h1 with
    | ok rv2 h2 =>
      dsimp only
      constructor
      · intro z
        have z : WR Q (match rv.vl, rv2.vl with | .int i, .int j => lstRg i j h2 | _, _ => .bad) := z
        cases e1 : rv.vl with
        | int i =>
          cases e2 : rv2.vl with
          | int j =>
            rw [e1, e2] at z
            have z : WR Q (lstRg i j h2) := z
            unfold lstRg at z
            by_cases k : rgOk i j = true
            · rw [if_pos k] at z
              exact ⟨i, j, rfl, rfl, k, z⟩
            · rw [if_neg k] at z
              exact z.elim
          | _ => rw [e1, e2] at z; exact z.elim
        | _ => rw [e1] at z; exact z.elim
      · rintro ⟨i, j, e1, e2, k, z⟩
        show WR Q (match rv.vl, rv2.vl with | .int i, .int j => lstRg i j h2 | _, _ => .bad)
        rw [e1, e2]
        show WR Q (lstRg i j h2)
        unfold lstRg
        rw [if_pos k]
        exact z
    | _ => exact Iff.rfl
  | _ => exact Iff.rfl
@[simp] theorem we_andE {a b : Ex} : WE (eAndE a b) env h Q ↔ WE a env h fun rv h1 => ∃ k, rv = .val (.bl k) ∧ if k then WE b env h1 Q else Q (.val (.bl false)) h1 := by
  unfold WE eAndE
  cases a env h with
  | ok rv h1 =>
    dsimp only [WR]
    cases rv with
    | val d =>
      cases d with
      | bl k => cases k <;> first | exact ⟨fun z => ⟨_, rfl, by simpa using z⟩, fun ⟨_, e, z⟩ => by cases e; simpa using z⟩
      | _ => exact ⟨fun q => q.elim, fun ⟨_, e, _⟩ => nomatch e⟩
    | fresh ds => exact ⟨fun q => q.elim, fun ⟨_, e, _⟩ => nomatch e⟩
  | _ => exact Iff.rfl
@[simp] theorem we_notE {a : Ex} : WE (eNotE a) env h Q ↔ WE a env h fun rv h1 => ∃ k, rv = .val (.bl k) ∧ Q (.val (.bl (!k))) h1 := by
  unfold WE eNotE
  cases a env h with
  | ok rv h1 =>
    dsimp only [WR]
    cases rv with
    | val d =>
      cases d with
      | bl k => exact ⟨fun z => ⟨_, rfl, z⟩, fun ⟨_, e, z⟩ => by cases e; exact z⟩
      | _ => exact ⟨fun q => q.elim, fun ⟨_, e, _⟩ => nomatch e⟩
    | fresh ds => exact ⟨fun q => q.elim, fun ⟨_, e, _⟩ => nomatch e⟩
  | _ => exact Iff.rfl
end
end Ev
end
section
set_option Elab.async false
set_option linter.all false
set_option maxRecDepth 100000
set_option maxHeartbeats 2000000
/-! Lpen: the laws' drawing of numbers (_law_pen, _law_next, _law_draw are alike in every law). -/
namespace Ev
open PySem L2
@[simp] theorem wo_n' {env : Nv} {h : Hs} {QO : OV → Hs → Prop} {i : Nat} : WO (nO i) env h QO ↔ (∃ s, env[i]? = some (some s)) ∧ QO (.sl i) h := by
  unfold WO nO
  split
  · rename_i s e
    exact ⟨fun q => ⟨⟨s, e⟩, q⟩, fun q => q.2⟩
  · rename_i hn
    exact ⟨fun q => q.elim, fun ⟨⟨s, e⟩, _⟩ => (hn s e).elim⟩
@[simp] theorem force_sl {env : Nv} {h : Hs} {i : Nat} : force env h (.sl i) = deref env h i := rfl
@[simp] theorem forces_sl {env : Nv} {h : Hs} {i : Nat} {os : List OV} : forces env h (.sl i :: os) = (deref env h i).bind fun d => (forces env h os).map (d :: ·) := by
  rw [forces]
  show (match deref env h i, forces env h os with | some d, some ds => some (d :: ds) | _, _ => none) = _
  cases deref env h i <;> cases forces env h os <;> rfl
@[simp] theorem svs_sl' {env : Nv} {i : Nat} {os : List OV} : svsOf env (.sl i :: os) = (match env[i]? with | some (some s) => some s | _ => none : Option SV).bind fun s => (svsOf env os).map (s :: ·) := by
  rw [svsOf]
  show (match (match env[i]? with | some (some s) => some s | _ => none : Option SV), svsOf env os with | some s, some ss => some (s :: ss) | _, _ => none) = _
  cases (match env[i]? with | some (some s) => some s | _ => none : Option SV) <;> cases svsOf env os <;> rfl
@[simp] theorem vl_val (d : D) : (RV.val d).vl = d := rfl
@[simp] theorem vl_fresh (ds : List D) : (RV.fresh ds).vl = .lst ds := rfl
@[simp] theorem dAdd_ii (i j : Int) : dAdd (.int i) (.int j) = some (.val (.int (i + j))) := rfl
@[simp] theorem iSub_ii (i j : Int) : iSub (.int i) (.int j) = some (.val (.int (i - j))) := rfl
@[simp] theorem uNeg_i (i : Int) : uNeg (.int i) = some (.val (.int (-i))) := rfl
@[simp] theorem cLt_ii (i j : Int) : cLt (.int i) (.int j) = some (.val (.bl (decide (i < j)))) := rfl
@[simp] theorem cLe_ii (i j : Int) : cLe (.int i) (.int j) = some (.val (.bl (decide (i ≤ j)))) := rfl
@[simp] theorem cGt_ii (i j : Int) : cGt (.int i) (.int j) = some (.val (.bl (decide (j < i)))) := rfl
@[simp] theorem cGe_ii (i j : Int) : cGe (.int i) (.int j) = some (.val (.bl (decide (j ≤ i)))) := rfl
@[simp] theorem dMul_ii (i j : Int) : dMul (.int i) (.int j) = if i.natAbs.log2 + j.natAbs.log2 < 1000000 then some (.val (.int (i * j))) else none := by
  unfold dMul
  show ((if decide (i.natAbs.log2 + j.natAbs.log2 < 1000000) = true then some (RV.val (.int (i * j))) else none).or ((lMul (.int i) (.int j)).or (tMul (.int i) (.int j)))) = _
  by_cases h : i.natAbs.log2 + j.natAbs.log2 < 1000000
  · rw [if_pos (decide_eq_true h), if_pos h]; rfl
  · rw [if_neg (by simpa using h), if_neg h]; rfl
@[simp] theorem iMod_ii (i j : Int) : iMod (.int i) (.int j) = if 0 < j then some (.val (.int (i % j))) else none := by
  show (if decide (0 < j) = true then _ else none) = _
  simp
@[simp] theorem iDiv_ii (i j : Int) : iDiv (.int i) (.int j) = if 0 < j ∧ j.natAbs.log2 < 9000 then some (.val (.int (i / j))) else none := by
  show (if (decide (0 < j) && decide (j.natAbs.log2 < 9000)) = true then _ else none) = _
  simp
@[simp] theorem iPow_ii (i j : Int) : iPow (.int i) (.int j) = if 0 ≤ j ∧ j ≤ 1000000 ∧ i.natAbs < 2 ^ 64 then some (.val (.int (i ^ j.toNat))) else none := by
  show (if (decide (0 ≤ j) && decide (j ≤ 1000000) && decide (i.natAbs < 2 ^ 64)) = true then _ else none) = _
  simp [and_assoc]
@[simp] theorem bInt_i (i : Int) : bInt [.int i] = some (.val (.int i)) := rfl
@[simp] theorem bLen_l (ds : List D) : bLen [.lst ds] = some (.val (.int ds.length)) := rfl
@[simp] theorem bLen_t (ds : List D) : bLen [.tup ds] = some (.val (.int ds.length)) := rfl
@[simp] theorem dIx_l (ds : List D) (i : Int) : dIx (.lst ds) (.int i) = (L2.atI ds i).map RV.val := rfl
@[simp] theorem dIx_t (ds : List D) (i : Int) : dIx (.tup ds) (.int i) = (L2.atI ds i).map RV.val := rfl
theorem atI_n {α : Type} {ds : List α} {j : Nat} {d : α} (h : ds[j]? = some d) : L2.atI ds (j : Int) = some d := by
  have hl := (List.getElem?_eq_some_iff.mp h).1
  unfold L2.atI L2.ixN
  rw [if_pos (by omega), if_pos (by omega)]
  simpa using h
theorem atI_i {α : Type} {ds : List α} {i : Int} {d : α} (h0 : 0 ≤ i) (h : ds[i.toNat]? = some d) : L2.atI ds i = some d := by
  have := atI_n h
  rwa [Int.toNat_of_nonneg h0] at this
def penC (cs : List Int) (i p : Int) : Cell := .lst [.lst (cs.map D.int), .int i, .int p]
theorem log2_le {n k : Nat} (h : n < 2 ^ (k + 1)) : n.log2 ≤ k := by
  by_cases h0 : n = 0
  · subst h0; simp
  · have := (Nat.log2_lt h0 (k := k + 1)).mpr h
    omega
theorem toPys_ints : ∀ cs : List Int, toPys (cs.map D.int) = some (cs.map PyData.int)
  | [] => rfl
  | c :: cs => by
    rw [List.map_cons, toPys, toPys_ints cs]
    rfl
theorem lay_ints : ∀ cs : List Int, PyData.canLayAll0 (cs.map PyData.int) = true
  | [] => rfl
  | c :: cs => by
    show (PyData.canLay0 (.int c) && PyData.canLayAll0 (cs.map PyData.int)) = true
    rw [lay_ints cs]; rfl
theorem depth_ints : ∀ cs : List Int, PyData.depthAll (cs.map PyData.int) ≤ 1
  | [] => by decide
  | c :: cs => by
    have := depth_ints cs
    show max (PyData.depth (.int c)) (PyData.depthAll (cs.map PyData.int)) ≤ 1
    have e : PyData.depth (.int c) ≤ 1 := by show _ ≤ 1; simp [PyData.depth]
    omega
theorem dNe_nil (cs : List Int) : dNe (.lst (cs.map D.int)) (.lst []) = some (.val (.bl (decide (cs ≠ [])))) := by
  have e1 : toPy (.lst (cs.map D.int)) = some (.list (cs.map PyData.int)) := by rw [toPy, toPys_ints]
  have e2 : toPy (.lst []) = some (.list []) := rfl
  have s1 : SeqAt.shaped (.list (cs.map PyData.int)) = true := by
    unfold SeqAt.shaped
    rw [Bool.and_eq_true]
    refine ⟨lay_ints cs, decide_eq_true ?_⟩
    have := depth_ints cs
    simp only [PyData.depth]
    omega
  have s2 : SeqAt.shaped (.list []) = true := rfl
  unfold dNe dEq?
  rw [e1, e2]
  dsimp only
  rw [s1, s2]
  cases cs with
  | nil => rfl
  | cons c cs => rfl
end Ev
end
section
set_option Elab.async false
set_option linter.all false
set_option maxRecDepth 100000
set_option maxHeartbeats 2000000
namespace Ev
open PySem
theorem emod_log (x : Int) {c : Int} (h : 0 < c) (hc : c ≤ 2 ^ 31) : (x % c).natAbs.log2 ≤ 31 := by
  have h1 := Int.emod_nonneg x (by omega : c ≠ 0)
  have h2 := Int.emod_lt_of_pos x h
  refine log2_le (k := 31) ?_
  have : ((x % c).natAbs : Int) = x % c := Int.natAbs_of_nonneg h1
  omega
theorem emod_abs (x : Int) {c : Int} (h : 0 < c) (hc : c ≤ 2 ^ 31) : (x % c).natAbs < 2 ^ 31 := by
  have h1 := Int.emod_nonneg x (by omega : c ≠ 0)
  have h2 := Int.emod_lt_of_pos x h
  have : ((x % c).natAbs : Int) = x % c := Int.natAbs_of_nonneg h1
  omega
theorem log2_mul (x y : Int) {a b : Nat} (hx : x.natAbs < 2 ^ a) (hy : y.natAbs < 2 ^ b) : (x * y).natAbs < 2 ^ (a + b) := by
  rw [Int.natAbs_mul, Nat.pow_add]
  exact Nat.mul_lt_mul'' hx hy
/-- the end of _law_next -/
def tailN : Sx := (sSeq (sSet 3 (eBin iMod (xO (eB bInt (aCons (xO (eBin dAdd (xO (eBin dAdd (xO (eBin iMod (xO (eB bInt (aCons (nO 2) aNil))) (xO (eC (.int 2147483587))))) (xO (eBin dMul (nO 1) (xO (eC (.int 30103))))))) (xO (eC (.int 79))))) aNil))) (xO (eC (.int 2147483587)))))
    (sSeq (sSet 4 (eBin iMod (xO (eB bInt (aCons (xO (eBin dAdd (xO (eBin dAdd (xO (eBin dMul (nO 3) (nO 3))) (xO (eBin dMul (nO 1) (xO (eC (.int 70039))))))) (xO (eC (.int 61))))) aNil))) (xO (eC (.int 2147483563)))))
    (sSeq (sSet 5 (eBin iMod (xO (eB bInt (aCons (xO (eBin dAdd (xO (eBin dAdd (xO (eBin dMul (nO 4) (nO 4))) (nO 3))) (xO (eBin dMul (xO (eBin dMul (nO 1) (nO 1))) (xO (eC (.int 37))))))) aNil))) (xO (eC (.int 2147483549)))))
    (sRet (eBin dAdd (xO (eBin dMul (xO (eBin dAdd (xO (eBin dMul (nO 5) (xO (eC (.int 2147483587))))) (nO 4))) (xO (eC (.int 2147483563))))) (nO 3))))))
theorem tail_ok {h1 : Hs} {n : Nat} {i c : Int} {l : Nat} {Q : RV → Hs → Prop} {N : Nv → Hs → Prop} (hi : 0 ≤ i) (hB : i < 2 ^ 200) (et : h1.take l = h1) (q : ∀ v, Q (.val (.int v)) h1) :
    WS tailN [some (.loc n), some (.val (.int i)), some (.val (.int c)), none, none, none] h1 N (fun rv h2 => Q rv (h2.take l)) := by
  have iab : i.natAbs < 2 ^ 200 := by omega
  have il : i.natAbs.log2 ≤ 199 := log2_le iab
  have iil : (i * i).natAbs.log2 ≤ 399 := log2_le (k := 399) (log2_mul (a := 200) (b := 200) i i iab iab)
  unfold tailN
  simp [deref, and_assoc, bInt, fInt]
  have k1 : Nat.log2 30103 = 14 := by decide
  have k2 : Nat.log2 70039 = 16 := by decide
  have k3 : Nat.log2 37 = 5 := by decide
  have k4 : Nat.log2 2147483587 = 30 := by decide
  have k5 : Nat.log2 2147483563 = 30 := by decide
  rw [k1, k2, k3, k4, k5, et]
  have hs := emod_log (c % 2147483587 + i * 30103 + 79) (c := 2147483587) (by decide) (by decide)
  have hs2 := emod_abs (c % 2147483587 + i * 30103 + 79) (c := 2147483587) (by decide) (by decide)
  generalize (c % 2147483587 + i * 30103 + 79) % 2147483587 = s at hs hs2 ⊢
  have hm := emod_log (s * s + i * 70039 + 61) (c := 2147483563) (by decide) (by decide)
  have hm2 := emod_abs (s * s + i * 70039 + 61) (c := 2147483563) (by decide) (by decide)
  generalize (s * s + i * 70039 + 61) % 2147483563 = m at hm hm2 ⊢
  have hg := emod_log (m * m + s + i * i * 37) (c := 2147483549) (by decide) (by decide)
  have hg2 := emod_abs (m * m + s + i * i * 37) (c := 2147483549) (by decide) (by decide)
  generalize (m * m + s + i * i * 37) % 2147483549 = g at hg hg2 ⊢
  have hl2 : (g * 2147483587 + m).natAbs.log2 ≤ 63 := log2_le (k := 63) (by omega)
  exact ⟨by omega, by omega, by omega, by omega, by omega, by omega, by omega, by omega, q _⟩
end Ev
end
section
set_option Elab.async false
set_option linter.all false
set_option maxRecDepth 100000
set_option maxHeartbeats 2000000
namespace Lk
open PySem Ev Dk
theorem next_ok {h : Hs} {n : Nat} {cs : List Int} {i p : Int} {Q : RV → Hs → Prop} (hn : h[n]? = some (penC cs i p)) (hi : 0 ≤ i) (hB : i < 2 ^ 200) (q : ∀ v, Q (.val (.int v)) (h.set n (penC cs (i + 1) p))) : WF m__law_next [.loc n] h Q := by
  have hl : n < h.length := (List.getElem?_eq_some_iff.mp hn).1
  have e1 : (h.set n (penC cs (i + 1) p))[n]? = some (penC cs (i + 1) p) := List.getElem?_set_self hl
  have et : (h.set n (penC cs (i + 1) p)).take h.length = h.set n (penC cs (i + 1) p) := by
    rw [List.take_of_length_le (by simp)]
  have iab : i.natAbs < 2 ^ 200 := by omega
  have il : i.natAbs.log2 ≤ 199 := log2_le iab
  have n1 : (1051 : Int).natAbs.log2 = 10 := by decide
  unfold m__law_next
  rw [wf_fn]
  show WS _ [some (.loc n), none, none, none, none, none] h _ _
  refine ws_seq.mpr ?_
  rw [ws_set, we_bin, wo_n (s := .loc n) rfl, wo_x, we_c]
  refine ⟨_, force_loc rfl hn, _, rfl, _, rfl, ?_⟩
  refine ws_seq.mpr ?_
  show WS _ [some (.loc n), some (.val (.int i)), none, none, none, none] h _ _
  rw [ws_store (n := n) rfl, we_bin, wo_n (s := .val (.int i)) rfl, wo_x, we_c]
  refine ⟨_, force_val rfl, _, rfl, _, dAdd_ii _ _, ?_⟩
  rw [we_c]
  refine ⟨1, _, 1, rfl, hn, rfl, ?_⟩
  refine ws_seq.mpr ?_
  show WS _ [some (.loc n), some (.val (.int i)), none, none, none, none] (h.set n (penC cs (i + 1) p)) _ _
  generalize hh : h.set n (penC cs (i + 1) p) = h1 at e1 et q ⊢
  have fin : ∀ c : Int, WS tailN [some (.loc n), some (.val (.int i)), some (.val (.int c)), none, none, none] h1 (fun _ h2 => Q (.val .non) (h2.take h.length)) (fun rv h2 => Q rv (h2.take h.length)) := fun c => tail_ok hi hB et q
  simp only [ws_set, we_bin, wo_n', wo_x, we_c, force_sl, force_vl, vl_val, deref, List.getElem?_cons_succ, List.getElem?_cons_zero, dMul_ii, dAdd_ii, Option.ite_none_right_eq_some, Option.some.injEq, exists_eq_left', and_assoc, exists_and_left, true_and, exists_eq', List.set_cons_succ, List.set_cons_zero]
  refine ⟨by simp only [n1]; omega, ?_⟩
  refine ws_seq.mpr (ws_if.mpr ?_)
  have d0 : force [some (.loc n), some (.val (.int i)), some (.val (.int (i * 1051 + 53))), none, none, none] h1 (.sl 0) = some (.lst [.lst (cs.map D.int), .int (i + 1), .int p]) := force_loc rfl e1
  have dlen : ∀ c : D, forces [some (.loc n), some (.val (.int i)), some (.val c), none, none, none] h1 [.vl (.lst (cs.map D.int))] = some [.lst (cs.map D.int)] := fun _ => rfl
  have fin2 : ∀ c : Int, WS (sIf (tAndE (bOf (eBin cLt (nO 1) (xO (eB bLen (aCons (xO (eBin dIx (nO 0) (xO (eC (.int 0))))) aNil))))) (bOf (eBin cGe (nO 2) (xO (eBin iPow (xO (eC (.int 10))) (xO (eC (.int 18))))))))
    (sRet (eVar 2)) sNx) [some (.loc n), some (.val (.int i)), some (.val (.int c)), none, none, none] h1 (fun e h2 => WS tailN e h2 (fun _ h2 => Q (.val .non) (h2.take h.length)) (fun rv h2 => Q rv (h2.take h.length))) (fun rv h2 => Q rv (h2.take h.length)) := fun c => by
    have e0 : force [some (.loc n), some (.val (.int i)), some (.val (.int c)), none, none, none] h1 (.sl 0) = some (.lst [.lst (cs.map D.int), .int (i + 1), .int p]) := force_loc rfl e1
    rw [ws_if, wt_and, wt_of, we_bin, wo_n (s := .val (.int i)) rfl, wo_x, we_B, wa_cons, wo_x, we_bin, wo_n (s := .loc n) rfl, wo_x, we_c]
    refine ⟨_, e0, _, rfl, _, rfl, ?_⟩
    rw [wa_nil]
    refine ⟨_, rfl, _, rfl, _, force_val rfl, _, rfl, _, rfl, _, rfl, ?_⟩
    by_cases h1' : i < (cs.map D.int).length
    · rw [if_pos (decide_eq_true h1'), wt_of, we_bin, wo_n (s := .val (.int c)) rfl, wo_x, we_bin, wo_x, we_c, wo_x, we_c]
      refine ⟨_, rfl, _, rfl, _, rfl, _, force_val rfl, _, rfl, _, rfl, _, rfl, ?_⟩
      by_cases h2' : (10 : Int) ^ (18 : Int).toNat ≤ c
      · rw [if_pos (decide_eq_true h2'), ws_ret, we_var]
        refine ⟨_, rfl, ?_⟩
        rw [et]
        exact q c
      · rw [if_neg (by simpa using h2')]
        exact fin c
    · rw [if_neg (by simpa using h1')]
      exact fin c
  rw [wt_of, we_bin, wo_x, we_bin, wo_n (s := .loc n) rfl, wo_x, we_c]
  refine ⟨_, d0, _, rfl, _, rfl, ?_⟩
  rw [wo_x, we_lst, wa_nil]
  refine ⟨_, rfl, by decide, _, rfl, _, rfl, _, dNe_nil cs, _, rfl, ?_⟩
  by_cases hc : cs = []
  · rw [if_neg (by simpa using hc), ws_nx]
    exact ws_seq.mpr (fin2 _)
  · rw [if_pos (by simpa using hc), ws_set, we_bin, wo_x, we_bin, wo_n (s := .loc n) rfl, wo_x, we_c]
    refine ⟨_, d0, _, rfl, _, rfl, ?_⟩
    rw [wo_x, we_bin, wo_x, we_B, wa_cons, wo_n (s := .val (.int i)) rfl, wa_nil]
    refine ⟨_, rfl, _, rfl, ?_⟩
    rw [wo_x, we_B, wa_cons, wo_x, we_bin, wo_n (s := .loc n) rfl, wo_x, we_c]
    refine ⟨_, d0, _, rfl, _, rfl, ?_⟩
    rw [wa_nil]
    have hp : (0 : Int) < (cs.map D.int).length := by
      rw [List.length_map]
      have := List.length_pos_iff.mpr hc
      omega
    refine ⟨_, rfl, _, rfl, _, rfl, _, rfl, _, by rw [vl_val, vl_val, iMod_ii, if_pos hp], ?_⟩
    have h0 := Int.emod_nonneg i (by omega : ((cs.map D.int).length : Int) ≠ 0)
    have h2 := Int.emod_lt_of_pos i hp
    have hln : (cs.map D.int).length = cs.length := List.length_map ..
    have hk : (i % ((cs.map D.int).length : Int)).toNat < cs.length := by omega
    refine ⟨_, rfl, _, rfl, _, by
      rw [vl_val, vl_val, dIx_l, atI_i (d := D.int (cs[(i % ((cs.map D.int).length : Int)).toNat])) h0 (by rw [List.getElem?_map, List.getElem?_eq_getElem hk]; rfl)]; rfl, ?_⟩
    exact ws_seq.mpr (fin2 _)
/-- the pen: B draws are left -/
def PenAt (B : Nat) (h : Hs) (n : Nat) : Prop := ∃ cs i p, h[n]? = some (penC cs i p) ∧ 0 ≤ i ∧ i + (B : Int) < 2 ^ 200
/-- nothing else has changed -/
def Only1 (n : Nat) (h h' : Hs) : Prop := h'.length = h.length ∧ ∀ m, m ≠ n → h'[m]? = h[m]?
theorem Only1.refl (n : Nat) (h : Hs) : Only1 n h h := ⟨rfl, fun _ _ => rfl⟩
theorem Only1.trans {n : Nat} {h h1 h2 : Hs} (a : Only1 n h h1) (b : Only1 n h1 h2) : Only1 n h h2 := ⟨b.1.trans a.1, fun m hm => (b.2 m hm).trans (a.2 m hm)⟩
theorem Only1.set {n : Nat} {h : Hs} (c : Cell) : Only1 n h (h.set n c) := ⟨List.length_set .., fun m hm => List.getElem?_set_ne (Ne.symm hm)⟩
theorem PenAt.mono {B B' : Nat} {h : Hs} {n : Nat} (p : PenAt B h n) (hb : B' ≤ B) : PenAt B' h n := by
  obtain ⟨cs, i, q, e, h0, h1⟩ := p
  exact ⟨cs, i, q, e, h0, by omega⟩
theorem draw_ok {h : Hs} {n B : Nat} {u : Int} {Q : RV → Hs → Prop} (hp : PenAt (B + 1) h n) (hu : 0 < u) (hu2 : u.natAbs.log2 < 9000) (q : ∀ d h', 0 ≤ d → d < u → PenAt B h' n → Only1 n h h' → Q (.val (.int d)) h') : WF m__law_draw [.loc n, .val (.int u)] h Q := by
  obtain ⟨cs, i, p, hn, h0, hB⟩ := hp
  have hl : n < h.length := (List.getElem?_eq_some_iff.mp hn).1
  unfold m__law_draw
  rw [wf_fn]
  show WS _ [some (.loc n), some (.val (.int u)), none] h _ _
  -- behind the refill
  have fin : ∀ (j : Int) (p : Int) (h1 : Hs), 0 ≤ j → j + (B : Int) < 2 ^ 200 → h1[n]? = some (penC cs j p) → Only1 n h h1 →
      WS (sSeq (sSet 2 (eBin iMod (xO (eB bInt (aCons (xO (eBin dIx (nO 0) (xO (eC (.int 2))))) aNil))) (nO 1)))
        (sSeq (sStore 0 (eC (.int 2)) (eBin iDiv (xO (eBin dIx (nO 0) (xO (eC (.int 2))))) (nO 1))) (sRet (eVar 2))))
        [some (.loc n), some (.val (.int u)), none] h1 (fun _ h2 => Q (.val .non) (h2.take h.length)) (fun rv h2 => Q rv (h2.take h.length)) := fun j p h1 hj hjB e1 o1 => by
    have hl1 : n < h1.length := (List.getElem?_eq_some_iff.mp e1).1
    refine ws_seq.mpr ?_
    rw [ws_set, we_bin, wo_x, we_B, wa_cons, wo_x, we_bin, wo_n (s := .loc n) rfl, wo_x, we_c]
    refine ⟨_, force_loc rfl e1, _, rfl, _, rfl, ?_⟩
    rw [wa_nil]
    refine ⟨_, rfl, _, rfl, ?_⟩
    rw [wo_n (s := .val (.int u)) rfl]
    refine ⟨_, rfl, _, force_val rfl, _, by rw [vl_val, iMod_ii, if_pos hu], ?_⟩
    show WS _ [some (.loc n), some (.val (.int u)), some (.val (.int (p % u)))] h1 _ _
    refine ws_seq.mpr ?_
    rw [ws_store (n := n) rfl, we_bin, wo_x, we_bin, wo_n (s := .loc n) rfl, wo_x, we_c]
    refine ⟨_, force_loc rfl e1, _, rfl, _, rfl, ?_⟩
    rw [wo_n (s := .val (.int u)) rfl]
    refine ⟨_, rfl, _, force_val rfl, _, by rw [vl_val, iDiv_ii, if_pos ⟨hu, hu2⟩], ?_⟩
    rw [we_c]
    refine ⟨2, _, 2, rfl, e1, rfl, ?_⟩
    rw [ws_ret, we_var]
    refine ⟨_, rfl, ?_⟩
    show Q (.val (.int (p % u))) ((h1.set n (penC cs j (p / u))).take h.length)
    have et : (h1.set n (penC cs j (p / u))).take h.length = h1.set n (penC cs j (p / u)) := by
      rw [List.take_of_length_le (by rw [List.length_set, o1.1]; exact Nat.le_refl _)]
    rw [et]
    exact q _ _ (Int.emod_nonneg p (by omega)) (Int.emod_lt_of_pos p hu) ⟨cs, j, p / u, List.getElem?_set_self hl1, hj, hjB⟩ (o1.trans (Only1.set _))
  refine ws_seq.mpr (ws_if.mpr ?_)
  rw [wt_of, we_bin, wo_x, we_bin, wo_n (s := .loc n) rfl, wo_x, we_c]
  refine ⟨_, force_loc rfl hn, _, rfl, _, rfl, ?_⟩
  rw [wo_n (s := .val (.int u)) rfl]
  refine ⟨_, rfl, _, force_val rfl, _, rfl, _, rfl, ?_⟩
  by_cases hpu : p < u
  · rw [if_pos (decide_eq_true hpu), ws_store (n := n) rfl, we_call, wa_cons, wo_n (s := .loc n) rfl, wa_nil]
    refine ⟨_, svs_sl (s := .loc n) rfl, rfl, ?_⟩
    refine next_ok hn h0 (by omega) fun v => ?_
    rw [we_c]
    have e2 : (h.set n (penC cs (i + 1) p))[n]? = some (penC cs (i + 1) p) := List.getElem?_set_self hl
    refine ⟨2, _, 2, rfl, e2, rfl, ?_⟩
    show WS _ _ ((h.set n (penC cs (i + 1) p)).set n (penC cs (i + 1) v)) _ _
    rw [List.set_set]
    exact fin (i + 1) v _ (by omega) (by omega) (List.getElem?_set_self hl) (Only1.set _)
  · rw [if_neg (by simpa using hpu), ws_nx]
    exact fin i p h h0 (by omega) hn (Only1.refl n h)
end Lk
end
section
set_option Elab.async false
set_option linter.all false
set_option maxRecDepth 100000
set_option maxHeartbeats 1000000
/-! Ew2: weakest preconditions of what Ev16 and Ev17 brought. -/
namespace Ev
open PySem L2
def WPs (ms : List Ex) (env : Nv) (h : Hs) (Q : List D → Hs → Prop) : Prop := WR Q (evalPs ms env h)
section
variable {env : Nv} {h : Hs} {Q : RV → Hs → Prop} {QO : OV → Hs → Prop} {QA : List OV → Hs → Prop} {QT : Bool → Hs → Prop} {QD : List D → Hs → Prop} {N : Nv → Hs → Prop} {R : RV → Hs → Prop}
@[simp] theorem wa_star {m : Ex} {r : As} : WA (aStar m r) env h QA ↔ WE m env h fun rv h1 => ∃ ds, items? rv.vl = some ds ∧ WA r env h1 fun os h2 => QA (ds.map OV.vl ++ os) h2 := by
  unfold WA WE aStar
  cases m env h with
  | ok rv h1 =>
    dsimp only [WR]
    cases q1 : items? rv.vl with
    | none => exact ⟨fun q => q.elim, fun ⟨_, e, _⟩ => nomatch e⟩
    | some ds =>
      dsimp only
      cases r env h1 with
      | ok os h2 => exact ⟨fun z => ⟨ds, rfl, z⟩, fun ⟨_, e, z⟩ => by cases e; exact z⟩
      | exc x h2 => exact ⟨fun z => ⟨ds, rfl, z⟩, fun ⟨_, e, z⟩ => z⟩
      | bad => exact ⟨fun z => ⟨ds, rfl, z⟩, fun ⟨_, e, z⟩ => z⟩
  | exc x h1 => exact Iff.rfl
  | bad => exact Iff.rfl
theorem wr_bindV {m : Ex} {k : D → Hs → Res RV} : WR Q (bindV m k env h) ↔ WE m env h fun rv h1 => WR Q (k rv.vl h1) := by
  unfold bindV WE
  cases m env h <;> exact Iff.rfl
@[simp] theorem we_rev {m : Ex} : WE (eRev m) env h Q ↔ WE m env h fun rv h1 => ∃ r, dRev rv.vl = some r ∧ Q r h1 := by
  unfold WE eRev
  rw [wr_bindV]
  exact ⟨fun z => WR.imp z fun rv h1 => wr_lift.mp, fun z => WR.imp z fun rv h1 => wr_lift.mpr⟩
@[simp] theorem we_VM {op : D → List D → Option RV} {m : Ex} {as : As} : WE (eVM op m as) env h Q ↔ WE m env h fun rv h1 => isLst rv.vl = true ∧ WA as env h1 fun os h2 => ∃ ds, forces env h2 os = some ds ∧ ∃ r, op rv.vl ds = some r ∧ Q r h2 := by
  unfold WE eVM
  rw [wr_bindV]
  have k : ∀ (d : D) os h2, WR Q (opVM op d env h2 os) ↔ ∃ ds, forces env h2 os = some ds ∧ ∃ r, op d ds = some r ∧ Q r h2 := fun d os h2 => by
    unfold opVM
    cases q : forces env h2 os with
    | none => exact ⟨fun q => q.elim, fun ⟨_, e, _⟩ => nomatch e⟩
    | some ds =>
      dsimp only
      rw [wr_lift]
      exact ⟨fun ⟨r, e, z⟩ => ⟨ds, rfl, r, e, z⟩, fun ⟨_, e, r, e2, z⟩ => by cases e; exact ⟨r, e2, z⟩⟩
  have k2 : ∀ (rv : RV) h1, WR Q (if isLst rv.vl = true then bindA as (fun os h2 => opVM op rv.vl env h2 os) env h1 else .bad) ↔ isLst rv.vl = true ∧ WA as env h1 fun os h2 => ∃ ds, forces env h2 os = some ds ∧ ∃ r, op rv.vl ds = some r ∧ Q r h2 := fun rv h1 => by
    by_cases c : isLst rv.vl = true
    · rw [if_pos c, wr_bindA]
      exact ⟨fun z => ⟨c, WR.imp z fun os h2 => (k _ _ _).mp⟩, fun z => WR.imp z.2 fun os h2 => (k _ _ _).mpr⟩
    · rw [if_neg c]
      exact ⟨fun z => z.elim, fun z => absurd z.1 c⟩
  exact ⟨fun z => WR.imp z fun rv h1 => (k2 rv h1).mp, fun z => WR.imp z fun rv h1 => (k2 rv h1).mpr⟩
@[simp] theorem wps_nil : WPs [] env h QD ↔ QD [] h := Iff.rfl
@[simp] theorem wps_cons {m : Ex} {r : List Ex} : WPs (m :: r) env h QD ↔ WE m env h fun rv h1 => WPs r env h1 fun ds h2 => QD (rv.vl :: ds) h2 := by
  unfold WPs WE
  show WR QD (match m env h with
    | .ok rv h1 => (match evalPs r env h1 with
      | .ok ds h2 => .ok (rv.vl :: ds) h2
      | _ => .bad)
    | _ => .bad) ↔ _
  cases m env h with
  | ok rv h1 =>
    dsimp only [WR]
    cases evalPs r env h1 <;> exact Iff.rfl
  | exc x h1 => exact Iff.rfl
  | bad => exact Iff.rfl
@[simp] theorem we_dct {ps : List (Key × Ex)} : WE (eDct ps) env h Q ↔ WPs (ps.map (·.2)) env h fun ds h1 => Q (.val (.dct (ps.map (·.1)) ds)) h1 := by
  unfold WE eDct WPs
  cases evalPs (ps.map (·.2)) env h <;> exact Iff.rfl
@[simp] theorem we_orE {a b : Ex} : WE (eOrE a b) env h Q ↔ WE a env h fun rv h1 => ∃ k, rv = .val (.bl k) ∧ if k then Q (.val (.bl true)) h1 else WE b env h1 Q := by
  unfold WE eOrE
  cases a env h with
  | ok rv h1 =>
    dsimp only [WR]
    cases rv with
    | val d =>
      cases d with
      | bl k => cases k <;> first | exact ⟨fun z => ⟨_, rfl, by simpa using z⟩, fun ⟨_, e, z⟩ => by cases e; simpa using z⟩
      | _ => exact ⟨fun q => q.elim, fun ⟨_, e, _⟩ => nomatch e⟩
    | fresh ds => exact ⟨fun q => q.elim, fun ⟨_, e, _⟩ => nomatch e⟩
  | _ => exact Iff.rfl
end
end Ev
end
section
set_option Elab.async false
set_option linter.all false
set_option maxRecDepth 100000
set_option maxHeartbeats 1000000
/-! Ew3: weakest preconditions: while, enumerate, list(range(n)). -/
namespace Ev
open PySem L2
section
variable {env : Nv} {h : Hs} {Q : RV → Hs → Prop} {QI : List D → Hs → Prop} {N : Nv → Hs → Prop} {R : RV → Hs → Prop}
theorem ws_while {f : Nv → Hs → Nat} {t : Tx} {b : Sx} (I : Nat → Nv → Hs → Prop) (m0 : Nat) (hf : m0 < f env h) (h0 : I m0 env h)
    (step : ∀ m e h1, I m e h1 → WT t e h1 fun k h2 => if k then WS b e h2 (fun e3 h3 => ∃ m', m' < m ∧ I m' e3 h3) R else N e h2) : WS (sWhile f t b) env h N R := by
  have go : ∀ n m e h1, m < n → I m e h1 → WSr N R (whileL t b n e h1) := by
    intro n
    induction n with
    | zero => intro m e h1 hm; omega
    | succ n ih =>
      intro m e h1 hm i
      have s := step m e h1 i
      unfold WT at s
      unfold whileL
      cases q : t e h1 with
      | exc x h2 => rw [q] at s; exact s.elim
      | bad => rw [q] at s; exact s.elim
      | ok k h2 =>
        rw [q] at s
        cases k with
        | false => exact s
        | true =>
          have s : WSr _ R (b e h2) := s
          dsimp only
          cases q2 : b e h2 with
          | nx e3 h3 =>
            rw [q2] at s
            obtain ⟨m', hm', i'⟩ := s
            exact ih m' e3 h3 (by omega) i'
          | rt rv h3 => rw [q2] at s; exact s
          | ct e3 h3 => rw [q2] at s; exact s.elim
          | bk e3 h3 => rw [q2] at s; exact s.elim
          | exc x e3 h3 => rw [q2] at s; exact s.elim
          | bad => rw [q2] at s; exact s.elim
  exact go _ m0 env h hf h0
@[simp] theorem wi_enum {m : As} : WI (iEnum m) env h QI ↔ WA m env h fun os h1 => ∃ ds, plains os = some ds ∧ ∃ es, enum? ds = some es ∧ QI es h1 := by
  unfold WI WA iEnum
  cases m env h with
  | ok os h1 =>
    dsimp only [WR]
    cases q1 : plains os with
    | none => exact ⟨fun q => q.elim, fun ⟨_, e, _⟩ => nomatch e⟩
    | some ds =>
      dsimp only
      cases q2 : enum? ds with
      | none => exact ⟨fun q => q.elim, fun ⟨_, e, _, e2, _⟩ => by cases e; rw [q2] at e2; cases e2⟩
      | some es => exact ⟨fun z => ⟨ds, rfl, es, q2, z⟩, fun ⟨_, e, _, e2, z⟩ => by cases e; rw [q2] at e2; cases e2; exact z⟩
  | _ => exact Iff.rfl
theorem we_lstRg1 {m : Ex} (w : WE m env h fun rv h1 => ∃ j, rv.vl = .int j ∧ rgOk 0 j = true ∧ Q (.fresh (rangeD 0 j.toNat)) h1) : WE (eLstRg1 m) env h Q := by
  unfold WE eLstRg1 bindV
  unfold WE at w
  cases q : m env h with
  | ok rv h1 =>
    rw [q] at w
    obtain ⟨j, e, k, z⟩ := w
    dsimp only
    rw [e]
    show WR Q (lstRg 0 j h1)
    unfold lstRg
    rw [if_pos k, Int.sub_zero]
    exact z
  | exc x h1 => rw [q] at w; exact w.elim
  | bad => rw [q] at w; exact w.elim
end
end Ev
end
section
set_option Elab.async false
set_option linter.all false
set_option maxRecDepth 100000
set_option maxHeartbeats 1000000
/-! Ew4: weakest preconditions of what Ev19, Ev20 and Ev21 brought. -/
namespace Ev
open PySem L2
section
variable {env : Nv} {h : Hs} {Q : RV → Hs → Prop} {QP : List SV → Hs → Prop} {N : Nv → Hs → Prop} {R : RV → Hs → Prop}
theorem we_ix2 {i n : Nat} {mc mj : Ex} (e0 : env[i]? = some (some (.loc n))) (w : WE mc env h fun rc h1 => ∃ c rows k, rc.vl = .int c ∧ h1[n]? = some (.lls rows) ∧ ixN rows.length c = some k ∧
    WE mj env h1 fun rj h2 => ∃ j rows2 ds d, rj.vl = .int j ∧ h2[n]? = some (.lls rows2) ∧ rows2[k]? = some ds ∧ atI ds j = some d ∧ Q (.val d) h2) : WE (eIx2 i mc mj) env h Q := by
  unfold WE eIx2
  rw [e0]
  dsimp only
  rw [wr_bindV]
  refine WR.imp w fun rc h1 z => ?_
  obtain ⟨c, rows, k, e1, e2, e3, w2⟩ := z
  rw [e1]
  dsimp only
  rw [e2]
  dsimp only
  rw [e3]
  dsimp only
  rw [wr_bindV]
  refine WR.imp w2 fun rj h2 z => ?_
  obtain ⟨j, rows2, ds, d, f1, f2, f3, f4, q⟩ := z
  rw [f1]
  dsimp only
  rw [f2]
  dsimp only
  rw [f3]
  dsimp only
  rw [f4]
  exact q
theorem ws_store2 {i n : Nat} {mc mj m : Ex} (e0 : env[i]? = some (some (.loc n))) (w : WE m env h fun rv h0 => WE mc env h0 fun rc h1 => ∃ c rows k, rc.vl = .int c ∧ h1[n]? = some (.lls rows) ∧ ixN rows.length c = some k ∧
    WE mj env h1 fun rj h2 => ∃ j rows2 ds t, rj.vl = .int j ∧ h2[n]? = some (.lls rows2) ∧ rows2[k]? = some ds ∧ ixN ds.length j = some t ∧ N env (h2.set n (.lls (rows2.set k (ds.set t rv.vl))))) : WS (sStore2 i mc mj m) env h N R := by
  unfold WS sStore2
  rw [e0]
  dsimp only
  have b : ∀ (m : Ex) (k : RV → Nv → Hs → SRes) (h : Hs), (WE m env h fun rv h1 => WSr N R (k rv env h1)) → WSr N R (bindS m k env h) := fun m k h w => by
    unfold bindS
    unfold WE at w
    cases q : m env h with
    | ok rv h1 => rw [q] at w; exact w
    | exc x h1 => rw [q] at w; exact w.elim
    | bad => rw [q] at w; exact w.elim
  refine b _ _ _ (WR.imp w fun rv h0 w => b _ _ _ (WR.imp w fun rc h1 z => ?_))
  obtain ⟨c, rows, k, e1, e2, e3, w2⟩ := z
  rw [e1]
  dsimp only
  rw [e2]
  dsimp only
  rw [e3]
  dsimp only
  refine b _ _ _ (WR.imp w2 fun rj h2 z => ?_)
  obtain ⟨j, rows2, ds, t, f1, f2, f3, f4, q⟩ := z
  rw [f1]
  dsimp only
  rw [f2]
  dsimp only
  rw [f3]
  dsimp only
  rw [f4]
  exact q
theorem we_takeL {i n : Nat} {rows : List (List D)} (e1 : env[i]? = some (some (.loc n))) (e2 : h[n]? = some (.lls rows)) : WE (eTakeL i) env h Q ↔ Q (.val (.lst (rows.map D.lst))) (h.set n .dead) := by
  unfold WE eTakeL
  rw [e1]
  dsimp only
  rw [e2]
  exact Iff.rfl
theorem compLL_pure {g : Gx} {t : Tx} {e : Ex} {h : Hs} {F : D → List D} : ∀ (ds : List D) (acc : List (List D)),
    (∀ d ∈ ds, ∃ e1, g d env = some e1 ∧ t e1 h = .ok true h ∧ e e1 h = .ok (.fresh (F d)) h) → compLL g t e env acc ds h = .ok (acc ++ ds.map F) h
  | [], acc, _ => by unfold compLL; simp
  | d :: ds, acc, hd => by
    obtain ⟨e1, hg, ht, he⟩ := hd d List.mem_cons_self
    unfold compLL
    rw [hg]
    dsimp only
    rw [ht]
    dsimp only
    rw [he]
    dsimp only
    rw [compLL_pure ds _ fun d' hd' => hd d' (List.mem_cons_of_mem _ hd'), List.map_cons, List.append_assoc]
    rfl
theorem wp_LL {vs : List Nat} {it : Ix} {g : Gx} {t : Tx} {e : Ex} {r : Ps} (F : D → List D)
    (w : WI it env h fun ds h1 => ds.length < sizeLine ∧ (∀ d ∈ ds, ∃ e1, g d (wipeE env vs) = some e1 ∧ t e1 h1 = .ok true h1 ∧ e e1 h1 = .ok (.fresh (F d)) h1) ∧ WP' r env (h1 ++ [.lls (ds.map F)]) fun svs h3 => QP (.loc h1.length :: svs) h3) :
    WP' (pConsLL vs it g t e r) env h QP := by
  unfold WP' pConsLL compLLr
  unfold WI at w
  cases q : it env h with
  | exc x h1 => rw [q] at w; exact w.elim
  | bad => rw [q] at w; exact w.elim
  | ok ds h1 =>
    rw [q] at w
    obtain ⟨hl, hd, w2⟩ := w
    dsimp only
    rw [if_pos hl, compLL_pure (F := F) ds [] hd, List.nil_append]
    dsimp only
    unfold WP' at w2
    cases q2 : r env (h1 ++ [.lls (ds.map F)]) with
    | ok svs h3 => rw [q2] at w2; exact w2
    | exc x h3 => rw [q2] at w2; exact w2.elim
    | bad => rw [q2] at w2; exact w2.elim
theorem wp_M {m : Ex} {r : Ps} (w : WE m env h fun rv h1 => match rv with
    | .fresh ds => WP' r env (h1 ++ [.lst ds]) fun svs h3 => QP (.loc h1.length :: svs) h3
    | .val d => WP' r env h1 fun svs h3 => QP (.val d :: svs) h3) : WP' (pConsM m r) env h QP := by
  unfold WP' pConsM
  unfold WE at w
  cases q : m env h with
  | exc x h1 => rw [q] at w; exact w.elim
  | bad => rw [q] at w; exact w.elim
  | ok rv h1 =>
    rw [q] at w
    cases rv with
    | val d =>
      have w : WP' r env h1 fun svs h3 => QP (.val d :: svs) h3 := w
      unfold WP' at w
      dsimp only
      cases q2 : r env h1 with
      | ok svs h3 => rw [q2] at w; exact w
      | exc x h3 => rw [q2] at w; exact w.elim
      | bad => rw [q2] at w; exact w.elim
    | fresh ds =>
      have w : WP' r env (h1 ++ [.lst ds]) fun svs h3 => QP (.loc h1.length :: svs) h3 := w
      unfold WP' at w
      dsimp only
      cases q2 : r env (h1 ++ [.lst ds]) with
      | ok svs h3 => rw [q2] at w; exact w
      | exc x h3 => rw [q2] at w; exact w.elim
      | bad => rw [q2] at w; exact w.elim
theorem ws_newD {i : Nat} {ps : List (Key × Ex)} (w : WPs (ps.map (·.2)) env h fun ds h1 => N (env.set i (some (.loc h1.length))) (h1 ++ [.dct (ps.map (·.1)) ds])) : WS (sNewD i ps) env h N R := by
  unfold WS sNewD
  unfold WPs at w
  cases q : evalPs (ps.map (·.2)) env h with
  | ok ds h1 => rw [q] at w; exact w
  | exc x h1 => rw [q] at w; exact w.elim
  | bad => rw [q] at w; exact w.elim
theorem we_ixD {i n : Nat} {mk : Ex} (e0 : env[i]? = some (some (.loc n))) (w : WE mk env h fun rk h1 => ∃ k ks ds d, keyD rk.vl = some k ∧ h1[n]? = some (.dct ks ds) ∧ valD ks ds k = some d ∧ Q (.val d) h1) : WE (eIxD i mk) env h Q := by
  unfold WE eIxD
  rw [e0]
  dsimp only
  rw [wr_bindV]
  refine WR.imp w fun rc h1 z => ?_
  obtain ⟨k, ks, ds, d, e1, e2, e3, q⟩ := z
  rw [e1]
  dsimp only
  rw [e2]
  dsimp only
  rw [e3]
  exact q
theorem ws_storeD {i n : Nat} {mk m : Ex} (e0 : env[i]? = some (some (.loc n))) (w : WE m env h fun rv h1 => WE mk env h1 fun rk h2 => ∃ k ks ds, keyD rk.vl = some k ∧ h2[n]? = some (.dct ks ds) ∧ (ks.any fun q => decide (q = k)) = false ∧ ks.length < 1000 ∧ N env (h2.set n (.dct (ks ++ [k]) (ds ++ [rv.vl])))) : WS (sStoreD i mk m) env h N R := by
  unfold WS sStoreD
  rw [e0]
  dsimp only
  have b : ∀ (m : Ex) (k : RV → Nv → Hs → SRes) (h : Hs), (WE m env h fun rv h1 => WSr N R (k rv env h1)) → WSr N R (bindS m k env h) := fun m k h w => by
    unfold bindS
    unfold WE at w
    cases q : m env h with
    | ok rv h1 => rw [q] at w; exact w
    | exc x h1 => rw [q] at w; exact w.elim
    | bad => rw [q] at w; exact w.elim
  refine b _ _ _ (WR.imp w fun rv h1 w => b _ _ _ (WR.imp w fun rk h2 z => ?_))
  obtain ⟨k, ks, ds, e1, e2, e3, e4, q⟩ := z
  rw [e1]
  dsimp only
  rw [e2]
  dsimp only
  rw [e3, if_neg (by decide), if_pos e4]
  exact q
theorem we_TI {ys : List Str} {mk : Ex} (w : WE mk env h fun rk h1 => ∃ x, rk.vl = .str x ∧ x ∈ ys ∧ Q (.val (.int (ys.idxOf x : Nat))) h1) : WE (eTI ys mk) env h Q := by
  unfold WE eTI
  rw [wr_bindV]
  refine WR.imp w fun rk h1 z => ?_
  obtain ⟨x, e1, hx, q⟩ := z
  rw [e1]
  dsimp only
  rw [if_pos hx]
  exact q
end
end Ev
end
section
set_option Elab.async false
set_option linter.all false
set_option maxRecDepth 100000
set_option maxHeartbeats 2000000
/-! Lcl: drawn clauses. -/
namespace Lk
open PySem Ev Dk
theorem dEq_ii (i j : Int) : dEq (.int i) (.int j) = some (.val (.bl (decide (i = j)))) := by
  show some (RV.val (.bl (PyData.eqv (.int i) (.int j)))) = _
  have : PyData.eqv (.int i) (.int j) = decide (i = j) := by
    simp [PyData.eqv]
    by_cases h : i = j <;> simp [h]
  rw [this]
theorem popAt_ii {ds : List D} {i : Int} {d : D} (h0 : 0 ≤ i) (h1 : i < 2 ^ 63) (h : ds[i.toNat]? = some d) : mPopAt ds [.int i] = some (ds.eraseIdx i.toNat, d) := by
  have hl := (List.getElem?_eq_some_iff.mp h).1
  have hx : L2.ixN ds.length i = some i.toNat := by
    unfold L2.ixN
    rw [if_pos h0, if_pos (by omega)]
  have hs := (L2.ixN_seq hx).1
  show (if -(2 ^ 63) ≤ i ∧ i < 2 ^ 63 then (match seqIndex? i ds.length with | some k => (ds[k]?).map fun d => (ds.eraseIdx k, d) | none => none) else none) = _
  rw [if_pos ⟨by omega, h1⟩, hs]
  dsimp only
  rw [h]; rfl
theorem app_d {ds : List D} {d : D} (h : ds.length < sizeLine) : mApp ds [d] = some (ds ++ [d], .non) := by
  show (if ds.length < sizeLine then some (ds ++ [d], D.non) else none) = _
  rw [if_pos h]
theorem intsOf_ints : ∀ ns : List Int, intsOf (ns.map D.int) = some ns
  | [] => rfl
  | n :: ns => by
    rw [List.map_cons]
    unfold intsOf
    rw [intsOf_ints ns]
theorem sorted_ii (ns : List Int) : bSorted [.lst (ns.map D.int)] = some (.fresh ((sortI ns).map D.int)) := by
  show (intsOf (ns.map D.int)).map (fun ns => RV.fresh ((sortI ns).map D.int)) = _
  rw [intsOf_ints]; rfl
/-- a clause over the signs 1 .. s -/
structure ClauseOk (s : Int) (c : List Int) : Prop where
  pos : 1 ≤ c.length
  few : c.length ≤ 4
  asc : c.Pairwise (· < ·)
  abs : (c.map Int.natAbs).Nodup
  ran : ∀ x ∈ c, 1 ≤ x.natAbs ∧ (x.natAbs : Int) ≤ s
/-- half-way -/
def CI (h : Hs) (n a B : Nat) (s mo : Int) (i : Nat) (e : Nv) (h2 : Hs) : Prop :=
  ∃ (r f : List Int) (x y : Option SV), e = [some (.loc n), some (.val (.int s)), some (.val (.int mo)), some (.loc a), some (.loc (a + 1)), x, y] ∧ h2.length = a + 2 ∧ (∀ m, m < a → m ≠ n → h2[m]? = h[m]?) ∧ PenAt (B + 2 * (4 - i)) h2 n ∧
    h2[a]? = some (.lst (r.map D.int)) ∧ h2[a + 1]? = some (.lst (f.map D.int)) ∧ ((r.length + i : Nat) : Int) = s ∧ r.Nodup ∧ (∀ x ∈ r, 1 ≤ x ∧ x ≤ s) ∧ f.length = i ∧ (f.map Int.natAbs).Nodup ∧ ∀ x ∈ f, 1 ≤ x.natAbs ∧ (x.natAbs : Int) ≤ s ∧ (x.natAbs : Int) ∉ r
theorem clause_end {s : Int} {k : Nat} {f : List Int} (hk : 1 ≤ k) (hk4 : k ≤ 4) (hf : f.length = k) (hn : (f.map Int.natAbs).Nodup) (hr : ∀ x ∈ f, 1 ≤ x.natAbs ∧ (x.natAbs : Int) ≤ s) : ClauseOk s (sortI f) := by
  have p := sortI_perm f
  have hnd : (sortI f).Nodup := by
    have : ((sortI f).map Int.natAbs).Nodup := (p.map _).nodup_iff.mpr hn
    exact List.Pairwise.of_map Int.natAbs (fun _ _ hne e => hne (congrArg Int.natAbs e)) this
  refine ⟨by rw [p.length_eq]; omega, by rw [p.length_eq]; omega, ?_, (p.map _).nodup_iff.mpr hn, fun x hx => hr x (p.mem_iff.mp hx)⟩
  have := sortI_sorted f
  exact (this.and hnd).imp fun {a b} ⟨h1, h2⟩ => by
    have : a ≠ b := h2
    omega
theorem range_ints (j : Int) : rangeD 1 (j + 1 - 1).toNat = ((List.range j.toNat).map fun i => (1 : Int) + (i : Nat)).map D.int := by
  unfold rangeD
  rw [List.map_map, show j + 1 - 1 = j by omega]
  rfl
theorem erase_map {α β : Type} (g : α → β) : ∀ (l : List α) (k : Nat), (l.map g).eraseIdx k = (l.eraseIdx k).map g
  | [], _ => rfl
  | _ :: _, 0 => rfl
  | x :: l, k + 1 => by
    show g x :: (l.map g).eraseIdx k = g x :: (l.eraseIdx k).map g
    rw [erase_map g l k]
theorem nodup_inj {α : Type} {l : List α} (h : l.Nodup) {i j : Nat} (hi : i < l.length) (hj : j < l.length) (e : l[i] = l[j]) : i = j := by
  rcases Nat.lt_trichotomy i j with k | k | k
  · exact absurd e (List.pairwise_iff_getElem.mp h i j hi hj k)
  · exact k
  · exact absurd e.symm (List.pairwise_iff_getElem.mp h j i hj hi k)
/-- one turn -/
theorem clause_turn {h : Hs} {n a B : Nat} {s mo : Int} {i k : Nat} {e : Nv} {h2 : Hs} {d : D} {R : RV → Hs → Prop} (hna : n < a) (hs8 : s ≤ 8) (hik : i < k) (hk4 : k ≤ 4) (hks : (k : Int) ≤ s) (I : CI h n a B s mo i e h2) :
    ∃ e1, gNm 5 d e = some e1 ∧ WS (sSeq (sSet 6 (eList mPopAt 3 (aCons (xO (eCall 2 m__law_draw [] (aCons (nO 0) (aCons (xO (eB bLen (aCons (nO 3) aNil))) aNil)))) aNil)))
      (sExpr (eList mApp 4 (aCons (xO (eIf (bOf (eBin dEq (xO (eCall 2 m__law_draw [] (aCons (nO 0) (aCons (xO (eC (.int 2))) aNil)))) (xO (eC (.int 0))))) (eVar 6) (eUn uNeg (nO 6)))) aNil)))) e1 h2 (CI h n a B s mo (i + 1)) R := by
  obtain ⟨r, f, x, y, rfl, hl, hb, hp, hr, hf, hlen, rnd, rr, fl, fn, fr⟩ := I
  refine ⟨_, rfl, ?_⟩
  show WS _ [some (.loc n), some (.val (.int s)), some (.val (.int mo)), some (.loc a), some (.loc (a + 1)), some (.val d), y] h2 _ _
  have hr0 : 0 < r.length := by omega
  refine ws_seq.mpr ?_
  rw [ws_set, we_meth (n := a) rfl hr, wa_cons, wo_x, we_call, wa_cons, wo_n (s := .loc n) rfl, wa_cons, wo_x, we_B, wa_cons, wo_n (s := .loc a) rfl, wa_nil]
  refine ⟨[.lst (r.map D.int)], by rw [forces_cons (force_loc rfl hr) rfl], _, rfl, ?_⟩
  rw [wa_nil]
  refine ⟨[.loc n, .val (.int (r.map D.int).length)], by rw [svs_sl (s := .loc n) rfl, vl_val, svs_vl]; rfl, rfl, ?_⟩
  have hml : (r.map D.int).length = r.length := List.length_map ..
  refine draw_ok (B := B + 2 * (4 - i) - 1) (PenAt.mono hp (by omega)) (by omega) ?_ fun j h3 hj0 hj1 hp3 o3 => ?_
  · have : ((r.map D.int).length : Int).natAbs < 2 ^ 8 := by omega
    have := log2_le (k := 7) this
    omega
  rw [wa_nil]
  have hjr : j.toNat < r.length := by omega
  have hr3 : h3[a]? = some (.lst (r.map D.int)) := by rw [o3.2 a (by omega)]; exact hr
  refine ⟨_, rfl, _, hr3, _, popAt_ii (d := .int r[j.toNat]) hj0 (by omega) (by rw [List.getElem?_map, List.getElem?_eq_getElem hjr]; rfl), ?_⟩
  have her : (r.map D.int).eraseIdx j.toNat = (r.eraseIdx j.toNat).map D.int := erase_map ..
  rw [her]
  -- found.append(..)
  have hx := rr _ (List.getElem_mem hjr)
  have hmem : ∀ z, z ∈ r.eraseIdx j.toNat → z ∈ r := fun z hz => List.mem_of_mem_eraseIdx hz
  have hnot : r[j.toNat] ∉ r.eraseIdx j.toNat := fun z => by
    obtain ⟨i', hi', hne, e'⟩ := List.mem_eraseIdx_iff_getElem.mp z
    exact hne (nodup_inj rnd hi' hjr e')
  generalize hxv : r[j.toNat] = xv at hx hnot
  have hl3 : h3.length = a + 2 := o3.1.trans hl
  have e4 : (h3.set a (.lst ((r.eraseIdx j.toNat).map D.int)))[a]? = some (.lst ((r.eraseIdx j.toNat).map D.int)) := List.getElem?_set_self (by omega)
  have f4 : (h3.set a (.lst ((r.eraseIdx j.toNat).map D.int)))[a + 1]? = some (.lst (f.map D.int)) := by
    rw [List.getElem?_set_ne (by omega), o3.2 _ (by omega)]
    exact hf
  have p4 : PenAt (B + 2 * (4 - i) - 1) (h3.set a (.lst ((r.eraseIdx j.toNat).map D.int))) n := by
    obtain ⟨cs, i', q', e', h0', h1'⟩ := hp3
    exact ⟨cs, i', q', by rw [List.getElem?_set_ne (by omega)]; exact e', h0', h1'⟩
  have b4 : ∀ m, m < a → m ≠ n → (h3.set a (.lst ((r.eraseIdx j.toNat).map D.int)))[m]? = h[m]? := fun m hm hn => by
    rw [List.getElem?_set_ne (by omega), o3.2 m hn]
    exact hb m hm hn
  have l4 : (h3.set a (.lst ((r.eraseIdx j.toNat).map D.int))).length = a + 2 := by rw [List.length_set]; exact hl3
  generalize h3.set a (.lst ((r.eraseIdx j.toNat).map D.int)) = h4 at e4 f4 p4 b4 l4 ⊢
  show WS _ [some (.loc n), some (.val (.int s)), some (.val (.int mo)), some (.loc a), some (.loc (a + 1)), some (.val d), some (.val (.int xv))] h4 _ _
  rw [ws_expr, we_meth (n := a + 1) rfl f4, wa_cons, wo_x, we_if, wt_of, we_bin, wo_x, we_call, wa_cons, wo_n (s := .loc n) rfl, wa_cons, wo_x, we_c, wa_nil]
  refine ⟨[.loc n, .val (.int 2)], by rw [svs_sl (s := .loc n) rfl, vl_val, svs_vl]; rfl, rfl, ?_⟩
  refine draw_ok (B := B + 2 * (4 - (i + 1))) (PenAt.mono p4 (by omega)) (by decide) (by decide) fun j2 h5 hj20 hj21 hp5 o5 => ?_
  rw [wo_x, we_c]
  refine ⟨_, rfl, _, rfl, _, dEq_ii _ _, _, rfl, ?_⟩
  have fin : ∀ v : Int, v.natAbs = xv.natAbs → WA aNil [some (.loc n), some (.val (.int s)), some (.val (.int mo)), some (.loc a), some (.loc (a + 1)), some (.val d), some (.val (.int xv))] h5 (fun os h1 => ∃ as, plains (OV.vl (D.int v) :: os) = some as ∧ ∃ ds, h1[a + 1]? = some (.lst ds) ∧ ∃ p, mApp ds as = some p ∧ CI h n a B s mo (i + 1) [some (.loc n), some (.val (.int s)), some (.val (.int mo)), some (.loc a), some (.loc (a + 1)), some (.val d), some (.val (.int xv))] (h1.set (a + 1) (.lst p.1))) := fun v hv => by
    rw [wa_nil]
    have f5 : h5[a + 1]? = some (.lst (f.map D.int)) := by rw [o5.2 _ (by omega)]; exact f4
    refine ⟨_, rfl, _, f5, _, app_d (by rw [List.length_map, sizeLine_eq]; omega), r.eraseIdx j.toNat, f ++ [v], _, _, rfl, by rw [List.length_set, o5.1]; exact l4, fun m hm hn => ?_, ?_, ?_, ?_, ?_, ?_, fun z hz => rr z (hmem z hz), by simp [fl], ?_, fun z hz => ?_⟩
    · rw [List.getElem?_set_ne (by omega), o5.2 m hn]
      exact b4 m hm hn
    · obtain ⟨cs, i', q', e', h0', h1'⟩ := hp5
      exact ⟨cs, i', q', by rw [List.getElem?_set_ne (by omega)]; exact e', h0', h1'⟩
    · rw [List.getElem?_set_ne (by omega), o5.2 _ (by omega)]
      exact e4
    · rw [List.getElem?_set_self (by rw [o5.1, l4]; omega), List.map_append]
      rfl
    · rw [List.length_eraseIdx_of_lt hjr]
      omega
    · exact rnd.eraseIdx _
    · rw [List.map_append, List.nodup_append]
      refine ⟨fn, by simp, fun z hz z' hz' => ?_⟩
      rw [List.map_singleton, List.mem_singleton] at hz'
      obtain ⟨w, hw, rfl⟩ := List.mem_map.mp hz
      intro ez
      have := (fr w hw).2.2
      apply this
      rw [ez, hz', hv]
      have : ((xv.natAbs : Nat) : Int) = xv := Int.natAbs_of_nonneg (by omega)
      rw [this, ← hxv]
      exact List.getElem_mem hjr
    · rcases List.mem_append.mp hz with hz | hz
      · exact ⟨(fr z hz).1, (fr z hz).2.1, fun q => (fr z hz).2.2 (hmem _ q)⟩
      · rw [List.mem_singleton] at hz
        subst hz
        have e : ((xv.natAbs : Nat) : Int) = xv := Int.natAbs_of_nonneg (by omega)
        rw [hv]
        refine ⟨by omega, by omega, ?_⟩
        rw [e]
        exact hnot
  by_cases hz : j2 = 0
  · rw [if_pos (decide_eq_true hz), we_var]
    exact ⟨_, rfl, fin xv rfl⟩
  · rw [if_neg (by simpa using hz), we_un, wo_n (s := .val (.int xv)) rfl]
    exact ⟨_, force_val rfl, _, rfl, fin (-xv) (by omega)⟩
theorem range_from (s : Int) (hs : 0 ≤ s) : ∃ r : List Int, rangeD 1 (s + 1 - 1).toNat = r.map D.int ∧ (r.length : Int) = s ∧ r.Nodup ∧ ∀ x ∈ r, 1 ≤ x ∧ x ≤ s := by
  refine ⟨_, range_ints s, by simp; omega, ?_, fun x hx => ?_⟩
  · exact List.Pairwise.map _ (fun a b h e => h (by omega)) List.nodup_range
  · obtain ⟨i, hi, rfl⟩ := List.mem_map.mp hx
    rw [List.mem_range] at hi
    omega
theorem range1_i {j : Int} (h : small62 j = true) : range1? [.int j] = some (rangeD 0 j.toNat) := by
  show (if small62 j = true then _ else none) = _
  rw [if_pos h]
theorem clause_ok {h : Hs} {n B : Nat} {s mo : Int} {Q : RV → Hs → Prop} (hp : PenAt (B + 9) h n) (hs : 1 ≤ s) (hs8 : s ≤ 8) (ho1 : 1 ≤ mo) (ho4 : mo ≤ 4) (q : ∀ c h', ClauseOk s c → PenAt B h' n → Only1 n h h' → Q (.val (.tup (c.map D.int))) h') : WF m__law_clause [.loc n, .val (.int s), .val (.int mo)] h Q := by
  have hna : n < h.length := by
    obtain ⟨cs, i, p, hn, _⟩ := hp
    exact (List.getElem?_eq_some_iff.mp hn).1
  obtain ⟨r, er, rl, rn, rr⟩ := range_from s (by omega)
  unfold m__law_clause
  rw [wf_fn]
  show WS _ [some (.loc n), some (.val (.int s)), some (.val (.int mo)), none, none, none, none] h _ _
  refine ws_seq.mpr ?_
  rw [ws_multi, wp_new, we_lstRg2, we_c, we_bin, wo_n (s := .val (.int s)) rfl, wo_x, we_c]
  refine ⟨_, force_val rfl, _, rfl, _, rfl, 1, s + 1, rfl, rfl, ?_, _, rfl, ?_⟩
  · show (small62 1 && small62 (s + 1) && decide ((s + 1 - 1).toNat ≤ 2 ^ 24)) = true
    unfold small62
    simp
    omega
  rw [wp_new, we_lst, wa_nil]
  refine ⟨_, rfl, by decide, _, rfl, ?_⟩
  rw [wp_nil]
  refine ⟨_, rfl, ?_⟩
  show WS _ [some (.loc n), some (.val (.int s)), some (.val (.int mo)), some (.loc h.length), some (.loc (h ++ [Cell.lst (rangeD 1 (s + 1 - 1).toNat)]).length), none, none] ((h ++ [Cell.lst (rangeD 1 (s + 1 - 1).toNat)]) ++ [Cell.lst []]) _ _
  rw [er, List.length_append, List.length_singleton, List.append_assoc]
  -- the two new cells
  have hA : ∀ m, m < h.length → (h ++ ([Cell.lst (r.map D.int)] ++ [Cell.lst []]))[m]? = h[m]? := fun m hm => List.getElem?_append_left hm
  have hR : (h ++ ([Cell.lst (r.map D.int)] ++ [Cell.lst []]))[h.length]? = some (.lst (r.map D.int)) := by
    rw [List.getElem?_append_right (Nat.le_refl _)]; simp
  have hF : (h ++ ([Cell.lst (r.map D.int)] ++ [Cell.lst []]))[h.length + 1]? = some (.lst (([] : List Int).map D.int)) := by
    rw [List.getElem?_append_right (by omega)]; simp
  have hP : PenAt (B + 9) (h ++ ([Cell.lst (r.map D.int)] ++ [Cell.lst []])) n := by
    obtain ⟨cs, i, p, e, h0, h1⟩ := hp
    exact ⟨cs, i, p, by rw [hA n hna]; exact e, h0, h1⟩
  have hL : (h ++ ([Cell.lst (r.map D.int)] ++ [Cell.lst []])).length = h.length + 2 := by simp
  generalize h ++ ([Cell.lst (r.map D.int)] ++ [Cell.lst []]) = h1 at hA hR hF hP hL ⊢
  refine ws_seq.mpr (ws_for ?_)
  rw [wi_range1, wa_cons, wo_x, we_bin, wo_x, we_c, wo_x, we_call, wa_cons, wo_n (s := .loc n) rfl, wa_cons, wo_x, we_B, wa_cons, wo_n (s := .val (.int mo)) rfl, wa_cons, wo_n (s := .val (.int s)) rfl, wa_nil]
  refine ⟨[.int mo, .int s], by rw [forces_cons (force_val rfl) (forces_cons (force_val rfl) rfl)], .val (.int (if s < mo then s else mo)), rfl, ?_⟩
  rw [wa_nil]
  generalize hk : (if s < mo then s else mo) = k0
  have hk0 : 1 ≤ k0 ∧ k0 ≤ 4 ∧ k0 ≤ s := by
    split at hk <;> omega
  refine ⟨[.loc n, .val (.int k0)], by rw [svs_sl (s := .loc n) rfl, vl_val, svs_vl]; rfl, rfl, ?_⟩
  refine draw_ok (B := B + 8) (PenAt.mono hP (by omega)) (by omega) ?_ fun d h2 hd0 hd1 hp2 o2 => ?_
  · have : k0.natAbs < 2 ^ 8 := by omega
    have := log2_le (k := 7) this
    omega
  refine ⟨_, rfl, _, rfl, _, dAdd_ii _ _, ?_⟩
  rw [wa_nil]
  generalize hk : 1 + d = k
  have hk1 : 1 ≤ k ∧ k ≤ 4 ∧ k ≤ s := by omega
  refine ⟨[.int k], rfl, _, range1_i (by unfold small62; simp; omega), ?_⟩
  have hlen : (rangeD 0 k.toNat).length = k.toNat := by unfold rangeD; simp
  refine ⟨CI h1 n h.length B s mo, ⟨r, [], none, none, rfl, o2.1.trans hL, fun j hj hn => o2.2 j hn, hp2, ?_, ?_, by rw [Nat.add_zero]; exact rl, rn, rr, rfl, by simp, fun x hx => by simp at hx⟩, fun i d e h3 hd I => ?_, fun e h3 I => ?_⟩
  · rw [o2.2 _ (by omega)]; exact hR
  · rw [o2.2 _ (by omega)]; exact hF
  · have hi : i < k.toNat := by
      have := (List.getElem?_eq_some_iff.mp hd).1
      omega
    exact clause_turn (k := k.toNat) hna hs8 hi (by omega) (by omega) I
  · rw [hlen] at I
    obtain ⟨r', f, x, y, rfl, hl, hb, hp3, hr, hf, _, _, _, fl, fn, fr⟩ := I
    rw [ws_ret, we_B, wa_cons, wo_x, we_B, wa_cons, wo_n (s := .loc (h.length + 1)) rfl, wa_nil]
    refine ⟨[.lst (f.map D.int)], by rw [forces_cons (force_loc rfl hf) rfl], _, sorted_ii f, ?_⟩
    rw [wa_nil]
    refine ⟨[.lst ((sortI f).map D.int)], rfl, _, rfl, ?_⟩
    refine q (sortI f) _ (clause_end (k := k.toNat) (by omega) (by omega) fl fn fun x hx => ⟨(fr x hx).1, (fr x hx).2.1⟩) ?_ ⟨by rw [List.length_take, hl]; omega, fun j hj => ?_⟩
    · obtain ⟨cs, i, p, e, h0, h1'⟩ := hp3
      exact ⟨cs, i, p, by rw [List.getElem?_take_of_lt hna]; exact e, h0, by omega⟩
    · by_cases hjl : j < h.length
      · rw [List.getElem?_take_of_lt hjl, hb j hjl hj, hA j hjl]
      · rw [List.getElem?_eq_none (by rw [List.length_take]; omega), List.getElem?_eq_none (by omega)]
end Lk
end
section
set_option Elab.async false
set_option linter.all false
set_option maxRecDepth 100000
set_option maxHeartbeats 2000000
/-! Lpt: drawn parts. -/
namespace Lk
open PySem Ev Dk
/-- a clause as a datum -/
def tI (c : List Int) : D := .tup (c.map D.int)
def pI (c : List Int) : PyData := .tuple (c.map PyData.int)
theorem py_tI (c : List Int) : toPy (tI c) = some (pI c) := by
  unfold tI
  rw [toPy, toPys_ints]; rfl
theorem pys_tI : ∀ fs : List (List Int), toPys (fs.map tI) = some (fs.map pI)
  | [] => rfl
  | c :: fs => by
    rw [List.map_cons, toPys, pys_tI fs, py_tI]; rfl
theorem eqv_ints : ∀ a b : List Int, PyData.eqvAll (a.map PyData.int) (b.map PyData.int) = decide (a = b)
  | [], [] => rfl
  | [], _ :: _ => rfl
  | _ :: _, [] => rfl
  | x :: a, y :: b => by
    show ((x == y) && PyData.eqvAll (a.map PyData.int) (b.map PyData.int)) = _
    rw [eqv_ints a b]
    by_cases h1 : x = y <;> by_cases h2 : a = b <;> simp [h1, h2]
theorem eqv_pI (a b : List Int) : PyData.eqv (pI a) (pI b) = decide (a = b) := eqv_ints a b
theorem eqv_pIs : ∀ a b : List (List Int), PyData.eqvAll (a.map pI) (b.map pI) = decide (a = b)
  | [], [] => rfl
  | [], _ :: _ => rfl
  | _ :: _, [] => rfl
  | x :: a, y :: b => by
    show (PyData.eqv (pI x) (pI y) && PyData.eqvAll (a.map pI) (b.map pI)) = _
    rw [eqv_pIs a b, eqv_pI]
    by_cases h1 : x = y <;> by_cases h2 : a = b <;> simp [h1, h2]
theorem depth_pI (c : List Int) : (pI c).depth ≤ 2 := by
  unfold pI
  have := depth_ints c
  simp only [PyData.depth]
  omega
theorem lay_pIs : ∀ fs : List (List Int), PyData.canLayAll0 (fs.map pI) = true
  | [] => rfl
  | c :: fs => by
    show (PyData.canLayAll0 (c.map PyData.int) && PyData.canLayAll0 (fs.map pI)) = true
    rw [lay_ints, lay_pIs fs]; rfl
theorem depth_pIs : ∀ fs : List (List Int), PyData.depthAll (fs.map pI) ≤ 2
  | [] => by decide
  | c :: fs => by
    have := depth_pIs fs
    have h2 := depth_pI c
    show max (PyData.depth (pI c)) (PyData.depthAll (fs.map pI)) ≤ 2
    omega
theorem shaped_pI (c : List Int) : SeqAt.shaped (pI c) = true := by
  unfold SeqAt.shaped
  rw [Bool.and_eq_true]
  refine ⟨lay_ints c, decide_eq_true ?_⟩
  have := depth_pI c
  omega
theorem shaped_pIs (fs : List (List Int)) : SeqAt.shaped (.list (fs.map pI)) = true := by
  unfold SeqAt.shaped
  rw [Bool.and_eq_true]
  refine ⟨lay_pIs fs, decide_eq_true ?_⟩
  have := depth_pIs fs
  simp only [PyData.depth]
  omega
theorem notIn_ok (c : List Int) (fs : List (List Int)) : dNotIn (tI c) (.lst (fs.map tI)) = some (.val (.bl (!decide (c ∈ fs)))) := by
  have e : inL (tI c) (.lst (fs.map tI)) = some ((fs.map pI).any fun z => PyData.eqv z (pI c)) := by
    unfold inL
    dsimp only
    rw [py_tI, pys_tI]
    dsimp only
    rw [shaped_pI, shaped_pIs]; rfl
  have e2 : ((fs.map pI).any fun z => PyData.eqv z (pI c)) = decide (c ∈ fs) := by
    rw [List.any_map]
    have : ((fun z => PyData.eqv z (pI c)) ∘ pI) = fun z => decide (z = c) := by
      funext z
      exact eqv_pI z c
    rw [this]
    by_cases h : c ∈ fs
    · rw [decide_eq_true h, List.any_eq_true]
      exact ⟨c, h, decide_eq_true rfl⟩
    · rw [decide_eq_false h, List.any_eq_false]
      intro z hz e
      exact h (of_decide_eq_true e ▸ hz)
  show (dNotInF (tI c) (.lst (fs.map tI))).or (dNotInL (tI c) (.lst (fs.map tI))) = _
  have f1 : dNotInF (tI c) (.lst (fs.map tI)) = none := rfl
  rw [f1]
  show (inL (tI c) (.lst (fs.map tI))).map (fun b => RV.val (.bl (!b))) = _
  rw [e, e2]; rfl
/-- a part: at most m clauses over 1 .. s, all different -/
structure PartOk (s : Int) (m : Nat) (p : List (List Int)) : Prop where
  few : p.length ≤ m
  ok : ∀ c ∈ p, ClauseOk s c
  nd : p.Nodup
def PI' (h : Hs) (n a B : Nat) (s m lo : Int) (k : Nat) (i : Nat) (e : Nv) (h2 : Hs) : Prop :=
  ∃ (f : List (List Int)) (x y : Option SV), e = [some (.loc n), some (.val (.int s)), some (.val (.int m)), some (.val (.int lo)), some (.loc a), x, y] ∧ h2.length = a + 1 ∧ (∀ j, j < a → j ≠ n → h2[j]? = h[j]?) ∧ PenAt (B + 9 * (k - i)) h2 n ∧
    h2[a]? = some (.lst (f.map tI)) ∧ f.length ≤ i ∧ (∀ c ∈ f, ClauseOk s c) ∧ f.Nodup
theorem part_ok {h : Hs} {n B : Nat} {s lo : Int} {m : Nat} {Q : RV → Hs → Prop} (hp : PenAt (B + 9 * m + 1) h n) (hs : 1 ≤ s) (hs8 : s ≤ 8) (hm : m ≤ 100) (lo1 : 1 ≤ lo) (lo4 : lo ≤ 4) (q : ∀ p h', PartOk s m p → PenAt B h' n → Only1 n h h' → Q (.val (.tup (p.map tI))) h') : WF m__law_lot [.loc n, .val (.int s), .val (.int m), .val (.int lo)] h Q := by
  have hna : n < h.length := by
    obtain ⟨cs, i, p, hn, _⟩ := hp
    exact (List.getElem?_eq_some_iff.mp hn).1
  unfold m__law_lot
  rw [wf_fn]
  show WS _ [some (.loc n), some (.val (.int s)), some (.val (.int m)), some (.val (.int lo)), none, none, none] h _ _
  refine ws_seq.mpr ?_
  rw [ws_new, we_lst, wa_nil]
  refine ⟨_, rfl, by decide, _, rfl, ?_⟩
  show WS _ [some (.loc n), some (.val (.int s)), some (.val (.int m)), some (.val (.int lo)), some (.loc h.length), none, none] (h ++ [Cell.lst []]) _ _
  have hA : ∀ j, j < h.length → (h ++ [Cell.lst []])[j]? = h[j]? := fun m hm => List.getElem?_append_left hm
  have hF : (h ++ [Cell.lst []])[h.length]? = some (.lst (([] : List (List Int)).map tI)) := by
    rw [List.getElem?_append_right (Nat.le_refl _)]; simp
  have hP : PenAt (B + 9 * m + 1) (h ++ [Cell.lst []]) n := by
    obtain ⟨cs, i, p, e, h0, h1⟩ := hp
    exact ⟨cs, i, p, by rw [hA n hna]; exact e, h0, h1⟩
  have hL : (h ++ [Cell.lst []]).length = h.length + 1 := by simp
  generalize h ++ [Cell.lst []] = h1 at hA hF hP hL ⊢
  refine ws_seq.mpr (ws_for ?_)
  rw [wi_range1, wa_cons, wo_x, we_call, wa_cons, wo_n (s := .loc n) rfl, wa_cons, wo_x, we_bin, wo_n (s := .val (.int m)) rfl, wo_x, we_c]
  refine ⟨_, force_val rfl, _, rfl, _, dAdd_ii _ _, ?_⟩
  rw [wa_nil]
  refine ⟨[.loc n, .val (.int (m + 1))], by rw [svs_sl (s := .loc n) rfl, vl_val, svs_vl]; rfl, rfl, ?_⟩
  refine draw_ok (B := B + 9 * m) hP (by omega) ?_ fun d h2 hd0 hd1 hp2 o2 => ?_
  · have : ((m : Int) + 1).natAbs < 2 ^ 7 := by omega
    have := log2_le (k := 6) this
    omega
  rw [wa_nil]
  refine ⟨[.int d], rfl, _, range1_i (by unfold small62; simp; omega), ?_⟩
  have hlen : (rangeD 0 d.toNat).length = d.toNat := by unfold rangeD; simp
  refine ⟨PI' h1 n h.length B s m lo m, ⟨[], none, none, rfl, o2.1.trans hL, fun j hj hn => o2.2 j hn, by simpa using hp2, ?_, Nat.le_refl _, fun c hc => by simp at hc, by simp⟩, fun i d' e h3 hd I => ?_, fun e h3 I => ?_⟩
  · rw [o2.2 _ (by omega)]; exact hF
  · have hi : i < d.toNat := by
      have := (List.getElem?_eq_some_iff.mp hd).1
      omega
    obtain ⟨f, x, y, rfl, hl, hb, hp3, hf, fl, fo, fn⟩ := I
    refine ⟨_, rfl, ?_⟩
    show WS _ [some (.loc n), some (.val (.int s)), some (.val (.int m)), some (.val (.int lo)), some (.loc h.length), some (.val d'), y] h3 _ _
    refine ws_seq.mpr ?_
    rw [ws_set, we_call, wa_cons, wo_n (s := .loc n) rfl, wa_cons, wo_n (s := .val (.int s)) rfl, wa_cons, wo_n (s := .val (.int lo)) rfl, wa_nil]
    refine ⟨[.loc n, .val (.int s), .val (.int lo)], by rw [svs_sl (s := .loc n) rfl, svs_sl (s := .val (.int s)) rfl, svs_sl (s := .val (.int lo)) rfl]; rfl, rfl, ?_⟩
    refine clause_ok (B := B + 9 * (m - (i + 1))) (PenAt.mono hp3 (by omega)) hs hs8 lo1 lo4 fun c h4 hc hp4 o4 => ?_
    show WS _ [some (.loc n), some (.val (.int s)), some (.val (.int m)), some (.val (.int lo)), some (.loc h.length), some (.val d'), some (.val (tI c))] h4 _ _
    have hf4 : h4[h.length]? = some (.lst (f.map tI)) := by rw [o4.2 _ (by omega)]; exact hf
    have hl4 : h4.length = h.length + 1 := o4.1.trans hl
    rw [ws_if, wt_of, we_bin, wo_n (s := .val (tI c)) rfl, wo_n (s := .loc h.length) rfl]
    refine ⟨_, force_val rfl, _, force_loc rfl hf4, _, notIn_ok c f, _, rfl, ?_⟩
    by_cases hin : c ∈ f
    · rw [decide_eq_true hin]
      exact ⟨f, _, _, rfl, hl4, fun j hj hn => (o4.2 j hn).trans (hb j hj hn), hp4, hf4, by omega, fo, fn⟩
    · rw [decide_eq_false hin]
      show WS _ _ h4 _ _
      rw [ws_expr, we_meth (n := h.length) rfl hf4, wa_cons, wo_x, we_var]
      refine ⟨_, rfl, ?_⟩
      rw [wa_nil]
      refine ⟨_, rfl, _, hf4, _, app_d (by rw [List.length_map, sizeLine_eq]; omega), f ++ [c], _, _, rfl, by rw [List.length_set]; exact hl4, fun j hj hn => ?_, ?_, ?_, by simp; omega, fun z hz => ?_, ?_⟩
      · rw [List.getElem?_set_ne (by omega), o4.2 j hn]; exact hb j hj hn
      · obtain ⟨cs, i', q', e', h0', h1'⟩ := hp4
        exact ⟨cs, i', q', by rw [List.getElem?_set_ne (by omega)]; exact e', h0', h1'⟩
      · rw [List.getElem?_set_self (by omega), List.map_append]; rfl
      · rcases List.mem_append.mp hz with hz | hz
        · exact fo z hz
        · rw [List.mem_singleton] at hz; rw [hz]; exact hc
      · rw [List.nodup_append]
        exact ⟨fn, by simp, fun a ha b hb' e => hin (by rw [List.mem_singleton] at hb'; rw [← hb', ← e]; exact ha)⟩
  · rw [hlen] at I
    obtain ⟨f, x, y, rfl, hl, hb, hp3, hf, fl, fo, fn⟩ := I
    rw [ws_ret, we_B, wa_cons, wo_n (s := .loc h.length) rfl, wa_nil]
    refine ⟨[.lst (f.map tI)], by rw [forces_cons (force_loc rfl hf) rfl], _, rfl, ?_⟩
    refine q f _ ⟨by omega, fo, fn⟩ ?_ ⟨by rw [List.length_take, hl]; omega, fun j hj => ?_⟩
    · obtain ⟨cs, i, p, e, h0, h1'⟩ := hp3
      exact ⟨cs, i, p, by rw [List.getElem?_take_of_lt hna]; exact e, h0, by omega⟩
    · by_cases hjl : j < h.length
      · rw [List.getElem?_take_of_lt hjl, hb j hjl hj, hA j hjl]
      · rw [List.getElem?_eq_none (by rw [List.length_take]; omega), List.getElem?_eq_none (by omega)]
end Lk
end
section
set_option Elab.async false
set_option linter.all false
set_option maxRecDepth 100000
set_option maxHeartbeats 2000000
/-! Lwr: comprehensions without effects; drawn writings. -/
namespace Ev
open PySem L2
theorem compL_pure {g : Gx} {t : Tx} {e : Ex} {env : Nv} {h : Hs} {keep : D → Bool} {f : D → D} : ∀ (ds acc : List D),
    (∀ d ∈ ds, ∃ e1, g d env = some e1 ∧ t e1 h = .ok (keep d) h ∧ (keep d = true → ∃ rv, e e1 h = .ok rv h ∧ rv.vl = f d)) → compL g t e env acc ds h = .ok (acc ++ (ds.filter keep).map f) h
  | [], acc, _ => by unfold compL; simp
  | d :: ds, acc, hd => by
    obtain ⟨e1, hg, ht, he⟩ := hd d List.mem_cons_self
    have rest : ∀ d' ∈ ds, _ := fun d' hd' => hd d' (List.mem_cons_of_mem _ hd')
    unfold compL
    rw [hg]
    dsimp only
    rw [ht]
    cases hk : keep d with
    | false =>
      dsimp only
      rw [compL_pure ds acc rest, List.filter_cons_of_neg (by simp [hk])]
    | true =>
      obtain ⟨rv, hv, hf⟩ := he hk
      dsimp only
      rw [hv]
      dsimp only
      rw [compL_pure ds _ rest, List.filter_cons_of_pos hk, hf, List.map_cons, List.append_assoc]
      rfl
theorem wt_eq {t : Tx} {e : Nv} {h : Hs} {k : Bool} (w : WT t e h fun b h2 => b = k ∧ h2 = h) : t e h = .ok k h := by
  unfold WT at w
  cases q : t e h with
  | ok b h2 => rw [q] at w; obtain ⟨rfl, rfl⟩ := w; rfl
  | exc _ _ => rw [q] at w; exact w.elim
  | bad => rw [q] at w; exact w.elim
theorem we_eq {m : Ex} {e : Nv} {h : Hs} {d : D} (w : WE m e h fun rv h2 => rv.vl = d ∧ h2 = h) : ∃ rv, m e h = .ok rv h ∧ rv.vl = d := by
  unfold WE at w
  cases q : m e h with
  | ok b h2 => rw [q] at w; obtain ⟨e1, rfl⟩ := w; exact ⟨b, rfl, e1⟩
  | exc _ _ => rw [q] at w; exact w.elim
  | bad => rw [q] at w; exact w.elim
theorem we_comp {vs : List Nat} {it : Ix} {g : Gx} {t : Tx} {e : Ex} {env : Nv} {h : Hs} {Q : RV → Hs → Prop} (keep : D → Bool) (f : D → D)
    (hi : WI it env h fun ds h1 => ds.length < sizeLine ∧ (∀ d ∈ ds, ∃ e1, g d (wipeE env vs) = some e1 ∧ WT t e1 h1 (fun k h2 => k = keep d ∧ h2 = h1) ∧ (keep d = true → WE e e1 h1 fun rv h2 => rv.vl = f d ∧ h2 = h1)) ∧ Q (.fresh ((ds.filter keep).map f)) h1) :
    WE (eComp vs it g t e) env h Q := by
  unfold WE eComp
  unfold WI at hi
  cases q : it env h with
  | exc _ _ => rw [q] at hi; exact hi.elim
  | bad => rw [q] at hi; exact hi.elim
  | ok ds h1 =>
    rw [q] at hi
    obtain ⟨hl, hd, hq⟩ := hi
    dsimp only
    rw [if_pos hl, compL_pure (keep := keep) (f := f) ds [] fun d hm => by
      obtain ⟨e1, a, b, c⟩ := hd d hm
      exact ⟨e1, a, wt_eq b, fun k => we_eq (c k)⟩]
    exact hq
end Ev
namespace Lk
open PySem Ev Dk
def cOk (s : Int) (c : List Int) : Bool := decide (1 ≤ c.length) && decide (c.length ≤ 4) && decide (c.Pairwise (· < ·)) && decide (c.map Int.natAbs).Nodup && c.all fun x => decide (1 ≤ x.natAbs) && decide ((x.natAbs : Int) ≤ s)
theorem cOk_ok {s : Int} {c : List Int} (h : cOk s c = true) : ClauseOk s c := by
  unfold cOk at h
  simp only [Bool.and_eq_true, decide_eq_true_eq, List.all_eq_true] at h
  exact ⟨h.1.1.1.1, h.1.1.1.2, h.1.1.2, h.1.2, h.2⟩
def pOk (s : Int) (m : Nat) (p : List (List Int)) : Bool := decide (p.length ≤ m) && p.all (cOk s) && decide p.Nodup
theorem pOk_ok {s : Int} {m : Nat} {p : List (List Int)} (h : pOk s m p = true) : PartOk s m p := by
  unfold pOk at h
  simp only [Bool.and_eq_true, decide_eq_true_eq, List.all_eq_true] at h
  exact ⟨h.1.1, fun c hc => cOk_ok (h.1.2 c hc), h.2⟩
/-- a writing -/
structure Wr where
  ins : Int
  wide : Int
  a : List (List Int)
  b : List (List Int)
  c : List (List Int)
  d : List (List Int)
def Wr.D (w : Wr) : Ev.D := .tup [.int w.ins, .int w.wide, .tup (w.a.map tI), .tup (w.b.map tI), .tup (w.c.map tI), .tup (w.d.map tI)]
structure Wr.Ok (w : Wr) (most : Int) : Prop where
  i1 : 1 ≤ w.ins
  i2 : w.ins ≤ 2
  iw : w.ins ≤ w.wide
  w4 : w.wide ≤ 4
  wm : w.wide ≤ most
  a : PartOk w.wide 16 w.a
  b : PartOk w.wide 16 w.b
  c : PartOk (2 * w.wide) 16 w.c
  d : PartOk w.wide 16 w.d
def knowns : List Wr := [
  ⟨1, 2, [], [[-1, 2]], [[-2, 4], [-3, -2]], []⟩,
  ⟨1, 2, [[-2, 1]], [[-1, 2]], [[-4, 2, 3], [-3, -2], [-2, 4]], [[2]]⟩,
  ⟨1, 3, [], [[-1, 2]], [[-2, 5], [-4, -2, 6], [-6, -4, -2]], []⟩,
  ⟨1, 3, [[-3]], [[-1, 2]], [[-2, 5], [-3, 6], [-4, -2, 6], [-4, -3]], []⟩,
  ⟨1, 1, [], [], [[-2, -1]], []⟩,
  ⟨1, 2, [[-2, 1], [-1, 2]], [], [[-4, -3, -2], [-4, 2, 3], [-3, 2, 4], [-2, 3, 4]], [[2]]⟩,
  ⟨2, 2, [], [[-2, -1]], [[-4, -1], [-3, -2]], [[1, 2]]⟩,
  ⟨2, 3, [], [[-3, -2, 1], [-3, -1, 2]], [[-6, 3]], [[3]]⟩]
theorem known_ok {w : Wr} (h : w ∈ knowns) : w.Ok w.wide := by
  unfold knowns at h
  simp only [List.mem_cons, List.not_mem_nil, or_false] at h
  rcases h with rfl | rfl | rfl | rfl | rfl | rfl | rfl | rfl
  all_goals exact ⟨by decide, by decide, by decide, by decide, by decide, pOk_ok (by decide +kernel), pOk_ok (by decide +kernel), pOk_ok (by decide +kernel), pOk_ok (by decide +kernel)⟩
theorem known_step {m : As} {E : Nv} {h : Hs} {N : Nv → Hs → Prop} {R : RV → Hs → Prop} {ds : List Ev.D} {d : Ev.D} (e0 : E[0]? = some (some (.loc h.length))) (hl : ds.length < 100) (hm : m E (h ++ [.lst ds]) = .ok [.vl d] (h ++ [.lst ds])) (q : N E (h ++ [.lst (ds ++ [d])])) : WS (sExpr (eList mApp 0 m)) E (h ++ [.lst ds]) N R := by
  have hc : (h ++ [Cell.lst ds])[h.length]? = some (.lst ds) := by
    rw [List.getElem?_append_right (Nat.le_refl _), Nat.sub_self]; rfl
  rw [ws_expr, we_meth e0 hc]
  unfold WA
  rw [hm]
  refine ⟨[d], rfl, ds, hc, _, app_d (by rw [sizeLine_eq]; omega), ?_⟩
  have : (h ++ [Cell.lst ds]).set h.length (.lst (ds ++ [d])) = h ++ [.lst (ds ++ [d])] := by
    rw [List.set_append_right _ _ (Nat.le_refl _), Nat.sub_self]; rfl
  rw [this]
  exact q
theorem we_lit {m : Ex} {E : Nv} {h : Hs} {rv : RV} {Q : RV → Hs → Prop} (e : m E h = .ok rv h) (q : Q rv h) : WE m E h Q := by
  unfold WE
  rw [e]
  exact q
theorem knowns_run {h : Hs} {Q : RV → Hs → Prop} (q : Q (.fresh (knowns.map Wr.D)) h) : WF m__law_knowns [] h Q := by
  unfold m__law_knowns
  rw [wf_fn, ws_seq, ws_new]
  refine we_lit rfl ⟨_, rfl, ?_⟩
  rw [ws_seq]
  refine known_step rfl (by decide) rfl ?_
  rw [ws_seq]
  refine known_step rfl (by decide) rfl ?_
  rw [ws_seq, ws_set]
  refine we_lit rfl ?_
  rw [ws_seq]
  refine known_step rfl (by decide) rfl ?_
  rw [ws_seq]
  refine known_step rfl (by decide) rfl ?_
  rw [ws_seq, ws_set]
  refine we_lit rfl ?_
  rw [ws_seq]
  refine known_step rfl (by decide) rfl ?_
  rw [ws_seq]
  refine known_step rfl (by decide) rfl ?_
  rw [ws_seq]
  refine known_step rfl (by decide) rfl ?_
  rw [ws_ret]
  refine we_take rfl (by rw [List.getElem?_append_right (Nat.le_refl _), Nat.sub_self]; rfl) ?_
  rw [List.set_append_right _ _ (Nat.le_refl _), Nat.sub_self, List.take_append_of_le_length (Nat.le_refl _), List.take_length]
  exact q
end Lk
end
section
set_option Elab.async false
set_option linter.all false
set_option maxRecDepth 100000
set_option maxHeartbeats 2000000
/-! Lcut: cuts and sums of lists and tuples; places. -/
namespace Ev
open PySem L2
theorem we_compI {vs : List Nat} {it : Ix} {g : Gx} {t : Tx} {e : Ex} {env : Nv} {h : Hs} {Q : RV → Hs → Prop}
    (hi : WI it env h fun ds h1 => ds.length < sizeLine ∧ ∃ I : Nat → List D → Hs → Prop, I 0 [] h1 ∧ (∀ i d acc h2, ds[i]? = some d → I i acc h2 → ∃ e1, g d (wipeE env vs) = some e1 ∧ WT t e1 h2 fun k h3 => if k then WE e e1 h3 fun rv h4 => I (i + 1) (acc ++ [rv.vl]) h4 else I (i + 1) acc h3) ∧ ∀ acc h2, I ds.length acc h2 → Q (.fresh acc) h2) :
    WE (eComp vs it g t e) env h Q := by
  unfold WE eComp
  unfold WI at hi
  cases q : it env h with
  | exc _ _ => rw [q] at hi; exact hi.elim
  | bad => rw [q] at hi; exact hi.elim
  | ok ds h1 =>
    rw [q] at hi
    obtain ⟨hl, I, i0, step, done⟩ := hi
    dsimp only
    rw [if_pos hl]
    have go : ∀ (l : List D) (i : Nat) (acc : List D) (h2 : Hs), ds.drop i = l → i ≤ ds.length → I i acc h2 → WR (fun rs h3 => I ds.length rs h3) (compL g t e (wipeE env vs) acc l h2) := by
      intro l
      induction l with
      | nil =>
        intro i acc h2 hd hle hI
        by_cases hlt : i < ds.length
        · rw [List.drop_eq_getElem_cons hlt] at hd; cases hd
        · unfold compL
          have he : i = ds.length := by omega
          subst he; exact hI
      | cons d l ih =>
        intro i acc h2 hd hle hI
        have hlt : i < ds.length := by
          by_cases hlt : i < ds.length
          · exact hlt
          · rw [List.drop_eq_nil_of_le (by omega)] at hd; cases hd
        rw [List.drop_eq_getElem_cons hlt] at hd
        cases hd
        obtain ⟨e1, hg, hb⟩ := step i _ acc h2 (List.getElem?_eq_getElem hlt) hI
        unfold compL
        rw [hg]
        dsimp only
        unfold WT at hb
        cases q2 : t e1 h2 with
        | exc _ _ => rw [q2] at hb; exact hb.elim
        | bad => rw [q2] at hb; exact hb.elim
        | ok k h3 =>
          rw [q2] at hb
          cases k with
          | false => exact ih (i + 1) acc h3 rfl hlt hb
          | true =>
            have hb : WE e e1 h3 fun rv h4 => I (i + 1) (acc ++ [rv.vl]) h4 := hb
            unfold WE at hb
            dsimp only
            cases q3 : e e1 h3 with
            | exc _ _ => rw [q3] at hb; exact hb.elim
            | bad => rw [q3] at hb; exact hb.elim
            | ok rv h4 => rw [q3] at hb; exact ih (i + 1) _ h4 rfl hlt hb
    have := go ds 0 [] h1 rfl (Nat.zero_le _) i0
    cases q2 : compL g t e (wipeE env vs) [] ds h1 with
    | exc _ _ => rw [q2] at this; exact this.elim
    | bad => rw [q2] at this; exact this.elim
    | ok rs h2 => rw [q2] at this; exact done rs h2 this
theorem we_takeQ {env : Nv} {h : Hs} {Q : RV → Hs → Prop} {i n : Nat} {ds : List D} (e1 : env[i]? = some (some (.loc n))) (e2 : h[n]? = some (.lst ds)) : WE (eTake i) env h Q ↔ Q (.fresh ds) (h.set n .dead) := by
  unfold WE eTake
  rw [e1]
  dsimp only
  rw [e2]
  exact Iff.rfl
end Ev
namespace Lk
open PySem Ev Dk
theorem range1_of {j : Int} (h0 : 0 ≤ j) (h1 : j ≤ 100000) : range1? [.int j] = some (rangeD 0 j.toNat) := by
  have z : small62 j = true := by
    unfold small62
    rw [decide_eq_true (by omega), decide_eq_true (by omega)]; rfl
  show (if small62 j then some (rangeD 0 j.toNat) else none) = _
  rw [if_pos z]
theorem rangeD_len (n : Nat) : (rangeD 0 n).length = n := by unfold rangeD; simp
theorem rangeD_at {n i : Nat} {d : Ev.D} (h : (rangeD 0 n)[i]? = some d) : i < n ∧ d = .int i := by
  have hl := (List.getElem?_eq_some_iff.mp h).1
  rw [rangeD_len] at hl
  refine ⟨hl, ?_⟩
  unfold rangeD at h
  rw [List.getElem?_map, List.getElem?_range hl] at h
  cases h
  show Ev.D.int (0 + (i : Int)) = _
  rw [Int.zero_add]
theorem PenAt.eqAt {B : Nat} {h h2 : Hs} {n : Nat} (p : PenAt B h n) (e : h2[n]? = h[n]?) : PenAt B h2 n := by
  obtain ⟨cs, i, q, e1, h0, h1⟩ := p
  exact ⟨cs, i, q, by rw [e, e1], h0, h1⟩
theorem PenAt.lt {B : Nat} {h : Hs} {n : Nat} (p : PenAt B h n) : n < h.length := by
  obtain ⟨_, _, _, e, _, _⟩ := p
  exact (List.getElem?_eq_some_iff.mp e).1
theorem we_takeQ {env : Nv} {h : Hs} {Q : RV → Hs → Prop} {i n : Nat} {ds : List D} (e1 : env[i]? = some (some (.loc n))) (e2 : h[n]? = some (.lst ds)) : WE (eTake i) env h Q ↔ Q (.fresh ds) (h.set n .dead) := by
  unfold WE eTake
  rw [e1]
  dsimp only
  rw [e2]
  exact Iff.rfl
structure Lo (n : Nat) (h h2 : Hs) : Prop where
  le : h.length ≤ h2.length
  eq : ∀ j, j ≠ n → j < h.length → h2[j]? = h[j]?
theorem Lo.refl (n : Nat) (h : Hs) : Lo n h h := ⟨Nat.le_refl _, fun _ _ _ => rfl⟩
theorem Lo.only {n : Nat} {h h1 h2 : Hs} (l : Lo n h h1) (o : Only1 n h1 h2) : Lo n h h2 := ⟨by rw [o.1]; exact l.le, fun j hj hl => by rw [o.2 j hj, l.eq j hj hl]⟩
theorem Lo.app {n : Nat} {h h1 : Hs} (l : Lo n h h1) (c : Cell) : Lo n h (h1 ++ [c]) := ⟨by rw [List.length_append]; have := l.le; omega, fun j hj hl => by rw [List.getElem?_append_left (Nat.lt_of_lt_of_le hl l.le), l.eq j hj hl]⟩
theorem Lo.set {n k : Nat} {h h1 : Hs} (l : Lo n h h1) (hk : h.length ≤ k) (c : Cell) : Lo n h (h1.set k c) := ⟨by rw [List.length_set]; exact l.le, fun j hj hl => by rw [List.getElem?_set_ne (by omega), l.eq j hj hl]⟩
theorem Lo.take {n : Nat} {h h1 : Hs} (l : Lo n h h1) : Only1 n h (h1.take h.length) := ⟨by rw [List.length_take]; have := l.le; omega, fun j hj => by
  by_cases hl : j < h.length
  · rw [List.getElem?_take_of_lt hl, l.eq j hj hl]
  · rw [List.getElem?_take_eq_none (by omega), List.getElem?_eq_none (by omega)]⟩
theorem PenAt.takeN {B : Nat} {h : Hs} {n k : Nat} (p : PenAt B h n) (hk : n < k) : PenAt B (h.take k) n := p.eqAt (List.getElem?_take_of_lt hk)
theorem PenAt.appN {B : Nat} {h : Hs} {n : Nat} (p : PenAt B h n) (c : Cell) : PenAt B (h ++ [c]) n := p.eqAt (List.getElem?_append_left p.lt)
theorem PenAt.setN {B : Nat} {h : Hs} {n k : Nat} (p : PenAt B h n) (hk : n < k) (c : Cell) : PenAt B (h.set k c) n := p.eqAt (List.getElem?_set_ne (by omega))
theorem cutFrom (xs : List Ev.D) {k : Nat} (hk : k ≤ xs.length) : cutD xs (some (k : Int)) none = xs.drop k := by
  unfold cutD
  rw [HT.sIx_nat, HT.sIx_none, Nat.min_eq_left hk]
  exact List.take_of_length_le (by rw [List.length_drop]; exact Nat.le_refl _)
theorem cutTo (xs : List Ev.D) {k : Nat} (hk : k ≤ xs.length) : cutD xs none (some (k : Int)) = xs.take k := by
  unfold cutD
  rw [HT.sIx_nat, HT.sIx_none, Nat.min_eq_left hk, List.drop_zero, Nat.sub_zero]
theorem tAdd_tt (a b : List Ev.D) (h : a.length + b.length ≤ sizeLine) : dAdd (.tup a) (.tup b) = some (.val (.tup (a ++ b))) := by
  unfold dAdd
  show ((iAdd (.tup a) (.tup b)).or ((lAdd (.tup a) (.tup b)).or ((tAdd (.tup a) (.tup b)).or _))) = _
  have e : tAdd (.tup a) (.tup b) = some (.val (.tup (a ++ b))) := by
    unfold tAdd
    exact if_pos h
  rw [e]; rfl
theorem lAdd_l (a b : List Ev.D) (h : a.length + b.length ≤ sizeLine) : dAdd (.lst a) (.lst b) = some (.fresh (a ++ b)) := by
  unfold dAdd
  show ((iAdd (.lst a) (.lst b)).or ((lAdd (.lst a) (.lst b)).or _)) = _
  have e : lAdd (.lst a) (.lst b) = some (.fresh (a ++ b)) := by
    unfold lAdd
    exact if_pos h
  rw [e]; rfl
theorem ixN_of {n : Nat} {k : Int} (h0 : 0 ≤ k) (h1 : k < n) : L2.ixN n k = some k.toNat := by
  unfold L2.ixN
  rw [if_pos h0, if_pos h1]
theorem atI_of {ds : List Ev.D} {k : Int} {d : Ev.D} (h0 : 0 ≤ k) (h : ds[k.toNat]? = some d) : L2.atI ds k = some d := atI_i h0 h
theorem cutFromN (xs : List Ev.D) (k : Nat) : cutD xs (some (k : Int)) none = xs.drop k := by
  by_cases h : k ≤ xs.length
  · exact cutFrom xs h
  · unfold cutD
    rw [HT.sIx_nat, HT.sIx_none, Nat.min_eq_right (by omega), List.drop_length, List.drop_eq_nil_of_le (by omega), List.take_nil]
theorem takeSame {h h2 : Hs} (hl : h.length ≤ h2.length) (hb : ∀ j, j < h.length → h2[j]? = h[j]?) : h2.take h.length = h := by
  apply List.ext_getElem?
  intro j
  by_cases hj : j < h.length
  · rw [List.getElem?_take_of_lt hj, hb j hj]
  · rw [List.getElem?_take_eq_none (by omega), List.getElem?_eq_none (by omega)]
end Lk
end
section
set_option Elab.async false
set_option linter.all false
set_option maxRecDepth 100000
set_option maxHeartbeats 2000000
/-! Lws: drawn writings. -/
namespace Lk
open PySem Ev Dk
theorem cut_part {s : Int} {m : Nat} {p : List (List Int)} (h : PartOk s m p) (j : Nat) : PartOk s m (p.take j ++ p.drop (j + 1)) := by
  rw [← List.eraseIdx_eq_take_drop_succ]
  have sub := List.eraseIdx_sublist p j
  exact ⟨Nat.le_trans sub.length_le h.few, fun c hc => h.ok c (sub.subset hc), h.nd.eraseIdx _⟩
/-- the end of a known writing: a clause left out -/
theorem cut_ok {h : Hs} {n B : Nat} {ins size k : Int} {x8 : Option SV} {w : Wr} {p : List (List Int)} {part : Nat} {N : Nv → Hs → Prop} {R : RV → Hs → Prop} (hp : PenAt (B + 1) h n) (h2 : 2 ≤ part) (h5 : part ≤ 5)
    (hd : dIx w.D (.int (part : Nat)) = some (.val (.tup (p.map tI)))) (hl : p.length ≤ 16)
    (q : ∀ j h', PenAt B h' n → Only1 n h h' → ∃ w2 : Wr, .tup (([.int w.ins, .int w.wide, .tup (w.a.map tI), .tup (w.b.map tI), .tup (w.c.map tI), .tup (w.d.map tI)] : List Ev.D).take part ++ [.tup ((p.take j ++ p.drop (j + 1)).map tI)] ++ ([.int w.ins, .int w.wide, .tup (w.a.map tI), .tup (w.b.map tI), .tup (w.c.map tI), .tup (w.d.map tI)] : List Ev.D).drop (part + 1)) = w2.D ∧ R (.val w2.D) h') :
    WS (sSeq (sSet 6 (eCall 2 m__law_draw [] (aCons (nO 0) (aCons (xO (eBin dAdd (xO (eB bLen (aCons (xO (eBin dIx (nO 4) (nO 5))) aNil))) (xO (eC (.int 1))))) aNil))))
    (sSeq (sSet 7 (eBin dAdd (xO (eSl (xO (eBin dIx (nO 4) (nO 5))) pNo (pAt (eVar 6)))) (xO (eSl (xO (eBin dIx (nO 4) (nO 5))) (pAt (eBin dAdd (nO 6) (xO (eC (.int 1))))) pNo))))
    (sRet (eBin dAdd (xO (eBin dAdd (xO (eSl (nO 4) pNo (pAt (eVar 5)))) (xO (eTup (aCons (xO (eVar 7)) aNil))))) (xO (eSl (nO 4) (pAt (eBin dAdd (nO 5) (xO (eC (.int 1))))) pNo))))))
      [some (.loc n), some (.val (.int ins)), some (.val (.int size)), some (.val (.int k)), some (.val w.D), some (.val (.int (part : Nat))), none, none, x8] h N R := by
  rw [ws_seq, ws_set, we_call, wa_cons, wo_n (s := .loc n) rfl, wa_cons, wo_x, we_bin, wo_x, we_B, wa_cons, wo_x, we_bin, wo_n (s := .val w.D) rfl, wo_n (s := .val (.int (part : Nat))) rfl]
  refine ⟨_, force_val rfl, _, force_val rfl, _, hd, ?_⟩
  rw [wa_nil]
  refine ⟨_, rfl, _, rfl, ?_⟩
  rw [wo_x, we_c]
  refine ⟨_, rfl, _, rfl, _, dAdd_ii _ _, ?_⟩
  rw [wa_nil]
  have hml : (p.map tI).length = p.length := List.length_map ..
  refine ⟨[.loc n, .val (.int ((p.map tI).length + 1))], by rw [svs_sl (s := .loc n) rfl, vl_val, svs_vl]; rfl, rfl, ?_⟩
  refine draw_ok (B := B) hp (by omega) ?_ fun d h2' hd0 hd1 hp2 o2 => ?_
  · have : (((p.map tI).length : Int) + 1).natAbs < 2 ^ 6 := by omega
    have := log2_le (k := 5) this
    omega
  obtain ⟨j, rfl⟩ := Int.eq_ofNat_of_zero_le hd0
  have hj : j ≤ p.length := by omega
  show WS _ [some (.loc n), some (.val (.int ins)), some (.val (.int size)), some (.val (.int k)), some (.val w.D), some (.val (.int (part : Nat))), some (.val (.int (j : Nat))), none, x8] h2' _ _
  rw [ws_seq, ws_set, we_bin, wo_x, we_sl, wo_x, we_bin, wo_n (s := .val w.D) rfl, wo_n (s := .val (.int (part : Nat))) rfl]
  refine ⟨_, force_val rfl, _, force_val rfl, _, hd, ?_⟩
  rw [wx_no, wx_at, we_var]
  refine ⟨_, rfl, _, rfl, _, rfl, _, rfl, ?_⟩
  rw [wo_x, we_sl, wo_x, we_bin, wo_n (s := .val w.D) rfl, wo_n (s := .val (.int (part : Nat))) rfl]
  refine ⟨_, force_val rfl, _, force_val rfl, _, hd, ?_⟩
  rw [wx_at, we_bin, wo_n (s := .val (.int (j : Nat))) rfl, wo_x, we_c]
  refine ⟨_, force_val rfl, _, rfl, _, dAdd_ii _ _, _, rfl, ?_⟩
  rw [wx_no]
  refine ⟨_, rfl, _, rfl, _, rfl, _, rfl, ?_⟩
  have c1 : cutD (p.map tI) none (some ((j : Nat) : Int)) = (p.take j).map tI := by rw [cutTo _ (by omega), List.map_take]
  have c2 : cutD (p.map tI) (some (((j : Nat) : Int) + 1)) none = (p.drop (j + 1)).map tI := by
    rw [show ((j : Nat) : Int) + 1 = ((j + 1 : Nat) : Int) by omega, cutFromN, List.map_drop]
  simp only [vl_val]
  rw [c1, c2]
  refine ⟨_, tAdd_tt _ _ (by rw [List.length_map, List.length_map, List.length_take, List.length_drop, sizeLine_eq]; omega), ?_⟩
  rw [← List.map_append]
  show WS _ [some (.loc n), some (.val (.int ins)), some (.val (.int size)), some (.val (.int k)), some (.val w.D), some (.val (.int (part : Nat))), some (.val (.int (j : Nat))), some (.val (.tup ((p.take j ++ p.drop (j + 1)).map tI))), x8] h2' _ _
  rw [ws_ret, we_bin, wo_x, we_bin, wo_x, we_sl, wo_n (s := .val w.D) rfl, wx_no, wx_at, we_var]
  refine ⟨_, rfl, _, rfl, _, force_val rfl, _, rfl, ?_⟩
  rw [wo_x, we_tup, wa_cons, wo_x, we_var]
  refine ⟨_, rfl, ?_⟩
  rw [wa_nil]
  refine ⟨_, rfl, by rw [sizeLine_eq]; show 1 ≤ _; decide, _, rfl, _, rfl, ?_⟩
  simp only [vl_val]
  generalize hL : ([.int w.ins, .int w.wide, .tup (w.a.map tI), .tup (w.b.map tI), .tup (w.c.map tI), .tup (w.d.map tI)] : List Ev.D) = L at q
  have hLl : L.length = 6 := by rw [← hL]; rfl
  have hD : w.D = .tup L := by rw [← hL]; rfl
  have d1 : cutD L none (some ((part : Nat) : Int)) = L.take part := cutTo L (by omega)
  rw [d1]
  refine ⟨_, tAdd_tt _ _ (by rw [List.length_take, sizeLine_eq]; show _ + 1 ≤ _; omega), ?_⟩
  rw [wo_x, we_sl, wo_n (s := .val w.D) rfl, wx_at, we_bin, wo_n (s := .val (.int (part : Nat))) rfl, wo_x, we_c]
  refine ⟨_, force_val rfl, _, rfl, _, dAdd_ii _ _, _, rfl, ?_⟩
  rw [wx_no]
  refine ⟨_, force_val rfl, _, rfl, _, rfl, _, rfl, ?_⟩
  have d2 : cutD L (some (((part : Nat) : Int) + 1)) none = L.drop (part + 1) := by
    rw [show ((part : Nat) : Int) + 1 = ((part + 1 : Nat) : Int) by omega]; exact cutFrom L (by omega)
  simp only [vl_val]
  rw [hL, d2]
  refine ⟨_, tAdd_tt _ _ (by rw [List.length_append, List.length_take, List.length_drop, sizeLine_eq]; show _ + 1 + _ ≤ _; omega), ?_⟩
  obtain ⟨w2, e, r⟩ := q j h2' hp2 o2
  rw [e]
  exact r
theorem fresh_ok {h : Hs} {n B : Nat} {ins size : Int} {x4 : Option SV} {N : Nv → Hs → Prop} {R : RV → Hs → Prop} (hp : PenAt (B + 150) h n) (i1 : 1 ≤ ins) (i2 : ins ≤ 2) (s3 : 3 ≤ size) (s4 : size ≤ 4)
    (q : ∀ w h', Wr.Ok w size → PenAt B h' n → Only1 n h h' → R (.val w.D) h') :
    WS (sSeq (sSet 2 (eBin dAdd (nO 1) (xO (eCall 2 m__law_draw [] (aCons (nO 0) (aCons (xO (eBin dAdd (xO (eBin iSub (nO 2) (nO 1))) (xO (eC (.int 1))))) aNil))))))
    (sSeq (sSet 8 (eLst (aCons (xO (eCall 4 m__law_lot [] (aCons (nO 0) (aCons (nO 2) (aCons (xO (eC (.int 2))) (aCons (xO (eC (.int 2))) aNil)))))) (aCons (xO (eCall 4 m__law_lot [] (aCons (nO 0) (aCons (nO 2) (aCons (xO (eC (.int 2))) (aCons (xO (eC (.int 3))) aNil)))))) (aCons (xO (eCall 4 m__law_lot [] (aCons (nO 0) (aCons (xO (eBin dMul (xO (eC (.int 2))) (nO 2))) (aCons (nO 3) (aCons (xO (eC (.int 4))) aNil)))))) aNil)))))
    (sRet (eBin dAdd (xO (eBin dAdd (xO (eTup (aCons (xO (eVar 1)) (aCons (xO (eVar 2)) aNil)))) (xO (eB bTuple (aCons (nO 8) aNil))))) (xO (eTup (aCons (xO (eCall 4 m__law_lot [] (aCons (nO 0) (aCons (nO 2) (aCons (xO (eC (.int 2))) (aCons (xO (eC (.int 2))) aNil)))))) aNil)))))))
      [some (.loc n), some (.val (.int ins)), some (.val (.int size)), some (.val (.int ((3 : Nat) : Int))), x4, none, none, none, none] h N R := by
  rw [ws_seq, ws_set, we_bin, wo_n (s := .val (.int ins)) rfl, wo_x, we_call, wa_cons, wo_n (s := .loc n) rfl, wa_cons, wo_x, we_bin, wo_x, we_bin, wo_n (s := .val (.int size)) rfl, wo_n (s := .val (.int ins)) rfl]
  refine ⟨_, force_val rfl, _, force_val rfl, .val (.int (size - ins)), rfl, ?_⟩
  rw [wo_x, we_c]
  refine ⟨_, rfl, _, rfl, _, dAdd_ii _ _, ?_⟩
  rw [wa_nil]
  refine ⟨[.loc n, .val (.int (size - ins + 1))], by rw [svs_sl (s := .loc n) rfl, vl_val, svs_vl]; rfl, rfl, ?_⟩
  refine draw_ok (B := B + 149) (PenAt.mono hp (by omega)) (by omega) ?_ fun d h1 hd0 hd1 hp1 o1 => ?_
  · have : (size - ins + 1).natAbs < 2 ^ 3 := by omega
    have := log2_le (k := 2) this
    omega
  refine ⟨_, force_val rfl, _, rfl, _, dAdd_ii _ _, ?_⟩
  generalize hw : ins + d = wide
  show WS _ [some (.loc n), some (.val (.int ins)), some (.val (.int wide)), some (.val (.int ((3 : Nat) : Int))), x4, none, none, none, none] h1 _ _
  rw [ws_seq, ws_set, we_lst, wa_cons, wo_x, we_call, wa_cons, wo_n (s := .loc n) rfl, wa_cons, wo_n (s := .val (.int wide)) rfl, wa_cons, wo_x, we_c, wa_cons, wo_x, we_c, wa_nil]
  refine ⟨[.loc n, .val (.int wide), .val (.int (2 : Nat)), .val (.int 2)], by rw [svs_sl (s := .loc n) rfl, svs_sl (s := .val (.int wide)) rfl]; rfl, rfl, ?_⟩
  refine part_ok (B := B + 120) (m := 2) (PenAt.mono hp1 (by omega)) (by omega) (by omega) (by decide) (by decide) (by decide) fun pa h2 ha hp2 o2 => ?_
  rw [wa_cons, wo_x, we_call, wa_cons, wo_n (s := .loc n) rfl, wa_cons, wo_n (s := .val (.int wide)) rfl, wa_cons, wo_x, we_c, wa_cons, wo_x, we_c, wa_nil]
  refine ⟨[.loc n, .val (.int wide), .val (.int (2 : Nat)), .val (.int 3)], by rw [svs_sl (s := .loc n) rfl, svs_sl (s := .val (.int wide)) rfl]; rfl, rfl, ?_⟩
  refine part_ok (B := B + 100) (m := 2) (PenAt.mono hp2 (by omega)) (by omega) (by omega) (by decide) (by decide) (by decide) fun pb h3 hb hp3 o3 => ?_
  rw [wa_cons, wo_x, we_call, wa_cons, wo_n (s := .loc n) rfl, wa_cons, wo_x, we_bin, wo_x, we_c, wo_n (s := .val (.int wide)) rfl]
  refine ⟨_, rfl, _, force_val rfl, _, by
      rw [vl_val, dMul_ii, if_pos]
      have : wide.natAbs < 2 ^ 4 := by omega
      have := log2_le (k := 3) this
      have e2 : (2 : Int).natAbs.log2 = 1 := by decide
      omega, ?_⟩
  rw [wa_cons, wo_n (s := .val (.int ((3 : Nat) : Int))) rfl, wa_cons, wo_x, we_c, wa_nil]
  refine ⟨[.loc n, .val (.int (2 * wide)), .val (.int ((3 : Nat) : Int)), .val (.int 4)], by rw [svs_sl (s := .loc n) rfl, vl_val, svs_vl, svs_sl (s := .val (.int ((3 : Nat) : Int))) rfl]; rfl, rfl, ?_⟩
  refine part_ok (B := B + 60) (m := 3) (PenAt.mono hp3 (by omega)) (by omega) (by omega) (by decide) (by decide) (by decide) fun pc h4 hc hp4 o4 => ?_
  rw [wa_nil]
  refine ⟨_, rfl, by rw [sizeLine_eq]; show 3 ≤ _; decide, ?_⟩
  show WS _ [some (.loc n), some (.val (.int ins)), some (.val (.int wide)), some (.val (.int ((3 : Nat) : Int))), x4, none, none, none, some (.val (.lst [.tup (pa.map tI), .tup (pb.map tI), .tup (pc.map tI)]))] h4 _ _
  rw [ws_ret, we_bin, wo_x, we_bin, wo_x, we_tup, wa_cons, wo_x, we_var]
  refine ⟨_, rfl, ?_⟩
  rw [wa_cons, wo_x, we_var]
  refine ⟨_, rfl, ?_⟩
  rw [wa_nil]
  refine ⟨_, rfl, by rw [sizeLine_eq]; show 2 ≤ _; decide, ?_⟩
  rw [wo_x, we_B, wa_cons, wo_n (s := .val (.lst [.tup (pa.map tI), .tup (pb.map tI), .tup (pc.map tI)])) rfl, wa_nil]
  refine ⟨_, forces_cons (force_val rfl) rfl, .val (.tup [.tup (pa.map tI), .tup (pb.map tI), .tup (pc.map tI)]), rfl, _, rfl, _, rfl, _, tAdd_tt _ _ (by rw [sizeLine_eq]; show 5 ≤ _; decide), ?_⟩
  rw [wo_x, we_tup, wa_cons, wo_x, we_call, wa_cons, wo_n (s := .loc n) rfl, wa_cons, wo_n (s := .val (.int wide)) rfl, wa_cons, wo_x, we_c, wa_cons, wo_x, we_c, wa_nil]
  refine ⟨[.loc n, .val (.int wide), .val (.int (2 : Nat)), .val (.int 2)], by rw [svs_sl (s := .loc n) rfl, svs_sl (s := .val (.int wide)) rfl]; rfl, rfl, ?_⟩
  refine part_ok (B := B) (m := 2) (PenAt.mono hp4 (by omega)) (by omega) (by omega) (by decide) (by decide) (by decide) fun pd h5 hd hp5 o5 => ?_
  rw [wa_nil]
  refine ⟨_, rfl, by rw [sizeLine_eq]; show 1 ≤ _; decide, _, rfl, _, rfl, _, tAdd_tt _ _ (by rw [sizeLine_eq]; show 6 ≤ _; decide), ?_⟩
  have up : ∀ {s : Int} {m : Nat} {p : List (List Int)}, PartOk s m p → m ≤ 16 → PartOk s 16 p := fun h hm => ⟨Nat.le_trans h.few hm, h.ok, h.nd⟩
  exact q ⟨ins, wide, pa, pb, pc, pd⟩ h5 ⟨i1, i2, by show ins ≤ wide; omega, by show wide ≤ 4; omega, by show wide ≤ size; omega, up ha (by decide), up hb (by decide), up hc (by decide), up hd (by decide)⟩ hp5 (o1.trans (o2.trans (o3.trans (o4.trans o5))))
theorem writing_ok {m0 : Fx} (hm0 : m0 = m__law_writing) {h : Hs} {n B : Nat} {ins size : Int} {Q : RV → Hs → Prop} (hp : PenAt (B + 160) h n) (i1 : 1 ≤ ins) (i2 : ins ≤ 2) (s3 : 3 ≤ size) (s4 : size ≤ 4) (q : ∀ w h', Wr.Ok w size → PenAt B h' n → Only1 n h h' → Q (.val w.D) h') : WF m0 [.loc n, .val (.int ins), .val (.int size), .val (.int ((3 : Nat) : Int))] h Q := by
  have tk : ∀ h', Only1 n h h' → h'.take h.length = h' := fun h' o => List.take_of_length_le (by rw [o.1]; exact Nat.le_refl _)
  subst hm0
  unfold m__law_writing
  rw [wf_fn]
  show WS _ [some (.loc n), some (.val (.int ins)), some (.val (.int size)), some (.val (.int ((3 : Nat) : Int))), none, none, none, none, none] h _ _
  rw [ws_seq, ws_set, we_bin, wo_x, we_call, wa_nil]
  refine ⟨_, rfl, rfl, knowns_run ?_⟩
  rw [wo_x, we_call, wa_cons, wo_n (s := .loc n) rfl, wa_cons, wo_x, we_c, wa_nil]
  refine ⟨[.loc n, .val (.int 8)], by rw [svs_sl (s := .loc n) rfl, vl_val, svs_vl]; rfl, rfl, ?_⟩
  refine draw_ok (B := B + 159) (PenAt.mono hp (by omega)) (by decide) (by decide) fun d h1 hd0 hd1 hp1 o1 => ?_
  have hk8 : knowns.length = 8 := rfl
  have hj : d.toNat < knowns.length := by omega
  refine ⟨_, rfl, _, rfl, _, by rw [vl_fresh, vl_val, dIx_l, atI_i (d := (knowns[d.toNat]).D) hd0 (by rw [List.getElem?_map, List.getElem?_eq_getElem hj]; rfl)]; rfl, ?_⟩
  have wk := known_ok (List.getElem_mem hj)
  generalize knowns[d.toNat] = w at wk ⊢
  show WS _ [some (.loc n), some (.val (.int ins)), some (.val (.int size)), some (.val (.int ((3 : Nat) : Int))), some (.val w.D), none, none, none, none] h1 _ _
  rw [ws_seq, ws_if, wt_and, wt_of, we_bin, wo_x, we_bin, wo_n (s := .val w.D) rfl, wo_x, we_c]
  refine ⟨_, force_val rfl, _, rfl, .val (.int w.wide), rfl, ?_⟩
  rw [wo_n (s := .val (.int size)) rfl]
  refine ⟨_, rfl, _, force_val rfl, .val (.bl (decide (w.wide ≤ size))), rfl, _, rfl, ?_⟩
  by_cases hw : w.wide ≤ size
  · rw [if_pos (decide_eq_true hw), wt_of, we_bin, wo_x, we_call, wa_cons, wo_n (s := .loc n) rfl, wa_cons, wo_x, we_c, wa_nil]
    refine ⟨[.loc n, .val (.int 2)], by rw [svs_sl (s := .loc n) rfl, vl_val, svs_vl]; rfl, rfl, ?_⟩
    refine draw_ok (B := B + 158) (PenAt.mono hp1 (by omega)) (by decide) (by decide) fun d2 h2 hd20 hd21 hp2 o2 => ?_
    rw [wo_x, we_c]
    refine ⟨_, rfl, _, rfl, _, dEq_ii _ _, _, rfl, ?_⟩
    by_cases hz : d2 = 0
    · rw [if_pos (decide_eq_true hz), ws_seq, ws_set, we_bin, wo_x, we_c, wo_x, we_call, wa_cons, wo_n (s := .loc n) rfl, wa_cons, wo_x, we_c, wa_nil]
      refine ⟨[.loc n, .val (.int 4)], by rw [svs_sl (s := .loc n) rfl, vl_val, svs_vl]; rfl, rfl, ?_⟩
      refine draw_ok (B := B + 157) (PenAt.mono hp2 (by omega)) (by decide) (by decide) fun d3 h3 hd30 hd31 hp3 o3 => ?_
      refine ⟨_, rfl, _, rfl, _, dAdd_ii _ _, ?_⟩
      have o13 := o1.trans (o2.trans o3)
      have cases4 : d3 = 0 ∨ d3 = 1 ∨ d3 = 2 ∨ d3 = 3 := by omega
      rcases cases4 with rfl | rfl | rfl | rfl
      · refine cut_ok (part := 2) (p := w.a) (B := B) (PenAt.mono hp3 (by omega)) (by decide) (by decide) rfl wk.a.few fun j h4 hp4 o4 => ⟨{ w with a := w.a.take j ++ w.a.drop (j + 1) }, rfl, ?_⟩
        rw [tk _ (o13.trans o4)]
        exact q _ _ ⟨wk.i1, wk.i2, wk.iw, wk.w4, hw, cut_part wk.a j, wk.b, wk.c, wk.d⟩ hp4 (o13.trans o4)
      · refine cut_ok (part := 3) (p := w.b) (B := B) (PenAt.mono hp3 (by omega)) (by decide) (by decide) rfl wk.b.few fun j h4 hp4 o4 => ⟨{ w with b := w.b.take j ++ w.b.drop (j + 1) }, rfl, ?_⟩
        rw [tk _ (o13.trans o4)]
        exact q _ _ ⟨wk.i1, wk.i2, wk.iw, wk.w4, hw, wk.a, cut_part wk.b j, wk.c, wk.d⟩ hp4 (o13.trans o4)
      · refine cut_ok (part := 4) (p := w.c) (B := B) (PenAt.mono hp3 (by omega)) (by decide) (by decide) rfl wk.c.few fun j h4 hp4 o4 => ⟨{ w with c := w.c.take j ++ w.c.drop (j + 1) }, rfl, ?_⟩
        rw [tk _ (o13.trans o4)]
        exact q _ _ ⟨wk.i1, wk.i2, wk.iw, wk.w4, hw, wk.a, wk.b, cut_part wk.c j, wk.d⟩ hp4 (o13.trans o4)
      · refine cut_ok (part := 5) (p := w.d) (B := B) (PenAt.mono hp3 (by omega)) (by decide) (by decide) rfl wk.d.few fun j h4 hp4 o4 => ⟨{ w with d := w.d.take j ++ w.d.drop (j + 1) }, rfl, ?_⟩
        rw [tk _ (o13.trans o4)]
        exact q _ _ ⟨wk.i1, wk.i2, wk.iw, wk.w4, hw, wk.a, wk.b, wk.c, cut_part wk.d j⟩ hp4 (o13.trans o4)
    · rw [if_neg (by simpa using hz), ws_nx]
      refine fresh_ok (B := B) (PenAt.mono hp2 (by omega)) i1 i2 s3 s4 fun w2 h3 ok hp3 o3 => ?_
      rw [tk _ (o1.trans (o2.trans o3))]
      exact q w2 h3 ok hp3 (o1.trans (o2.trans o3))
  · rw [if_neg (by simpa using hw), if_neg (by decide), ws_nx]
    refine fresh_ok (B := B) (PenAt.mono hp1 (by omega)) i1 i2 s3 s4 fun w2 h3 ok hp3 o3 => ?_
    rw [tk _ (o1.trans o3)]
    exact q w2 h3 ok hp3 (o1.trans o3)
end Lk
end
section
set_option Elab.async false
set_option linter.all false
set_option maxRecDepth 100000
set_option maxHeartbeats 2000000
/-! Lck: the program's checks answer True of a writing. -/
namespace Ev
open PySem L2
theorem we_chain {op op' : D → D → Option RV} {a b c : Ox} {env : Nv} {h : Hs} {Q : RV → Hs → Prop}
    (w : WO a env h fun x h1 => WO b env h1 fun y h2 => ∃ d e, force env h2 x = some d ∧ force env h2 y = some e ∧ ∃ k, op d e = some (.val (.bl k)) ∧
      if k = true then WO c env h2 fun z h3 => ∃ e f, force env h3 y = some e ∧ force env h3 z = some f ∧ ∃ rv, op' e f = some rv ∧ Q rv h3 else Q (.val (.bl false)) h2) : WE (eChain op op' a b c) env h Q := by
  unfold WE eChain
  rw [wr_bindO]
  refine WR.imp w fun x h1 w1 => ?_
  rw [wr_bindO]
  refine WR.imp w1 fun y h2 ⟨d, e, e1, e2, k, ho, w2⟩ => ?_
  have q : op2 op env h2 x y = .ok (.val (.bl k)) h2 := by
    unfold op2
    rw [e1, e2]
    dsimp only
    rw [ho]; rfl
  rw [q]
  cases k with
  | false => exact w2
  | true =>
    rw [if_pos rfl] at w2
    dsimp only
    rw [wr_bindO]
    refine WR.imp w2 fun z h3 ⟨e', f, e3, e4, rv, ho', q'⟩ => ?_
    exact wr_op2.mpr ⟨e', e3, f, e4, rv, ho', q'⟩
theorem we_lenSet {m : Ex} {env : Nv} {h : Hs} {Q : RV → Hs → Prop} (w : WE m env h fun rv h1 => ∃ ds rs, rv.vl = .tup ds ∧ rowsD ds = some rs ∧ rs.length < 64 ∧ Q (.val (.int (distinct rs).length)) h1) : WE (eLenSet m) env h Q := by
  unfold WE eLenSet
  unfold WE at w
  cases q : m env h with
  | exc _ _ => rw [q] at w; exact w.elim
  | bad => rw [q] at w; exact w.elim
  | ok rv h1 =>
    rw [q] at w
    obtain ⟨ds, rs, e1, e2, hl, hq⟩ := w
    dsimp only
    rw [e1]
    dsimp only
    rw [e2]
    dsimp only
    rw [if_pos hl]
    exact hq
theorem we_lenSc {vs : List Nat} {it : Ix} {g : Gx} {t : Tx} {e : Ex} {env : Nv} {h : Hs} {Q : RV → Hs → Prop} (keep : D → Bool) (f : D → D)
    (hi : WI it env h fun ds h1 => ds.length + 1 < scanBound ∧ (∀ d ∈ ds, ∃ e1, g d (wipeE env vs) = some e1 ∧ WT t e1 h1 (fun k h2 => k = keep d ∧ h2 = h1) ∧ (keep d = true → WE e e1 h1 fun rv h2 => rv.vl = f d ∧ h2 = h1)) ∧ ∃ is, intsD ((ds.filter keep).map f) = some is ∧ Q (.val (.int (distinct is).length)) h1) :
    WE (eLenSc vs it g t e) env h Q := by
  unfold WE eLenSc
  unfold WI at hi
  cases q : it env h with
  | exc _ _ => rw [q] at hi; exact hi.elim
  | bad => rw [q] at hi; exact hi.elim
  | ok ds h1 =>
    rw [q] at hi
    obtain ⟨hl, hd, is, ei, hq⟩ := hi
    dsimp only
    rw [if_pos hl, compL_pure (keep := keep) (f := f) ds [] fun d hm => by
      obtain ⟨e1, a, b, c⟩ := hd d hm
      exact ⟨e1, a, wt_eq b, fun k => we_eq (c k)⟩]
    dsimp only
    rw [List.nil_append, ei]
    exact hq
theorem wt_yes {env : Nv} {h : Hs} {Q : Bool → Hs → Prop} : WT tYesE env h Q ↔ Q true h := Iff.rfl
theorem distinct_id {α : Type} [DecidableEq α] {l : List α} (h : l.Nodup) : (distinct l).length = l.length := (distinct_len h fun _ => Iff.rfl).symm
end Ev
namespace Lk
open PySem Ev Dk
theorem tk0 (h : Hs) : h.take h.length = h := List.take_of_length_le (Nat.le_refl _)
theorem isInt_ok {h : Hs} {Q : RV → Hs → Prop} {i : Int} (q : Q (.val (.bl true)) h) : WF m_is_integer [.val (.int i)] h Q := by
  unfold m_is_integer
  rw [wf_fn]
  show WS _ [some (.val (.int i))] h _ _
  rw [ws_ret, we_andE, we_B, wa_cons, wo_n (s := .val (.int i)) rfl, wa_cons, wo_x, we_c, wa_nil]
  refine ⟨[.int i, .ty "int"], by rw [forces_cons (force_val rfl) rfl]; rfl, .val (.bl true), rfl, true, rfl, ?_⟩
  rw [if_pos rfl, we_notE, we_B, wa_cons, wo_n (s := .val (.int i)) rfl, wa_cons, wo_x, we_c, wa_nil]
  refine ⟨[.int i, .ty "bool"], by rw [forces_cons (force_val rfl) rfl]; rfl, .val (.bl false), rfl, false, rfl, ?_⟩
  rw [tk0]
  exact q
theorem within_ok {h : Hs} {Q : RV → Hs → Prop} {i a b : Int} (h1 : a ≤ i) (h2 : i ≤ b) (q : Q (.val (.bl true)) h) : WF m_is_within [.val (.int i), .val (.int a), .val (.int b)] h Q := by
  unfold m_is_within
  rw [wf_fn]
  show WS _ [some (.val (.int i)), some (.val (.int a)), some (.val (.int b))] h _ _
  rw [ws_ret, we_andE, we_call, wa_cons, wo_n (s := .val (.int i)) rfl, wa_nil]
  refine ⟨_, svs_sl (s := .val (.int i)) rfl, rfl, isInt_ok ⟨true, rfl, ?_⟩⟩
  rw [if_pos rfl]
  refine we_chain ?_
  rw [wo_n (s := .val (.int a)) rfl, wo_n (s := .val (.int i)) rfl]
  refine ⟨_, _, force_val rfl, force_val rfl, true, by rw [cLe_ii, decide_eq_true h1], ?_⟩
  rw [if_pos rfl, wo_n (s := .val (.int b)) rfl]
  refine ⟨_, _, force_val rfl, force_val rfl, .val (.bl true), by rw [cLe_ii, decide_eq_true h2], ?_⟩
  rw [tk0]
  exact q
theorem abs_i (x : Int) : bAbs [.int x] = some (.val (.int x.natAbs)) := by
  show fAbs (.int x) = _
  unfold fAbs
  simp
  omega
theorem literal_ok {h : Hs} {Q : RV → Hs → Prop} {s x : Int} (h1 : 1 ≤ x.natAbs) (h2 : (x.natAbs : Int) ≤ s) (q : Q (.val (.bl true)) h) : WF m_is_literal [.val (.int s), .val (.int x)] h Q := by
  unfold m_is_literal
  rw [wf_fn]
  show WS _ [some (.val (.int s)), some (.val (.int x))] h _ _
  rw [ws_ret, we_andE, we_call, wa_cons, wo_n (s := .val (.int x)) rfl, wa_nil]
  refine ⟨_, svs_sl (s := .val (.int x)) rfl, rfl, isInt_ok ⟨true, rfl, ?_⟩⟩
  rw [if_pos rfl]
  refine we_chain ?_
  rw [wo_x, we_c, wo_x, we_B, wa_cons, wo_n (s := .val (.int x)) rfl, wa_nil]
  refine ⟨[.int x], by rw [forces_cons (force_val rfl) rfl], _, abs_i x, _, _, rfl, rfl, true, by rw [vl_val, vl_val, cLe_ii, decide_eq_true (by omega)], ?_⟩
  rw [if_pos rfl, wo_n (s := .val (.int s)) rfl]
  refine ⟨_, _, rfl, force_val rfl, .val (.bl true), by rw [vl_val, cLe_ii, decide_eq_true h2], ?_⟩
  rw [tk0]
  exact q
theorem all_trues : ∀ n : Nat, bAll [.lst (List.replicate n (.bl true))] = some (.val (.bl true)) := fun n => by
  have e : ∀ n : Nat, boolsOf (List.replicate n (Ev.D.bl true)) = some (List.replicate n true) := fun n => by
    induction n with
    | zero => rfl
    | succ n ih =>
      rw [List.replicate_succ]
      unfold boolsOf
      rw [ih]; rfl
  show fAll _ = _
  unfold fAll
  show ((boolsOf (List.replicate n (Ev.D.bl true))).map fun bs => RV.val (.bl (bs.all id))) = _
  rw [e]
  simp
theorem map_const {α : Type} (l : List α) (d : Ev.D) : l.map (fun _ => d) = List.replicate l.length d := List.map_const'
theorem idN {h : Hs} {m : Nat} (e : m = h.length) : h.take m = h := by rw [e]; exact tk0 h
theorem zip_asc : ∀ (c : List Int), c.Pairwise (· < ·) → ∀ p ∈ (c.take (c.length - 1)).zip (c.drop 1), p.1 < p.2
  | [], _, p, hp => by simp at hp
  | [x], _, p, hp => by simp at hp
  | x :: y :: c, h, p, hp => by
    have e1 : (x :: y :: c).take ((x :: y :: c).length - 1) = x :: (y :: c).take ((y :: c).length - 1) := by simp
    have e2 : (x :: y :: c).drop 1 = y :: (y :: c).drop 1 := rfl
    rw [e1, e2, List.zip_cons_cons] at hp
    rw [List.pairwise_cons] at h
    rcases List.mem_cons.mp hp with q | q
    · rw [q]; exact h.1 y List.mem_cons_self
    · exact zip_asc (y :: c) h.2 p q
theorem filt {α : Type} (l : List α) : l.filter (fun _ => true) = l := List.filter_eq_self.mpr fun _ _ => rfl
theorem cut_all (ds : List Ev.D) : cutD ds none (some (-1)) = ds.take (ds.length - 1) := by
  unfold cutD
  rw [HT.sIx_none, List.drop_zero, Nat.sub_zero]
  have e : HT.sIx ds.length ds.length (some (-1)) = ds.length - 1 := by
    unfold HT.sIx
    dsimp only
    rw [if_pos (by decide)]
    omega
  rw [e]
theorem cut_from (ds : List Ev.D) (k : Nat) : cutD ds (some (k : Int)) none = ds.drop k := by
  unfold cutD
  rw [HT.sIx_none, HT.sIx_nat]
  by_cases h : k ≤ ds.length
  · rw [Nat.min_eq_left h]
    exact List.take_of_length_le (by rw [List.length_drop]; exact Nat.le_refl _)
  · rw [Nat.min_eq_right (by omega), List.drop_length, List.drop_eq_nil_of_le (by omega)]
    simp
theorem cut_tail (ds : List Ev.D) : cutD ds (some 1) none = ds.drop 1 := cut_from ds 1
theorem clauseIs_ok {h : Hs} {Q : RV → Hs → Prop} {s : Int} {c : List Int} (hc : ClauseOk s c) (q : Q (.val (.bl true)) h) : WF m_is_clause [.val (.int s), .val (tI c)] h Q := by
  have hl : (c.map Ev.D.int).length = c.length := List.length_map ..
  unfold m_is_clause
  rw [wf_fn]
  show WS _ [some (.val (.int s)), some (.val (tI c)), none, none, none] h _ _
  refine ws_seq.mpr ?_
  rw [ws_if, wt_or, wt_not, wt_of, we_B, wa_cons, wo_n (s := .val (tI c)) rfl, wa_cons, wo_x, we_c, wa_nil]
  refine ⟨[tI c, .ty "tuple"], by rw [forces_cons (force_val rfl) rfl]; rfl, .val (.bl true), rfl, true, rfl, ?_⟩
  show WT _ _ _ _
  rw [wt_not, wt_of]
  refine we_chain ?_
  rw [wo_x, we_c, wo_x, we_B, wa_cons, wo_n (s := .val (tI c)) rfl, wa_nil]
  refine ⟨[tI c], by rw [forces_cons (force_val rfl) rfl], _, rfl, _, _, rfl, rfl, true, by
    have := hc.pos
    rw [vl_val, vl_val, cLe_ii, decide_eq_true (by omega)], ?_⟩
  rw [if_pos rfl, wo_x, we_c]
  refine ⟨_, _, rfl, rfl, .val (.bl true), by
    have := hc.few
    rw [vl_val, vl_val, cLe_ii, decide_eq_true (by omega)], true, rfl, ?_⟩
  show WS sNx _ _ _ _
  rw [ws_nx]
  -- the literals
  refine ws_seq.mpr ?_
  rw [ws_if, wt_not, wt_of, we_B, wa_cons, wo_x]
  refine we_comp (fun _ => true) (fun _ => .bl true) ?_
  rw [wi_val, we_var]
  refine ⟨_, rfl, _, rfl, by rw [hl, sizeLine_eq]; have := hc.few; omega, fun d hd => ?_, ?_⟩
  · obtain ⟨x, hx, rfl⟩ := List.mem_map.mp hd
    refine ⟨_, rfl, wt_yes.mpr ⟨rfl, rfl⟩, fun _ => ?_⟩
    show WE _ [some (.val (.int s)), some (.val (tI c)), some (.val (.int x)), none, none] h _
    rw [we_call, wa_cons, wo_n (s := .val (.int s)) rfl, wa_cons, wo_x, we_var]
    refine ⟨_, rfl, ?_⟩
    rw [wa_nil]
    refine ⟨[.val (.int s), .val (.int x)], by rw [svs_sl (s := .val (.int s)) rfl, vl_val, svs_vl]; rfl, rfl, ?_⟩
    exact literal_ok (hc.ran x hx).1 (hc.ran x hx).2 ⟨rfl, rfl⟩
  rw [wa_nil, filt, map_const]
  refine ⟨_, rfl, _, all_trues _, true, rfl, ?_⟩
  show WS sNx _ _ _ _
  rw [ws_nx]
  -- ascending
  refine ws_seq.mpr ?_
  rw [ws_if, wt_not, wt_of, we_B, wa_cons, wo_x]
  refine we_comp (fun _ => true) (fun _ => .bl true) ?_
  rw [wi_zip, wa_cons, wo_x, we_sl, wo_n (s := .val (tI c)) rfl, wx_no, wx_at, we_un, wo_x, we_c]
  refine ⟨_, rfl, _, rfl, -1, rfl, _, force_val rfl, _, rfl, ?_⟩
  rw [wa_cons, wo_x, we_sl, wo_n (s := .val (tI c)) rfl, wx_at, we_c]
  refine ⟨1, rfl, ?_⟩
  rw [wx_no]
  refine ⟨_, force_val rfl, _, rfl, ?_⟩
  rw [wa_nil]
  have z : zip2? [.tup (cutD (c.map Ev.D.int) none (some (-1))), .tup (cutD (c.map Ev.D.int) (some 1) none)] = some (((c.take (c.length - 1)).zip (c.drop 1)).map fun p => .tup [.int p.1, .int p.2]) := by
    rw [cut_all, cut_tail, hl, ← List.map_take, ← List.map_drop]
    show (if ((c.take (c.length - 1)).map Ev.D.int).length = ((c.drop 1).map Ev.D.int).length then some ((((c.take (c.length - 1)).map Ev.D.int).zip ((c.drop 1).map Ev.D.int)).map fun p => Ev.D.tup [p.1, p.2]) else none) = _
    rw [if_pos (by simp), List.zip_map, List.map_map]
    rfl
  refine ⟨_, rfl, _, z, by
    have := hc.few
    simp
    rw [sizeLine_eq]; omega, fun d hd => ?_, ?_⟩
  · obtain ⟨p, hp, rfl⟩ := List.mem_map.mp hd
    refine ⟨_, rfl, wt_yes.mpr ⟨rfl, rfl⟩, fun _ => ?_⟩
    show WE _ [some (.val (.int s)), some (.val (tI c)), none, some (.val (.int p.1)), some (.val (.int p.2))] h _
    rw [we_bin, wo_x, we_var]
    refine ⟨_, rfl, ?_⟩
    rw [wo_x, we_var]
    refine ⟨_, rfl, _, rfl, _, rfl, _, rfl, ?_, rfl⟩
    show Ev.D.bl (decide (p.1 < p.2)) = .bl true
    rw [decide_eq_true (zip_asc c hc.asc p hp)]
  rw [wa_nil, filt, map_const]
  refine ⟨_, rfl, _, all_trues _, true, rfl, ?_⟩
  show WS sNx _ _ _ _
  rw [ws_nx]
  -- no sign twice
  rw [ws_ret, we_bin, wo_x]
  refine we_lenSc (fun _ => true) (fun d => match d with | .int x => .int x.natAbs | d => d) ?_
  rw [wi_val, we_var]
  refine ⟨_, rfl, _, rfl, by rw [hl]; have := hc.few; unfold scanBound; omega, fun d hd => ?_, c.map fun x => (x.natAbs : Int), ?_, ?_⟩
  · obtain ⟨x, hx, rfl⟩ := List.mem_map.mp hd
    refine ⟨_, rfl, wt_yes.mpr ⟨rfl, rfl⟩, fun _ => ?_⟩
    show WE _ [some (.val (.int s)), some (.val (tI c)), some (.val (.int x)), none, none] h _
    rw [we_B, wa_cons, wo_x, we_var]
    refine ⟨_, rfl, ?_⟩
    rw [wa_nil]
    exact ⟨_, rfl, _, abs_i x, rfl, rfl⟩
  · rw [filt, List.map_map]
    have : ((fun d => match d with | Ev.D.int x => Ev.D.int x.natAbs | d => d) ∘ Ev.D.int) = Ev.D.int ∘ fun x : Int => (x.natAbs : Int) := rfl
    rw [this, ← List.map_map]
    exact intsD_int _
  · rw [wo_x, we_B, wa_cons, wo_n (s := .val (tI c)) rfl, wa_nil]
    refine ⟨[tI c], by rw [forces_cons (force_val rfl) rfl], _, rfl, _, rfl, _, rfl, _, dEq_ii _ _, ?_⟩
    have nd : (c.map fun x => (x.natAbs : Int)).Nodup := by
      have := hc.abs
      have e : (c.map fun x => (x.natAbs : Int)) = (c.map Int.natAbs).map fun n : Nat => (n : Int) := by rw [List.map_map]; rfl
      rw [e]
      exact List.Pairwise.map _ (fun a b h e => h (by omega)) this
    rw [distinct_id nd, List.length_map, hl, decide_eq_true rfl, tk0]
    exact q
end Lk
end
section
set_option Elab.async false
set_option linter.all false
set_option maxRecDepth 100000
set_option maxHeartbeats 2000000
/-! Lcw: is_writing answers True of a writing. -/
namespace Lk
open PySem Ev Dk
theorem rows_tI : ∀ p : List (List Int), rowsD (p.map tI) = some p
  | [] => rfl
  | c :: p => by
    rw [List.map_cons]
    unfold tI rowsD
    rw [intsD_int]
    have := rows_tI p
    unfold tI at this
    rw [this]
theorem dNe_ii (i j : Int) : dNe (.int i) (.int j) = some (.val (.bl (decide (i ≠ j)))) := by
  show some (RV.val (.bl (!(PyData.eqv (.int i) (.int j))))) = _
  have : PyData.eqv (.int i) (.int j) = decide (i = j) := by
    simp [PyData.eqv]
    by_cases h : i = j <;> simp [h]
  rw [this]
  by_cases h : i = j <;> simp [h]
theorem clausesAre_ok {h : Hs} {Q : RV → Hs → Prop} {s : Int} {p : List (List Int)} (hp : PartOk s 16 p) (q : Q (.val (.bl true)) h) : WF m_are_clauses [.val (.int s), .val (.tup (p.map tI))] h Q := by
  have hl : (p.map tI).length = p.length := List.length_map ..
  have hf := hp.few
  unfold m_are_clauses
  rw [wf_fn]
  show WS _ [some (.val (.int s)), some (.val (.tup (p.map tI))), none] h _ _
  refine ws_seq.mpr ?_
  rw [ws_if, wt_or, wt_not, wt_of, we_B, wa_cons, wo_n (s := .val (.tup (p.map tI))) rfl, wa_cons, wo_x, we_c, wa_nil]
  refine ⟨[.tup (p.map tI), .ty "tuple"], by rw [forces_cons (force_val rfl) rfl]; rfl, .val (.bl true), rfl, true, rfl, ?_⟩
  show WT _ _ _ _
  rw [wt_of, we_bin, wo_x, we_B, wa_cons, wo_n (s := .val (.tup (p.map tI))) rfl, wa_nil]
  refine ⟨[.tup (p.map tI)], by rw [forces_cons (force_val rfl) rfl], _, rfl, ?_⟩
  rw [wo_x, we_c]
  refine ⟨_, rfl, _, rfl, .val (.bl false), by rw [vl_val, vl_val, cGt_ii, decide_eq_false (by omega)], false, rfl, ?_⟩
  show WS sNx _ _ _ _
  rw [ws_nx, ws_ret, we_andE, we_B, wa_cons, wo_x]
  refine we_comp (fun _ => true) (fun _ => .bl true) ?_
  rw [wi_val, we_var]
  refine ⟨_, rfl, _, rfl, by rw [hl, sizeLine_eq]; omega, fun d hd => ?_, ?_⟩
  · obtain ⟨c, hc, rfl⟩ := List.mem_map.mp hd
    refine ⟨_, rfl, wt_yes.mpr ⟨rfl, rfl⟩, fun _ => ?_⟩
    show WE _ [some (.val (.int s)), some (.val (.tup (p.map tI))), some (.val (tI c))] h _
    rw [we_call, wa_cons, wo_n (s := .val (.int s)) rfl, wa_cons, wo_x, we_var]
    refine ⟨_, rfl, ?_⟩
    rw [wa_nil]
    refine ⟨[.val (.int s), .val (tI c)], by rw [svs_sl (s := .val (.int s)) rfl, vl_val, svs_vl]; rfl, rfl, ?_⟩
    exact clauseIs_ok (hp.ok c hc) ⟨rfl, rfl⟩
  rw [wa_nil, filt, map_const]
  refine ⟨_, rfl, _, all_trues _, true, rfl, ?_⟩
  rw [if_pos rfl, we_bin, wo_x]
  refine we_lenSet ?_
  rw [we_var]
  refine ⟨_, rfl, _, p, rfl, rows_tI p, by omega, ?_⟩
  rw [wo_x, we_B, wa_cons, wo_n (s := .val (.tup (p.map tI))) rfl, wa_nil]
  refine ⟨[.tup (p.map tI)], by rw [forces_cons (force_val rfl) rfl], _, rfl, _, rfl, _, rfl, _, dEq_ii _ _, ?_⟩
  rw [distinct_id hp.nd, hl, decide_eq_true rfl, tk0]
  exact q
theorem dEq_ss {x y : Str} (hx : SeqAt.shaped (.str x) = true) (hy : SeqAt.shaped (.str y) = true) : dEq (.str x) (.str y) = some (.val (.bl (x == y))) := by
  show ((if (SeqAt.shaped (.str x) && SeqAt.shaped (.str y)) = true then some (PyData.eqv (.str x) (.str y)) else none).map fun b => RV.val (.bl b)) = _
  rw [hx, hy]
  simp [PyData.eqv]
theorem str_no {x y : Str} (hx : SeqAt.shaped (.str x) = true) (hy : SeqAt.shaped (.str y) = true) {b : Bool} (e : (x == y) = b) : dEq (.str x) (.str y) = some (.val (.bl b)) := by
  rw [dEq_ss hx hy, e]
theorem str1 : dEq (.str "first") (.str "nexts") = some (.val (.bl false)) := str_no (by decide +kernel) (by decide +kernel) (by decide +kernel)
theorem str2 : dEq (.str "each") (.str "nexts") = some (.val (.bl false)) := str_no (by decide +kernel) (by decide +kernel) (by decide +kernel)
theorem str3 : dEq (.str "nexts") (.str "nexts") = some (.val (.bl true)) := str_no (by decide +kernel) (by decide +kernel) (by decide +kernel)
theorem str4 : dEq (.str "last") (.str "nexts") = some (.val (.bl false)) := str_no (by decide +kernel) (by decide +kernel) (by decide +kernel)
theorem signs_no {h : Hs} {Q : RV → Hs → Prop} {s : Int} {x : Str} (hx : dEq (.str x) (.str "nexts") = some (.val (.bl false))) (q : Q (.val (.int s)) h) : WF m_signs_of [.val (.int s), .val (.str x)] h Q := by
  unfold m_signs_of
  rw [wf_fn]
  show WS _ [some (.val (.int s)), some (.val (.str x))] h _ _
  rw [ws_ret, we_if, wt_of, we_bin, wo_n (s := .val (.str x)) rfl, wo_x, we_c]
  refine ⟨_, force_val rfl, _, rfl, _, hx, _, rfl, ?_⟩
  rw [if_neg (by decide), we_var]
  refine ⟨_, rfl, ?_⟩
  rw [tk0]
  exact q
theorem signs_yes {h : Hs} {Q : RV → Hs → Prop} {s : Int} (h1 : 1 ≤ s) (h4 : s ≤ 4) (q : Q (.val (.int (2 * s))) h) : WF m_signs_of [.val (.int s), .val (.str "nexts")] h Q := by
  unfold m_signs_of
  rw [wf_fn]
  show WS _ [some (.val (.int s)), some (.val (.str "nexts"))] h _ _
  rw [ws_ret, we_if, wt_of, we_bin, wo_n (s := .val (.str "nexts")) rfl, wo_x, we_c]
  refine ⟨_, force_val rfl, _, rfl, _, str3, _, rfl, ?_⟩
  rw [if_pos rfl, we_bin, wo_x, we_c, wo_n (s := .val (.int s)) rfl]
  refine ⟨_, rfl, _, force_val rfl, _, by
    rw [vl_val, dMul_ii, if_pos]
    have : s.natAbs < 2 ^ 4 := by omega
    have := log2_le (k := 3) this
    have e2 : (2 : Int).natAbs.log2 = 1 := by decide
    omega, ?_⟩
  rw [tk0]
  exact q
theorem writingIs_ok {h : Hs} {Q : RV → Hs → Prop} {w : Wr} {most : Int} (hw : w.Ok most) (q : Q (.val (.bl true)) h) : WF m_is_writing [.val w.D] h Q := by
  unfold m_is_writing
  rw [wf_fn]
  show WS _ [some (.val w.D), none, none, none, none] h _ _
  refine ws_seq.mpr ?_
  rw [ws_if, wt_or, wt_not, wt_of, we_B, wa_cons, wo_n (s := .val w.D) rfl, wa_cons, wo_x, we_c, wa_nil]
  refine ⟨[w.D, .ty "tuple"], by rw [forces_cons (force_val rfl) rfl]; rfl, .val (.bl true), rfl, true, rfl, ?_⟩
  show WT _ _ _ _
  rw [wt_of, we_bin, wo_x, we_B, wa_cons, wo_n (s := .val w.D) rfl, wa_nil]
  refine ⟨[w.D], by rw [forces_cons (force_val rfl) rfl], .val (.int 6), rfl, ?_⟩
  rw [wo_x, we_bin, wo_x, we_c, wo_x, we_B, wa_cons, wo_x, we_c, wa_nil]
  refine ⟨_, rfl, .val (.int 4), rfl, _, rfl, _, rfl, .val (.int 6), rfl, _, rfl, _, rfl, _, dNe_ii _ _, _, rfl, ?_⟩
  show WS sNx _ _ _ _
  rw [ws_nx]
  refine ws_seq.mpr ?_
  rw [ws_asg, we_sl, wo_n (s := .val w.D) rfl, wx_no, wx_at, we_c]
  refine ⟨2, rfl, _, force_val rfl, .val (.tup [.int w.ins, .int w.wide]), rfl, _, rfl, ?_⟩
  show WS _ [some (.val w.D), some (.val (.int w.ins)), some (.val (.int w.wide)), none, none] h _ _
  refine ws_seq.mpr ?_
  rw [ws_if, wt_or, wt_not, wt_of, we_call, wa_cons, wo_n (s := .val (.int w.ins)) rfl, wa_cons, wo_x, we_c, wa_cons, wo_x, we_c, wa_nil]
  refine ⟨[.val (.int w.ins), .val (.int 1), .val (.int 2)], by rw [svs_sl (s := .val (.int w.ins)) rfl]; rfl, rfl, within_ok hw.i1 hw.i2 ⟨true, rfl, ?_⟩⟩
  show WT _ _ _ _
  rw [wt_not, wt_of, we_call, wa_cons, wo_n (s := .val (.int w.wide)) rfl, wa_cons, wo_n (s := .val (.int w.ins)) rfl, wa_cons, wo_x, we_c, wa_nil]
  refine ⟨[.val (.int w.wide), .val (.int w.ins), .val (.int 4)], by rw [svs_sl (s := .val (.int w.wide)) rfl, svs_sl (s := .val (.int w.ins)) rfl]; rfl, rfl, within_ok hw.iw hw.w4 ⟨true, rfl, ?_⟩⟩
  show WS sNx _ _ _ _
  rw [ws_nx, ws_ret, we_B, wa_cons, wo_x]
  refine we_comp (fun _ => true) (fun _ => .bl true) ?_
  rw [wi_zip, wa_cons, wo_x, we_c, wa_cons, wo_x, we_sl, wo_n (s := .val w.D) rfl, wx_at, we_c]
  refine ⟨2, rfl, ?_⟩
  rw [wx_no]
  refine ⟨_, force_val rfl, .val (.tup [.tup (w.a.map tI), .tup (w.b.map tI), .tup (w.c.map tI), .tup (w.d.map tI)]), rfl, ?_⟩
  rw [wa_nil]
  have hw1 : 1 ≤ w.wide := Int.le_trans hw.i1 hw.iw
  refine ⟨_, rfl, [.tup [.str "first", .tup (w.a.map tI)], .tup [.str "each", .tup (w.b.map tI)], .tup [.str "nexts", .tup (w.c.map tI)], .tup [.str "last", .tup (w.d.map tI)]], rfl, (by decide : (4 : Nat) < sizeLine), fun d hd => ?_, ?_⟩
  · have one : ∀ (x : Str) (s : Int) (p : List (List Int)), PartOk s 16 p → (∀ Q : RV → Hs → Prop, Q (.val (.int s)) h → WF m_signs_of [.val (.int w.wide), .val (.str x)] h Q) → d = .tup [.str x, .tup (p.map tI)] →
        ∃ e1, gTp 2 (gCons' (gNm 3) (gCons' (gNm 4) gNil')) d (wipeE [some (.val w.D), some (.val (.int w.ins)), some (.val (.int w.wide)), none, none] [3, 4]) = some e1 ∧ WT tYesE e1 h (fun k h2 => k = true ∧ h2 = h) ∧
          (true = true → WE (eCall 2 m_are_clauses [] (aCons (xO (eCall 2 m_signs_of [] (aCons (nO 2) (aCons (xO (eVar 3)) aNil)))) (aCons (xO (eVar 4)) aNil))) e1 h fun rv h2 => rv.vl = .bl true ∧ h2 = h) := fun x s p hp hs e => by
      subst e
      refine ⟨_, rfl, wt_yes.mpr ⟨rfl, rfl⟩, fun _ => ?_⟩
      show WE _ [some (.val w.D), some (.val (.int w.ins)), some (.val (.int w.wide)), some (.val (.str x)), some (.val (.tup (p.map tI)))] h _
      rw [we_call, wa_cons, wo_x, we_call, wa_cons, wo_n (s := .val (.int w.wide)) rfl, wa_cons, wo_x, we_var]
      refine ⟨_, rfl, ?_⟩
      rw [wa_nil]
      refine ⟨[.val (.int w.wide), .val (.str x)], by rw [svs_sl (s := .val (.int w.wide)) rfl]; rfl, rfl, hs _ ?_⟩
      rw [wa_cons, wo_x, we_var]
      refine ⟨_, rfl, ?_⟩
      rw [wa_nil]
      exact ⟨[.val (.int s), .val (.tup (p.map tI))], rfl, rfl, clausesAre_ok hp ⟨rfl, rfl⟩⟩
    simp only [List.mem_cons, List.not_mem_nil, or_false] at hd
    rcases hd with e | e | e | e
    · exact one "first" w.wide w.a hw.a (fun Q q => signs_no str1 q) e
    · exact one "each" w.wide w.b hw.b (fun Q q => signs_no str2 q) e
    · exact one "nexts" (2 * w.wide) w.c hw.c (fun Q q => signs_yes hw1 hw.w4 q) e
    · exact one "last" w.wide w.d hw.d (fun Q q => signs_no str4 q) e
  rw [wa_nil]
  refine ⟨_, rfl, .val (.bl true), rfl, ?_⟩
  rw [tk0]
  exact q
theorem checkW_ok {h : Hs} {Q : RV → Hs → Prop} {w : Wr} {most : Int} (hw : w.Ok most) (q : Q (.val .non) h) : WF m_check_writing [.val w.D] h Q := by
  unfold m_check_writing
  rw [wf_fn]
  show WS _ [some (.val w.D)] h _ _
  rw [ws_if, wt_not, wt_of, we_call, wa_cons, wo_n (s := .val w.D) rfl, wa_nil]
  refine ⟨_, svs_sl (s := .val w.D) rfl, rfl, writingIs_ok hw ⟨true, rfl, ?_⟩⟩
  show WS sNx _ _ _ _
  rw [ws_nx, tk0]
  exact q
end Lk
end
section
set_option Elab.async false
set_option linter.all false
set_option maxRecDepth 100000
set_option maxHeartbeats 2000000
/-! Lrp: repr gives one string, and that string may be compared. -/
namespace Lk
open PySem PySem.PyData Ev Dk
theorem okS (s : String) : strOk (Str.ofString s) = true := by
  rw [Str.ofString_eq_toList]
  unfold strOk
  rw [List.all_toArray, List.all_map, List.all_eq_true]
  intro c _
  have h : c.toNat < 0x110000 := by
    rcases c.valid with h | h
    · exact Nat.lt_trans h (by decide)
    · exact h.2
  exact decide_eq_true h
theorem okA {a b : Str} (ha : strOk a = true) (hb : strOk b = true) : strOk (a ++ b) = true := by
  show (a.cps ++ b.cps).all _ = true
  rw [Array.all_append]
  unfold strOk at ha hb
  rw [ha, hb]; rfl
theorem okT : ∀ (ts : List Str) (k : Nat) (acc : Str), strOk acc = true → (∀ t ∈ ts, strOk t = true) → strOk (textFrom k acc ts) = true
  | [], _, _, ha, _ => ha
  | t :: ts, k, acc, ha, ht => okT ts (k + 1) _ (okA (okA ha (okS _)) (ht t (List.mem_cons_self ..))) fun u hu => ht u (List.mem_cons_of_mem _ hu)
theorem okJ : ∀ ts : List Str, (∀ t ∈ ts, strOk t = true) → strOk (Str.join ", " ts) = true
  | [], _ => by
    show strOk Str.empty = true
    decide +kernel
  | [x], h => h x (List.mem_cons_self ..)
  | x :: y :: r, h => okA (okA (h x (List.mem_cons_self ..)) (okS _)) (okJ (y :: r) fun u hu => h u (List.mem_cons_of_mem _ hu))
theorem okL {ts : List Str} (h : ∀ t ∈ ts, strOk t = true) : strOk (listText ts) = true := okA (okT ts 0 _ (okS _) h) (okS _)
theorem okTup {ts : List Str} (h : ∀ t ∈ ts, strOk t = true) : strOk (tupleText ts) = true := okA (okA (okS _) (okJ ts h)) (okS _)
/-- the text of ints, and of lists and tuples of texts that are ok -/
def OkP (p : PyData) : Prop := strOk p.shown = true
theorem okp_int (i : Int) : OkP (.int i) := okS _
theorem okp_all {xs : List PyData} (h : ∀ x ∈ xs, OkP x) : ∀ t ∈ PyData.shownAll xs, strOk t = true := by
  induction xs with
  | nil => intro t ht; cases ht
  | cons x xs ih =>
    intro t ht
    rw [PyData.shownAll] at ht
    rcases List.mem_cons.mp ht with rfl | ht
    · exact h x (List.mem_cons_self ..)
    · exact ih (fun y hy => h y (List.mem_cons_of_mem _ hy)) t ht
theorem okp_list {xs : List PyData} (h : ∀ x ∈ xs, OkP x) : OkP (.list xs) := by
  unfold OkP
  rw [PyData.shown]
  exact okL (okp_all h)
theorem okp_tup {xs : List PyData} (h : ∀ x ∈ xs, OkP x) : OkP (.tuple xs) := by
  unfold OkP
  rw [PyData.shown]
  exact okTup (okp_all h)
theorem okp_pI (c : List Int) : OkP (pI c) := okp_tup fun x hx => by
  obtain ⟨i, _, rfl⟩ := List.mem_map.mp hx
  exact okp_int i
theorem okp_pIs (cs : List (List Int)) : OkP (.list (cs.map pI)) := okp_list fun x hx => by
  obtain ⟨c, _, rfl⟩ := List.mem_map.mp hx
  exact okp_pI c
theorem okp_pIt (cs : List (List Int)) : OkP (.tuple (cs.map pI)) := okp_tup fun x hx => by
  obtain ⟨c, _, rfl⟩ := List.mem_map.mp hx
  exact okp_pI c
theorem okp_shaped {p : PyData} (h : OkP p) : SeqAt.shaped (.str p.shown) = true := by
  unfold SeqAt.shaped
  rw [show PyData.canLay0 (.str p.shown) = true from h]
  rfl
/-- two texts of one value are alike -/
theorem repr_eq {p : PyData} (h : OkP p) : dEq (.str p.shown) (.str p.shown) = some (.val (.bl true)) := by
  rw [dEq_ss (okp_shaped h) (okp_shaped h), beq_self_eq_true]
theorem repr_ne {p : PyData} (h : OkP p) : dNe (.str p.shown) (.str p.shown) = some (.val (.bl false)) := by
  have := repr_eq h
  unfold dEq at this
  unfold dNe
  cases e : dEq? (.str p.shown) (.str p.shown) with
  | none => rw [e] at this; cases this
  | some b => rw [e] at this; cases this; rfl
theorem fRepr_ok {d : Ev.D} {p : PyData} (e : toPy d = some p) (r : reprOk p = true) : fRepr d = some (.val (.str p.shown)) := by
  unfold fRepr
  rw [e]
  dsimp only
  rw [if_pos r]
end Lk
end
section
set_option Elab.async false
set_option linter.all false
set_option maxRecDepth 100000
set_option maxHeartbeats 2000000
/-! Lrq: repr stands: its text is short enough. -/
namespace Lk
open PySem PySem.PyData Ev Dk
theorem len_of (s : String) : (Str.ofString s).length = s.length := by
  rw [Str.ofString_eq_toList]
  simp [Str.length]
  first | exact String.length_toList | exact (String.length_toList ..) | rfl | simp [String.length]
theorem len_int {i : Int} (h : i.natAbs < 2 ^ 240) : (PyData.int i).shown.length ≤ 241 := by
  show (Str.ofString (toString i)).length ≤ 241
  rw [len_of]
  exact int_text_length_le (k := 240) (by decide) (by have := log2_le (k := 239) h; omega)
theorem len_int40 {i : Int} (h : i.natAbs < 2 ^ 40) : (PyData.int i).shown.length ≤ 41 := by
  show (Str.ofString (toString i)).length ≤ 41
  rw [len_of]
  exact int_text_length_le (k := 40) (by decide) (by have := log2_le (k := 39) h; omega)
theorem sum_le {L : Nat} : ∀ {xs : List PyData}, (∀ x ∈ xs, x.shown.length ≤ L) → ((PyData.shownAll xs).map (·.length)).sum ≤ xs.length * L ∧ (PyData.shownAll xs).length = xs.length
  | [], _ => by rw [PyData.shownAll]; simp
  | x :: xs, h => by
    have ih := sum_le (xs := xs) fun y hy => h y (List.mem_cons_of_mem _ hy)
    have hx := h x (List.mem_cons_self ..)
    rw [PyData.shownAll, List.map_cons, List.sum_cons, List.length_cons, List.length_cons, Nat.add_mul]
    omega
theorem len_tup {L : Nat} {xs : List PyData} (h : ∀ x ∈ xs, x.shown.length ≤ L) : (PyData.tuple xs).shown.length ≤ xs.length * L + 2 * xs.length + 3 := by
  rw [PyData.shown]
  have := tupleText_len_le (PyData.shownAll xs)
  have := sum_le h
  omega
theorem len_list {L : Nat} {xs : List PyData} (h : ∀ x ∈ xs, x.shown.length ≤ L) : (PyData.list xs).shown.length ≤ xs.length * L + 2 * xs.length + 3 := by
  rw [PyData.shown]
  have := listText_len_le (PyData.shownAll xs)
  have := sum_le h
  omega
theorem show_all {xs : List PyData} (h : ∀ x ∈ xs, x.showable = true ∧ x.hasDict = false) : PyData.showableAll xs = true ∧ PyData.hasDictAll xs = false := by
  induction xs with
  | nil => exact ⟨rfl, rfl⟩
  | cons x xs ih =>
    obtain ⟨a, b⟩ := ih fun y hy => h y (List.mem_cons_of_mem _ hy)
    obtain ⟨c, d⟩ := h x (List.mem_cons_self ..)
    rw [PyData.showableAll, PyData.hasDictAll, a, b, c, d]
    exact ⟨rfl, rfl⟩
theorem show_int {i : Int} (h : i.natAbs < 2 ^ 240) : (PyData.int i).showable = true ∧ (PyData.int i).hasDict = false :=
  ⟨by rw [PyData.showable]; have := log2_le (k := 239) h; exact decide_eq_true (by omega), rfl⟩
theorem pI_ok {c : List Int} (hl : c.length ≤ 100) (h : ∀ x ∈ c, x.natAbs < 2 ^ 40) : (pI c).shown.length ≤ 4303 ∧ (pI c).showable = true ∧ (pI c).hasDict = false := by
  have h1 := len_tup (L := 41) (xs := c.map PyData.int) fun x hx => by
    obtain ⟨i, hi, rfl⟩ := List.mem_map.mp hx
    exact len_int40 (h i hi)
  have h2 := show_all (xs := c.map PyData.int) fun x hx => by
    obtain ⟨i, hi, rfl⟩ := List.mem_map.mp hx
    exact show_int (Nat.lt_trans (h i hi) (by decide))
  rw [List.length_map] at h1
  exact ⟨by unfold pI; omega, h2.1, h2.2⟩
theorem pI_short {c : List Int} (hl : c.length ≤ 4) (h : ∀ x ∈ c, x.natAbs < 2 ^ 40) : (pI c).shown.length ≤ 175 := by
  have h1 := len_tup (L := 41) (xs := c.map PyData.int) fun x hx => by
    obtain ⟨i, hi, rfl⟩ := List.mem_map.mp hx
    exact len_int40 (h i hi)
  rw [List.length_map] at h1
  unfold pI
  omega
/-- repr of a list of short clauses -/
theorem reprOk_pIs {cs : List (List Int)} (hn : cs.length ≤ 20000) (hl : ∀ c ∈ cs, c.length ≤ 4) (h : ∀ c ∈ cs, ∀ x ∈ c, x.natAbs < 2 ^ 40) : reprOk (.list (cs.map pI)) = true := by
  have h1 := len_list (L := 175) (xs := cs.map pI) fun x hx => by
    obtain ⟨c, hc, rfl⟩ := List.mem_map.mp hx
    exact pI_short (hl c hc) (h c hc)
  have h2 := show_all (xs := cs.map pI) fun x hx => by
    obtain ⟨c, hc, rfl⟩ := List.mem_map.mp hx
    exact (pI_ok (Nat.le_trans (hl c hc) (by decide)) (h c hc)).2
  have h3 := depth_pIs cs
  have h4 : (PyData.list (cs.map pI)).depth < 60 := by
    rw [PyData.depth]
    omega
  rw [List.length_map] at h1
  unfold reprOk
  rw [PyData.showable, PyData.hasDict, h2.1, h2.2, decide_eq_true h4, decide_eq_true]
  · rfl
  · rw [sizeLine_eq]; omega
theorem fRepr_pIs {cs : List (List Int)} (hn : cs.length ≤ 20000) (hl : ∀ c ∈ cs, c.length ≤ 4) (h : ∀ c ∈ cs, ∀ x ∈ c, x.natAbs < 2 ^ 40) : fRepr (.lst (cs.map tI)) = some (.val (.str (PyData.list (cs.map pI)).shown)) :=
  fRepr_ok (by rw [toPy, pys_tI]) (reprOk_pIs hn hl h)
end Lk
end
section
set_option Elab.async false
set_option linter.all false
set_option maxRecDepth 100000
set_option maxHeartbeats 2000000
/-! Lrv: the pen is made. -/
namespace Lk
open PySem Ev Dk
theorem cutD_map (f : Int → Ev.D) (cs : List Int) (lo hi : Option Int) : ∃ es : List Int, cutD (cs.map f) lo hi = es.map f ∧ es.length ≤ cs.length := by
  unfold cutD
  rw [List.length_map, ← List.map_drop, ← List.map_take]
  refine ⟨_, rfl, ?_⟩
  rw [List.length_take, List.length_drop]
  omega
theorem pen_ok {h : Hs} {Q : RV → Hs → Prop} {cs : List Int} (hl : cs.length ≤ 1000) (q : ∀ es : List Int, Q (.fresh [.lst (es.map Ev.D.int), .int 0, .int 0]) h) : WF m__law_pen [.val (scrD cs)] h Q := by
  obtain ⟨es, he, hes⟩ := cutD_map Ev.D.int cs none (some 60)
  unfold m__law_pen
  rw [wf_fn]
  show WS _ [some (.val (scrD cs))] h _ _
  rw [ws_ret, we_lst, wa_cons, wo_x, we_B, wa_cons, wo_x, we_sl, wo_n (s := .val (scrD cs)) rfl, wx_no, wx_at, we_c]
  refine ⟨60, rfl, _, force_val rfl, .fresh (cutD (cs.map Ev.D.int) none (some 60)), rfl, ?_⟩
  rw [wa_nil, he]
  refine ⟨_, rfl, .fresh (es.map Ev.D.int), rfl, ?_⟩
  rw [wa_cons, wo_x, we_c, wa_cons, wo_x, we_c, wa_nil]
  refine ⟨_, rfl, by rw [sizeLine_eq]; show 3 ≤ _; decide, ?_⟩
  rw [List.take_length]
  exact q es
end Lk
end
section
set_option Elab.async false
set_option linter.all false
set_option maxRecDepth 100000
set_option maxHeartbeats 2000000
/-! Lnc: data whose repr stands, by their parts. -/
namespace Lk
open PySem PySem.PyData Ev
/-- a datum is plain, its text has at most n signs, it is at most k deep -/
structure NcP (p : PyData) (n k : Nat) : Prop where
  len : p.shown.length ≤ n
  sh : p.showable = true
  nd : p.hasDict = false
  dep : p.depth ≤ k
  ok : OkP p
  lay : p.canLay0 = true
theorem NcP.mono {p : PyData} {n k n' k' : Nat} (h : NcP p n k) (hn : n ≤ n') (hk : k ≤ k') : NcP p n' k' := ⟨Nat.le_trans h.len hn, h.sh, h.nd, Nat.le_trans h.dep hk, h.ok, h.lay⟩
theorem ncp_non : NcP .none 5 1 := ⟨by decide +kernel, rfl, rfl, by decide +kernel, by unfold OkP; decide +kernel, rfl⟩
theorem ncp_bl (b : Bool) : NcP (.bool b) 5 1 := by cases b <;> exact ⟨by decide +kernel, rfl, rfl, by decide +kernel, by unfold OkP; decide +kernel, rfl⟩
theorem ncp_int {i : Int} (h : i.natAbs < 2 ^ 240) : NcP (.int i) 241 1 := ⟨len_int h, (show_int h).1, (show_int h).2, by rw [PyData.depth]; decide, okp_int i, rfl⟩
theorem ncp_int40 {i : Int} (h : i.natAbs < 2 ^ 40) : NcP (.int i) 41 1 := ⟨len_int40 h, (show_int (Nat.lt_trans h (by decide))).1, rfl, by rw [PyData.depth]; decide, okp_int i, rfl⟩
theorem lay_all {xs : List PyData} (h : ∀ x ∈ xs, x.canLay0 = true) : PyData.canLayAll0 xs = true := by
  induction xs with
  | nil => rfl
  | cons x xs ih =>
    show (x.canLay0 && PyData.canLayAll0 xs) = true
    rw [h x List.mem_cons_self, ih fun y hy => h y (List.mem_cons_of_mem _ hy)]; rfl
theorem dep_all {n : Nat} : ∀ {xs : List PyData}, (∀ x ∈ xs, x.depth ≤ n) → PyData.depthAll xs ≤ n
  | [], _ => by rw [PyData.depthAll]; omega
  | x :: xs, h => by
    have a := h x (List.mem_cons_self ..)
    have b := dep_all (xs := xs) fun y hy => h y (List.mem_cons_of_mem _ hy)
    rw [PyData.depthAll]
    omega
theorem ncp_tup {xs : List PyData} {n k m : Nat} (h : ∀ x ∈ xs, NcP x n k) (hm : xs.length ≤ m) : NcP (.tuple xs) (m * n + 2 * m + 3) (k + 1) := by
  have h1 := len_tup fun x hx => (h x hx).len
  have h2 := show_all fun x hx => ⟨(h x hx).sh, (h x hx).nd⟩
  have h3 := dep_all fun x hx => (h x hx).dep
  have h4 : xs.length * n ≤ m * n := Nat.mul_le_mul_right _ hm
  exact ⟨by omega, h2.1, h2.2, by rw [PyData.depth]; omega, okp_tup fun x hx => (h x hx).ok, lay_all fun x hx => (h x hx).lay⟩
theorem ncp_lst {xs : List PyData} {n k m : Nat} (h : ∀ x ∈ xs, NcP x n k) (hm : xs.length ≤ m) : NcP (.list xs) (m * n + 2 * m + 3) (k + 1) := by
  have h1 := len_list fun x hx => (h x hx).len
  have h2 := show_all fun x hx => ⟨(h x hx).sh, (h x hx).nd⟩
  have h3 := dep_all fun x hx => (h x hx).dep
  have h4 : xs.length * n ≤ m * n := Nat.mul_le_mul_right _ hm
  exact ⟨by omega, h2.1, h2.2, by rw [PyData.depth]; omega, okp_list fun x hx => (h x hx).ok, lay_all fun x hx => (h x hx).lay⟩
/-- .. as data of ours -/
def Nc (d : Ev.D) (n k : Nat) : Prop := ∃ p, toPy d = some p ∧ NcP p n k
theorem Nc.mono {d : Ev.D} {n k n' k' : Nat} (h : Nc d n k) (hn : n ≤ n') (hk : k ≤ k') : Nc d n' k' := let ⟨p, e, q⟩ := h; ⟨p, e, q.mono hn hk⟩
theorem nc_non : Nc .non 5 1 := ⟨_, rfl, ncp_non⟩
theorem nc_bl (b : Bool) : Nc (.bl b) 5 1 := ⟨_, rfl, ncp_bl b⟩
theorem nc_int {i : Int} (h : i.natAbs < 2 ^ 240) : Nc (.int i) 241 1 := ⟨_, rfl, ncp_int h⟩
theorem nc_int40 {i : Int} (h : i.natAbs < 2 ^ 40) : Nc (.int i) 41 1 := ⟨_, rfl, ncp_int40 h⟩
theorem nc_all {n k : Nat} : ∀ {ds : List Ev.D}, (∀ d ∈ ds, Nc d n k) → ∃ ps, toPys ds = some ps ∧ ps.length = ds.length ∧ ∀ p ∈ ps, NcP p n k
  | [], _ => ⟨[], rfl, rfl, fun _ h => nomatch h⟩
  | d :: ds, h => by
    obtain ⟨ps, e, hl, hp⟩ := nc_all (ds := ds) fun x hx => h x (List.mem_cons_of_mem _ hx)
    obtain ⟨p, e1, q⟩ := h d List.mem_cons_self
    refine ⟨p :: ps, by rw [toPys, e, e1], by rw [List.length_cons, List.length_cons, hl], fun x hx => ?_⟩
    rcases List.mem_cons.mp hx with rfl | hx
    · exact q
    · exact hp x hx
theorem nc_tup {ds : List Ev.D} {n k m : Nat} (h : ∀ d ∈ ds, Nc d n k) (hm : ds.length ≤ m) : Nc (.tup ds) (m * n + 2 * m + 3) (k + 1) := by
  obtain ⟨ps, e, hl, hp⟩ := nc_all h
  exact ⟨.tuple ps, by rw [toPy, e], ncp_tup hp (by omega)⟩
theorem nc_lst {ds : List Ev.D} {n k m : Nat} (h : ∀ d ∈ ds, Nc d n k) (hm : ds.length ≤ m) : Nc (.lst ds) (m * n + 2 * m + 3) (k + 1) := by
  obtain ⟨ps, e, hl, hp⟩ := nc_all h
  exact ⟨.list ps, by rw [toPy, e], ncp_lst hp (by omega)⟩
theorem Nc.shaped {d : Ev.D} {n k : Nat} (h : Nc d n k) (hk : k ≤ 60) : ∃ p, toPy d = some p ∧ SeqAt.shaped p = true := by
  obtain ⟨p, e, q⟩ := h
  refine ⟨p, e, ?_⟩
  unfold SeqAt.shaped
  rw [q.lay, decide_eq_true (Nat.le_trans q.dep (Nat.le_trans hk (by decide)))]
  rfl
/-- the text -/
def rS (d : Ev.D) : Str := match toPy d with
  | some p => p.shown
  | Option.none => ""
theorem Nc.repr {d : Ev.D} {n k : Nat} (h : Nc d n k) (hn : n ≤ 16000000) (hk : k < 60) : fRepr d = some (.val (.str (rS d))) := by
  obtain ⟨p, e, q⟩ := h
  have e2 : rS d = p.shown := by unfold rS; rw [e]
  rw [e2]
  refine fRepr_ok e ?_
  unfold reprOk
  rw [q.sh, q.nd, decide_eq_true (Nat.lt_of_le_of_lt q.dep hk), decide_eq_true]
  · rfl
  · rw [sizeLine_eq]; exact Nat.le_trans q.len (Nat.le_trans hn (by decide))
theorem Nc.okS {d : Ev.D} {n k : Nat} (h : Nc d n k) : SeqAt.shaped (.str (rS d)) = true := by
  obtain ⟨p, e, q⟩ := h
  have e2 : rS d = p.shown := by unfold rS; rw [e]
  rw [e2]
  exact okp_shaped q.ok
theorem Nc.same {d : Ev.D} {n k : Nat} (h : Nc d n k) : dEq (.str (rS d)) (.str (rS d)) = some (.val (.bl true)) := by
  rw [dEq_ss h.okS h.okS, beq_self_eq_true]
theorem Nc.same' {d : Ev.D} {n k : Nat} (h : Nc d n k) : dNe (.str (rS d)) (.str (rS d)) = some (.val (.bl false)) := by
  have := h.same
  unfold dEq at this
  unfold dNe
  cases e : dEq? (.str (rS d)) (.str (rS d)) with
  | none => rw [e] at this; cases this
  | some b => rw [e] at this; cases this; rfl
theorem Nc.eqNil {ds : List Ev.D} {n k : Nat} (h : Nc (.lst ds) n k) (hk : k ≤ 60) : dEq (.lst ds) (.lst []) = some (.val (.bl ds.isEmpty)) := by
  obtain ⟨p, e, q⟩ := h.shaped hk
  unfold dEq dEq?
  rw [e]
  have e0 : toPy (.lst []) = some (.list []) := rfl
  rw [e0]
  dsimp only
  rw [q, show SeqAt.shaped (.list []) = true from rfl]
  rw [toPy] at e
  cases ds with
  | nil => cases e; rfl
  | cons d ds =>
    cases e1 : toPys (d :: ds) with
    | none => rw [e1] at e; cases e
    | some ps =>
      rw [e1] at e; cases e
      cases ps with
      | nil =>
        rw [toPys] at e1
        cases h1 : toPy d <;> cases h2 : toPys ds <;> rw [h1, h2] at e1 <;> cases e1
      | cons p ps => rfl
theorem Nc.neNil {ds : List Ev.D} {n k : Nat} (h : Nc (.lst ds) n k) (hk : k ≤ 60) : dNe (.lst ds) (.lst []) = some (.val (.bl (!ds.isEmpty))) := by
  have := h.eqNil hk
  unfold dEq at this
  unfold dNe
  cases e : dEq? (.lst ds) (.lst []) with
  | none => rw [e] at this; cases this
  | some b => rw [e] at this; cases this; rfl
end Lk
end
section
set_option Elab.async false
set_option linter.all false
set_option maxRecDepth 100000
set_option maxHeartbeats 2000000
/-! Lcol: columns and rows; is_column, is_row; all columns. -/
namespace Ev
open PySem L2
theorem comp2L_pure {g g1 : Gx} {t t1 : Tx} {it1 : Ix} {e : Ex} {vs1 : List Nat} {env : Nv} {h : Hs} {F : D → List D} : ∀ (ds acc : List D),
    (∀ d ∈ ds, ∃ e1 es, g d env = some e1 ∧ t e1 h = .ok true h ∧ it1 e1 h = .ok es h ∧ (F d).length = es.length ∧ ∀ acc, compL g1 t1 e (wipeE e1 vs1) acc es h = .ok (acc ++ F d) h) → acc.length + (ds.flatMap F).length < sizeLine → comp2L g t it1 g1 t1 e vs1 env acc ds h = .ok (acc ++ ds.flatMap F) h
  | [], acc, _, _ => by unfold comp2L; simp
  | d :: ds, acc, hd, hl => by
    obtain ⟨e1, es, hg, ht, hit, hlen, hc⟩ := hd d List.mem_cons_self
    rw [List.flatMap_cons, List.length_append] at hl
    unfold comp2L
    rw [hg]
    dsimp only
    rw [ht]
    dsimp only
    rw [hit]
    dsimp only
    rw [if_pos (by omega), hc]
    dsimp only
    rw [comp2L_pure ds _ (fun d' hd' => hd d' (List.mem_cons_of_mem _ hd')) (by rw [List.length_append]; omega), List.flatMap_cons, List.append_assoc]
theorem we_comp2 {vs vs1 : List Nat} {it it1 : Ix} {g g1 : Gx} {t t1 : Tx} {e : Ex} {env : Nv} {h : Hs} {Q : RV → Hs → Prop} (F : D → List D)
    (hi : WI it env h fun ds h1 => (ds.flatMap F).length < sizeLine ∧ (∀ d ∈ ds, ∃ e1 es, g d (wipeE env vs) = some e1 ∧ t e1 h1 = .ok true h1 ∧ it1 e1 h1 = .ok es h1 ∧ (F d).length = es.length ∧ ∀ acc, compL g1 t1 e (wipeE e1 vs1) acc es h1 = .ok (acc ++ F d) h1) ∧ Q (.fresh (ds.flatMap F)) h1) :
    WE (eComp2 vs vs1 it g t it1 g1 t1 e) env h Q := by
  unfold WE eComp2
  unfold WI at hi
  cases q : it env h with
  | exc _ _ => rw [q] at hi; exact hi.elim
  | bad => rw [q] at hi; exact hi.elim
  | ok ds h1 =>
    rw [q] at hi
    obtain ⟨hl, hd, hq⟩ := hi
    dsimp only
    rw [comp2L_pure (F := F) ds [] hd (by simpa using hl), List.nil_append]
    exact hq
end Ev
namespace Lk
open PySem PySem.W Ev Dk
abbrev Col := List (Option Bool)
def eD : Option Bool → Ev.D
  | none => .non
  | some b => .bl b
def cD (c : Col) : Ev.D := .tup (c.map eD)
def rD (r : List Col) : Ev.D := .lst (r.map cD)
def enB : Ev.D → Bool
  | .non => true
  | .bl _ => true
  | _ => false
def enP : Ev.D → Bool
  | .non => true
  | .bl _ => true
  | .int _ => true
  | .str _ => true
  | .tup _ => true
  | .lst _ => true
  | _ => false
def colB (w : Int) : Ev.D → Bool
  | .tup es => decide ((es.length : Int) = w) && es.all enB
  | _ => false
def colP : Ev.D → Bool
  | .tup es => es.all enP && decide (es.length ≤ 1000)
  | .non => true
  | .bl _ => true
  | .int _ => true
  | .str _ => true
  | .lst _ => true
  | .dct _ _ => true
  | _ => false
theorem compE {e : Nv} {i : Nat} {v : Option SV} (hi : i < e.length) : ((wipeE e [i]).set i v)[i]? = some v := by
  unfold wipeE wipeE
  rw [List.set_set, List.getElem?_set_self hi]
theorem boolsOf_map {α : Type} (f : α → Bool) : ∀ l : List α, boolsOf (l.map fun x => Ev.D.bl (f x)) = some (l.map f)
  | [] => rfl
  | x :: l => by
    rw [List.map_cons]
    unfold boolsOf
    rw [boolsOf_map f l]; rfl
theorem bAll_map {α : Type} (f : α → Bool) (l : List α) : bAll [.lst (l.map fun x => Ev.D.bl (f x))] = some (.val (.bl (l.all f))) := by
  show fAll _ = _
  unfold fAll
  show ((boolsOf (l.map fun x => Ev.D.bl (f x))).map fun bs => RV.val (.bl (bs.all id))) = _
  rw [boolsOf_map]
  simp [List.all_map]
theorem bAny_map {α : Type} (f : α → Bool) (l : List α) : bAny [.lst (l.map fun x => Ev.D.bl (f x))] = some (.val (.bl (l.any f))) := by
  show fAny _ = _
  unfold fAny
  show ((boolsOf (l.map fun x => Ev.D.bl (f x))).map fun bs => RV.val (.bl (bs.any id))) = _
  rw [boolsOf_map]
  simp [List.any_map]
theorem entries_ok {env : Nv} {h : Hs} {Q : RV → Hs → Prop} {i v : Nat} {es : List Ev.D} (hv : env[v]? = some (some (.val (.tup es)))) (hi : i < env.length) (hp : es.all enP = true) (hl : es.length ≤ 1000) (q : Q (.val (.bl (es.all enB))) h) :
    WE (eB bAll (aCons (xO (eComp [i] (iVal (eVar v)) (gNm i) tYesE (eOrE (eBin dIsN (xO (eVar i)) (xO (eC .non))) (eB bIsi (aCons (xO (eVar i)) (aCons (xO (eC (.ty "bool"))) aNil)))))) aNil)) env h Q := by
  rw [we_B, wa_cons, wo_x]
  refine we_comp (fun _ => true) (fun d => .bl (enB d)) ?_
  rw [wi_val, we_var]
  refine ⟨_, hv, es, rfl, by rw [sizeLine_eq]; omega, fun d hd => ?_, ?_⟩
  · refine ⟨_, rfl, wt_yes.mpr ⟨rfl, rfl⟩, fun _ => ?_⟩
    have hd2 := List.all_eq_true.mp hp d hd
    have g := compE (v := some (.val d)) hi
    generalize (wipeE env [i]).set i (some (.val d)) = e1 at g
    rw [we_orE, we_bin, wo_x, we_var]
    refine ⟨_, g, ?_⟩
    rw [wo_x, we_c]
    cases d with
    | non => exact ⟨_, rfl, _, rfl, _, rfl, true, rfl, by rw [if_pos rfl]; exact ⟨rfl, rfl⟩⟩
    | scr ds => cases hd2
    | ty n => cases hd2
    | gl x => cases hd2
    | dct ks ds => cases hd2
    | _ =>
      refine ⟨_, rfl, _, rfl, _, rfl, false, rfl, ?_⟩
      rw [if_neg (by decide), we_B, wa_cons, wo_x, we_var]
      refine ⟨_, g, ?_⟩
      rw [wa_cons, wo_x, we_c, wa_nil]
      exact ⟨_, rfl, _, rfl, rfl, rfl⟩
  · rw [filt, wa_nil]
    exact ⟨_, rfl, _, bAll_map enB es, q⟩
theorem isColumn_ok {h : Hs} {Q : RV → Hs → Prop} {w : Int} {d : Ev.D} (hd : colP d = true) (q : Q (.val (.bl (colB w d))) h) : WF m_is_column [.val (.int w), .val d] h Q := by
  unfold m_is_column
  rw [wf_fn]
  show WS _ [some (.val (.int w)), some (.val d), none] h _ _
  cases d with
  | tup es =>
    have hd' : (es.all enP && decide (es.length ≤ 1000)) = true := hd
    rw [Bool.and_eq_true, decide_eq_true_eq] at hd'
    rw [ws_seq, ws_if, wt_or, wt_not, wt_of, we_B, wa_cons, wo_n (s := .val (.tup es)) rfl, wa_cons, wo_x, we_c, wa_nil]
    refine ⟨[.tup es, .ty "tuple"], forces_cons (force_val rfl) rfl, _, rfl, true, rfl, ?_⟩
    rw [if_neg (by decide), wt_of, we_bin, wo_x, we_B, wa_cons, wo_n (s := .val (.tup es)) rfl, wa_nil]
    refine ⟨_, forces_cons (force_val rfl) rfl, _, bLen_t _, ?_⟩
    rw [wo_n (s := .val (.int w)) rfl]
    refine ⟨_, rfl, _, force_val rfl, _, dNe_ii _ _, _, rfl, ?_⟩
    by_cases hw : (es.length : Int) = w
    · rw [if_neg (by simpa using hw), ws_nx, ws_ret]
      refine entries_ok rfl (by show 2 < 3; decide) hd'.1 hd'.2 ?_
      rw [List.take_length]
      have : colB w (.tup es) = es.all enB := by
        show (decide ((es.length : Int) = w) && es.all enB) = _
        rw [decide_eq_true hw, Bool.true_and]
      rw [this] at q
      exact q
    · rw [if_pos (by simpa using hw), ws_ret, we_c, List.take_length]
      have : colB w (.tup es) = false := by
        show (decide ((es.length : Int) = w) && es.all enB) = _
        rw [decide_eq_false hw, Bool.false_and]
      rw [this] at q
      exact q
  | scr ds => cases hd
  | ty n => cases hd
  | gl x => cases hd
  | _ =>
    refine (show Q (.val (.bl false)) (h.take h.length) from ?_)
    rw [List.take_length]
    exact q
def rowB (w : Int) : Ev.D → Bool
  | .lst cs => !cs.isEmpty && cs.all (colB w)
  | _ => false
inductive RowP : Ev.D → Prop where
  | lst {cs : List Ev.D} {n k : Nat} : cs.all colP = true → cs.length ≤ 1000 → Nc (.lst cs) n k → k ≤ 60 → RowP (.lst cs)
  | non : RowP .non
  | bl (b : Bool) : RowP (.bl b)
  | int (i : Int) : RowP (.int i)
  | str (x : Str) : RowP (.str x)
  | tup (ds : List Ev.D) : RowP (.tup ds)
  | dct (ks : List L2.Key) (ds : List Ev.D) : RowP (.dct ks ds)
theorem isRow_ok {h : Hs} {Q : RV → Hs → Prop} {w : Int} {d : Ev.D} (hd : RowP d) (q : Q (.val (.bl (rowB w d))) h) : WF m_is_row [.val (.int w), .val d] h Q := by
  unfold m_is_row
  rw [wf_fn]
  show WS _ [some (.val (.int w)), some (.val d), none] h _ _
  cases hd with
  | @lst cs n k hp hl nc hk =>
    rw [ws_ret, we_andE, we_B, wa_cons, wo_n (s := .val (.lst cs)) rfl, wa_cons, wo_x, we_c, wa_nil]
    refine ⟨[.lst cs, .ty "list"], forces_cons (force_val rfl) rfl, _, rfl, true, rfl, ?_⟩
    rw [if_pos rfl, we_andE, we_bin, wo_n (s := .val (.lst cs)) rfl, wo_x, we_lst, wa_nil]
    refine ⟨_, rfl, by decide, _, force_val rfl, _, rfl, _, nc.neNil hk, _, rfl, ?_⟩
    have e0 : rowB w (.lst cs) = (!cs.isEmpty && cs.all (colB w)) := rfl
    rw [e0] at q
    cases hc : cs.isEmpty with
    | true =>
      rw [hc] at q
      rw [if_neg (by decide), List.take_length]
      exact q
    | false =>
      rw [hc] at q
      rw [if_pos (show (!false) = true from rfl), we_B, wa_cons, wo_x]
      refine we_comp (fun _ => true) (fun d => .bl (colB w d)) ?_
      rw [wi_val, we_var]
      refine ⟨_, rfl, cs, rfl, by rw [sizeLine_eq]; omega, fun d hd => ?_, ?_⟩
      · refine ⟨_, rfl, wt_yes.mpr ⟨rfl, rfl⟩, fun _ => ?_⟩
        show WE _ [some (.val (.int w)), some (.val (.lst cs)), some (.val d)] h _
        rw [we_call, wa_cons, wo_n (s := .val (.int w)) rfl, wa_cons, wo_x, we_var]
        refine ⟨_, rfl, ?_⟩
        rw [wa_nil]
        exact ⟨[.val (.int w), .val d], by rw [svs_sl (s := .val (.int w)) rfl, vl_val, svs_vl]; rfl, rfl, isColumn_ok (List.all_eq_true.mp hp d hd) ⟨rfl, rfl⟩⟩
      · rw [filt, wa_nil]
        refine ⟨_, rfl, _, bAll_map (colB w) cs, ?_⟩
        rw [List.take_length]
        exact q
  | _ =>
    refine (show Q (.val (.bl false)) (h.take h.length) from ?_)
    rw [List.take_length]
    exact q
theorem colB_cD {w : Int} (c : Col) : colB w (cD c) = decide ((c.length : Int) = w) := by
  show (decide (((c.map eD).length : Int) = w) && (c.map eD).all enB) = _
  have : (c.map eD).all enB = true := List.all_eq_true.mpr fun x hx => by
    obtain ⟨e, _, rfl⟩ := List.mem_map.mp hx
    cases e <;> rfl
  rw [this, Bool.and_true, List.length_map]
theorem colP_cD {c : Col} (hl : c.length ≤ 1000) : colP (cD c) = true := by
  show ((c.map eD).all enP && decide ((c.map eD).length ≤ 1000)) = true
  have : (c.map eD).all enP = true := List.all_eq_true.mpr fun x hx => by
    obtain ⟨e, _, rfl⟩ := List.mem_map.mp hx
    cases e <;> rfl
  rw [this, List.length_map, decide_eq_true hl]; rfl
theorem nc_eD (e : Option Bool) : Nc (eD e) 5 1 := by
  cases e with
  | none => exact nc_non
  | some b => exact nc_bl b
theorem nc_cD {c : Col} (hl : c.length ≤ 10) : Nc (cD c) 73 2 := by
  refine (nc_tup (m := 10) (n := 5) (k := 1) (fun d hd => ?_) (by rw [List.length_map]; exact hl)).mono (by decide) (by decide)
  obtain ⟨e, _, rfl⟩ := List.mem_map.mp hd
  exact nc_eD e
theorem nc_rD {r : List Col} (hl : r.length ≤ 1000) (hc : ∀ c ∈ r, c.length ≤ 10) : Nc (rD r) 75003 3 := by
  refine (nc_lst (m := 1000) (n := 73) (k := 2) (fun d hd => ?_) (by rw [List.length_map]; exact hl)).mono (by decide) (by decide)
  obtain ⟨c, hm, rfl⟩ := List.mem_map.mp hd
  exact nc_cD (hc c hm)
theorem rowP_rD {r : List Col} (hl : r.length ≤ 1000) (hc : ∀ c ∈ r, c.length ≤ 10) : RowP (rD r) :=
  .lst (List.all_eq_true.mpr fun x hx => by
    obtain ⟨c, hm, rfl⟩ := List.mem_map.mp hx
    exact colP_cD (Nat.le_trans (hc c hm) (by decide))) (by rw [List.length_map]; exact hl) (nc_rD hl hc) (by decide)
theorem rowB_rD {r : List Col} {w : Nat} (h1 : 1 ≤ r.length) (hc : ∀ c ∈ r, c.length = w) : rowB w (rD r) = true := by
  show (!(r.map cD).isEmpty && (r.map cD).all (colB w)) = true
  have : (r.map cD).all (colB w) = true := List.all_eq_true.mpr fun x hx => by
    obtain ⟨c, hm, rfl⟩ := List.mem_map.mp hx
    rw [colB_cD, hc c hm]
    exact decide_eq_true rfl
  rw [this, Bool.and_true]
  cases r with
  | nil => cases h1
  | cons c r => rfl
theorem eD_enP (c : Col) : (c.map eD).all enP = true := List.all_eq_true.mpr fun x hx => by
  obtain ⟨e, _, rfl⟩ := List.mem_map.mp hx
  cases e <;> rfl
theorem dIx_rD {r : List Col} {k : Int} (h0 : 0 ≤ k) (h1 : k < r.length) : ∃ c, c ∈ r ∧ r[k.toNat]? = some c ∧ dIx (rD r) (.int k) = some (.val (cD c)) := by
  have hk : k.toNat < r.length := by omega
  refine ⟨r[k.toNat], List.getElem_mem hk, List.getElem?_eq_getElem hk, ?_⟩
  show (L2.atI (r.map cD) k).map RV.val = _
  rw [atI_of h0 (d := cD r[k.toNat]) (by rw [List.getElem?_map, List.getElem?_eq_getElem hk]; rfl)]
  rfl
theorem log7 {n : Nat} (h : n ≤ 100) : ((n : Int)).natAbs.log2 < 9000 := by
  have : ((n : Int)).natAbs < 2 ^ 7 := by omega
  have := log2_le (k := 6) this
  omega
theorem checkR_ok {h : Hs} {Q : RV → Hs → Prop} {w : Int} {d : Ev.D} (hd : RowP d) (hr : rowB w d = true) (q : Q (.val .non) h) : WF m_check_row [.val (.int w), .val d] h Q := by
  unfold m_check_row
  rw [wf_fn]
  show WS _ [some (.val (.int w)), some (.val d)] h _ _
  rw [ws_if, wt_not, wt_of, we_call, wa_cons, wo_n (s := .val (.int w)) rfl, wa_cons, wo_n (s := .val d) rfl, wa_nil]
  refine ⟨[.val (.int w), .val d], by rw [svs_sl (s := .val (.int w)) rfl, svs_sl (s := .val d) rfl]; rfl, rfl, isRow_ok hd ⟨_, rfl, ?_⟩⟩
  rw [hr, if_neg (by decide), ws_nx, List.take_length]
  exact q
def ext3 (c : Col) : List Col := [c ++ [none], c ++ [some false], c ++ [some true]]
def colsS : Nat → List Col
  | 0 => [[]]
  | n + 1 => (colsS n).flatMap ext3
theorem colsS_len : ∀ n : Nat, ∀ c ∈ colsS n, c.length = n
  | 0, c, h => by rw [show c = [] from List.mem_singleton.mp h]; rfl
  | n + 1, c, h => by
    obtain ⟨d, hd, hc⟩ := List.mem_flatMap.mp h
    have := colsS_len n d hd
    unfold ext3 at hc
    simp only [List.mem_cons, List.not_mem_nil, or_false] at hc
    rcases hc with rfl | rfl | rfl <;> (rw [List.length_append, this]; rfl)
theorem colsS_few {n : Nat} (h : n ≤ 4) : (colsS n).length ≤ 81 := by
  have : ∀ n : Nat, n ≤ 4 → (colsS n).length ≤ 81 := by decide
  exact this n h
def FE : Ev.D → List Ev.D := fun d => match d with
  | .tup es => [.tup (es ++ [.non]), .tup (es ++ [.bl false]), .tup (es ++ [.bl true])]
  | _ => []
theorem FE_c (c : Col) : FE (cD c) = (ext3 c).map cD := by
  show [Ev.D.tup (c.map eD ++ [.non]), .tup (c.map eD ++ [.bl false]), .tup (c.map eD ++ [.bl true])] = [cD (c ++ [none]), cD (c ++ [some false]), cD (c ++ [some true])]
  unfold cD
  rw [List.map_append, List.map_append, List.map_append]
  rfl
theorem FE_all : ∀ cs : List Col, (cs.map cD).flatMap FE = (cs.flatMap ext3).map cD
  | [] => rfl
  | c :: cs => by rw [List.map_cons, List.flatMap_cons, FE_all cs, FE_c, List.flatMap_cons, List.map_append]
end Lk
end
section
set_option Elab.async false
set_option linter.all false
set_option maxRecDepth 100000
set_option maxHeartbeats 2000000
/-! Lf1: a law's own following: worths, steps, entries, put, told; drawn rows (the parts of Ly1 to Ly6 that need no settled rows). -/
namespace Lk
open PySem Ev Dk
def eP : Option Bool → PyData
  | none => .none
  | some b => .bool b
theorem py_eD (e : Option Bool) : toPy (eD e) = some (eP e) := by cases e <;> rfl
theorem pys_eD : ∀ ws : Col, toPys (ws.map eD) = some (ws.map eP)
  | [] => rfl
  | w :: ws => by rw [List.map_cons, toPys, py_eD, pys_eD ws]; rfl
theorem eqv_eP (a b : Option Bool) : PyData.eqv (eP a) (eP b) = (a == b) := by
  cases a with
  | none => cases b with
    | none => simp [eP, PyData.eqv]
    | some b => simp [eP, PyData.eqv]
  | some a => cases b with
    | none => simp [eP, PyData.eqv]
    | some b => cases a <;> cases b <;> simp [eP, PyData.eqv]
theorem shaped_eP (e : Option Bool) : SeqAt.shaped (eP e) = true := by
  cases e with
  | none => rfl
  | some b => cases b <;> rfl
theorem lay_eP : ∀ ws : Col, PyData.canLayAll0 (ws.map eP) = true := fun ws => lay_all fun x hx => by
  obtain ⟨e, _, rfl⟩ := List.mem_map.mp hx
  cases e <;> rfl
theorem dep_eP (ws : Col) : PyData.depthAll (ws.map eP) ≤ 1 := dep_all fun x hx => by
  obtain ⟨e, _, rfl⟩ := List.mem_map.mp hx
  cases e <;> (simp only [eP, PyData.depth]; decide)
theorem shaped_eDs (ws : Col) : SeqAt.shaped (.list (ws.map eP)) = true := by
  unfold SeqAt.shaped
  rw [Bool.and_eq_true]
  refine ⟨lay_eP ws, decide_eq_true ?_⟩
  have := dep_eP ws
  rw [PyData.depth]
  omega
theorem count_eD (ws : Col) (v : Option Bool) : mCount (.lst (ws.map eD)) [eD v] = some (.val (.int (ws.count v : Nat))) := by
  unfold mCount
  dsimp only
  rw [pys_eD, py_eD]
  dsimp only
  rw [shaped_eDs, shaped_eP]
  have e : (ws.map eP).countP (fun z => PyData.eqv z (eP v)) = ws.count v := by
    rw [List.countP_map]
    unfold List.count
    congr 1
    funext z
    exact eqv_eP z v
  rw [e]
  rfl
theorem index_eD {ws : Col} {v : Option Bool} (h : v ∈ ws) : ∃ j, j < ws.length ∧ ws[j]? = some v ∧ mIndex (.lst (ws.map eD)) [eD v] = some (.val (.int (j : Nat))) := by
  unfold mIndex
  dsimp only
  rw [pys_eD, py_eD]
  dsimp only
  rw [shaped_eDs, shaped_eP]
  cases q : (ws.map eP).findIdx? (fun z => PyData.eqv z (eP v)) with
  | none =>
    rw [List.findIdx?_eq_none_iff] at q
    have := q (eP v) (List.mem_map_of_mem h)
    rw [eqv_eP] at this
    simp at this
  | some j =>
    obtain ⟨hj, h1, h2⟩ := List.findIdx?_eq_some_iff_getElem.mp q
    have hj' : j < ws.length := by rwa [List.length_map] at hj
    refine ⟨j, hj', ?_, rfl⟩
    rw [List.getElem?_eq_getElem hj']
    rw [List.getElem_map, eqv_eP] at h1
    exact congrArg some (by simpa using h1)
theorem flat_eD (e : Option Bool) : flatD (eD e) = true := by cases e <;> rfl
theorem eqF_eD (a b : Option Bool) : eqF (eD a) (eD b) = (a == b) := by
  cases a with
  | none => cases b <;> rfl
  | some a => cases b with
    | none => rfl
    | some b => cases a <;> cases b <;> rfl
theorem inS_eD (ws : Col) (v : Option Bool) : inS (eD v) (.lst (ws.map eD)) = some (ws.contains v) := by
  unfold inS
  show (if flatD (eD v) && (ws.map eD).all flatD then some (inF (eD v) (ws.map eD)) else none) = _
  have e1 : (ws.map eD).all flatD = true := List.all_eq_true.mpr fun x hx => by
    obtain ⟨e, _, rfl⟩ := List.mem_map.mp hx
    exact flat_eD e
  rw [flat_eD, e1]
  have e2 : inF (eD v) (ws.map eD) = ws.contains v := by
    unfold inF
    rw [List.any_map]
    have : ((fun y => eqF y (eD v)) ∘ eD) = fun y => y == v := funext fun y => eqF_eD y v
    rw [this]
    induction ws with
    | nil => rfl
    | cons w ws ih =>
      rw [List.any_cons, List.contains_cons, ih ?_]
      · congr 1
        cases w with
        | none => cases v <;> rfl
        | some a => cases v with
          | none => rfl
          | some b => cases a <;> cases b <;> rfl
      · exact List.all_eq_true.mpr fun x hx => by
          obtain ⟨e, _, rfl⟩ := List.mem_map.mp hx
          exact flat_eD e
  rw [e2]
  rfl
theorem in_eD (ws : Col) (v : Option Bool) : dIn (eD v) (.lst (ws.map eD)) = some (.val (.bl (ws.contains v))) := by
  unfold dIn dInF
  rw [inS_eD]
  rfl
theorem notIn_eD (ws : Col) (v : Option Bool) : dNotIn (eD v) (.lst (ws.map eD)) = some (.val (.bl (!ws.contains v))) := by
  unfold dNotIn dNotInF
  rw [inS_eD]
  rfl
def wo1 (es : Col) (x : Int) : Option Bool := (es[x.natAbs - 1]?.getD none).map fun b => b == decide (0 < x)
def woS (c : List Int) (es : Col) : Col := c.map (wo1 es)
def Fits (n : Nat) (c : List Int) : Prop := c.length ≤ 4 ∧ ∀ x ∈ c, 1 ≤ x.natAbs ∧ x.natAbs ≤ n
def EntD (d : Ev.D) (es : Col) : Prop := d = .tup (es.map eD) ∨ d = .lst (es.map eD)
theorem ent_ix {d : Ev.D} {es : Col} {x : Int} (he : EntD d es) (h1 : 1 ≤ x.natAbs) (h2 : x.natAbs ≤ es.length) : dIx d (.int ((x.natAbs : Nat) - 1)) = some (.val (eD (es[x.natAbs - 1]?.getD none))) := by
  have hlt : x.natAbs - 1 < es.length := by omega
  have e1 : L2.atI (es.map eD) ((x.natAbs : Nat) - 1 : Int) = some (eD (es[x.natAbs - 1]?.getD none)) := by
    refine atI_of (by omega) ?_
    rw [show ((x.natAbs : Nat) - 1 : Int).toNat = x.natAbs - 1 by omega, List.getElem?_map, List.getElem?_eq_getElem hlt]
    rfl
  rcases he with rfl | rfl
  · rw [dIx_t, e1]; rfl
  · rw [dIx_l, e1]; rfl
theorem dEq_bb (a b : Bool) : dEq (.bl a) (.bl b) = some (.val (.bl (a == b))) := by
  cases a <;> cases b <;> simp [dEq, dEq?, toPy, SeqAt.shaped, PyData.canLay0, PyData.depth, PyData.eqv]
theorem wVal {env : Nv} {h : Hs} {Q : RV → Hs → Prop} {i k : Nat} {e : Option Bool} {x : Int} (h1 : env[i]? = some (some (.val (eD e)))) (h2 : env[k]? = some (some (.val (.int x)))) (q : ∀ rv, rv.vl = eD (e.map fun b => b == decide (0 < x)) → Q rv h) :
    WE (eIf (bOf (eBin dIsN (nO i) (xO (eC .non)))) (eC .non) (eBin dEq (nO i) (xO (eBin cGt (nO k) (xO (eC (.int 0))))))) env h Q := by
  rw [we_if, wt_of, we_bin, wo_n h1, wo_x, we_c]
  cases e with
  | none =>
    refine ⟨_, force_val h1, _, rfl, _, rfl, _, rfl, ?_⟩
    rw [if_pos rfl, we_c]
    exact q _ rfl
  | some b =>
    refine ⟨_, force_val h1, _, rfl, _, rfl, _, rfl, ?_⟩
    rw [if_neg (by decide), we_bin, wo_n h1, wo_x, we_bin, wo_n h2, wo_x, we_c]
    refine ⟨_, force_val h2, _, rfl, .val (.bl (decide (0 < x))), rfl, _, force_val h1, _, rfl, _, dEq_bb _ _, ?_⟩
    exact q _ rfl
theorem lworths_ok {h : Hs} {Q : RV → Hs → Prop} {c : List Int} {es : Col} {d : Ev.D} (he : EntD d es) (hc : Fits es.length c) (q : Q (.fresh ((woS c es).map eD)) h) : WF m__law_worths [.val (tI c), .val d] h Q := by
  unfold m__law_worths
  rw [wf_fn]
  show WS _ [some (.val (tI c)), some (.val d), none, none, none] h _ _
  rw [ws_seq, ws_new, we_lst, wa_nil]
  refine ⟨_, rfl, by decide, _, rfl, ?_⟩
  show WS _ [some (.val (tI c)), some (.val d), some (.loc h.length), none, none] (h ++ [Cell.lst []]) _ _
  rw [ws_seq]
  generalize hE : ([some (.val (tI c)), some (.val d), some (.loc h.length), none, none] : Nv) = E
  have g0 : E[0]? = some (some (.val (tI c))) := by rw [← hE]; rfl
  refine ws_for ?_
  rw [wi_val, we_var]
  refine ⟨_, g0, c.map D.int, rfl, fun i e h2 => ∃ x3 x4 : Option SV, e = [some (.val (tI c)), some (.val d), some (.loc h.length), x3, x4] ∧ h2 = h ++ [Cell.lst (((woS c es).take i).map eD)], ⟨none, none, hE.symm, rfl⟩, fun i y e h2 hy I => ?_, fun e h2 I => ?_⟩
  · obtain ⟨x3, x4, rfl, rfl⟩ := I
    rw [List.getElem?_map] at hy
    cases hx : c[i]? with
    | none => rw [hx] at hy; cases hy
    | some x =>
      rw [hx] at hy; cases hy
      obtain ⟨hi, hxi⟩ := List.getElem?_eq_some_iff.mp hx
      obtain ⟨h1, h2⟩ := hc.2 x (hxi ▸ List.getElem_mem hi)
      refine ⟨_, rfl, ?_⟩
      show WS _ [some (.val (tI c)), some (.val d), some (.loc h.length), some (.val (.int x)), x4] (h ++ [Cell.lst (((woS c es).take i).map eD)]) _ _
      rw [ws_seq, ws_set, we_bin, wo_n (s := .val d) rfl, wo_x, we_bin, wo_x, we_B, wa_cons, wo_n (s := .val (.int x)) rfl, wa_nil]
      refine ⟨_, forces_cons (force_val rfl) rfl, _, abs_i x, ?_⟩
      rw [wo_x, we_c]
      refine ⟨_, rfl, _, rfl, .val (.int ((x.natAbs : Nat) - 1)), rfl, _, force_val rfl, _, rfl, _, ent_ix he h1 h2, ?_⟩
      show WS _ [some (.val (tI c)), some (.val d), some (.loc h.length), some (.val (.int x)), some (.val (eD (es[x.natAbs - 1]?.getD none)))] (h ++ [Cell.lst (((woS c es).take i).map eD)]) _ _
      have hcell : (h ++ [Cell.lst (((woS c es).take i).map eD)])[h.length]? = some (.lst (((woS c es).take i).map eD)) := by
        rw [List.getElem?_append_right (Nat.le_refl _), Nat.sub_self]; rfl
      rw [ws_expr, we_meth (n := h.length) rfl hcell, wa_cons, wo_x]
      refine wVal (e := es[x.natAbs - 1]?.getD none) (x := x) rfl rfl fun rv e => ?_
      rw [e, wa_nil]
      refine ⟨_, rfl, _, hcell, _, app_d (by rw [List.length_map, List.length_take, sizeLine_eq]; have := hc.1; omega), _, _, rfl, ?_⟩
      rw [List.set_append_right _ _ (Nat.le_refl _), Nat.sub_self]
      have e5 : (woS c es).take (i + 1) = (woS c es).take i ++ [wo1 es x] := by
        rw [List.take_add_one]
        have : (woS c es)[i]? = some (wo1 es x) := by unfold woS; rw [List.getElem?_map, hx]; rfl
        rw [this]; rfl
      rw [e5, List.map_append]
      rfl
  · obtain ⟨x3, x4, rfl, rfl⟩ := I
    have hl : (c.map D.int).length = (woS c es).length := by unfold woS; rw [List.length_map, List.length_map]
    rw [hl, List.take_length, ws_ret]
    refine we_take (n := h.length) rfl (by rw [List.getElem?_append_right (Nat.le_refl _), Nat.sub_self]; rfl) ?_
    rw [List.set_append_right _ _ (Nat.le_refl _), Nat.sub_self, List.take_append_of_le_length (Nat.le_refl _), List.take_length]
    exact q
theorem fits_of {s : Int} {n : Nat} {c : List Int} (h : ClauseOk s c) (hs : s ≤ (n : Int)) : Fits n c := ⟨h.few, fun x hx => ⟨(h.ran x hx).1, by have := (h.ran x hx).2; omega⟩⟩
theorem fits_all {s : Int} {m n : Nat} {p : List (List Int)} (h : PartOk s m p) (hs : s ≤ (n : Int)) : ∀ c ∈ p, Fits n c := fun c hc => fits_of (h.ok c hc) hs
def entS (r : List Col) (k : Nat) : Col := (r[k]?.getD []) ++ (r[k + 1]?.getD [])
theorem ent_len {r : List Col} {W k : Nat} (hc : ∀ c ∈ r, c.length = W) (hk : k + 1 < r.length) : (entS r k).length = 2 * W := by
  unfold entS
  rw [List.getElem?_eq_getElem (by omega), List.getElem?_eq_getElem hk, List.length_append]
  show r[k].length + r[k + 1].length = _
  rw [hc _ (List.getElem_mem _), hc _ (List.getElem_mem _)]
  omega
theorem atI_last {ds : List Ev.D} (h : 1 ≤ ds.length) : L2.atI ds (-1) = ds[ds.length - 1]? := by
  unfold L2.atI L2.ixN
  rw [if_neg (by decide), if_pos (by omega)]
  show ds[((-1 : Int) + ds.length).toNat]? = _
  congr 1
  omega
structure Stp where
  nm : Str
  ix : Nat
  col : Nat
  cl : List Int
def Stp.D (s : Stp) : Ev.D := .tup [.str s.nm, .int (s.ix : Nat), .int (s.col : Nat), tI s.cl]
def ptF (nm : Str) (pl : List Nat) : Nat → List (List Int) → List Stp
  | _, [] => []
  | i, c :: p => pl.map (fun k => ⟨nm, i, k, c⟩) ++ ptF nm pl (i + 1) p
theorem ptF_app (nm : Str) (pl : List Nat) (c : List Int) : ∀ (p : List (List Int)) (i : Nat), ptF nm pl i (p ++ [c]) = ptF nm pl i p ++ pl.map (fun k => ⟨nm, i + p.length, k, c⟩)
  | [], i => by show pl.map _ ++ [] = [] ++ _; rw [List.append_nil]; rfl
  | d :: p, i => by
    show pl.map _ ++ ptF nm pl (i + 1) (p ++ [c]) = (pl.map _ ++ ptF nm pl (i + 1) p) ++ _
    rw [ptF_app nm pl c p (i + 1), List.append_assoc, List.length_cons, show i + 1 + p.length = i + (p.length + 1) by omega]
theorem ptF_len (nm : Str) (pl : List Nat) : ∀ (p : List (List Int)) (i : Nat), (ptF nm pl i p).length = p.length * pl.length
  | [], i => by simp [ptF]
  | d :: p, i => by
    show (pl.map _ ++ ptF nm pl (i + 1) p).length = _
    rw [List.length_append, List.length_map, ptF_len nm pl p (i + 1), List.length_cons, Nat.succ_mul]; omega
theorem ptF_all (f : Nat → List Int → Bool) (nm : Str) (pl : List Nat) : ∀ (p : List (List Int)) (i : Nat), (ptF nm pl i p).all (fun s => f s.col s.cl) = p.all fun c => pl.all fun k => f k c
  | [], _ => rfl
  | c :: p, i => by
    show (pl.map _ ++ ptF nm pl (i + 1) p).all _ = _
    rw [List.all_append, ptF_all f nm pl p (i + 1), List.all_map, List.all_cons]
    rfl
theorem ptF_mem {nm : Str} {pl : List Nat} {s : Stp} : ∀ {p : List (List Int)} {i : Nat}, s ∈ ptF nm pl i p → s.cl ∈ p ∧ s.col ∈ pl
  | [], _, h => nomatch h
  | c :: p, i, h => by
    rcases List.mem_append.mp (show s ∈ pl.map _ ++ ptF nm pl (i + 1) p from h) with h | h
    · obtain ⟨k, hk, rfl⟩ := List.mem_map.mp h
      exact ⟨List.mem_cons_self, hk⟩
    · obtain ⟨a, b⟩ := ptF_mem h
      exact ⟨List.mem_cons_of_mem _ a, b⟩
def plS (many : Nat) : Nat → List Nat
  | 0 => [0]
  | 1 => List.range many
  | 2 => List.range (many - 1)
  | _ => [many - 1]
def nmS : Nat → Str
  | 0 => "first"
  | 1 => "each"
  | 2 => "nexts"
  | _ => "last"
def Wr.part (w : Wr) : Nat → List (List Int)
  | 0 => w.a
  | 1 => w.b
  | 2 => w.c
  | _ => w.d
def flatTo (w : Wr) (many : Nat) : Nat → List Stp
  | 0 => []
  | k + 1 => flatTo w many k ++ ptF (nmS k) (plS many k) 0 (w.part k)
theorem part_dIx (w : Wr) {k : Nat} (h : k < 4) : dIx w.D (.int (2 + (k : Int))) = some (.val (.tup ((w.part k).map tI))) := by
  have : k = 0 ∨ k = 1 ∨ k = 2 ∨ k = 3 := by omega
  rcases this with rfl | rfl | rfl | rfl <;> rfl
theorem part_few {w : Wr} {m : Int} (hw : w.Ok m) (k : Nat) : (w.part k).length ≤ 16 := by
  match k with
  | 0 => exact hw.a.few
  | 1 => exact hw.b.few
  | 2 => exact hw.c.few
  | k + 3 => exact hw.d.few
theorem pl_len {many k : Nat} (h : 1 ≤ many) : (plS many k).length ≤ many := by
  match k with
  | 0 => exact h
  | 1 => show (List.range many).length ≤ _; rw [List.length_range]; exact Nat.le_refl _
  | 2 => show (List.range (many - 1)).length ≤ _; rw [List.length_range]; omega
  | k + 3 => exact h
theorem flatTo_len {w : Wr} {m : Int} (hw : w.Ok m) {many : Nat} (h : 1 ≤ many) : ∀ k, (flatTo w many k).length ≤ k * (16 * many)
  | 0 => Nat.zero_le _
  | k + 1 => by
    show (flatTo w many k ++ _).length ≤ _
    have h2 : (w.part k).length * (plS many k).length ≤ 16 * many := Nat.mul_le_mul (part_few hw k) (pl_len h)
    have := flatTo_len hw h k
    rw [List.length_append, ptF_len, Nat.succ_mul]
    omega
theorem range_D (n : Nat) : rangeD 0 n = (List.range n).map fun k => Ev.D.int (k : Nat) := by
  unfold rangeD
  congr 1
  funext k
  rw [Int.zero_add]
def placesE : Ex := (eBin dIx (xO (eLst (aCons (xO (eLst (aCons (xO (eC (.int 0))) aNil))) (aCons (xO (eLstRg1 (eVar 1))) (aCons (xO (eLstRg1 (eBin iSub (nO 1) (xO (eC (.int 1)))))) (aCons (xO (eLst (aCons (xO (eBin iSub (nO 1) (xO (eC (.int 1))))) aNil))) aNil)))))) (nO 3))
theorem places_ok {S : Ex} (hS : S = placesE) {env : Nv} {h : Hs} {Q : RV → Hs → Prop} {many part : Nat} (e1 : env[1]? = some (some (.val (.int many)))) (e3 : env[3]? = some (some (.val (.int (part : Nat))))) (hm : 1 ≤ many) (hm2 : many ≤ 1000) (hp : part < 4)
    (q : Q (.val (.lst ((plS many part).map fun k => Ev.D.int (k : Nat)))) h) :
    WE S env h Q := by
  subst hS
  unfold placesE
  rw [we_bin, wo_x, we_lst, wa_cons, wo_x, we_lst, wa_cons, wo_x, we_c, wa_nil]
  refine ⟨_, rfl, by decide, ?_⟩
  rw [wa_cons, wo_x]
  refine we_lstRg1 ?_
  rw [we_var]
  refine ⟨_, e1, _, rfl, by unfold rgOk small62; simp; omega, ?_⟩
  rw [wa_cons, wo_x]
  refine we_lstRg1 ?_
  rw [we_bin, wo_n e1, wo_x, we_c]
  refine ⟨_, force_val e1, _, rfl, .val (.int ((many : Int) - 1)), rfl, _, rfl, by unfold rgOk small62; simp; omega, ?_⟩
  rw [wa_cons, wo_x, we_lst, wa_cons, wo_x, we_bin, wo_n e1, wo_x, we_c]
  refine ⟨_, force_val e1, _, rfl, .val (.int ((many : Int) - 1)), rfl, ?_⟩
  rw [wa_nil]
  refine ⟨_, rfl, by rw [sizeLine_eq]; show 1 ≤ _; decide, ?_⟩
  rw [wa_nil]
  refine ⟨_, rfl, by rw [sizeLine_eq]; show 4 ≤ _; decide, ?_⟩
  rw [wo_n e3]
  simp only [vl_fresh, vl_val]
  have c1 : ((many : Int) - 1) = ((many - 1 : Nat) : Int) := by omega
  rw [c1, range_D, range_D, Int.toNat_natCast, Int.toNat_natCast]
  refine ⟨_, rfl, _, force_val e3, .val (.lst ((plS many part).map fun k => Ev.D.int (k : Nat))), ?_, q⟩
  have : part = 0 ∨ part = 1 ∨ part = 2 ∨ part = 3 := by omega
  rcases this with rfl | rfl | rfl | rfl <;> rfl
def stepF (nm : Str) (i : Nat) (c : List Int) : Ev.D → Ev.D := fun d => .tup [.str nm, .int (i : Nat), d, tI c]
def innerS : Sx := (sFor (iEnum (aCons (xO (eBin dIx (nO 0) (xO (eBin dAdd (xO (eC (.int 2))) (nO 3))))) aNil)) (gTp 2 (gCons' (gNm 6) (gCons' (gNm 7) gNil')))
    (sSet 2 (eBin dAdd (nO 2) (xO (eComp [8] (iVal (eVar 5)) (gNm 8) tYesE (eTup (aCons (xO (eVar 4)) (aCons (xO (eVar 6)) (aCons (xO (eVar 8)) (aCons (xO (eVar 7)) aNil))))))))))
theorem inner_ok {S : Sx} (hS : S = innerS) {E : Nv} {h : Hs} {w : Wr} {m : Int} (hw : w.Ok m) {many part : Nat} {nm : Str} {acc : List Stp} {x6 x7 x8 : Option SV} {N : Nv → Hs → Prop} {R : RV → Hs → Prop} (hE : [some (.val w.D), some (.val (.int many)), some (.val (.lst (acc.map Stp.D))), some (.val (.int (part : Nat))), some (.val (.str nm)), some (.val (.lst ((plS many part).map fun k => Ev.D.int (k : Nat)))), x6, x7, x8] = E) (hm : 1 ≤ many) (hm2 : many ≤ 1000) (hp : part < 4) (ha : acc.length ≤ 64000)
    (q : ∀ x6 x7 x8, N [some (.val w.D), some (.val (.int many)), some (.val (.lst ((acc ++ ptF nm (plS many part) 0 (w.part part)).map Stp.D))), some (.val (.int (part : Nat))), some (.val (.str nm)), some (.val (.lst ((plS many part).map fun k => Ev.D.int (k : Nat)))), x6, x7, x8] h) :
    WS S E h N R := by
  subst hS
  unfold innerS
  have g0 : E[0]? = some (some (.val w.D)) := by rw [← hE]; rfl
  have g3 : E[3]? = some (some (.val (.int (part : Nat)))) := by rw [← hE]; rfl
  have e0 : acc ++ ptF nm (plS many part) 0 ((w.part part).take 0) = acc := by simp [ptF]
  refine ws_for ?_
  rw [wi_enum, wa_cons, wo_x, we_bin, wo_n g0, wo_x, we_bin, wo_x, we_c, wo_n g3]
  refine ⟨_, rfl, _, force_val g3, _, dAdd_ii _ _, _, force_val g0, _, rfl, _, part_dIx w hp, ?_⟩
  rw [wa_nil]
  refine ⟨_, rfl, enumD ((w.part part).map tI), rfl, fun i e h2 => h2 = h ∧ ∃ (x6 x7 x8 : Option SV), e = [some (.val w.D), some (.val (.int many)), some (.val (.lst ((acc ++ ptF nm (plS many part) 0 ((w.part part).take i)).map Stp.D))), some (.val (.int (part : Nat))), some (.val (.str nm)), some (.val (.lst ((plS many part).map fun k => Ev.D.int (k : Nat)))), x6, x7, x8], ⟨rfl, x6, x7, x8, by rw [e0]; exact hE.symm⟩, fun i d e h2 hd I => ?_, fun e h2 I => ?_⟩
  · obtain ⟨rfl, x6, x7, x8, rfl⟩ := I
    unfold enumD at hd
    rw [List.getElem?_mapIdx, List.getElem?_map] at hd
    cases hx : (w.part part)[i]? with
    | none => rw [hx] at hd; cases hd
    | some c =>
      rw [hx] at hd; cases hd
      obtain ⟨hi, hxi⟩ := List.getElem?_eq_some_iff.mp hx
      have hfew := part_few hw part
      refine ⟨[some (.val w.D), some (.val (.int many)), some (.val (.lst ((acc ++ ptF nm (plS many part) 0 ((w.part part).take i)).map Stp.D))), some (.val (.int (part : Nat))), some (.val (.str nm)), some (.val (.lst ((plS many part).map fun k => Ev.D.int (k : Nat)))), some (.val (.int (i : Nat))), some (.val (tI c)), x8], rfl, ?_⟩
      generalize hE2 : ([some (.val w.D), some (.val (.int many)), some (.val (.lst ((acc ++ ptF nm (plS many part) 0 ((w.part part).take i)).map Stp.D))), some (.val (.int (part : Nat))), some (.val (.str nm)), some (.val (.lst ((plS many part).map fun k => Ev.D.int (k : Nat)))), some (.val (.int (i : Nat))), some (.val (tI c)), x8] : Nv) = E2
      have k2 : E2[2]? = some (some (.val (.lst ((acc ++ ptF nm (plS many part) 0 ((w.part part).take i)).map Stp.D)))) := by rw [← hE2]; rfl
      have k5 : E2[5]? = some (some (.val (.lst ((plS many part).map fun k => Ev.D.int (k : Nat))))) := by rw [← hE2]; rfl
      have hpl := pl_len (many := many) (k := part) hm
      rw [ws_set, we_bin, wo_n k2, wo_x]
      refine we_comp (fun _ => true) (stepF nm i c) ?_
      rw [wi_val, we_var]
      refine ⟨_, k5, _, rfl, by rw [List.length_map, sizeLine_eq]; omega, fun d hd => ?_, ?_⟩
      · rw [← hE2]
        refine ⟨_, rfl, wt_yes.mpr ⟨rfl, rfl⟩, fun _ => ?_⟩
        show WE _ [some (.val w.D), some (.val (.int many)), some (.val (.lst ((acc ++ ptF nm (plS many part) 0 ((w.part part).take i)).map Stp.D))), some (.val (.int (part : Nat))), some (.val (.str nm)), some (.val (.lst ((plS many part).map fun k => Ev.D.int (k : Nat)))), some (.val (.int (i : Nat))), some (.val (tI c)), some (.val d)] h2 _
        rw [we_tup]
        simp only [wa_cons, wo_x, wa_nil, we_var, vl_val]
        exact ⟨_, rfl, _, rfl, _, rfl, _, rfl, _, rfl, by rw [sizeLine_eq]; show 4 ≤ _; decide, rfl, trivial⟩
      · rw [filt, List.map_map]
        have e9 : (plS many part).map (stepF nm i c ∘ fun k => Ev.D.int (k : Nat)) = ((plS many part).map fun k => (⟨nm, i, k, c⟩ : Stp)).map Stp.D := by
          rw [List.map_map]; rfl
        rw [e9]
        have hln : (ptF nm (plS many part) 0 ((w.part part).take i)).length ≤ 16 * 1000 := by
          rw [ptF_len, List.length_take]
          exact Nat.mul_le_mul (by omega) (by omega)
        refine ⟨_, force_val k2, _, rfl, _, lAdd_l _ _ (by rw [List.length_map, List.length_map, List.length_map, List.length_append, sizeLine_eq]; omega), rfl, some (.val (.int (i : Nat))), some (.val (tI c)), x8, ?_⟩
        rw [← hE2, ← List.map_append]
        have e8 : ptF nm (plS many part) 0 ((w.part part).take (i + 1)) = ptF nm (plS many part) 0 ((w.part part).take i) ++ (plS many part).map fun k => (⟨nm, i, k, c⟩ : Stp) := by
          rw [List.take_add_one, hx]
          show ptF _ _ _ (_ ++ [c]) = _
          rw [ptF_app, List.length_take, Nat.zero_add, Nat.min_eq_left (by omega)]
        rw [e8, ← List.append_assoc]
        rfl
  · obtain ⟨rfl, x6, x7, x8, rfl⟩ := I
    have : (enumD ((w.part part).map tI)).length = (w.part part).length := by unfold enumD; simp
    rw [this, List.take_length]
    exact q x6 x7 x8
theorem lflat_ok {m0 : Fx} (hm0 : m0 = m__law_flat) {h : Hs} {Q : RV → Hs → Prop} {w : Wr} {m : Int} (hw : w.Ok m) {many : Nat} (hm : 1 ≤ many) (hm2 : many ≤ 1000) (q : Q (.val (.lst ((flatTo w many 4).map Stp.D))) h) : WF m0 [.val w.D, .val (.int many)] h Q := by
  subst hm0
  unfold m__law_flat
  rw [wf_fn]
  show WS _ [some (.val w.D), some (.val (.int many)), none, none, none, none, none, none, none] h _ _
  rw [ws_seq, ws_set, we_lst, wa_nil]
  refine ⟨_, rfl, by decide, ?_⟩
  simp only [vl_fresh, List.set_cons_succ, List.set_cons_zero]
  rw [ws_seq]
  generalize hE : ([some (.val w.D), some (.val (.int many)), some (.val (.lst [])), none, none, none, none, none, none] : Nv) = E
  refine ws_for ?_
  rw [wi_enum, wa_cons, wo_x, we_lst]
  simp only [wa_cons, wo_x, we_c, wa_nil, vl_val, vl_fresh]
  refine ⟨_, rfl, by decide, _, rfl, enumD [.str "first", .str "each", .str "nexts", .str "last"], rfl, fun i e h2 => h2 = h ∧ ∃ (x3 x4 x5 x6 x7 x8 : Option SV), e = [some (.val w.D), some (.val (.int many)), some (.val (.lst ((flatTo w many i).map Stp.D))), x3, x4, x5, x6, x7, x8], ⟨rfl, none, none, none, none, none, none, hE.symm⟩, fun i d e h2 hd I => ?_, fun e h2 I => ?_⟩
  · obtain ⟨rfl, x3, x4, x5, x6, x7, x8, rfl⟩ := I
    have hi : i < 4 := (List.getElem?_eq_some_iff.mp hd).1
    have hd' : d = .tup [.int (i : Nat), .str (nmS i)] := by
      have : i = 0 ∨ i = 1 ∨ i = 2 ∨ i = 3 := by omega
      rcases this with rfl | rfl | rfl | rfl <;> exact (Option.some.inj hd).symm
    subst hd'
    refine ⟨[some (.val w.D), some (.val (.int many)), some (.val (.lst ((flatTo w many i).map Stp.D))), some (.val (.int (i : Nat))), some (.val (.str (nmS i))), x5, x6, x7, x8], rfl, ?_⟩
    generalize hE1 : ([some (.val w.D), some (.val (.int many)), some (.val (.lst ((flatTo w many i).map Stp.D))), some (.val (.int (i : Nat))), some (.val (.str (nmS i))), x5, x6, x7, x8] : Nv) = E1
    have k1 : E1[1]? = some (some (.val (.int many))) := by rw [← hE1]; rfl
    have k3 : E1[3]? = some (some (.val (.int (i : Nat)))) := by rw [← hE1]; rfl
    rw [ws_seq, ws_set]
    show WE placesE E1 h2 _
    generalize hP : placesE = PE
    refine places_ok hP.symm k1 k3 hm hm2 hi ?_
    rw [← hE1]
    simp only [vl_val, List.set_cons_succ, List.set_cons_zero]
    have hl := flatTo_len hw hm i
    have hl2 : i * (16 * many) ≤ 4 * (16 * 1000) := Nat.mul_le_mul (by omega) (by omega)
    generalize hE2 : ([some (.val w.D), some (.val (.int many)), some (.val (.lst ((flatTo w many i).map Stp.D))), some (.val (.int (i : Nat))), some (.val (.str (nmS i))), some (.val (.lst ((plS many i).map fun k => Ev.D.int (k : Nat)))), x6, x7, x8] : Nv) = E2
    show WS innerS E2 h2 _ _
    generalize hS : innerS = S
    have ho : (flatTo w many i).length ≤ 64000 := by omega
    refine @inner_ok S hS.symm E2 h2 w m hw many i (nmS i) (flatTo w many i) x6 x7 x8 _ _ hE2 hm hm2 hi ho ?_
    intro x6 x7 x8
    exact ⟨rfl, _, _, _, _, _, _, rfl⟩
  · obtain ⟨rfl, x3, x4, x5, x6, x7, x8, rfl⟩ := I
    rw [ws_ret, we_var]
    refine ⟨_, rfl, ?_⟩
    rw [List.take_length]
    exact q
theorem lentries_ok {h : Hs} {Q : RV → Hs → Prop} {r : List Col} {W k : Nat} (h2 : r.length ≤ 1000) (hc : ∀ c ∈ r, c.length = W) (hW : W ≤ 4) (hk : k < r.length) (q : Q (.fresh ((entS r k).map eD)) h) : WF m__law_entries [.val (rD r), .val (.int (k : Nat))] h Q := by
  unfold m__law_entries
  rw [wf_fn]
  show WS _ [some (.val (rD r)), some (.val (.int (k : Nat)))] h _ _
  have hix : ∀ j : Nat, j < r.length → dIx (rD r) (.int (j : Nat)) = some (.val (cD (r[j]?.getD []))) := fun j hj => by
    show (L2.atI (r.map cD) (j : Nat)).map RV.val = _
    rw [atI_of (d := cD (r[j]?.getD [])) (by omega) (by rw [Int.toNat_natCast, List.getElem?_map, List.getElem?_eq_getElem hj]; rfl)]
    rfl
  have hlen : ∀ j : Nat, j < r.length → (r[j]?.getD []).length = W := fun j hj => by rw [List.getElem?_eq_getElem hj]; exact hc _ (List.getElem_mem _)
  rw [ws_ret, we_bin, wo_x, we_B, wa_cons, wo_x, we_bin, wo_n (s := .val (rD r)) rfl, wo_n (s := .val (.int (k : Nat))) rfl]
  refine ⟨_, force_val rfl, _, force_val rfl, _, hix k hk, ?_⟩
  rw [wa_nil]
  refine ⟨_, rfl, .fresh ((r[k]?.getD []).map eD), rfl, ?_⟩
  rw [wo_x, we_if, wt_of, we_bin, wo_x, we_bin, wo_n (s := .val (.int (k : Nat))) rfl, wo_x, we_c]
  refine ⟨_, force_val rfl, _, rfl, _, dAdd_ii _ _, ?_⟩
  rw [wo_x, we_B, wa_cons, wo_n (s := .val (rD r)) rfl, wa_nil]
  have lz : (r.map cD).length = r.length := List.length_map ..
  refine ⟨_, forces_cons (force_val rfl) rfl, .val (.int (r.map cD).length), rfl, _, rfl, _, rfl, .val (.bl (decide (((k : Nat) : Int) + 1 < (r.map cD).length))), rfl, _, rfl, ?_⟩
  rw [lz]
  by_cases hz : k + 1 < r.length
  · rw [if_pos (decide_eq_true (by omega)), we_B, wa_cons, wo_x, we_bin, wo_n (s := .val (rD r)) rfl, wo_x, we_bin, wo_n (s := .val (.int (k : Nat))) rfl, wo_x, we_c]
    refine ⟨_, force_val rfl, _, rfl, _, dAdd_ii _ _, _, force_val rfl, _, rfl, _, hix (k + 1) hz, ?_⟩
    rw [wa_nil]
    refine ⟨_, rfl, .fresh ((r[k + 1]?.getD []).map eD), rfl, _, rfl, _, rfl, _, lAdd_l _ _ (by rw [List.length_map, List.length_map, hlen k hk, hlen _ hz, sizeLine_eq]; omega), ?_⟩
    rw [List.take_length, ← List.map_append]
    exact q
  · rw [if_neg (by simp; omega), we_lst, wa_nil]
    refine ⟨_, rfl, by decide, _, rfl, _, rfl, _, lAdd_l _ _ (by rw [List.length_map, hlen k hk, sizeLine_eq]; show W + 0 ≤ _; omega), ?_⟩
    have e : entS r k = r[k]?.getD [] := by
      unfold entS
      rw [List.getElem?_eq_none (l := r) (i := k + 1) (by omega)]
      exact List.append_nil _
    rw [List.take_length, List.append_nil, ← e]
    exact q
structure StpOk (W many : Nat) (s : Stp) : Prop where
  col : s.col < many
  few : s.cl.length ≤ 4
  ran : ∀ x ∈ s.cl, 1 ≤ x.natAbs ∧ x.natAbs ≤ (if s.col + 1 < many then 2 * W else W)
theorem flat_steps {w : Wr} {m : Int} (hw : w.Ok m) {W : Nat} (hW : w.wide = W) {many : Nat} (h1 : 1 ≤ many) : ∀ s ∈ flatTo w many 4, StpOk W many s := fun s hs => by
  have go : ∀ {p : List (List Int)} {sz : Int} {mm : Nat}, PartOk sz mm p → s.cl ∈ p → s.col < many → (sz ≤ (W : Int) ∨ (sz ≤ 2 * (W : Int) ∧ s.col + 1 < many)) → StpOk W many s := fun hp hm hcol hz => by
    have hk := hp.ok _ hm
    refine ⟨hcol, hk.few, fun x hx => ?_⟩
    have := hk.ran x hx
    refine ⟨this.1, ?_⟩
    split <;> omega
  have hs' : s ∈ ((([] ++ ptF (nmS 0) [0] 0 w.a) ++ ptF (nmS 1) (List.range many) 0 w.b) ++ ptF (nmS 2) (List.range (many - 1)) 0 w.c) ++ ptF (nmS 3) [many - 1] 0 w.d := hs
  rw [List.nil_append, List.mem_append, List.mem_append, List.mem_append] at hs'
  rcases hs' with ((h | h) | h) | h
  · obtain ⟨a, b⟩ := ptF_mem h
    exact go hw.a a (by rw [List.mem_singleton.mp b]; omega) (.inl (by omega))
  · obtain ⟨a, b⟩ := ptF_mem h
    exact go hw.b a (List.mem_range.mp b) (.inl (by omega))
  · obtain ⟨a, b⟩ := ptF_mem h
    have := List.mem_range.mp b
    exact go hw.c a (by omega) (.inr ⟨by omega, by omega⟩)
  · obtain ⟨a, b⟩ := ptF_mem h
    exact go hw.d a (by rw [List.mem_singleton.mp b]; omega) (.inl (by omega))
theorem stp_fits {W : Nat} {s : Stp} {r : List Col} (hs : StpOk W r.length s) (hc : ∀ c ∈ r, c.length = W) : Fits (entS r s.col).length s.cl := by
  refine ⟨hs.few, fun x hx => ⟨(hs.ran x hx).1, ?_⟩⟩
  have := (hs.ran x hx).2
  by_cases hz : s.col + 1 < r.length
  · rw [if_pos hz] at this
    rw [ent_len hc hz]
    exact this
  · rw [if_neg hz] at this
    unfold entS
    have h2 := hs.col
    rw [List.length_append, List.getElem?_eq_getElem h2]
    have := hc _ (List.getElem_mem h2)
    show x.natAbs ≤ r[s.col].length + _
    omega
theorem entry5 (d : Int) (h0 : 0 ≤ d) (h1 : d < 5) : ∃ e : Option Bool, L2.atI ([.non, .non, .non, .bl false, .bl true] : List Ev.D) d = some (eD e) := by
  have : d = 0 ∨ d = 1 ∨ d = 2 ∨ d = 3 ∨ d = 4 := by omega
  rcases this with rfl | rfl | rfl | rfl | rfl
  · exact ⟨none, rfl⟩
  · exact ⟨none, rfl⟩
  · exact ⟨none, rfl⟩
  · exact ⟨some false, rfl⟩
  · exact ⟨some true, rfl⟩
theorem row_ok {m0 : Fx} (hm0 : m0 = m__law_row) {h : Hs} {n B ins most : Nat} {Q : RV → Hs → Prop} (hp : PenAt (B + 1 + most * ins) h n) (hi : ins ≤ 4) (hm : 1 ≤ most) (hm2 : most ≤ 100) (q : ∀ (r : List Col) h', 1 ≤ r.length → r.length ≤ most → (∀ c ∈ r, c.length = ins) → PenAt B h' n → Only1 n h h' → Q (.fresh (r.map cD)) h') : WF m0 [.loc n, .val (.int ins), .val (.int most)] h Q := by
  have hn := hp.lt
  subst hm0
  unfold m__law_row
  rw [wf_fn]
  show WS _ [some (.loc n), some (.val (.int ins)), some (.val (.int most)), none, none, none] h _ _
  rw [ws_seq, ws_new, we_lst, wa_nil]
  refine ⟨_, rfl, by decide, _, rfl, ?_⟩
  show WS (sSeq _ _) [some (.loc n), some (.val (.int ins)), some (.val (.int most)), some (.loc h.length), none, none] (h ++ [.lst []]) _ _
  have hp0 : PenAt (B + 1 + most * ins) (h ++ [.lst []]) n := hp.eqAt (List.getElem?_append_left hn)
  rw [ws_seq]
  generalize hE : ([some (.loc n), some (.val (.int ins)), some (.val (.int most)), some (.loc h.length), none, none] : Nv) = E
  have g0 : E[0]? = some (some (.loc n)) := by rw [← hE]; rfl
  have g2 : E[2]? = some (some (.val (.int most))) := by rw [← hE]; rfl
  refine ws_for ?_
  rw [wi_range1, wa_cons, wo_x, we_bin, wo_x, we_c, wo_x, we_call, wa_cons, wo_n g0, wa_cons, wo_n g2, wa_nil]
  refine ⟨[.loc n, .val (.int most)], by rw [svs_sl g0, svs_sl g2]; rfl, rfl, ?_⟩
  refine draw_ok (B := B + most * ins) (PenAt.mono hp0 (by omega)) (by omega) ?_ fun d h1 d0 d1 hp1 o1 => ?_
  · have : ((most : Int)).natAbs < 2 ^ 7 := by omega
    have := log2_le (k := 6) this
    omega
  refine ⟨_, rfl, _, rfl, _, dAdd_ii _ _, ?_⟩
  rw [wa_nil]
  refine ⟨_, rfl, rangeD 0 (1 + d).toNat, range1_of (by omega) (by omega), ?_⟩
  have hk : (rangeD 0 (1 + d).toNat).length = (1 + d).toNat := by unfold rangeD; simp
  have hb1 : h1.length = h.length + 1 := by rw [o1.1, List.length_append]; rfl
  have hb2 : ∀ j, j ≠ n → j < h.length → h1[j]? = h[j]? := fun j hj hl => by rw [o1.2 j hj, List.getElem?_append_left hl]
  have hb3 : h1[h.length]? = some (.lst []) := by rw [o1.2 _ (by omega), List.getElem?_append_right (Nat.le_refl _), Nat.sub_self]; rfl
  refine ⟨fun i e h2 => i ≤ (1 + d).toNat ∧ ∃ (r : List Col) (x4 x5 : Option SV), e = [some (.loc n), some (.val (.int ins)), some (.val (.int most)), some (.loc h.length), x4, x5] ∧ r.length = i ∧ (∀ c ∈ r, c.length = ins) ∧ PenAt (B + (most - i) * ins) h2 n ∧ h2.length = h.length + 1 ∧ (∀ j, j ≠ n → j < h.length → h2[j]? = h[j]?) ∧ h2[h.length]? = some (.lst (r.map cD)),
    ⟨Nat.zero_le _, [], none, none, hE.symm, rfl, fun c hc => by simp at hc, hp1, hb1, hb2, hb3⟩, fun i d2 e h2 hd I => ?_, fun e h2 I => ?_⟩
  · obtain ⟨hil, r, x4, x5, rfl, hr, hc, hp2, l2, b2, f2⟩ := I
    have hlt : i < (1 + d).toNat := by
      have := (List.getElem?_eq_some_iff.mp hd).1
      rwa [hk] at this
    have him : i < most := by omega
    refine ⟨[some (.loc n), some (.val (.int ins)), some (.val (.int most)), some (.loc h.length), some (.val d2), x5], rfl, ?_⟩
    rw [ws_expr, we_meth (n := h.length) rfl f2, wa_cons, wo_x, we_B, wa_cons, wo_x]
    generalize hE2 : ([some (.loc n), some (.val (.int ins)), some (.val (.int most)), some (.loc h.length), some (.val d2), x5] : Nv) = E2
    have k1 : E2[1]? = some (some (.val (.int ins))) := by rw [← hE2]; rfl
    refine we_compI ?_
    rw [wi_range1, wa_cons, wo_n k1, wa_nil]
    refine ⟨_, forces_cons (force_val k1) rfl, rangeD 0 ((ins : Int)).toNat, range1_of (by omega) (by omega), ?_⟩
    rw [← hE2]
    have hk2 : (rangeD 0 ((ins : Int)).toNat).length = ins := by unfold rangeD; simp
    refine ⟨by rw [hk2, sizeLine_eq]; omega, fun j acc h3 => j ≤ ins ∧ ∃ c : Col, acc = c.map eD ∧ c.length = j ∧ PenAt (B + (most - (i + 1)) * ins + (ins - j)) h3 n ∧ Only1 n h2 h3, ⟨Nat.zero_le _, [], rfl, rfl, PenAt.mono hp2 ?_, Only1.refl _ _⟩, fun j d3 acc h3 hd3 I3 => ?_, fun acc h3 I3 => ?_⟩
    · have : most - i = (most - (i + 1)) + 1 := by omega
      rw [this, Nat.add_mul]; omega
    · obtain ⟨hjl, c, rfl, hcl, hp3, o3⟩ := I3
      have hjlt : j < ins := by
        have := (List.getElem?_eq_some_iff.mp hd3).1
        rwa [hk2] at this
      refine ⟨_, rfl, ?_⟩
      rw [wt_yes, if_pos rfl]
      show WE _ [some (.loc n), some (.val (.int ins)), some (.val (.int most)), some (.loc h.length), some (.val d2), some (.val d3)] h3 _
      rw [we_bin, wo_x, we_lst, wa_cons, wo_x, we_c, wa_cons, wo_x, we_c, wa_cons, wo_x, we_c, wa_cons, wo_x, we_c, wa_cons, wo_x, we_c, wa_nil]
      refine ⟨_, rfl, by rw [sizeLine_eq]; show 5 ≤ _; decide, ?_⟩
      rw [wo_x, we_call, wa_cons, wo_n (s := .loc n) rfl, wa_cons, wo_x, we_c, wa_nil]
      refine ⟨[.loc n, .val (.int 5)], by rw [svs_sl (s := .loc n) rfl, vl_val, svs_vl]; rfl, rfl, ?_⟩
      refine draw_ok (B := B + (most - (i + 1)) * ins + (ins - (j + 1))) (PenAt.mono hp3 (by omega)) (by decide) (by decide) fun d4 h4 z0 z1 hp4 o4 => ?_
      obtain ⟨en, hen⟩ := entry5 d4 z0 z1
      refine ⟨_, rfl, _, rfl, .val (eD en), ?_, ?_⟩
      · show (L2.atI ([.non, .non, .non, .bl false, .bl true] : List Ev.D) d4).map RV.val = _
        rw [hen]; rfl
      · refine ⟨hjlt, c ++ [en], by rw [List.map_append]; rfl, by rw [List.length_append, hcl]; rfl, hp4, o3.trans o4⟩
    · obtain ⟨_, c, rfl, hcl, hp3, o3⟩ := I3
      rw [hk2] at hcl hp3
      rw [wa_nil]
      refine ⟨_, rfl, .val (cD c), rfl, ?_⟩
      rw [wa_nil]
      have hne : h.length ≠ n := by omega
      have f3 : h3[h.length]? = some (.lst (r.map cD)) := by rw [o3.2 _ hne]; exact f2
      refine ⟨_, rfl, r.map cD, f3, (r.map cD ++ [cD c], .non), ?_, ?_⟩
      · unfold mApp
        refine if_pos ?_
        rw [List.length_map, sizeLine_eq]; omega
      · have hl3 : h.length < h3.length := by rw [o3.1, l2]; omega
        refine ⟨hlt, r ++ [c], some (.val d2), x5, rfl, by rw [List.length_append, hr]; rfl, fun c' hc' => ?_, ?_, ?_, fun j hj hjl => ?_, ?_⟩
        · rcases List.mem_append.mp hc' with z | z
          · exact hc c' z
          · rw [List.mem_singleton.mp z]; exact hcl
        · refine PenAt.eqAt (PenAt.mono hp3 (by omega)) (List.getElem?_set_ne hne)
        · rw [List.length_set, o3.1, l2]
        · rw [List.getElem?_set_ne (by omega), o3.2 _ hj, b2 j hj hjl]
        · rw [List.getElem?_set_self hl3, List.map_append]; rfl
  · obtain ⟨hil, r, x4, x5, rfl, hr, hc, hp2, l2, b2, f2⟩ := I
    rw [hk] at hr hp2
    rw [ws_ret, we_takeQ (n := h.length) rfl f2]
    have e1 : (h2.set h.length .dead).take h.length = h2.take h.length := by
      apply List.ext_getElem?
      intro j
      by_cases hj : j < h.length
      · rw [List.getElem?_take_of_lt hj, List.getElem?_take_of_lt hj, List.getElem?_set_ne (by omega)]
      · rw [List.getElem?_take_eq_none (by omega), List.getElem?_take_eq_none (by omega)]
    rw [e1]
    refine q r _ (by omega) (by omega) hc (PenAt.eqAt (PenAt.mono hp2 (by omega)) (List.getElem?_take_of_lt hn)) ⟨by rw [List.length_take]; omega, fun j hj => ?_⟩
    by_cases hjl : j < h.length
    · rw [List.getElem?_take_of_lt hjl, b2 j hj hjl]
    · rw [List.getElem?_take_eq_none (by omega), List.getElem?_eq_none (by omega)]
def putS (r : List Col) (k j : Nat) (v : Option Bool) : List Col := r.set k ((r[k]?.getD []).set j v)
theorem putS_len (r : List Col) (k j : Nat) (v : Option Bool) : (putS r k j v).length = r.length := List.length_set ..
theorem putS_wide {r : List Col} {W k j : Nat} {v : Option Bool} (hc : ∀ c ∈ r, c.length = W) (hk : k < r.length) : ∀ c ∈ putS r k j v, c.length = W := fun c h => by
  rcases List.mem_or_eq_of_mem_set h with z | z
  · exact hc c z
  · rw [z, List.length_set, List.getElem?_eq_getElem hk]
    exact hc _ (List.getElem_mem hk)
theorem setCut {α : Type} {l : List α} {j : Nat} (x : α) (h : j < l.length) : l.take j ++ [x] ++ l.drop (j + 1) = l.set j x := by
  rw [List.set_eq_take_append_cons_drop, if_pos h, List.append_assoc]
  rfl
theorem row_ix {r : List Col} {k : Nat} (hk : k < r.length) : dIx (rD r) (.int (k : Nat)) = some (.val (cD (r[k]?.getD []))) := by
  show (L2.atI (r.map cD) (k : Nat)).map RV.val = _
  rw [atI_of (d := cD (r[k]?.getD [])) (by omega) (by rw [Int.toNat_natCast, List.getElem?_map, List.getElem?_eq_getElem hk]; rfl)]
  rfl
theorem put_ok {h : Hs} {Q : RV → Hs → Prop} {r : List Col} {W k j : Nat} {v : Option Bool} (h2 : r.length ≤ 1000) (hc : ∀ c ∈ r, c.length = W) (hW : W ≤ 4) (hk : k < r.length) (hj : j < W) (q : Q (.fresh ((putS r k j v).map cD)) h) :
    WF m__law_put [.val (rD r), .val (.int (k : Nat)), .val (.int (1 + (j : Nat))), .val (eD v)] h Q := by
  have lc : (r[k]?.getD []).length = W := by rw [List.getElem?_eq_getElem hk]; exact hc _ (List.getElem_mem hk)
  unfold m__law_put
  rw [wf_fn]
  show WS _ [some (.val (rD r)), some (.val (.int (k : Nat))), some (.val (.int (1 + (j : Nat)))), some (.val (eD v)), none] h _ _
  have ix := row_ix hk
  generalize hcol : r[k]?.getD [] = col at lc ix
  have lm : (col.map eD).length = W := by rw [List.length_map]; exact lc
  rw [ws_seq, ws_set, we_bin, wo_x, we_bin, wo_x, we_sl, wo_x, we_bin, wo_n (s := .val (rD r)) rfl, wo_n (s := .val (.int (k : Nat))) rfl]
  refine ⟨_, force_val rfl, _, force_val rfl, _, ix, ?_⟩
  rw [wx_no, wx_at, we_bin, wo_n (s := .val (.int (1 + (j : Nat)))) rfl, wo_x, we_c]
  refine ⟨_, force_val rfl, _, rfl, .val (.int (1 + (j : Nat) - 1)), rfl, _, rfl, _, rfl, _, rfl, ?_⟩
  rw [wo_x, we_tup, wa_cons, wo_x, we_var]
  refine ⟨_, rfl, ?_⟩
  rw [wa_nil]
  refine ⟨_, rfl, by rw [sizeLine_eq]; show 1 ≤ _; decide, _, rfl, _, rfl, ?_⟩
  simp only [vl_val]
  rw [show (1 + ((j : Nat) : Int) - 1) = ((j : Nat) : Int) by omega, cutTo _ (by omega)]
  refine ⟨_, tAdd_tt _ _ (by rw [List.length_take, sizeLine_eq]; show _ + 1 ≤ _; omega), ?_⟩
  rw [wo_x, we_sl, wo_x, we_bin, wo_n (s := .val (rD r)) rfl, wo_n (s := .val (.int (k : Nat))) rfl]
  refine ⟨_, force_val rfl, _, force_val rfl, _, ix, ?_⟩
  rw [wx_at, we_var]
  refine ⟨_, rfl, _, rfl, ?_⟩
  rw [wx_no]
  refine ⟨_, rfl, _, rfl, _, rfl, _, rfl, ?_⟩
  simp only [vl_val]
  rw [show (1 + ((j : Nat) : Int)) = ((j + 1 : Nat) : Int) by omega, cutFromN]
  refine ⟨_, tAdd_tt _ _ (by rw [List.length_append, List.length_take, List.length_drop, sizeLine_eq]; show _ + 1 + _ ≤ _; omega), ?_⟩
  have e1 : (col.map eD).take j ++ [eD v] ++ (col.map eD).drop (j + 1) = (col.set j v).map eD := by
    rw [setCut (eD v) (by omega), List.map_set]
  rw [e1]
  show WS _ [some (.val (rD r)), some (.val (.int (k : Nat))), some (.val (.int ((j + 1 : Nat) : Int))), some (.val (eD v)), some (.val (cD (col.set j v)))] h _ _
  have lz : (r.map cD).length = r.length := List.length_map ..
  rw [ws_ret, we_bin, wo_x, we_bin, wo_x, we_sl, wo_n (s := .val (rD r)) rfl, wx_no, wx_at, we_var]
  refine ⟨_, rfl, _, rfl, _, force_val rfl, _, rfl, ?_⟩
  rw [wo_x, we_lst, wa_cons, wo_x, we_var]
  refine ⟨_, rfl, ?_⟩
  rw [wa_nil]
  refine ⟨_, rfl, by rw [sizeLine_eq]; show 1 ≤ _; decide, _, rfl, _, rfl, ?_⟩
  simp only [vl_val, vl_fresh]
  rw [cutTo _ (by omega)]
  refine ⟨_, lAdd_l _ _ (by rw [List.length_take, sizeLine_eq]; show _ + 1 ≤ _; omega), ?_⟩
  rw [wo_x, we_sl, wo_n (s := .val (rD r)) rfl, wx_at, we_bin, wo_n (s := .val (.int (k : Nat))) rfl, wo_x, we_c]
  refine ⟨_, force_val rfl, _, rfl, .val (.int ((k : Nat) + 1)), rfl, _, rfl, ?_⟩
  rw [wx_no]
  refine ⟨_, force_val rfl, _, rfl, _, rfl, _, rfl, ?_⟩
  simp only [vl_val, vl_fresh]
  rw [show (((k : Nat) : Int) + 1) = ((k + 1 : Nat) : Int) by omega, cutFromN]
  refine ⟨_, lAdd_l _ _ (by rw [List.length_append, List.length_take, List.length_drop, sizeLine_eq]; show _ + 1 + _ ≤ _; omega), ?_⟩
  rw [setCut (cD (col.set j v)) (by omega)]
  have e2 : (r.map cD).set k (cD (col.set j v)) = (putS r k j v).map cD := by
    unfold putS
    rw [List.map_set, hcol]
  rw [e2, List.take_length]
  exact q
theorem told_ok {h : Hs} {Q : RV → Hs → Prop} {w : Wr} {m : Int} (hw : w.Ok m) {W : Nat} (hW : w.wide = W) {r : List Col} (h2 : r.length ≤ 1000) (hc : ∀ c ∈ r, c.length = W) {s : Stp} (hs : StpOk W r.length s)
    (q0 : Q (.val .non) h) (q1 : Q (.val (.str "broken")) h) (q2 : ∀ (k j : Nat) (b : Bool), k < r.length → j < W → (r[k]?.getD [])[j]? = some none → Q (.val (.tup [.int (k : Nat), .int (1 + (j : Nat)), .bl b])) h) :
    WF m__law_told [.val w.D, .val (rD r), .val s.D] h Q := by
  have n4 : W ≤ 4 := by have := hw.w4; omega
  have n1 : 1 ≤ W := by have := hw.i1; have := hw.iw; omega
  unfold m__law_told
  rw [wf_fn]
  show WS _ [some (.val w.D), some (.val (rD r)), some (.val s.D), none, none, none, none, none] h _ _
  rw [ws_seq, ws_asg, we_sl, wo_n (s := .val s.D) rfl, wx_at, we_c]
  refine ⟨_, rfl, ?_⟩
  rw [wx_no]
  refine ⟨_, force_val rfl, .val (.tup [.int (s.col : Nat), tI s.cl]), rfl, _, rfl, ?_⟩
  simp only [List.set_cons_succ, List.set_cons_zero]
  rw [ws_seq, ws_set, we_call, wa_cons, wo_n (s := .val (rD r)) rfl, wa_cons, wo_n (s := .val (.int (s.col : Nat))) rfl, wa_nil]
  refine ⟨[.val (rD r), .val (.int (s.col : Nat))], by rw [svs_sl (s := .val (rD r)) rfl, svs_sl (s := .val (.int (s.col : Nat))) rfl]; rfl, rfl, lentries_ok h2 hc n4 hs.col ?_⟩
  have fits := stp_fits hs hc
  simp only [List.set_cons_succ, List.set_cons_zero, vl_fresh]
  rw [ws_seq, ws_set, we_call, wa_cons, wo_n (s := .val (tI s.cl)) rfl, wa_cons, wo_n (s := .val (.lst ((entS r s.col).map eD))) rfl, wa_nil]
  refine ⟨[.val (tI s.cl), .val (.lst ((entS r s.col).map eD))], by rw [svs_sl (s := .val (tI s.cl)) rfl, svs_sl (s := .val (.lst ((entS r s.col).map eD))) rfl]; rfl, rfl, lworths_ok (.inr rfl) fits ?_⟩
  simp only [List.set_cons_succ, List.set_cons_zero, vl_fresh]
  rw [ws_seq, ws_if, wt_or, wt_of, we_bin, wo_x, we_c, wo_n (s := .val (.lst ((woS s.cl (entS r s.col)).map eD))) rfl]
  refine ⟨_, rfl, _, force_val rfl, _, in_eD _ (some true), _, rfl, ?_⟩
  have tl : ∀ {b : RV}, Q b h → Q b (h.take h.length) := fun z => by rw [List.take_length]; exact z
  cases hq : (woS s.cl (entS r s.col)).contains (some true) with
  | true =>
    rw [if_pos rfl, if_pos rfl, ws_ret, we_c]
    exact tl q0
  | false =>
    rw [if_neg (by decide), wt_of, we_bin, wo_x, we_VM, we_var]
    refine ⟨_, rfl, rfl, ?_⟩
    rw [wa_cons, wo_x, we_c, wa_nil]
    refine ⟨_, rfl, _, count_eD _ none, ?_⟩
    rw [wo_x, we_c]
    refine ⟨_, rfl, _, rfl, .val (.bl (decide (1 < (((woS s.cl (entS r s.col)).count none : Nat) : Int)))), rfl, _, rfl, ?_⟩
    by_cases h1 : (1 : Int) < (((woS s.cl (entS r s.col)).count none : Nat) : Int)
    · rw [if_pos (decide_eq_true h1), ws_ret, we_c]
      exact tl q0
    · rw [if_neg (by simpa using h1), ws_nx, ws_seq, ws_if, wt_of, we_bin, wo_x, we_c, wo_n (s := .val (.lst ((woS s.cl (entS r s.col)).map eD))) rfl]
      refine ⟨_, rfl, _, force_val rfl, _, notIn_eD _ none, _, rfl, ?_⟩
      cases hn : (woS s.cl (entS r s.col)).contains none with
      | false =>
        rw [if_pos (show (!false) = true from rfl), ws_ret, we_c]
        exact tl q1
      | true =>
        rw [if_neg (by decide), ws_nx, ws_seq, ws_set, we_bin, wo_n (s := .val (tI s.cl)) rfl, wo_x, we_VM, we_var]
        refine ⟨_, rfl, rfl, ?_⟩
        rw [wa_cons, wo_x, we_c, wa_nil]
        obtain ⟨j, hj, ej, mi⟩ := index_eD (List.contains_iff_mem.mp hn)
        have hjc : j < s.cl.length := by unfold woS at hj; rwa [List.length_map] at hj
        generalize hx : s.cl[j] = x
        have hxm : x ∈ s.cl := hx ▸ List.getElem_mem hjc
        have wn : wo1 (entS r s.col) x = none := by
          unfold woS at ej
          rw [List.getElem?_map, List.getElem?_eq_getElem hjc, hx] at ej
          exact Option.some.inj ej
        have fx := fits.2 x hxm
        have en : (entS r s.col)[x.natAbs - 1]? = some none := by
          have hlt : x.natAbs - 1 < (entS r s.col).length := by omega
          unfold wo1 at wn
          rw [List.getElem?_eq_getElem hlt] at wn ⊢
          cases hz : (entS r s.col)[x.natAbs - 1] with
          | none => rfl
          | some b => rw [hz] at wn; cases wn
        refine ⟨_, rfl, _, mi, _, force_val rfl, _, rfl, .val (.int x), ?_, ?_⟩
        · show dIx (.tup (s.cl.map D.int)) (.int (j : Nat)) = _
          rw [dIx_t, atI_of (d := .int x) (by omega) (by rw [Int.toNat_natCast, List.getElem?_map, List.getElem?_eq_getElem hjc, hx]; rfl)]
          rfl
        simp only [List.set_cons_succ, List.set_cons_zero, vl_val]
        have n4' : ((W : Nat) : Int).natAbs.log2 < 9000 := by
          have : ((W : Nat) : Int).natAbs < 2 ^ 3 := by omega
          have := log2_le (k := 2) this
          omega
        have hdv : ∀ t : Int, iDiv (.int t) (.int (W : Nat)) = some (.val (.int (t / (W : Nat)))) := fun t => by rw [iDiv_ii, if_pos ⟨by omega, n4'⟩]
        have hmd : ∀ t : Int, iMod (.int t) (.int (W : Nat)) = some (.val (.int (t % (W : Nat)))) := fun t => by rw [iMod_ii, if_pos (by omega)]
        have hwd : dIx w.D (.int 1) = some (.val (.int (W : Nat))) := by rw [← hW]; rfl
        rw [ws_ret, we_tup, wa_cons, wo_x, we_bin, wo_n (s := .val (.int (s.col : Nat))) rfl, wo_x, we_bin, wo_x, we_bin, wo_x, we_B, wa_cons, wo_n (s := .val (.int x)) rfl, wa_nil]
        refine ⟨_, forces_cons (force_val rfl) rfl, _, abs_i x, ?_⟩
        rw [wo_x, we_c]
        refine ⟨_, rfl, _, rfl, .val (.int ((x.natAbs : Nat) - 1)), rfl, ?_⟩
        rw [wo_x, we_bin, wo_n (s := .val w.D) rfl, wo_x, we_c]
        refine ⟨_, force_val rfl, _, rfl, _, hwd, _, rfl, _, rfl, _, hdv _, _, force_val rfl, _, rfl, _, dAdd_ii _ _, ?_⟩
        rw [wa_cons, wo_x, we_bin, wo_x, we_c, wo_x, we_bin, wo_x, we_B, wa_cons, wo_x, we_bin, wo_x, we_B, wa_cons, wo_n (s := .val (.int x)) rfl, wa_nil]
        refine ⟨_, forces_cons (force_val rfl) rfl, _, abs_i x, ?_⟩
        rw [wo_x, we_c]
        refine ⟨_, rfl, _, rfl, .val (.int ((x.natAbs : Nat) - 1)), rfl, ?_⟩
        rw [wa_nil]
        refine ⟨_, rfl, .val (.int ((x.natAbs : Nat) - 1)), rfl, ?_⟩
        rw [wo_x, we_bin, wo_n (s := .val w.D) rfl, wo_x, we_c]
        refine ⟨_, force_val rfl, _, rfl, _, hwd, _, rfl, _, rfl, _, hmd _, _, rfl, _, rfl, _, dAdd_ii _ _, ?_⟩
        rw [wa_cons, wo_x, we_bin, wo_n (s := .val (.int x)) rfl, wo_x, we_c]
        refine ⟨_, force_val rfl, _, rfl, .val (.bl (decide (0 < x))), rfl, ?_⟩
        rw [wa_nil]
        refine ⟨_, rfl, by rw [sizeLine_eq]; show 3 ≤ _; decide, ?_⟩
        simp only [vl_val]
        by_cases hlt : x.natAbs - 1 < W
        · have e1 : ((x.natAbs : Nat) - 1 : Int) / (W : Nat) = 0 := Int.ediv_eq_zero_of_lt (by omega) (by omega)
          have e2 : ((x.natAbs : Nat) - 1 : Int) % (W : Nat) = ((x.natAbs - 1 : Nat) : Int) := by rw [Int.emod_eq_of_lt (by omega) (by omega)]; omega
          rw [e1, e2, Int.add_zero]
          refine tl (q2 s.col (x.natAbs - 1) _ hs.col hlt ?_)
          have hl0 : (r[s.col]?.getD []).length = W := by rw [List.getElem?_eq_getElem hs.col]; exact hc _ (List.getElem_mem _)
          unfold entS at en
          rw [List.getElem?_append_left (by omega)] at en
          exact en
        · have hr := (hs.ran x hxm).2
          have hcol : s.col + 1 < r.length := by
            by_cases z : s.col + 1 < r.length
            · exact z
            · rw [if_neg z] at hr; omega
          rw [if_pos hcol] at hr
          have hWi : ((W : Nat) : Int) ≠ 0 := by omega
          have e0 : ((x.natAbs : Nat) - 1 : Int) = ((x.natAbs - 1 - W : Nat) : Int) + (W : Nat) := by omega
          have e1 : ((x.natAbs : Nat) - 1 : Int) / (W : Nat) = 1 := by
            rw [e0, Int.add_ediv_of_dvd_right (Int.dvd_refl _), Int.ediv_self hWi, Int.ediv_eq_zero_of_lt (by omega) (by omega)]; rfl
          have e2 : ((x.natAbs : Nat) - 1 : Int) % (W : Nat) = ((x.natAbs - 1 - W : Nat) : Int) := by
            rw [e0, Int.add_emod_right, Int.emod_eq_of_lt (by omega) (by omega)]
          rw [e1, e2, show (((s.col : Nat) : Int) + 1) = ((s.col + 1 : Nat) : Int) by omega]
          refine tl (q2 (s.col + 1) (x.natAbs - 1 - W) _ hcol (by omega) ?_)
          have hl0 : (r[s.col]?.getD []).length = W := by rw [List.getElem?_eq_getElem hs.col]; exact hc _ (List.getElem_mem _)
          unfold entS at en
          rw [List.getElem?_append_right (by omega), hl0] at en
          exact en
def nonesR (r : List Col) : Nat := (r.map fun c => c.count none).sum
theorem count_set {l : Col} {j : Nat} {b : Bool} (h : l[j]? = some none) : (l.set j (some b)).count none + 1 = l.count none := by
  obtain ⟨hj, hx⟩ := List.getElem?_eq_some_iff.mp h
  rw [List.count_set hj, hx]
  have : 0 < l.count none := List.count_pos_iff.mpr (hx ▸ List.getElem_mem hj)
  simp
  omega
theorem sum_set : ∀ {l : List Nat} {k x : Nat}, l[k]? = some x → ∀ y, y + 1 = x → (l.set k y).sum + 1 = l.sum
  | [], _, _, h, _, _ => by simp at h
  | a :: l, 0, x, h, y, e => by
    have : a = x := by simpa using h
    simp only [List.set_cons_zero, List.sum_cons]
    omega
  | a :: l, k + 1, x, h, y, e => by
    have := sum_set (l := l) (k := k) (x := x) (by simpa using h) y e
    simp only [List.set_cons_succ, List.sum_cons]
    omega
theorem nones_put {r : List Col} {k j : Nat} {b : Bool} (hk : k < r.length) (h : (r[k]?.getD [])[j]? = some none) : nonesR (putS r k j (some b)) + 1 = nonesR r := by
  unfold nonesR putS
  rw [List.map_set]
  refine sum_set (x := (r[k]?.getD []).count none) ?_ _ (count_set h)
  rw [List.getElem?_map, List.getElem?_eq_getElem hk]; rfl
theorem nones_le {W : Nat} : ∀ {r : List Col}, (∀ c ∈ r, c.length = W) → nonesR r ≤ r.length * W
  | [], _ => Nat.zero_le _
  | c :: r, hc => by
    have ih := nones_le (r := r) fun d hd => hc d (List.mem_cons_of_mem _ hd)
    have h1 : c.count none ≤ W := Nat.le_trans List.count_le_length (by rw [hc c List.mem_cons_self]; exact Nat.le_refl _)
    unfold nonesR at ih ⊢
    rw [List.map_cons, List.sum_cons, List.length_cons, Nat.succ_mul]
    omega
theorem eqB_s : dEq (.str "broken") (.str "broken") = some (.val (.bl true)) := str_no (by decide +kernel) (by decide +kernel) (by decide +kernel)
theorem shaped_b : SeqAt.shaped (.str "broken") = true := by decide +kernel
theorem eqB_n : dEq .non (.str "broken") = some (.val (.bl false)) := by
  unfold dEq dEq?
  show (Option.map _ (if SeqAt.shaped .none && SeqAt.shaped (.str "broken") then some (PyData.eqv .none (.str "broken")) else none)) = _
  rw [shaped_b]
  simp [SeqAt.shaped, PyData.canLay0, PyData.depth, PyData.eqv]
theorem eqB_t (a b : Int) (c : Bool) : dEq (.tup [.int a, .int b, .bl c]) (.str "broken") = some (.val (.bl false)) := by
  unfold dEq dEq?
  show (Option.map _ (if SeqAt.shaped (.tuple [.int a, .int b, .bool c]) && SeqAt.shaped (.str "broken") then some (PyData.eqv (.tuple [.int a, .int b, .bool c]) (.str "broken")) else none)) = _
  rw [shaped_b]
  simp [SeqAt.shaped, PyData.canLay0, PyData.canLayAll0, PyData.depth, PyData.depthAll, PyData.eqv]
end Lk
end
section
set_option Elab.async false
set_option linter.all false
set_option maxHeartbeats 2000000
/-! Lq1: following has one end: plain Lean. A state tells some places; a clause is a list of places with values. -/
namespace Lq
variable {P : Type} [DecidableEq P]
abbrev St (P : Type) := P → Option Bool
abbrev Cls (P : Type) := List (P × Bool)
def worth (σ : St P) (l : P × Bool) : Option Bool := (σ l.1).map fun b => b == l.2
def Quiet (σ : St P) (c : Cls P) : Prop := (∃ l ∈ c, worth σ l = some true) ∨ 2 ≤ c.countP fun l => (worth σ l).isNone
def Broken (σ : St P) (c : Cls P) : Prop := ∀ l ∈ c, worth σ l = some false
structure Tell (σ : St P) (c : Cls P) (l : P × Bool) : Prop where
  mem : l ∈ c
  non : worth σ l = none
  notT : ∀ l' ∈ c, worth σ l' ≠ some true
  one : (c.countP fun l => (worth σ l).isNone) = 1
def put (σ : St P) (p : P) (b : Bool) : St P := fun q => if q = p then some b else σ q
def Sub (σ τ : St P) : Prop := ∀ p b, σ p = some b → τ p = some b
theorem Sub.refl (σ : St P) : Sub σ σ := fun _ _ h => h
theorem Sub.trans {σ τ ρ : St P} (a : Sub σ τ) (b : Sub τ ρ) : Sub σ ρ := fun p v h => b p v (a p v h)
theorem Sub.anti {σ τ : St P} (a : Sub σ τ) (b : Sub τ σ) : σ = τ := by
  funext p
  cases h : σ p with
  | some v => exact (a p v h).symm
  | none =>
    cases h2 : τ p with
    | none => rfl
    | some v => have := b p v h2; rw [h] at this; cases this
theorem worth_sub {σ τ : St P} (s : Sub σ τ) {l : P × Bool} {b : Bool} (h : worth σ l = some b) : worth τ l = some b := by
  unfold worth at h ⊢
  cases q : σ l.1 with
  | none => rw [q] at h; cases h
  | some v => rw [q] at h; rw [s _ _ q]; exact h
theorem worth_non {σ : St P} {l : P × Bool} : worth σ l = none ↔ σ l.1 = none := by
  unfold worth
  cases σ l.1 <;> simp
inductive Reach (cs : List (Cls P)) (σ : St P) : St P → Prop
  | refl : Reach cs σ σ
  | step {τ : St P} {c : Cls P} {l : P × Bool} : Reach cs σ τ → c ∈ cs → Tell τ c l → Reach cs σ (put τ l.1 l.2)
def Stable (cs : List (Cls P)) (σ : St P) : Prop := ∀ c ∈ cs, Quiet σ c
def DeadS (cs : List (Cls P)) (σ : St P) : Prop := ∃ c ∈ cs, Broken σ c
def Ends (cs : List (Cls P)) (σ : St P) : Option (St P) → Prop
  | some τ => Reach cs σ τ ∧ Stable cs τ
  | none => ∃ τ, Reach cs σ τ ∧ DeadS cs τ
theorem put_sub {τ : St P} {l : P × Bool} (h : worth τ l = none) : Sub τ (put τ l.1 l.2) := fun p b hp => by
  unfold put
  rw [if_neg]
  · exact hp
  · intro e
    subst e
    rw [worth_non.mp h] at hp
    cases hp
theorem Reach.sub {cs : List (Cls P)} {σ τ : St P} (r : Reach cs σ τ) : Sub σ τ := by
  induction r with
  | refl => exact Sub.refl σ
  | step _ _ t ih => exact ih.trans (put_sub t.non)
/-- two that are not told are one, where just one is not told -/
theorem one_non {α : Type} {f : α → Bool} : ∀ {c : List α} {a b : α}, c.countP f = 1 → a ∈ c → b ∈ c → f a = true → f b = true → a = b
  | [], _, _, h, _, _, _, _ => by simp at h
  | x :: c, a, b, h, ha, hb, fa, fb => by
    rw [List.countP_cons] at h
    by_cases fx : f x = true
    · rw [if_pos fx] at h
      have h0 : c.countP f = 0 := by omega
      have no := List.countP_eq_zero.mp h0
      rcases List.mem_cons.mp ha with e | ha
      · rcases List.mem_cons.mp hb with e2 | hb
        · rw [e, e2]
        · exact absurd fb (no b hb)
      · exact absurd fa (no a ha)
    · rw [if_neg fx] at h
      rcases List.mem_cons.mp ha with e | ha
      · exact absurd (e ▸ fa) fx
      · rcases List.mem_cons.mp hb with e2 | hb
        · exact absurd (e2 ▸ fb) fx
        · exact one_non (by simpa using h) ha hb fa fb
theorem count_sub {σ τ : St P} (s : Sub σ τ) (c : Cls P) : (c.countP fun l => (worth τ l).isNone) ≤ c.countP fun l => (worth σ l).isNone :=
  List.countP_mono_left fun l _ h => by
    cases q : worth σ l with
    | none => rfl
    | some b => rw [worth_sub s q] at h; cases h
theorem tell_in {σ ρ : St P} {c : Cls P} {l : P × Bool} (s : Sub σ ρ) (t : Tell σ c l) (q : Quiet ρ c) : Sub (put σ l.1 l.2) ρ := by
  have hl : ρ l.1 = some l.2 := by
    rcases q with ⟨l', hm, hw⟩ | h2
    · have n' : worth σ l' = none := by
        cases z : worth σ l' with
        | none => rfl
        | some b =>
          have := worth_sub s z
          rw [hw] at this; cases this
          exact absurd z (t.notT l' hm)
      have e : l' = l := one_non (f := fun l => (worth σ l).isNone) t.one hm t.mem (by rw [n']; rfl) (by rw [t.non]; rfl)
      subst e
      unfold worth at hw
      cases z : ρ l'.1 with
      | none => rw [z] at hw; cases hw
      | some b =>
        rw [z] at hw
        have : (b == l'.2) = true := Option.some.inj hw
        rw [eq_of_beq this]
    · have := count_sub s c
      rw [t.one] at this
      omega
  intro p b h
  unfold put at h
  by_cases e : p = l.1
  · rw [if_pos e] at h; cases h; rw [e]; exact hl
  · rw [if_neg e] at h; exact s p b h
theorem reach_in {cs : List (Cls P)} {σ τ ρ : St P} (r : Reach cs σ τ) (s : Sub σ ρ) (st : Stable cs ρ) : Sub τ ρ := by
  induction r with
  | refl => exact s
  | step _ hc t ih => exact tell_in ih t (st _ hc)
theorem dead_not {cs : List (Cls P)} {σ τ ρ : St P} (r : Reach cs σ τ) (s : Sub σ ρ) (st : Stable cs ρ) (d : DeadS cs τ) : False := by
  obtain ⟨c, hc, b⟩ := d
  have sub := reach_in r s st
  have b2 : ∀ l ∈ c, worth ρ l = some false := fun l hl => worth_sub sub (b l hl)
  rcases st c hc with ⟨l, hl, hw⟩ | h2
  · rw [b2 l hl] at hw; cases hw
  · have : (c.countP fun l => (worth ρ l).isNone) = 0 := List.countP_eq_zero.mpr fun l hl h => by rw [b2 l hl] at h; cases h
    omega
/-- there is one end -/
theorem ends_unique {cs : List (Cls P)} {σ : St P} : ∀ {a b : Option (St P)}, Ends cs σ a → Ends cs σ b → a = b
  | some τ, some ρ, ⟨r1, s1⟩, ⟨r2, s2⟩ => congrArg some ((reach_in r1 r2.sub s2).anti (reach_in r2 r1.sub s1))
  | some τ, none, ⟨r1, s1⟩, ⟨ρ, r2, d⟩ => (dead_not r2 r1.sub s1 d).elim
  | none, some ρ, ⟨τ, r1, d⟩, ⟨r2, s2⟩ => (dead_not r1 r2.sub s2 d).elim
  | none, none, _, _ => rfl
end Lq
end
section
set_option Elab.async false
set_option linter.all false
set_option maxRecDepth 100000
set_option maxHeartbeats 2000000
/-! Lq2: a row as a state; what a step tells there; the law's following comes to an end of it. -/
namespace Lk
open PySem Ev Dk
def entR (r : List Col) : Nat × Nat → Option Bool := fun p => ((r[p.1]?.getD [])[p.2]?).getD none
def litP (W : Nat) (s : Stp) (x : Int) : (Nat × Nat) × Bool := ((s.col + (x.natAbs - 1) / W, (x.natAbs - 1) % W), decide (0 < x))
def clsOf (W : Nat) (s : Stp) : Lq.Cls (Nat × Nat) := s.cl.map (litP W s)
theorem lit_lt {W : Nat} {s : Stp} {x : Int} (h : x.natAbs - 1 < W) : litP W s x = ((s.col, x.natAbs - 1), decide (0 < x)) := by
  unfold litP
  rw [Nat.div_eq_of_lt h, Nat.mod_eq_of_lt h, Nat.add_zero]
theorem lit_ge {W : Nat} {s : Stp} {x : Int} (hW : 1 ≤ W) (h : W ≤ x.natAbs - 1) (h2 : x.natAbs - 1 < 2 * W) : litP W s x = ((s.col + 1, x.natAbs - 1 - W), decide (0 < x)) := by
  unfold litP
  have e : x.natAbs - 1 = (x.natAbs - 1 - W) + W := by omega
  have e1 : (x.natAbs - 1) / W = 1 := by rw [e, Nat.add_div_right _ (by omega), Nat.div_eq_of_lt (by omega)]
  have e2 : (x.natAbs - 1) % W = x.natAbs - 1 - W := by
    rw [e, Nat.add_mod_right, Nat.mod_eq_of_lt (by omega)]
    omega
  rw [e1, e2]
theorem w_eq {W : Nat} {r : List Col} {s : Stp} {x : Int} (hW : 1 ≤ W) (hs : StpOk W r.length s) (hc : ∀ c ∈ r, c.length = W) (hx : x ∈ s.cl) : wo1 (entS r s.col) x = Lq.worth (entR r) (litP W s x) := by
  have hl0 : (r[s.col]?.getD []).length = W := by rw [List.getElem?_eq_getElem hs.col]; exact hc _ (List.getElem_mem _)
  have hr := (hs.ran x hx).2
  by_cases h : x.natAbs - 1 < W
  · rw [lit_lt h]
    unfold wo1 entS Lq.worth entR
    rw [List.getElem?_append_left (by omega)]
  · have hcol : s.col + 1 < r.length := by
      by_cases z : s.col + 1 < r.length
      · exact z
      · rw [if_neg z] at hr; omega
    rw [if_pos hcol] at hr
    rw [lit_ge hW (by omega) (by omega)]
    unfold wo1 entS Lq.worth entR
    rw [List.getElem?_append_right (by omega), hl0]
theorem ws_eq {W : Nat} {r : List Col} {s : Stp} (hW : 1 ≤ W) (hs : StpOk W r.length s) (hc : ∀ c ∈ r, c.length = W) : woS s.cl (entS r s.col) = (clsOf W s).map (Lq.worth (entR r)) := by
  unfold woS clsOf
  rw [List.map_map]
  exact List.map_congr_left fun x hx => w_eq hW hs hc hx
theorem cnt_eq {W : Nat} {r : List Col} {s : Stp} (hW : 1 ≤ W) (hs : StpOk W r.length s) (hc : ∀ c ∈ r, c.length = W) : (woS s.cl (entS r s.col)).count none = (clsOf W s).countP fun l => (Lq.worth (entR r) l).isNone := by
  rw [ws_eq hW hs hc]
  unfold List.count
  rw [List.countP_map]
  congr 1
  funext l
  show (Lq.worth (entR r) l == none) = _
  cases Lq.worth (entR r) l <;> rfl
section
variable {W : Nat} {r : List Col} {s : Stp}
theorem quiet_t (hW : 1 ≤ W) (hs : StpOk W r.length s) (hc : ∀ c ∈ r, c.length = W) (h : (woS s.cl (entS r s.col)).contains (some true) = true) : Lq.Quiet (entR r) (clsOf W s) := by
  rw [ws_eq hW hs hc] at h
  obtain ⟨l, hl, e⟩ := List.mem_map.mp (List.contains_iff_mem.mp h)
  exact .inl ⟨l, hl, e⟩
theorem quiet_2 (hW : 1 ≤ W) (hs : StpOk W r.length s) (hc : ∀ c ∈ r, c.length = W) (h : 2 ≤ (woS s.cl (entS r s.col)).count none) : Lq.Quiet (entR r) (clsOf W s) := .inr (by rw [← cnt_eq hW hs hc]; exact h)
theorem notT_of (hW : 1 ≤ W) (hs : StpOk W r.length s) (hc : ∀ c ∈ r, c.length = W) (h : (woS s.cl (entS r s.col)).contains (some true) = false) : ∀ l ∈ clsOf W s, Lq.worth (entR r) l ≠ some true := fun l hl e => by
  rw [ws_eq hW hs hc] at h
  have : ((clsOf W s).map (Lq.worth (entR r))).contains (some true) = true := List.contains_iff_mem.mpr (List.mem_map.mpr ⟨l, hl, e⟩)
  rw [h] at this; cases this
theorem broken_of (hW : 1 ≤ W) (hs : StpOk W r.length s) (hc : ∀ c ∈ r, c.length = W) (h : (woS s.cl (entS r s.col)).contains (some true) = false) (h2 : (woS s.cl (entS r s.col)).contains none = false) : Lq.Broken (entR r) (clsOf W s) := fun l hl => by
  have n := notT_of hW hs hc h l hl
  cases q : Lq.worth (entR r) l with
  | none =>
    rw [ws_eq hW hs hc] at h2
    have : ((clsOf W s).map (Lq.worth (entR r))).contains none = true := List.contains_iff_mem.mpr (List.mem_map.mpr ⟨l, hl, q⟩)
    rw [h2] at this; cases this
  | some b =>
    cases b with
    | false => rfl
    | true => exact absurd q n
theorem tell_of (hW : 1 ≤ W) (hs : StpOk W r.length s) (hc : ∀ c ∈ r, c.length = W) (h : (woS s.cl (entS r s.col)).contains (some true) = false) (h1 : (woS s.cl (entS r s.col)).count none ≤ 1) {x : Int} (hx : x ∈ s.cl) (wn : wo1 (entS r s.col) x = none) : Lq.Tell (entR r) (clsOf W s) (litP W s x) where
  mem := List.mem_map_of_mem hx
  non := by rw [← w_eq hW hs hc hx]; exact wn
  notT := notT_of hW hs hc h
  one := by
    have : 0 < (woS s.cl (entS r s.col)).count none := List.count_pos_iff.mpr (by unfold woS; exact List.mem_map.mpr ⟨x, hx, wn⟩)
    rw [← cnt_eq hW hs hc]
    omega
end
theorem told_ok2 {h : Hs} {Q : RV → Hs → Prop} {w : Wr} {m : Int} (hw : w.Ok m) {W : Nat} (hW : w.wide = W) {r : List Col} (h2 : r.length ≤ 1000) (hc : ∀ c ∈ r, c.length = W) {s : Stp} (hs : StpOk W r.length s)
    (q0 : Lq.Quiet (entR r) (clsOf W s) → Q (.val .non) h) (q1 : Lq.Broken (entR r) (clsOf W s) → Q (.val (.str "broken")) h) (q2 : ∀ (k j : Nat) (b : Bool), k < r.length → j < W → (r[k]?.getD [])[j]? = some none → Lq.Tell (entR r) (clsOf W s) ((k, j), b) → Q (.val (.tup [.int (k : Nat), .int (1 + (j : Nat)), .bl b])) h) :
    WF m__law_told [.val w.D, .val (rD r), .val s.D] h Q := by
  have n4 : W ≤ 4 := by have := hw.w4; omega
  have n1 : 1 ≤ W := by have := hw.i1; have := hw.iw; omega
  unfold m__law_told
  rw [wf_fn]
  show WS _ [some (.val w.D), some (.val (rD r)), some (.val s.D), none, none, none, none, none] h _ _
  rw [ws_seq, ws_asg, we_sl, wo_n (s := .val s.D) rfl, wx_at, we_c]
  refine ⟨_, rfl, ?_⟩
  rw [wx_no]
  refine ⟨_, force_val rfl, .val (.tup [.int (s.col : Nat), tI s.cl]), rfl, _, rfl, ?_⟩
  simp only [List.set_cons_succ, List.set_cons_zero]
  rw [ws_seq, ws_set, we_call, wa_cons, wo_n (s := .val (rD r)) rfl, wa_cons, wo_n (s := .val (.int (s.col : Nat))) rfl, wa_nil]
  refine ⟨[.val (rD r), .val (.int (s.col : Nat))], by rw [svs_sl (s := .val (rD r)) rfl, svs_sl (s := .val (.int (s.col : Nat))) rfl]; rfl, rfl, lentries_ok h2 hc n4 hs.col ?_⟩
  have fits := stp_fits hs hc
  simp only [List.set_cons_succ, List.set_cons_zero, vl_fresh]
  rw [ws_seq, ws_set, we_call, wa_cons, wo_n (s := .val (tI s.cl)) rfl, wa_cons, wo_n (s := .val (.lst ((entS r s.col).map eD))) rfl, wa_nil]
  refine ⟨[.val (tI s.cl), .val (.lst ((entS r s.col).map eD))], by rw [svs_sl (s := .val (tI s.cl)) rfl, svs_sl (s := .val (.lst ((entS r s.col).map eD))) rfl]; rfl, rfl, lworths_ok (.inr rfl) fits ?_⟩
  simp only [List.set_cons_succ, List.set_cons_zero, vl_fresh]
  rw [ws_seq, ws_if, wt_or, wt_of, we_bin, wo_x, we_c, wo_n (s := .val (.lst ((woS s.cl (entS r s.col)).map eD))) rfl]
  refine ⟨_, rfl, _, force_val rfl, _, in_eD _ (some true), _, rfl, ?_⟩
  have tl : ∀ {b : RV}, Q b h → Q b (h.take h.length) := fun z => by rw [List.take_length]; exact z
  cases hq : (woS s.cl (entS r s.col)).contains (some true) with
  | true =>
    rw [if_pos rfl, if_pos rfl, ws_ret, we_c]
    exact tl (q0 (quiet_t n1 hs hc hq))
  | false =>
    rw [if_neg (by decide), wt_of, we_bin, wo_x, we_VM, we_var]
    refine ⟨_, rfl, rfl, ?_⟩
    rw [wa_cons, wo_x, we_c, wa_nil]
    refine ⟨_, rfl, _, count_eD _ none, ?_⟩
    rw [wo_x, we_c]
    refine ⟨_, rfl, _, rfl, .val (.bl (decide (1 < (((woS s.cl (entS r s.col)).count none : Nat) : Int)))), rfl, _, rfl, ?_⟩
    by_cases h1 : (1 : Int) < (((woS s.cl (entS r s.col)).count none : Nat) : Int)
    · rw [if_pos (decide_eq_true h1), ws_ret, we_c]
      exact tl (q0 (quiet_2 n1 hs hc (by omega)))
    · rw [if_neg (by simpa using h1), ws_nx, ws_seq, ws_if, wt_of, we_bin, wo_x, we_c, wo_n (s := .val (.lst ((woS s.cl (entS r s.col)).map eD))) rfl]
      refine ⟨_, rfl, _, force_val rfl, _, notIn_eD _ none, _, rfl, ?_⟩
      cases hn : (woS s.cl (entS r s.col)).contains none with
      | false =>
        rw [if_pos (show (!false) = true from rfl), ws_ret, we_c]
        exact tl (q1 (broken_of n1 hs hc hq hn))
      | true =>
        rw [if_neg (by decide), ws_nx, ws_seq, ws_set, we_bin, wo_n (s := .val (tI s.cl)) rfl, wo_x, we_VM, we_var]
        refine ⟨_, rfl, rfl, ?_⟩
        rw [wa_cons, wo_x, we_c, wa_nil]
        obtain ⟨j, hj, ej, mi⟩ := index_eD (List.contains_iff_mem.mp hn)
        have hjc : j < s.cl.length := by unfold woS at hj; rwa [List.length_map] at hj
        generalize hx : s.cl[j] = x
        have hxm : x ∈ s.cl := hx ▸ List.getElem_mem hjc
        have wn : wo1 (entS r s.col) x = none := by
          unfold woS at ej
          rw [List.getElem?_map, List.getElem?_eq_getElem hjc, hx] at ej
          exact Option.some.inj ej
        have fx := fits.2 x hxm
        have te := tell_of n1 hs hc hq (by omega) hxm wn
        have en : (entS r s.col)[x.natAbs - 1]? = some none := by
          have hlt : x.natAbs - 1 < (entS r s.col).length := by omega
          unfold wo1 at wn
          rw [List.getElem?_eq_getElem hlt] at wn ⊢
          cases hz : (entS r s.col)[x.natAbs - 1] with
          | none => rfl
          | some b => rw [hz] at wn; cases wn
        refine ⟨_, rfl, _, mi, _, force_val rfl, _, rfl, .val (.int x), ?_, ?_⟩
        · show dIx (.tup (s.cl.map D.int)) (.int (j : Nat)) = _
          rw [dIx_t, atI_of (d := .int x) (by omega) (by rw [Int.toNat_natCast, List.getElem?_map, List.getElem?_eq_getElem hjc, hx]; rfl)]
          rfl
        simp only [List.set_cons_succ, List.set_cons_zero, vl_val]
        have n4' : ((W : Nat) : Int).natAbs.log2 < 9000 := by
          have : ((W : Nat) : Int).natAbs < 2 ^ 3 := by omega
          have := log2_le (k := 2) this
          omega
        have hdv : ∀ t : Int, iDiv (.int t) (.int (W : Nat)) = some (.val (.int (t / (W : Nat)))) := fun t => by rw [iDiv_ii, if_pos ⟨by omega, n4'⟩]
        have hmd : ∀ t : Int, iMod (.int t) (.int (W : Nat)) = some (.val (.int (t % (W : Nat)))) := fun t => by rw [iMod_ii, if_pos (by omega)]
        have hwd : dIx w.D (.int 1) = some (.val (.int (W : Nat))) := by rw [← hW]; rfl
        rw [ws_ret, we_tup, wa_cons, wo_x, we_bin, wo_n (s := .val (.int (s.col : Nat))) rfl, wo_x, we_bin, wo_x, we_bin, wo_x, we_B, wa_cons, wo_n (s := .val (.int x)) rfl, wa_nil]
        refine ⟨_, forces_cons (force_val rfl) rfl, _, abs_i x, ?_⟩
        rw [wo_x, we_c]
        refine ⟨_, rfl, _, rfl, .val (.int ((x.natAbs : Nat) - 1)), rfl, ?_⟩
        rw [wo_x, we_bin, wo_n (s := .val w.D) rfl, wo_x, we_c]
        refine ⟨_, force_val rfl, _, rfl, _, hwd, _, rfl, _, rfl, _, hdv _, _, force_val rfl, _, rfl, _, dAdd_ii _ _, ?_⟩
        rw [wa_cons, wo_x, we_bin, wo_x, we_c, wo_x, we_bin, wo_x, we_B, wa_cons, wo_x, we_bin, wo_x, we_B, wa_cons, wo_n (s := .val (.int x)) rfl, wa_nil]
        refine ⟨_, forces_cons (force_val rfl) rfl, _, abs_i x, ?_⟩
        rw [wo_x, we_c]
        refine ⟨_, rfl, _, rfl, .val (.int ((x.natAbs : Nat) - 1)), rfl, ?_⟩
        rw [wa_nil]
        refine ⟨_, rfl, .val (.int ((x.natAbs : Nat) - 1)), rfl, ?_⟩
        rw [wo_x, we_bin, wo_n (s := .val w.D) rfl, wo_x, we_c]
        refine ⟨_, force_val rfl, _, rfl, _, hwd, _, rfl, _, rfl, _, hmd _, _, rfl, _, rfl, _, dAdd_ii _ _, ?_⟩
        rw [wa_cons, wo_x, we_bin, wo_n (s := .val (.int x)) rfl, wo_x, we_c]
        refine ⟨_, force_val rfl, _, rfl, .val (.bl (decide (0 < x))), rfl, ?_⟩
        rw [wa_nil]
        refine ⟨_, rfl, by rw [sizeLine_eq]; show 3 ≤ _; decide, ?_⟩
        simp only [vl_val]
        by_cases hlt : x.natAbs - 1 < W
        · have e1 : ((x.natAbs : Nat) - 1 : Int) / (W : Nat) = 0 := Int.ediv_eq_zero_of_lt (by omega) (by omega)
          have e2 : ((x.natAbs : Nat) - 1 : Int) % (W : Nat) = ((x.natAbs - 1 : Nat) : Int) := by rw [Int.emod_eq_of_lt (by omega) (by omega)]; omega
          rw [e1, e2, Int.add_zero]
          refine tl (q2 s.col (x.natAbs - 1) _ hs.col hlt ?_ (by rw [lit_lt hlt] at te; exact te))
          have hl0 : (r[s.col]?.getD []).length = W := by rw [List.getElem?_eq_getElem hs.col]; exact hc _ (List.getElem_mem _)
          unfold entS at en
          rw [List.getElem?_append_left (by omega)] at en
          exact en
        · have hr := (hs.ran x hxm).2
          have hcol : s.col + 1 < r.length := by
            by_cases z : s.col + 1 < r.length
            · exact z
            · rw [if_neg z] at hr; omega
          rw [if_pos hcol] at hr
          have hWi : ((W : Nat) : Int) ≠ 0 := by omega
          have e0 : ((x.natAbs : Nat) - 1 : Int) = ((x.natAbs - 1 - W : Nat) : Int) + (W : Nat) := by omega
          have e1 : ((x.natAbs : Nat) - 1 : Int) / (W : Nat) = 1 := by
            rw [e0, Int.add_ediv_of_dvd_right (Int.dvd_refl _), Int.ediv_self hWi, Int.ediv_eq_zero_of_lt (by omega) (by omega)]; rfl
          have e2 : ((x.natAbs : Nat) - 1 : Int) % (W : Nat) = ((x.natAbs - 1 - W : Nat) : Int) := by
            rw [e0, Int.add_emod_right, Int.emod_eq_of_lt (by omega) (by omega)]
          rw [e1, e2, show (((s.col : Nat) : Int) + 1) = ((s.col + 1 : Nat) : Int) by omega]
          refine tl (q2 (s.col + 1) (x.natAbs - 1 - W) _ hcol (by omega) ?_ (by rw [lit_ge n1 (by omega) (by omega)] at te; exact te))
          have hl0 : (r[s.col]?.getD []).length = W := by rw [List.getElem?_eq_getElem hs.col]; exact hc _ (List.getElem_mem _)
          unfold entS at en
          rw [List.getElem?_append_right (by omega), hl0] at en
          exact en
theorem entR_put {W : Nat} {r : List Col} {k j : Nat} {b : Bool} (hc : ∀ c ∈ r, c.length = W) (hk : k < r.length) (hj : j < W) : entR (putS r k j (some b)) = Lq.put (entR r) (k, j) b := by
  funext p
  obtain ⟨a, c⟩ := p
  unfold entR putS Lq.put
  have hl : (r[k]?.getD []).length = W := by rw [List.getElem?_eq_getElem hk]; exact hc _ (List.getElem_mem _)
  by_cases ha : a = k
  · subst ha
    show (((r.set a _)[a]?.getD [])[c]?).getD none = _
    rw [List.getElem?_set_self hk, Option.getD_some]
    by_cases hcj : c = j
    · subst hcj
      rw [List.getElem?_set_self (by omega), if_pos rfl]; rfl
    · rw [List.getElem?_set_ne (Ne.symm hcj), if_neg (fun e => hcj (by injection e))]
  · show (((r.set k _)[a]?.getD [])[c]?).getD none = _
    rw [List.getElem?_set_ne (Ne.symm ha), if_neg (fun e => ha (by injection e))]
theorem row_ext {W : Nat} {r r' : List Col} (hl : r.length = r'.length) (hc : ∀ c ∈ r, c.length = W) (hc' : ∀ c ∈ r', c.length = W) (h : entR r = entR r') : r = r' := by
  apply List.ext_getElem hl
  intro k h1 h2
  have w1 := hc _ (List.getElem_mem h1)
  have w2 := hc' _ (List.getElem_mem h2)
  apply List.ext_getElem (by rw [w1, w2])
  intro j j1 j2
  have := congrFun h (k, j)
  unfold entR at this
  rw [List.getElem?_eq_getElem h1, List.getElem?_eq_getElem h2] at this
  simpa [List.getElem?_eq_getElem j1, List.getElem?_eq_getElem j2] using this
/-- the steps of a row, as clauses -/
def stepsC (w : Wr) (W many : Nat) : List (Lq.Cls (Nat × Nat)) := (flatTo w many 4).map (clsOf W)
theorem lfollow_ok {m0 : Fx} (hm0 : m0 = m__law_follow) {h : Hs} {Q : RV → Hs → Prop} {w : Wr} {m : Int} (hw : w.Ok m) {W : Nat} (hW : w.wide = W) {r : List Col} (h1 : 1 ≤ r.length) (h2 : r.length ≤ 100) (hc : ∀ c ∈ r, c.length = W)
    (q0 : Lq.Ends (stepsC w W r.length) (entR r) none → Q (.val .non) h) (q : ∀ r' : List Col, r'.length = r.length → (∀ c ∈ r', c.length = W) → Lq.Ends (stepsC w W r.length) (entR r) (some (entR r')) → Q (.val (rD r')) h) : WF m0 [.val w.D, .val (rD r)] h Q := by
  subst hm0
  have n4 : W ≤ 4 := by have := hw.w4; omega
  have lz : (r.map cD).length = r.length := List.length_map ..
  unfold m__law_follow
  rw [wf_fn]
  show WS _ [some (.val w.D), some (.val (rD r)), none, none, none, none, none] h _ _
  rw [ws_seq]
  generalize hE0 : ([some (.val w.D), some (.val (rD r)), none, none, none, none, none] : Nv) = E0
  have g0 : E0[0]? = some (some (.val w.D)) := by rw [← hE0]; rfl
  have g1 : E0[1]? = some (some (.val (rD r))) := by rw [← hE0]; rfl
  rw [ws_multi, wp_val, we_call, wa_cons, wo_n g0, wa_cons, wo_x, we_B, wa_cons, wo_n g1, wa_nil]
  refine ⟨_, forces_cons (force_val g1) rfl, .val (.int (r.map cD).length), rfl, ?_⟩
  rw [wa_nil, lz]
  refine ⟨[.val w.D, .val (.int r.length)], by rw [svs_sl g0, vl_val, svs_vl]; rfl, rfl, ?_⟩
  generalize hm : m__law_flat = m1
  refine lflat_ok hm.symm hw h1 (by omega) ?_
  rw [wp_val, we_B, wa_cons, wo_n g1, wa_nil]
  refine ⟨_, forces_cons (force_val g1) rfl, .fresh (r.map cD), rfl, ?_⟩
  rw [wp_val, we_c, wp_nil]
  have hst := flat_steps hw hW h1
  unfold stepsC at q0 q
  generalize flatTo w r.length 4 = sts at hst q0 q ⊢
  refine ⟨[some (.val w.D), some (.val (rD r)), some (.val (.lst (sts.map Stp.D))), some (.val (rD r)), some (.val (.bl true)), none, none], by rw [← hE0]; rfl, ?_⟩
  rw [ws_seq]
  generalize hE : ([some (.val w.D), some (.val (rD r)), some (.val (.lst (sts.map Stp.D))), some (.val (rD r)), some (.val (.bl true)), none, none] : Nv) = E
  refine ws_while (fun m e h1 => h1 = h ∧ ∃ (r' : List Col) (b : Bool) (x5 x6 : Option SV), e = [some (.val w.D), some (.val (rD r)), some (.val (.lst (sts.map Stp.D))), some (.val (rD r')), some (.val (.bl b)), x5, x6] ∧ r'.length = r.length ∧ (∀ c ∈ r', c.length = W) ∧ m = nonesR r' + (if b then 1 else 0) ∧ Lq.Reach (sts.map (clsOf W)) (entR r) (entR r') ∧ (b = false → Lq.Stable (sts.map (clsOf W)) (entR r'))) (nonesR r + 1) ?_ ⟨rfl, r, true, none, none, hE.symm, rfl, hc, rfl, .refl, fun z => by cases z⟩ fun m e h3 I => ?_
  · have a := nones_le hc
    have b : r.length * W ≤ 100 * 4 := Nat.mul_le_mul h2 n4
    show nonesR r + 1 < 1000000
    omega
  obtain ⟨rfl, r', b, x5, x6, rfl, hl, hcc, rfl, hre, hsb⟩ := I
  rw [wt_of, we_var]
  refine ⟨_, rfl, _, rfl, ?_⟩
  cases b with
  | false =>
    rw [if_neg (by decide), ws_ret, we_var]
    refine ⟨_, rfl, ?_⟩
    rw [List.take_length]
    exact q r' hl hcc ⟨hre, hsb rfl⟩
  | true =>
    rw [if_pos rfl, ws_seq, ws_set, we_c]
    simp only [List.set_cons_succ, List.set_cons_zero, vl_val]
    generalize hE3 : ([some (.val w.D), some (.val (rD r)), some (.val (.lst (sts.map Stp.D))), some (.val (rD r')), some (.val (.bl false)), x5, x6] : Nv) = E3
    have k2 : E3[2]? = some (some (.val (.lst (sts.map Stp.D)))) := by rw [← hE3]; rfl
    refine ws_for ?_
    rw [wi_val, we_var]
    refine ⟨_, k2, sts.map Stp.D, rfl, fun i e h4 => h4 = h3 ∧ ∃ (r2 : List Col) (b : Bool) (x5 x6 : Option SV), e = [some (.val w.D), some (.val (rD r)), some (.val (.lst (sts.map Stp.D))), some (.val (rD r2)), some (.val (.bl b)), x5, x6] ∧ r2.length = r.length ∧ (∀ c ∈ r2, c.length = W) ∧ nonesR r2 + (if b then 1 else 0) ≤ nonesR r' ∧ Lq.Reach (sts.map (clsOf W)) (entR r) (entR r2) ∧ (b = false → ∀ s ∈ sts.take i, Lq.Quiet (entR r2) (clsOf W s)),
      ⟨rfl, r', false, x5, x6, hE3.symm, hl, hcc, Nat.le_refl _, hre, fun _ s hs => by simp at hs⟩, fun i y e h4 hy I => ?_, fun e h4 I => ?_⟩
    · obtain ⟨rfl, r2, b, x5, x6, rfl, hl2, hc2, hn2, hre2, hq2⟩ := I
      rw [List.getElem?_map] at hy
      cases hx : sts[i]? with
      | none => rw [hx] at hy; cases hy
      | some s =>
        rw [hx] at hy; cases hy
        obtain ⟨hi, hxi⟩ := List.getElem?_eq_some_iff.mp hx
        have hms : s ∈ sts := hxi ▸ List.getElem_mem hi
        have hmc : clsOf W s ∈ sts.map (clsOf W) := List.mem_map_of_mem hms
        have ok : StpOk W r2.length s := by rw [hl2]; exact hst s hms
        refine ⟨[some (.val w.D), some (.val (rD r)), some (.val (.lst (sts.map Stp.D))), some (.val (rD r2)), some (.val (.bl b)), some (.val s.D), x6], rfl, ?_⟩
        rw [ws_seq, ws_set, we_call, wa_cons, wo_n (s := .val w.D) rfl, wa_cons, wo_n (s := .val (rD r2)) rfl, wa_cons, wo_n (s := .val s.D) rfl, wa_nil]
        refine ⟨[.val w.D, .val (rD r2), .val s.D], by rw [svs_sl (s := .val w.D) rfl, svs_sl (s := .val (rD r2)) rfl, svs_sl (s := .val s.D) rfl]; rfl, rfl, told_ok2 hw hW (by omega) hc2 ok (fun hqu => ?_) (fun hbr => ?_) fun k j v hk hj hz hte => ?_⟩
        · simp only [List.set_cons_succ, List.set_cons_zero, vl_val]
          rw [ws_seq, ws_if, wt_of, we_bin, wo_n (s := .val .non) rfl, wo_x, we_c]
          refine ⟨_, force_val rfl, _, rfl, _, eqB_n, _, rfl, ?_⟩
          rw [if_neg (by decide), ws_nx, ws_if, wt_of, we_bin, wo_n (s := .val .non) rfl, wo_x, we_c]
          refine ⟨_, force_val rfl, _, rfl, .val (.bl false), rfl, _, rfl, ?_⟩
          rw [if_neg (by decide), ws_nx]
          refine ⟨rfl, r2, b, _, _, rfl, hl2, hc2, hn2, hre2, fun hb s' hs' => ?_⟩
          rw [List.take_add_one, hx] at hs'
          rcases List.mem_append.mp hs' with z | z
          · exact hq2 hb s' z
          · rw [List.mem_singleton.mp z]; exact hqu
        · simp only [List.set_cons_succ, List.set_cons_zero, vl_val]
          rw [ws_seq, ws_if, wt_of, we_bin, wo_n (s := .val (.str "broken")) rfl, wo_x, we_c]
          refine ⟨_, force_val rfl, _, rfl, _, eqB_s, _, rfl, ?_⟩
          rw [if_pos rfl, ws_ret, we_c, List.take_length]
          exact q0 ⟨_, hre2, _, hmc, hbr⟩
        · simp only [List.set_cons_succ, List.set_cons_zero, vl_val]
          generalize hT : (Ev.D.tup [.int (k : Nat), .int (1 + (j : Nat)), .bl v]) = T
          rw [ws_seq, ws_if, wt_of, we_bin, wo_n (s := .val T) rfl, wo_x, we_c]
          refine ⟨_, force_val rfl, _, rfl, .val (.bl false), by rw [← hT]; exact eqB_t _ _ _, _, rfl, ?_⟩
          rw [if_neg (by decide), ws_nx, ws_if, wt_of, we_bin, wo_n (s := .val T) rfl, wo_x, we_c]
          refine ⟨_, force_val rfl, _, rfl, .val (.bl true), by rw [← hT]; rfl, _, rfl, ?_⟩
          rw [if_pos rfl, ws_multi, wp_val, we_call, wa_cons, wo_n (s := .val (rD r2)) rfl, wa_cons, wo_x, we_bin, wo_n (s := .val T) rfl, wo_x, we_c]
          refine ⟨_, force_val rfl, _, rfl, .val (.int (k : Nat)), by rw [← hT]; rfl, ?_⟩
          rw [wa_cons, wo_x, we_bin, wo_n (s := .val T) rfl, wo_x, we_c]
          refine ⟨_, force_val rfl, _, rfl, .val (.int (1 + (j : Nat))), by rw [← hT]; rfl, ?_⟩
          rw [wa_cons, wo_x, we_bin, wo_n (s := .val T) rfl, wo_x, we_c]
          refine ⟨_, force_val rfl, _, rfl, .val (.bl v), by rw [← hT]; rfl, ?_⟩
          rw [wa_nil]
          refine ⟨[.val (rD r2), .val (.int (k : Nat)), .val (.int (1 + (j : Nat))), .val (eD (some v))], by rw [svs_sl (s := .val (rD r2)) rfl]; rfl, rfl, put_ok (W := W) (by omega) hc2 n4 hk hj ?_⟩
          rw [wp_val, we_c, wp_nil]
          refine ⟨[some (.val w.D), some (.val (rD r)), some (.val (.lst (sts.map Stp.D))), some (.val (rD (putS r2 k j (some v)))), some (.val (.bl true)), some (.val s.D), some (.val T)], rfl, ?_⟩
          have hd := nones_put (b := v) hk hz
          refine ⟨rfl, putS r2 k j (some v), true, _, _, rfl, by rw [putS_len]; exact hl2, putS_wide hc2 hk, ?_, ?_, fun z => by cases z⟩
          · rw [if_pos rfl]
            omega
          · rw [entR_put hc2 hk hj]
            exact .step hre2 hmc hte
    · obtain ⟨rfl, r2, b, x5, x6, rfl, hl2, hc2, hn2, hre2, hq2⟩ := I
      refine ⟨nonesR r2 + (if b then 1 else 0), ?_, rfl, r2, b, x5, x6, rfl, hl2, hc2, rfl, hre2, fun hb c hc => ?_⟩
      · show (nonesR r2 + if b = true then 1 else 0) < nonesR r' + 1
        omega
      · obtain ⟨s, hs, rfl⟩ := List.mem_map.mp hc
        rw [List.length_map, List.take_length] at hq2
        exact hq2 hb s hs
end Lk
end
section
set_option Elab.async false
set_option linter.all false
set_option maxRecDepth 100000
set_option maxHeartbeats 2000000
/-! Lq3: the program's steps: clause_of, place_of, told_by. -/
namespace Lk
open PySem Ev Dk
/-- a step as the program has it -/
def Stp.P (s : Stp) : Ev.D := .tup [.str s.nm, .int (s.ix : Nat), .int (s.col : Nat)]
structure InW (w : Wr) (s : Stp) : Prop where
  at_ : ∃ k, k < 4 ∧ s.nm = nmS k ∧ (w.part k)[s.ix]? = some s.cl
theorem nm_ix {k : Nat} (h : k < 4) : nmS k ∈ (["first", "each", "nexts", "last"] : List Str) ∧ (["first", "each", "nexts", "last"] : List Str).idxOf (nmS k) = k := by
  have : k = 0 ∨ k = 1 ∨ k = 2 ∨ k = 3 := by omega
  rcases this with rfl | rfl | rfl | rfl <;> decide +kernel
theorem clauseOf_ok {h : Hs} {Q : RV → Hs → Prop} {w : Wr} {s : Stp} (hs : InW w s) (q : Q (.val (tI s.cl)) h) : WF m_clause_of [.val w.D, .val s.P] h Q := by
  obtain ⟨k, hk, hn, hc⟩ := hs.at_
  obtain ⟨m1, m2⟩ := nm_ix hk
  unfold m_clause_of
  rw [wf_fn]
  show WS _ [some (.val w.D), some (.val s.P)] h _ _
  rw [ws_ret, we_bin, wo_x, we_bin, wo_n (s := .val w.D) rfl, wo_x, we_bin, wo_x, we_c, wo_x]
  refine we_TI ?_
  rw [we_bin, wo_n (s := .val s.P) rfl, wo_x, we_c]
  refine ⟨_, force_val rfl, _, rfl, .val (.str s.nm), rfl, s.nm, rfl, by rw [hn]; exact m1, ?_⟩
  rw [hn, m2]
  refine ⟨_, rfl, _, rfl, .val (.int (2 + (k : Nat))), rfl, _, force_val rfl, _, rfl, _, part_dIx w hk, ?_⟩
  rw [wo_x, we_bin, wo_n (s := .val s.P) rfl, wo_x, we_c]
  refine ⟨_, force_val rfl, _, rfl, .val (.int (s.ix : Nat)), rfl, _, rfl, _, rfl, .val (tI s.cl), ?_, ?_⟩
  · show (L2.atI ((w.part k).map tI) (s.ix : Nat)).map RV.val = _
    rw [atI_of (d := tI s.cl) (by omega) (by rw [Int.toNat_natCast, List.getElem?_map, hc]; rfl)]
    rfl
  · rw [List.take_length]; exact q
theorem placeOf_ok {h : Hs} {Q : RV → Hs → Prop} {w : Wr} {m : Int} (hw : w.Ok m) {W : Nat} (hW : w.wide = W) {s : Stp} {x : Int} (hx : 1 ≤ x.natAbs) (q : Q (.val (.tup [.int ((litP W s x).1.1 : Nat), .int ((litP W s x).1.2 : Nat)])) h) : WF m_place_of [.val w.D, .val s.P, .val (.int x)] h Q := by
  have n4 : W ≤ 4 := by have := hw.w4; omega
  have n1 : 1 ≤ W := by have := hw.i1; have := hw.iw; omega
  have n4' : ((W : Nat) : Int).natAbs.log2 < 9000 := by
    have : ((W : Nat) : Int).natAbs < 2 ^ 3 := by omega
    have := log2_le (k := 2) this
    omega
  have hdv : ∀ t : Nat, iDiv (.int (t : Nat)) (.int (W : Nat)) = some (.val (.int ((t / W : Nat) : Int))) := fun t => by rw [iDiv_ii, if_pos ⟨by omega, n4'⟩]; rfl
  have hmd : ∀ t : Nat, iMod (.int (t : Nat)) (.int (W : Nat)) = some (.val (.int ((t % W : Nat) : Int))) := fun t => by rw [iMod_ii, if_pos (by omega)]; rfl
  have hwd : dIx w.D (.int 1) = some (.val (.int (W : Nat))) := by rw [← hW]; rfl
  have hsub : iSub (.int (x.natAbs : Nat)) (.int 1) = some (.val (.int ((x.natAbs - 1 : Nat) : Int))) := by
    show some (RV.val (.int ((x.natAbs : Nat) - 1 : Int))) = _
    rw [show ((x.natAbs : Nat) - 1 : Int) = ((x.natAbs - 1 : Nat) : Int) by omega]
  unfold m_place_of
  rw [wf_fn]
  show WS _ [some (.val w.D), some (.val s.P), some (.val (.int x))] h _ _
  rw [ws_ret, we_tup, wa_cons, wo_x, we_bin, wo_x, we_bin, wo_n (s := .val s.P) rfl, wo_x, we_c]
  refine ⟨_, force_val rfl, _, rfl, .val (.int (s.col : Nat)), rfl, ?_⟩
  rw [wo_x, we_bin, wo_x, we_bin, wo_x, we_B, wa_cons, wo_n (s := .val (.int x)) rfl, wa_nil]
  refine ⟨_, forces_cons (force_val rfl) rfl, _, abs_i x, ?_⟩
  rw [wo_x, we_c]
  refine ⟨_, rfl, _, rfl, _, hsub, ?_⟩
  rw [wo_x, we_bin, wo_n (s := .val w.D) rfl, wo_x, we_c]
  refine ⟨_, force_val rfl, _, rfl, _, hwd, _, rfl, _, rfl, _, hdv _, _, rfl, _, rfl, _, dAdd_ii _ _, ?_⟩
  rw [wa_cons, wo_x, we_bin, wo_x, we_bin, wo_x, we_B, wa_cons, wo_n (s := .val (.int x)) rfl, wa_nil]
  refine ⟨_, forces_cons (force_val rfl) rfl, _, abs_i x, ?_⟩
  rw [wo_x, we_c]
  refine ⟨_, rfl, _, rfl, _, hsub, ?_⟩
  rw [wo_x, we_bin, wo_n (s := .val w.D) rfl, wo_x, we_c]
  refine ⟨_, force_val rfl, _, rfl, _, hwd, _, rfl, _, rfl, _, hmd _, ?_⟩
  rw [wa_nil]
  refine ⟨_, rfl, by rw [sizeLine_eq]; show 2 ≤ _; decide, ?_⟩
  rw [List.take_length]
  exact q
/-- the rows of the cell -/
def llR (r : List Col) : List (List Ev.D) := r.map fun c => c.map eD
theorem lit_in {W : Nat} {r : List Col} {s : Stp} {x : Int} (hW : 1 ≤ W) (hs : StpOk W r.length s) (hx : x ∈ s.cl) : (litP W s x).1.1 < r.length ∧ (litP W s x).1.2 < W := by
  have hr := (hs.ran x hx).2
  by_cases h : x.natAbs - 1 < W
  · rw [lit_lt h]; exact ⟨hs.col, h⟩
  · have hcol : s.col + 1 < r.length := by
      by_cases z : s.col + 1 < r.length
      · exact z
      · rw [if_neg z] at hr; omega
    rw [if_pos hcol] at hr
    rw [lit_ge hW (by omega) (by omega)]
    exact ⟨hcol, by show x.natAbs - 1 - W < W; omega⟩
theorem ll_at {W : Nat} {r : List Col} (hc : ∀ c ∈ r, c.length = W) {p : Nat × Nat} (h1 : p.1 < r.length) (h2 : p.2 < W) : ∃ ds, (llR r)[p.1]? = some ds ∧ ds.length = W ∧ ds[p.2]? = some (eD (entR r p)) := by
  have hl := hc _ (List.getElem_mem h1)
  refine ⟨(r[p.1]).map eD, ?_, by rw [List.length_map, hl], ?_⟩
  · unfold llR; rw [List.getElem?_map, List.getElem?_eq_getElem h1]; rfl
  · unfold entR
    rw [List.getElem?_map, List.getElem?_eq_getElem h1, Option.getD_some, List.getElem?_eq_getElem (by omega)]
    rfl
def tripD (l : (Nat × Nat) × Bool) : Ev.D := .tup [.int (l.1.1 : Nat), .int (l.1.2 : Nat), .bl l.2]
def openL (r : List Col) (c : Lq.Cls (Nat × Nat)) : Lq.Cls (Nat × Nat) := c.filter fun l => (Lq.worth (entR r) l).isNone
theorem toldBy_ok {h : Hs} {n : Nat} {Q : RV → Hs → Prop} {w : Wr} {m : Int} (hw : w.Ok m) {W : Nat} (hW : w.wide = W) {r : List Col} (hl : h[n]? = some (.lls (llR r))) (hc : ∀ c ∈ r, c.length = W) {s : Stp} (hi : InW w s) (hs : StpOk W r.length s)
    (q0 : Lq.Quiet (entR r) (clsOf W s) → Q (.val .non) h) (q1 : Lq.Broken (entR r) (clsOf W s) → Q (.fresh []) h) (q2 : ∀ l, Lq.Tell (entR r) (clsOf W s) l → Q (.fresh [tripD l]) h) :
    WF m_told_by [.val w.D, .loc n, .val s.P] h Q := by
  have n4 : W ≤ 4 := by have := hw.w4; omega
  have n1 : 1 ≤ W := by have := hw.i1; have := hw.iw; omega
  have hnl : n < h.length := (List.getElem?_eq_some_iff.mp hl).1
  unfold m_told_by
  rw [wf_fn]
  show WS _ [some (.val w.D), some (.loc n), some (.val s.P), none, none, none, none, none] h _ _
  rw [ws_seq, ws_new, we_lst, wa_nil]
  refine ⟨_, rfl, by decide, _, rfl, ?_⟩
  simp only [List.set_cons_succ, List.set_cons_zero]
  rw [ws_seq]
  generalize hE : ([some (.val w.D), some (.loc n), some (.val s.P), some (.loc h.length), none, none, none, none] : Nv) = E
  have g0 : E[0]? = some (some (.val w.D)) := by rw [← hE]; rfl
  have g2 : E[2]? = some (some (.val s.P)) := by rw [← hE]; rfl
  have hcl : (clsOf W s).length = s.cl.length := by unfold clsOf; rw [List.length_map]
  have tk : ∀ xs : List Ev.D, (h ++ [Cell.lst xs]).take h.length = h := fun xs => by rw [List.take_append_of_le_length (Nat.le_refl _), List.take_length]
  refine ws_for ?_
  rw [wi_val, we_call, wa_cons, wo_n g0, wa_cons, wo_n g2, wa_nil]
  refine ⟨[.val w.D, .val s.P], by rw [svs_sl g0, svs_sl g2]; rfl, rfl, clauseOf_ok hi ?_⟩
  refine ⟨s.cl.map D.int, rfl, fun i e h2 => h2 = h ++ [.lst ((openL r ((clsOf W s).take i)).map tripD)] ∧ (∃ x4 x5 x6 x7 : Option SV, e = [some (.val w.D), some (.loc n), some (.val s.P), some (.loc h.length), x4, x5, x6, x7]) ∧ ∀ l ∈ (clsOf W s).take i, Lq.worth (entR r) l ≠ some true,
    ⟨by rw [List.take_zero]; rfl, ⟨none, none, none, none, hE.symm⟩, fun l hl => by simp at hl⟩, fun i y e h2 hy I => ?_, fun e h2 I => ?_⟩
  · obtain ⟨rfl, ⟨x4, x5, x6, x7, rfl⟩, hnt⟩ := I
    rw [List.getElem?_map] at hy
    cases hx : s.cl[i]? with
    | none => rw [hx] at hy; cases hy
    | some x =>
      rw [hx] at hy; cases hy
      obtain ⟨hil, hxi⟩ := List.getElem?_eq_some_iff.mp hx
      have hxm : x ∈ s.cl := hxi ▸ List.getElem_mem hil
      obtain ⟨p1, p2⟩ := lit_in n1 hs hxm
      have hci : (clsOf W s)[i]? = some (litP W s x) := by unfold clsOf; rw [List.getElem?_map, hx]; rfl
      have htk : (clsOf W s).take (i + 1) = (clsOf W s).take i ++ [litP W s x] := by rw [List.take_add_one, hci]; rfl
      generalize hlp : litP W s x = lp at p1 p2 hci htk
      have hlv : lp.2 = decide (0 < x) := by rw [← hlp]; rfl
      refine ⟨[some (.val w.D), some (.loc n), some (.val s.P), some (.loc h.length), some (.val (.int x)), x5, x6, x7], rfl, ?_⟩
      rw [ws_seq, ws_asg, we_call, wa_cons, wo_n (s := .val w.D) rfl, wa_cons, wo_n (s := .val s.P) rfl, wa_cons, wo_n (s := .val (.int x)) rfl, wa_nil]
      refine ⟨[.val w.D, .val s.P, .val (.int x)], by rw [svs_sl (s := .val w.D) rfl, svs_sl (s := .val s.P) rfl, svs_sl (s := .val (.int x)) rfl]; rfl, rfl, placeOf_ok hw hW (hs.ran x hxm).1 ?_⟩
      rw [hlp]
      refine ⟨[some (.val w.D), some (.loc n), some (.val s.P), some (.loc h.length), some (.val (.int x)), some (.val (.int (lp.1.1 : Nat))), some (.val (.int (lp.1.2 : Nat))), x7], rfl, ?_⟩
      obtain ⟨ds, d1, d2, d3⟩ := ll_at hc p1 p2
      have hl2 : (h ++ [Cell.lst ((openL r ((clsOf W s).take i)).map tripD)])[n]? = some (.lls (llR r)) := by rw [List.getElem?_append_left hnl]; exact hl
      have rl : (llR r).length = r.length := by unfold llR; rw [List.length_map]
      rw [ws_seq, ws_set]
      refine we_ix2 (n := n) rfl ?_
      rw [we_var]
      refine ⟨_, rfl, _, llR r, lp.1.1, rfl, hl2, by unfold L2.ixN; rw [if_pos (by omega), if_pos (by omega), Int.toNat_natCast], ?_⟩
      rw [we_var]
      refine ⟨_, rfl, _, llR r, ds, eD (entR r lp.1), rfl, hl2, d1, atI_of (by omega) (by rw [Int.toNat_natCast]; exact d3), ?_⟩
      simp only [List.set_cons_succ, List.set_cons_zero, vl_val]
      have hcell : (h ++ [Cell.lst ((openL r ((clsOf W s).take i)).map tripD)])[h.length]? = some (.lst ((openL r ((clsOf W s).take i)).map tripD)) := by
        rw [List.getElem?_append_right (Nat.le_refl _), Nat.sub_self]; rfl
      rw [ws_if, wt_of, we_bin, wo_n (s := .val (eD (entR r lp.1))) rfl, wo_x, we_c]
      cases he : entR r lp.1 with
      | none =>
        refine ⟨_, force_val rfl, _, rfl, .val (.bl true), rfl, _, rfl, ?_⟩
        have hwn : Lq.worth (entR r) lp = none := Lq.worth_non.mpr he
        rw [if_pos rfl, ws_expr, we_meth (n := h.length) rfl hcell, wa_cons, wo_x, we_tup, wa_cons, wo_x, we_var]
        refine ⟨_, rfl, ?_⟩
        rw [wa_cons, wo_x, we_var]
        refine ⟨_, rfl, ?_⟩
        rw [wa_cons, wo_x, we_bin, wo_n (s := .val (.int x)) rfl, wo_x, we_c]
        refine ⟨_, force_val rfl, _, rfl, .val (.bl (decide (0 < x))), rfl, ?_⟩
        rw [wa_nil]
        refine ⟨_, rfl, by rw [sizeLine_eq]; show 3 ≤ _; decide, ?_⟩
        rw [wa_nil]
        have few : (openL r ((clsOf W s).take i)).length ≤ 4 := Nat.le_trans (List.length_filter_le _ _) (by rw [List.length_take, hcl]; have := hs.few; omega)
        refine ⟨_, rfl, _, hcell, _, app_d (by rw [List.length_map, sizeLine_eq]; omega), ?_, ⟨_, _, _, _, rfl⟩, fun l hl => ?_⟩
        · rw [List.set_append_right _ _ (Nat.le_refl _), Nat.sub_self, htk]
          unfold openL
          rw [List.filter_append, List.map_append, List.filter_cons_of_pos (by rw [hwn]; rfl)]
          show h ++ [Cell.lst (_ ++ [Ev.D.tup [.int (lp.1.1 : Nat), .int (lp.1.2 : Nat), .bl (decide (0 < x))]])] = _
          rw [← hlv]
          rfl
        · rw [htk] at hl
          rcases List.mem_append.mp hl with z | z
          · exact hnt l z
          · rw [List.mem_singleton.mp z, hwn]; exact fun e => by cases e
      | some b =>
        refine ⟨_, force_val rfl, _, rfl, .val (.bl false), rfl, _, rfl, ?_⟩
        rw [if_neg (by decide), ws_if, wt_of, we_bin, wo_n (s := .val (.bl b)) rfl, wo_x, we_bin, wo_n (s := .val (.int x)) rfl, wo_x, we_c]
        refine ⟨_, force_val rfl, _, rfl, .val (.bl (decide (0 < x))), rfl, _, force_val rfl, _, rfl, _, dEq_bb _ _, _, rfl, ?_⟩
        have hwb : Lq.worth (entR r) lp = some (b == decide (0 < x)) := by unfold Lq.worth; rw [he, hlv]; rfl
        cases hb : b == decide (0 < x) with
        | true =>
          rw [if_pos rfl, ws_ret, we_c, tk]
          rw [hb] at hwb
          exact q0 (.inl ⟨lp, List.mem_of_getElem? hci, hwb⟩)
        | false =>
          rw [if_neg (by decide), ws_nx]
          rw [hb] at hwb
          refine ⟨?_, ⟨_, _, _, _, rfl⟩, fun l hl => ?_⟩
          · rw [htk]
            unfold openL
            rw [List.filter_append, List.filter_cons_of_neg (by rw [hwb]; decide)]
            rw [List.filter_nil, List.append_nil]
          · rw [htk] at hl
            rcases List.mem_append.mp hl with z | z
            · exact hnt l z
            · rw [List.mem_singleton.mp z, hwb]; exact fun e => by cases e
  · obtain ⟨rfl, ⟨x4, x5, x6, x7, rfl⟩, hnt⟩ := I
    have hlen : (s.cl.map D.int).length = (clsOf W s).length := by rw [List.length_map, hcl]
    rw [hlen, List.take_length] at hnt ⊢
    have hcnt : (openL r (clsOf W s)).length = (clsOf W s).countP fun l => (Lq.worth (entR r) l).isNone := by unfold openL; rw [List.countP_eq_length_filter]
    have hmem : ∀ l, l ∈ openL r (clsOf W s) ↔ l ∈ clsOf W s ∧ Lq.worth (entR r) l = none := fun l => by
      unfold openL
      rw [List.mem_filter]
      cases Lq.worth (entR r) l <;> simp
    have hz := hcnt
    generalize openL r (clsOf W s) = os at hcnt hmem hz ⊢
    have hcell : (h ++ [Cell.lst (os.map tripD)])[h.length]? = some (.lst (os.map tripD)) := by
      rw [List.getElem?_append_right (Nat.le_refl _), Nat.sub_self]; rfl
    rw [ws_ret, we_if, wt_of, we_bin, wo_x, we_B, wa_cons, wo_n (s := .loc h.length) rfl, wa_nil]
    refine ⟨_, forces_cons (force_loc rfl hcell) rfl, .val (.int (os.map tripD).length), rfl, ?_⟩
    rw [wo_x, we_c, List.length_map]
    refine ⟨_, rfl, _, rfl, .val (.bl (decide ((os.length : Int) < 2))), rfl, _, rfl, ?_⟩
    by_cases h2 : os.length < 2
    · rw [if_pos (decide_eq_true (by omega))]
      refine we_take (n := h.length) rfl hcell ?_
      rw [List.set_append_right _ _ (Nat.le_refl _), Nat.sub_self, List.take_append_of_le_length (Nat.le_refl _), List.take_length]
      match os, h2, hmem, hz with
      | [], _, hmem, _ =>
        refine q1 fun l hl => ?_
        cases q : Lq.worth (entR r) l with
        | none => exact absurd ((hmem l).mpr ⟨hl, q⟩) (by simp)
        | some b =>
          cases b with
          | false => rfl
          | true => exact absurd q (hnt l hl)
      | [l], _, hmem, hz =>
        have z := (hmem l).mp (by simp)
        exact q2 l ⟨z.1, z.2, hnt, by rw [← hz]; rfl⟩
      | _ :: _ :: _, h2, _, _ =>
        simp only [List.length_cons] at h2
        omega
    · rw [if_neg (by simp; omega), we_c, tk]
      exact q0 (.inr (by rw [← hcnt]; omega))
end Lk
end
section
set_option Elab.async false
set_option linter.all false
set_option maxRecDepth 100000
set_option maxHeartbeats 2000000
/-! Lq4: steps_at: the steps that touch a column. -/
namespace Lk
open PySem Ev Dk
def spS (many c : Nat) : Nat → List Nat
  | 0 => if c = 0 then [0] else []
  | 1 => [c]
  | 2 => (if 1 ≤ c ∧ c < many then [c - 1] else []) ++ (if c + 1 < many then [c] else [])
  | _ => if c + 1 = many then [c] else []
def atC (w : Wr) (many c : Nat) : Nat → List Stp
  | 0 => []
  | k + 1 => atC w many c k ++ ptF (nmS k) (spS many c k) 0 (w.part k)
abbrev dI (l : List Nat) : List Ev.D := l.map fun k => Ev.D.int (k : Nat)
def keysS : List L2.Key := [.inr "first", .inr "each", .inr "nexts", .inr "last"]
def valsS (many c : Nat) : List Ev.D := [.lst (dI (spS many c 0)), .lst (dI (spS many c 1)), .lst (dI (spS many c 2)), .lst (dI (spS many c 3))]
theorem valD_at {many c k : Nat} (h : k < 4) : valD keysS (valsS many c) (.inr (nmS k)) = some (.lst (dI (spS many c k))) := by
  have : k = 0 ∨ k = 1 ∨ k = 2 ∨ k = 3 := by omega
  rcases this with rfl | rfl | rfl | rfl <;> rfl
theorem spS_len (many c k : Nat) : (spS many c k).length ≤ 2 := by
  match k with
  | 0 => show (if c = 0 then [0] else [] : List Nat).length ≤ 2; split <;> simp
  | 1 => show 1 ≤ 2; decide
  | 2 => show ((if 1 ≤ c ∧ c < many then [c - 1] else []) ++ (if c + 1 < many then [c] else []) : List Nat).length ≤ 2; split <;> split <;> simp
  | k + 3 => show (if c + 1 = many then [c] else [] : List Nat).length ≤ 2; split <;> simp
theorem atC_len {w : Wr} {m : Int} (hw : w.Ok m) (many c : Nat) : ∀ k, (atC w many c k).length ≤ k * 32
  | 0 => Nat.zero_le _
  | k + 1 => by
    show (atC w many c k ++ _).length ≤ _
    have h2 : (w.part k).length * (spS many c k).length ≤ 16 * 2 := Nat.mul_le_mul (part_few hw k) (spS_len many c k)
    have := atC_len hw many c k
    rw [List.length_append, ptF_len, Nat.succ_mul]
    omega
def keepD (many : Nat) : Ev.D → Bool
  | .int t => decide (0 ≤ t) && decide (t < (many : Int) - 1)
  | _ => false
theorem nexts_e {many c : Nat} (hc : c < many) : ([.int ((c : Int) - 1), .int (c : Nat)] : List Ev.D).filter (keepD many) = dI (spS many c 2) := by
  show _ = dI ((if 1 ≤ c ∧ c < many then [c - 1] else []) ++ (if c + 1 < many then [c] else []))
  have k1 : keepD many (.int ((c : Int) - 1)) = decide (1 ≤ c ∧ c < many) := by
    show (decide ((0 : Int) ≤ (c : Int) - 1) && decide (((c : Int) - 1) < (many : Int) - 1)) = _
    by_cases z : 1 ≤ c
    · rw [decide_eq_true (show (0 : Int) ≤ (c : Int) - 1 by omega), decide_eq_true (show ((c : Int) - 1) < (many : Int) - 1 by omega), decide_eq_true ⟨z, hc⟩]; rfl
    · rw [decide_eq_false (show ¬ (0 : Int) ≤ (c : Int) - 1 by omega), Bool.false_and, decide_eq_false (fun y : 1 ≤ c ∧ c < many => z y.1)]
  have k2 : keepD many (.int (c : Nat)) = decide (c + 1 < many) := by
    show (decide ((0 : Int) ≤ (c : Nat)) && decide (((c : Nat) : Int) < (many : Int) - 1)) = _
    rw [decide_eq_true (show (0 : Int) ≤ (c : Nat) by omega), Bool.true_and]
    by_cases z : c + 1 < many
    · rw [decide_eq_true z, decide_eq_true (by omega)]
    · rw [decide_eq_false z, decide_eq_false (by omega)]
  rw [List.filter_cons, List.filter_cons, List.filter_nil, k1, k2]
  by_cases z1 : 1 ≤ c ∧ c < many
  · rw [if_pos (decide_eq_true z1), if_pos z1]
    have e : ((c : Int) - 1) = ((c - 1 : Nat) : Int) := by omega
    by_cases z2 : c + 1 < many
    · rw [if_pos (decide_eq_true z2), if_pos z2, e]; rfl
    · rw [if_neg (by simpa using z2), if_neg z2, e]; rfl
  · rw [if_neg (by rw [decide_eq_false z1]; decide), if_neg z1]
    by_cases z2 : c + 1 < many
    · rw [if_pos (decide_eq_true z2), if_pos z2]; rfl
    · rw [if_neg (by simpa using z2), if_neg z2]; rfl
theorem ext_l {ds es : List Ev.D} (h : ds.length + es.length ≤ 100000) : mExt ds [.lst es] = some (ds ++ es, .non) := by
  show (if ds.length + es.length ≤ sizeLine then some (ds ++ es, Ev.D.non) else none) = _
  rw [if_pos (by rw [sizeLine_eq]; omega)]
def stepP (nm : Str) (i : Nat) : Ev.D → Ev.D := fun d => .tup [.str nm, .int (i : Nat), d]
theorem part_items (w : Wr) {k : Nat} (h : k < 4) : dIx w.D (.int (2 + (k : Int))) = some (.val (.tup ((w.part k).map tI))) := part_dIx w h
theorem stepsAt_ok {m0 : Fx} (hm0 : m0 = m_steps_at) {h : Hs} {Q : RV → Hs → Prop} {w : Wr} {m : Int} (hw : w.Ok m) {many c : Nat} (hc : c < many) (hmany : many ≤ 1000) (q : Q (.fresh ((atC w many c 4).map Stp.P)) h) : WF m0 [.val w.D, .val (.int many), .val (.int (c : Nat))] h Q := by
  subst hm0
  unfold m_steps_at
  rw [wf_fn]
  show WS _ [some (.val w.D), some (.val (.int many)), some (.val (.int (c : Nat))), none, none, none, none, none, none] h _ _
  rw [ws_seq]
  refine ws_newD ?_
  show WPs [_, _] _ _ _
  rw [wps_cons, we_if, wt_of, we_bin, wo_n (s := .val (.int (c : Nat))) rfl, wo_x, we_c]
  refine ⟨_, force_val rfl, _, rfl, _, dEq_ii _ _, _, rfl, ?_⟩
  have s0 : ∀ (P : RV → Hs → Prop), (∀ rv, rv.vl = .lst (dI (spS many c 0)) → P rv h) → (if decide (((c : Nat) : Int) = 0) = true then WE (eLst (aCons (xO (eC (.int 0))) aNil)) [some (.val w.D), some (.val (.int many)), some (.val (.int (c : Nat))), none, none, none, none, none, none] h P else WE (eLst aNil) [some (.val w.D), some (.val (.int many)), some (.val (.int (c : Nat))), none, none, none, none, none, none] h P) := fun P hP => by
    by_cases z : c = 0
    · rw [if_pos (decide_eq_true (by omega)), we_lst, wa_cons, wo_x, we_c, wa_nil]
      exact ⟨_, rfl, by decide, hP _ (by show Ev.D.lst [.int 0] = .lst (dI (if c = 0 then [0] else [])); rw [if_pos z]; rfl)⟩
    · rw [if_neg (by simp; omega), we_lst, wa_nil]
      exact ⟨_, rfl, by decide, hP _ (by show Ev.D.lst [] = .lst (dI (if c = 0 then [0] else [])); rw [if_neg z]; rfl)⟩
  refine s0 _ fun rv hrv => ?_
  rw [hrv, wps_cons, we_lst, wa_cons, wo_x, we_var]
  refine ⟨_, rfl, ?_⟩
  rw [wa_nil]
  refine ⟨_, rfl, by rw [sizeLine_eq]; show 1 ≤ _; decide, ?_⟩
  rw [wps_nil]
  show WS _ [some (.val w.D), some (.val (.int many)), some (.val (.int (c : Nat))), some (.loc h.length), none, none, none, none, none] (h ++ [Cell.dct [.inr "first", .inr "each"] [.lst (dI (spS many c 0)), .lst (dI (spS many c 1))]]) _ _
  have at_ : ∀ x : Cell, (h ++ [x])[h.length]? = some x := fun x => by rw [List.getElem?_append_right (Nat.le_refl _), Nat.sub_self]; rfl
  have set_ : ∀ x y : Cell, (h ++ [x]).set h.length y = h ++ [y] := fun x y => by rw [List.set_append_right _ _ (Nat.le_refl _), Nat.sub_self]; rfl
  rw [ws_seq]
  refine ws_storeD (n := h.length) rfl ?_
  refine we_comp (keepD many) id ?_
  rw [wi_val, we_tup, wa_cons, wo_x, we_bin, wo_n (s := .val (.int (c : Nat))) rfl, wo_x, we_c]
  refine ⟨_, force_val rfl, _, rfl, .val (.int ((c : Int) - 1)), rfl, ?_⟩
  rw [wa_cons, wo_x, we_var]
  refine ⟨_, rfl, ?_⟩
  rw [wa_nil]
  refine ⟨_, rfl, by rw [sizeLine_eq]; show 2 ≤ _; decide, [.int ((c : Int) - 1), .int (c : Nat)], rfl, by rw [sizeLine_eq]; show 2 < _; decide, fun d hd => ?_, ?_⟩
  · have : ∃ t, d = .int t := by
      simp only [List.mem_cons, List.not_mem_nil, or_false] at hd
      rcases hd with rfl | rfl
      · exact ⟨_, rfl⟩
      · exact ⟨_, rfl⟩
    obtain ⟨t, rfl⟩ := this
    refine ⟨_, rfl, ?_, fun _ => ?_⟩
    · show WT _ [some (.val w.D), some (.val (.int many)), some (.val (.int (c : Nat))), some (.loc h.length), none, none, none, none, some (.val (.int t))] _ _
      rw [wt_of]
      refine we_chain ?_
      rw [wo_x, we_c, wo_x, we_var]
      refine ⟨_, rfl, _, _, rfl, rfl, decide (0 ≤ t), rfl, ?_⟩
      have kd : keepD many (.int t) = (decide (0 ≤ t) && decide (t < (many : Int) - 1)) := rfl
      cases z : decide (0 ≤ t) with
      | true =>
        rw [if_pos rfl, wo_x, we_bin, wo_n (s := .val (.int many)) rfl, wo_x, we_c]
        refine ⟨_, force_val rfl, _, rfl, .val (.int ((many : Int) - 1)), rfl, _, _, rfl, rfl, .val (.bl (decide (t < (many : Int) - 1))), rfl, _, rfl, ?_, rfl⟩
        rw [kd, z]; rfl
      | false =>
        rw [if_neg (by decide)]
        exact ⟨_, rfl, by rw [kd, z]; rfl, rfl⟩
    · show WE _ [some (.val w.D), some (.val (.int many)), some (.val (.int (c : Nat))), some (.loc h.length), none, none, none, none, some (.val (.int t))] _ _
      rw [we_var]
      exact ⟨_, rfl, rfl, rfl⟩
  rw [nexts_e hc, List.map_id, we_c]
  refine ⟨.inr "nexts", [.inr "first", .inr "each"], _, rfl, at_ _, by decide +kernel, by decide, ?_⟩
  rw [set_, ws_seq]
  refine ws_storeD (n := h.length) rfl ?_
  rw [we_if, wt_of, we_bin, wo_n (s := .val (.int (c : Nat))) rfl, wo_x, we_bin, wo_n (s := .val (.int many)) rfl, wo_x, we_c]
  refine ⟨_, force_val rfl, _, rfl, .val (.int ((many : Int) - 1)), rfl, _, force_val rfl, _, rfl, _, dEq_ii _ _, _, rfl, ?_⟩
  generalize hh1 : (h ++ [Cell.dct ([.inr "first", .inr "each"] ++ [.inr "nexts"]) ([.lst (dI (spS many c 0)), .lst (dI (spS many c 1))] ++ [(RV.fresh (dI (spS many c 2))).vl])]) = h1
  have s3 : ∀ (P : RV → Hs → Prop), (∀ rv, rv.vl = .lst (dI (spS many c 3)) → P rv h1) → (if decide (((c : Nat) : Int) = (many : Int) - 1) = true then WE (eLst (aCons (xO (eVar 2)) aNil)) [some (.val w.D), some (.val (.int many)), some (.val (.int (c : Nat))), some (.loc h.length), none, none, none, none, none] h1 P else WE (eLst aNil) [some (.val w.D), some (.val (.int many)), some (.val (.int (c : Nat))), some (.loc h.length), none, none, none, none, none] h1 P) := fun P hP => by
    by_cases z : c + 1 = many
    · rw [if_pos (decide_eq_true (by omega)), we_lst, wa_cons, wo_x, we_var]
      refine ⟨_, rfl, ?_⟩
      rw [wa_nil]
      exact ⟨_, rfl, by rw [sizeLine_eq]; show 1 ≤ _; decide, hP _ (by show Ev.D.lst [.int (c : Nat)] = .lst (dI (if c + 1 = many then [c] else [])); rw [if_pos z]; rfl)⟩
    · rw [if_neg (by simp; omega), we_lst, wa_nil]
      exact ⟨_, rfl, by decide, hP _ (by show Ev.D.lst [] = .lst (dI (if c + 1 = many then [c] else [])); rw [if_neg z]; rfl)⟩
  refine s3 _ fun rv3 hrv3 => ?_
  rw [hrv3, we_c]
  refine ⟨.inr "last", [.inr "first", .inr "each"] ++ [.inr "nexts"], _, rfl, by rw [← hh1]; exact at_ _, by decide +kernel, by decide, ?_⟩
  rw [← hh1, set_]
  show WS _ [some (.val w.D), some (.val (.int many)), some (.val (.int (c : Nat))), some (.loc h.length), none, none, none, none, none] (h ++ [Cell.dct keysS (valsS many c)]) _ _
  rw [ws_seq, ws_new, we_lst, wa_nil]
  refine ⟨_, rfl, by decide, _, rfl, ?_⟩
  simp only [List.set_cons_succ, List.set_cons_zero]
  generalize hhd : h ++ [Cell.dct keysS (valsS many c)] = hd
  have hdl : hd.length = h.length + 1 := by rw [← hhd, List.length_append]; rfl
  have hd1 : hd[h.length]? = some (.dct keysS (valsS many c)) := by rw [← hhd]; exact at_ _
  have hdt : hd.take h.length = h := by rw [← hhd, List.take_append_of_le_length (Nat.le_refl _), List.take_length]
  have cell : ∀ x : Cell, (hd ++ [x])[hd.length]? = some x := fun x => by rw [List.getElem?_append_right (Nat.le_refl _), Nat.sub_self]; rfl
  have cset : ∀ x y : Cell, (hd ++ [x]).set hd.length y = hd ++ [y] := fun x y => by rw [List.set_append_right _ _ (Nat.le_refl _), Nat.sub_self]; rfl
  have dcell : ∀ x : Cell, (hd ++ [x])[h.length]? = some (.dct keysS (valsS many c)) := fun x => by rw [List.getElem?_append_left (by omega)]; exact hd1
  rw [ws_seq]
  generalize hE : ([some (.val w.D), some (.val (.int many)), some (.val (.int (c : Nat))), some (.loc h.length), some (.loc hd.length), none, none, none, none] : Nv) = E
  refine ws_for ?_
  rw [wi_enum, wa_cons, wo_x, we_c, wa_nil]
  refine ⟨_, rfl, enumD (strsD ["first", "each", "nexts", "last"]), rfl, fun k e h2 => k ≤ 4 ∧ h2 = hd ++ [.lst ((atC w many c k).map Stp.P)] ∧ ∃ x5 x6 x7 x8 : Option SV, e = [some (.val w.D), some (.val (.int many)), some (.val (.int (c : Nat))), some (.loc h.length), some (.loc hd.length), x5, x6, x7, x8],
    ⟨by decide, rfl, none, none, none, none, hE.symm⟩, fun k d e h2 hd2 I => ?_, fun e h2 I => ?_⟩
  · obtain ⟨_, rfl, x5, x6, x7, x8, rfl⟩ := I
    have hk : k < 4 := (List.getElem?_eq_some_iff.mp hd2).1
    have hd' : d = .tup [.int (k : Nat), .str (nmS k)] := by
      have : k = 0 ∨ k = 1 ∨ k = 2 ∨ k = 3 := by omega
      rcases this with rfl | rfl | rfl | rfl <;> exact (Option.some.inj hd2).symm
    subst hd'
    refine ⟨[some (.val w.D), some (.val (.int many)), some (.val (.int (c : Nat))), some (.loc h.length), some (.loc hd.length), some (.val (.int (k : Nat))), some (.val (.str (nmS k))), x7, x8], rfl, ?_⟩
    generalize hE1 : ([some (.val w.D), some (.val (.int many)), some (.val (.int (c : Nat))), some (.loc h.length), some (.loc hd.length), some (.val (.int (k : Nat))), some (.val (.str (nmS k))), x7, x8] : Nv) = E1
    have k0 : E1[0]? = some (some (.val w.D)) := by rw [← hE1]; rfl
    have k5 : E1[5]? = some (some (.val (.int (k : Nat)))) := by rw [← hE1]; rfl
    have pl : ((w.part k).map tI).length = (w.part k).length := List.length_map ..
    have pf := part_few hw k
    refine ws_for ?_
    rw [wi_range1, wa_cons, wo_x, we_B, wa_cons, wo_x, we_bin, wo_n k0, wo_x, we_bin, wo_x, we_c, wo_n k5]
    refine ⟨_, rfl, _, force_val k5, .val (.int (2 + (k : Int))), rfl, _, force_val k0, _, rfl, _, part_dIx w hk, ?_⟩
    rw [wa_nil]
    refine ⟨_, rfl, .val (.int ((w.part k).map tI).length), rfl, ?_⟩
    rw [wa_nil, pl]
    refine ⟨_, rfl, rangeD 0 ((w.part k).length : Int).toNat, range1_of (by omega) (by omega), ?_⟩
    refine ⟨fun i e h2 => h2 = hd ++ [.lst ((atC w many c k ++ ptF (nmS k) (spS many c k) 0 ((w.part k).take i)).map Stp.P)] ∧ ∃ x7 x8 : Option SV, e = [some (.val w.D), some (.val (.int many)), some (.val (.int (c : Nat))), some (.loc h.length), some (.loc hd.length), some (.val (.int (k : Nat))), some (.val (.str (nmS k))), x7, x8],
      ⟨by rw [List.take_zero]; show _ = hd ++ [Cell.lst ((atC w many c k ++ []).map Stp.P)]; rw [List.append_nil], x7, x8, hE1.symm⟩, fun i d e h2 hd3 I => ?_, fun e h2 I => ?_⟩
    · obtain ⟨rfl, x7, x8, rfl⟩ := I
      obtain ⟨hlt, rfl⟩ := rangeD_at hd3
      rw [Int.toNat_natCast] at hlt
      refine ⟨[some (.val w.D), some (.val (.int many)), some (.val (.int (c : Nat))), some (.loc h.length), some (.loc hd.length), some (.val (.int (k : Nat))), some (.val (.str (nmS k))), some (.val (.int (i : Nat))), x8], rfl, ?_⟩
      rw [ws_expr, we_meth (n := hd.length) rfl (cell _), wa_cons, wo_x]
      refine we_comp (fun _ => true) (stepP (nmS k) i) ?_
      rw [wi_val]
      refine we_ixD (n := h.length) rfl ?_
      rw [we_var]
      refine ⟨_, rfl, .inr (nmS k), keysS, valsS many c, .lst (dI (spS many c k)), rfl, dcell _, valD_at hk, dI (spS many c k), rfl, ?_, fun d hd4 => ?_, ?_⟩
      · have := spS_len many c k
        rw [List.length_map, sizeLine_eq]; omega
      · refine ⟨_, rfl, wt_yes.mpr ⟨rfl, rfl⟩, fun _ => ?_⟩
        show WE _ [some (.val w.D), some (.val (.int many)), some (.val (.int (c : Nat))), some (.loc h.length), some (.loc hd.length), some (.val (.int (k : Nat))), some (.val (.str (nmS k))), some (.val (.int (i : Nat))), some (.val d)] _ _
        rw [we_tup]
        simp only [wa_cons, wo_x, wa_nil, we_var, vl_val]
        exact ⟨_, rfl, _, rfl, _, rfl, _, rfl, by rw [sizeLine_eq]; show 3 ≤ _; decide, rfl, trivial⟩
      · rw [filt, wa_nil]
        have hci : (w.part k)[i]? = some ((w.part k)[i]'hlt) := List.getElem?_eq_getElem hlt
        have e9 : (dI (spS many c k)).map (stepP (nmS k) i) = ((spS many c k).map fun sp => (⟨nmS k, i, sp, (w.part k)[i]'hlt⟩ : Stp)).map Stp.P := by
          rw [List.map_map, List.map_map]; rfl
        have hln : (ptF (nmS k) (spS many c k) 0 ((w.part k).take i)).length ≤ 16 * 2 := by
          rw [ptF_len, List.length_take]
          exact Nat.mul_le_mul (by omega) (spS_len many c k)
        have ha := atC_len hw many c k
        have hs2 := spS_len many c k
        rw [e9]
        refine ⟨_, rfl, _, cell _, _, ext_l (by rw [List.length_map, List.length_map, List.length_map, List.length_append]; omega), ?_, _, _, rfl⟩
        rw [cset, ← List.map_append]
        have e8 : ptF (nmS k) (spS many c k) 0 ((w.part k).take (i + 1)) = ptF (nmS k) (spS many c k) 0 ((w.part k).take i) ++ (spS many c k).map fun sp => (⟨nmS k, i, sp, (w.part k)[i]'hlt⟩ : Stp) := by
          rw [List.take_add_one, hci]
          show ptF _ _ _ (_ ++ [_]) = _
          rw [ptF_app, List.length_take, Nat.zero_add, Nat.min_eq_left (by omega)]
        rw [e8, List.append_assoc]
    · obtain ⟨rfl, x7, x8, rfl⟩ := I
      rw [rangeD_len, Int.toNat_natCast, List.take_length]
      exact ⟨hk, rfl, _, _, _, _, rfl⟩
  · obtain ⟨_, rfl, x5, x6, x7, x8, rfl⟩ := I
    rw [ws_ret]
    refine we_take (n := hd.length) rfl (cell _) ?_
    rw [cset, List.take_append_of_le_length (by omega), hdt]
    exact q
end Lk
end
section
set_option Elab.async false
set_option linter.all false
set_option maxRecDepth 100000
set_option maxHeartbeats 2000000
/-! Lq5: which steps touch a column. -/
namespace Lq
variable {P : Type} [DecidableEq P]
theorem worth_put {σ : St P} {p : P} {b : Bool} {l : P × Bool} (h : l.1 ≠ p) : worth (put σ p b) l = worth σ l := by
  unfold worth put
  rw [if_neg h]
theorem quiet_put {σ : St P} {p : P} {b : Bool} {c : Cls P} (h : ∀ l ∈ c, l.1 ≠ p) (q : Quiet σ c) : Quiet (put σ p b) c := by
  rcases q with ⟨l, hl, hw⟩ | h2
  · exact .inl ⟨l, hl, by rw [worth_put (h l hl)]; exact hw⟩
  · refine .inr ?_
    have : c.countP (fun l => (worth (put σ p b) l).isNone) = c.countP fun l => (worth σ l).isNone := by
      apply List.countP_congr
      intro l hl
      rw [worth_put (h l hl)]
    rw [this]; exact h2
end Lq
namespace Lk
open PySem Ev Dk
theorem ptF_iff {nm : Str} {pl : List Nat} {s : Stp} : ∀ {p : List (List Int)} {i : Nat}, s ∈ ptF nm pl i p ↔ ∃ j, p[j]? = some s.cl ∧ s.ix = i + j ∧ s.nm = nm ∧ s.col ∈ pl
  | [], i => ⟨fun h => (nomatch h), fun ⟨j, h, _⟩ => by simp at h⟩
  | c :: p, i => by
    show s ∈ pl.map _ ++ ptF nm pl (i + 1) p ↔ _
    rw [List.mem_append, ptF_iff (p := p) (i := i + 1)]
    constructor
    · rintro (h | ⟨j, h1, h2, h3, h4⟩)
      · obtain ⟨k, hk, rfl⟩ := List.mem_map.mp h
        exact ⟨0, rfl, rfl, rfl, hk⟩
      · exact ⟨j + 1, by simpa using h1, by omega, h3, h4⟩
    · rintro ⟨j, h1, h2, h3, h4⟩
      cases j with
      | zero =>
        refine .inl (List.mem_map.mpr ⟨s.col, h4, ?_⟩)
        have : c = s.cl := by simpa using h1
        cases s
        simp_all
      | succ j => exact .inr ⟨j, by simpa using h1, by omega, h3, h4⟩
theorem mem_flat {w : Wr} {many : Nat} {s : Stp} : ∀ {n : Nat}, s ∈ flatTo w many n ↔ ∃ k, k < n ∧ s ∈ ptF (nmS k) (plS many k) 0 (w.part k)
  | 0 => ⟨fun h => (nomatch h), fun ⟨k, h, _⟩ => by omega⟩
  | n + 1 => by
    show s ∈ flatTo w many n ++ _ ↔ _
    rw [List.mem_append, mem_flat (n := n)]
    constructor
    · rintro (⟨k, h1, h2⟩ | h)
      · exact ⟨k, by omega, h2⟩
      · exact ⟨n, by omega, h⟩
    · rintro ⟨k, h1, h2⟩
      by_cases z : k = n
      · subst z; exact .inr h2
      · exact .inl ⟨k, by omega, h2⟩
theorem mem_at {w : Wr} {many c : Nat} {s : Stp} : ∀ {n : Nat}, s ∈ atC w many c n ↔ ∃ k, k < n ∧ s ∈ ptF (nmS k) (spS many c k) 0 (w.part k)
  | 0 => ⟨fun h => (nomatch h), fun ⟨k, h, _⟩ => by omega⟩
  | n + 1 => by
    show s ∈ atC w many c n ++ _ ↔ _
    rw [List.mem_append, mem_at (n := n)]
    constructor
    · rintro (⟨k, h1, h2⟩ | h)
      · exact ⟨k, by omega, h2⟩
      · exact ⟨n, by omega, h⟩
    · rintro ⟨k, h1, h2⟩
      by_cases z : k = n
      · subst z; exact .inr h2
      · exact .inl ⟨k, by omega, h2⟩
theorem sp_pl {many c k x : Nat} (hc : c < many) (hk : k < 4) (h : x ∈ spS many c k) : x ∈ plS many k := by
  have : k = 0 ∨ k = 1 ∨ k = 2 ∨ k = 3 := by omega
  rcases this with rfl | rfl | rfl | rfl
  · have h : x ∈ (if c = 0 then [0] else [] : List Nat) := h
    split at h
    · exact h
    · simp at h
  · have h : x ∈ [c] := h
    rw [List.mem_singleton.mp h]
    exact List.mem_range.mpr hc
  · have h : x ∈ ((if 1 ≤ c ∧ c < many then [c - 1] else []) ++ (if c + 1 < many then [c] else []) : List Nat) := h
    refine List.mem_range.mpr ?_
    rcases List.mem_append.mp h with h | h
    · split at h
      · rw [List.mem_singleton.mp h]; omega
      · simp at h
    · split at h
      · rw [List.mem_singleton.mp h]; omega
      · simp at h
  · have h : x ∈ (if c + 1 = many then [c] else [] : List Nat) := h
    split at h
    · rw [List.mem_singleton.mp h]
      exact List.mem_singleton.mpr (by omega)
    · simp at h
theorem at_flat {w : Wr} {many c : Nat} {s : Stp} (hc : c < many) (h : s ∈ atC w many c 4) : s ∈ flatTo w many 4 := by
  obtain ⟨k, hk, hm⟩ := mem_at.mp h
  obtain ⟨j, h1, h2, h3, h4⟩ := ptF_iff.mp hm
  exact mem_flat.mpr ⟨k, hk, ptF_iff.mpr ⟨j, h1, h2, h3, sp_pl hc hk h4⟩⟩
theorem at_inW {w : Wr} {many c : Nat} {s : Stp} (h : s ∈ atC w many c 4) : InW w s := by
  obtain ⟨k, hk, hm⟩ := mem_at.mp h
  obtain ⟨j, h1, h2, h3, h4⟩ := ptF_iff.mp hm
  exact ⟨k, hk, h3, by rw [h2, Nat.zero_add]; exact h1⟩
theorem part_okk {w : Wr} {m : Int} (hw : w.Ok m) {W k : Nat} (hW : w.wide = W) (hk : k < 4) : PartOk (if k = 2 then 2 * (W : Int) else W) 16 (w.part k) := by
  have : k = 0 ∨ k = 1 ∨ k = 2 ∨ k = 3 := by omega
  rcases this with rfl | rfl | rfl | rfl
  · have := hw.a; rw [hW] at this; exact this
  · have := hw.b; rw [hW] at this; exact this
  · have := hw.c; rw [hW] at this; exact this
  · have := hw.d; rw [hW] at this; exact this
/-- a step that touches a column is among the column's steps -/
theorem touch_at {w : Wr} {m : Int} (hw : w.Ok m) {W many c : Nat} (hW : w.wide = W) {s : Stp} (hs : s ∈ flatTo w many 4) (ho : StpOk W many s) {l : (Nat × Nat) × Bool} (hl : l ∈ clsOf W s) (hc : l.1.1 = c) : s ∈ atC w many c 4 := by
  have n1 : 1 ≤ W := by have := hw.i1; have := hw.iw; omega
  obtain ⟨k, hk, hm⟩ := mem_flat.mp hs
  obtain ⟨j, h1, h2, h3, h4⟩ := ptF_iff.mp hm
  refine mem_at.mpr ⟨k, hk, ptF_iff.mpr ⟨j, h1, h2, h3, ?_⟩⟩
  obtain ⟨x, hx, rfl⟩ := List.mem_map.mp hl
  have hp := (part_okk hw hW hk).ok _ (List.mem_of_getElem? h1)
  have hr := hp.ran x hx
  have hcol := ho.col
  by_cases hlt : x.natAbs - 1 < W
  · rw [lit_lt hlt] at hc
    have hc : s.col = c := hc
    subst hc
    have : k = 0 ∨ k = 1 ∨ k = 2 ∨ k = 3 := by omega
    rcases this with rfl | rfl | rfl | rfl
    · have h4 : s.col ∈ [0] := h4
      have z := List.mem_singleton.mp h4
      show s.col ∈ (if s.col = 0 then [0] else [] : List Nat)
      rw [if_pos z, z]; exact List.mem_singleton.mpr rfl
    · exact List.mem_singleton.mpr rfl
    · have h4 := List.mem_range.mp (show s.col ∈ List.range (many - 1) from h4)
      show s.col ∈ ((if 1 ≤ s.col ∧ s.col < many then [s.col - 1] else []) ++ (if s.col + 1 < many then [s.col] else []) : List Nat)
      rw [if_pos (show s.col + 1 < many by omega)]
      exact List.mem_append_right _ (List.mem_singleton.mpr rfl)
    · have z := List.mem_singleton.mp (show s.col ∈ [many - 1] from h4)
      show s.col ∈ (if s.col + 1 = many then [s.col] else [] : List Nat)
      rw [if_pos (by omega)]; exact List.mem_singleton.mpr rfl
  · have hk2 : k = 2 := by
      by_cases z : k = 2
      · exact z
      · rw [if_neg z] at hr; omega
    subst hk2
    rw [if_pos rfl] at hr
    rw [lit_ge n1 (by omega) (by omega)] at hc
    have hc : s.col + 1 = c := hc
    have h4 := List.mem_range.mp (show s.col ∈ List.range (many - 1) from h4)
    subst hc
    show s.col ∈ ((if 1 ≤ s.col + 1 ∧ s.col + 1 < many then [s.col + 1 - 1] else []) ++ _ : List Nat)
    rw [if_pos ⟨by omega, by omega⟩]
    exact List.mem_append_left _ (List.mem_singleton.mpr rfl)
/-- no clause is empty -/
theorem flat_pos {w : Wr} {m : Int} (hw : w.Ok m) {W many : Nat} (hW : w.wide = W) {s : Stp} (hs : s ∈ flatTo w many 4) : s.cl ≠ [] := by
  obtain ⟨k, hk, hm⟩ := mem_flat.mp hs
  obtain ⟨j, h1, h2, h3, h4⟩ := ptF_iff.mp hm
  have hp := (part_okk hw hW hk).ok _ (List.mem_of_getElem? h1)
  intro z
  have := hp.pos
  rw [z] at this
  simp at this
end Lk
end
section
set_option Elab.async false
set_option linter.all false
set_option maxRecDepth 100000
set_option maxHeartbeats 4000000
/-! Lq6: follow, the program's. -/
namespace Lk
open PySem Ev Dk
theorem notIn_int (v : Nat) (ws : List Nat) : dNotIn (.int (v : Nat)) (.lst (dI ws)) = some (.val (.bl (!decide (v ∈ ws)))) := by
  have e : inS (.int (v : Nat)) (.lst (dI ws)) = some (decide (v ∈ ws)) := by
    unfold inS
    show (if flatD (.int (v : Nat)) && (dI ws).all flatD then some (inF (.int (v : Nat)) (dI ws)) else none) = _
    have e1 : (dI ws).all flatD = true := List.all_eq_true.mpr fun x hx => by
      obtain ⟨k, _, rfl⟩ := List.mem_map.mp hx
      rfl
    rw [e1]
    have e2 : inF (.int (v : Nat)) (dI ws) = decide (v ∈ ws) := by
      unfold inF
      rw [Bool.eq_iff_iff, List.any_eq_true, decide_eq_true_eq]
      constructor
      · rintro ⟨x, hx, h⟩
        obtain ⟨k, hk, rfl⟩ := List.mem_map.mp hx
        have : ((k : Int) == (v : Int)) = true := h
        have := eq_of_beq this
        have : k = v := by omega
        exact this ▸ hk
      · intro h
        exact ⟨_, List.mem_map_of_mem h, by show ((v : Int) == (v : Int)) = true; exact beq_self_eq_true _⟩
    rw [e2]; rfl
  unfold dNotIn dNotInF
  rw [e]
  rfl
theorem nc_trip {l : (Nat × Nat) × Bool} (h1 : l.1.1 < 2 ^ 39) (h2 : l.1.2 < 2 ^ 39) : Nc (.lst [tripD l]) 200 3 := (nc_lst (m := 1) (n := 132) (k := 2) (fun d hd => by
  rw [List.mem_singleton.mp hd]
  refine nc_tup (m := 3) (n := 41) (k := 1) (fun d hd => ?_) (by show 3 ≤ 3; decide)
  simp only [List.mem_cons, List.not_mem_nil, or_false] at hd
  rcases hd with rfl | rfl | rfl
  · exact nc_int40 (Nat.lt_trans (by omega : ((l.1.1 : Nat) : Int).natAbs < 2 ^ 39) (by decide))
  · exact nc_int40 (Nat.lt_trans (by omega : ((l.1.2 : Nat) : Int).natAbs < 2 ^ 39) (by decide))
  · exact (nc_bl _).mono (by decide) (by decide)) (by show 1 ≤ 1; decide)).mono (by decide) (by decide)
theorem nc_nil : Nc (.lst []) 200 3 := (nc_lst (m := 0) (n := 1) (k := 1) (fun d h => by cases h) (Nat.le_refl _)).mono (by decide) (by decide)
theorem eqNil_non : dEq .non (.lst []) = some (.val (.bl false)) := by
  simp [dEq, dEq?, toPy, toPys, SeqAt.shaped, PySem.PyData.canLay0, PySem.PyData.canLayAll0, PySem.PyData.depth, PySem.PyData.depthAll, PySem.PyData.eqv]
theorem nc_ws {ws : List Nat} {n : Nat} (h : ∀ v ∈ ws, v < 2 ^ 39) (hl : ws.length ≤ n) : Nc (.lst (dI ws)) (n * 41 + 2 * n + 3) 2 := nc_lst (m := n) (n := 41) (k := 1) (fun d hd => by
  obtain ⟨v, hv, rfl⟩ := List.mem_map.mp hd
  exact nc_int40 (Nat.lt_trans (by have := h v hv; omega : ((v : Nat) : Int).natAbs < 2 ^ 39) (by decide))) (by rw [List.length_map]; exact hl)
theorem dI_nil {ws : List Nat} : (dI ws).isEmpty = ws.isEmpty := by cases ws <;> rfl
/-- the three cells -/
abbrev h3 (h : Hs) (r : List Col) (st : List Ev.D) (ws : List Nat) : Hs := h ++ [Cell.lls (llR r), .lst st, .lst (dI ws)]
section
variable {h : Hs} {r : List Col} {st st' : List Ev.D} {ws ws' : List Nat}
theorem h3_0 : (h3 h r st ws)[h.length]? = some (.lls (llR r)) := by rw [List.getElem?_append_right (Nat.le_refl _), Nat.sub_self]; rfl
theorem h3_1 : (h3 h r st ws)[h.length + 1]? = some (.lst st) := by rw [List.getElem?_append_right (by omega), show h.length + 1 - h.length = 1 by omega]; rfl
theorem h3_2 : (h3 h r st ws)[h.length + 2]? = some (.lst (dI ws)) := by rw [List.getElem?_append_right (by omega), show h.length + 2 - h.length = 2 by omega]; rfl
theorem h3_s0 {x : Cell} : (h3 h r st ws).set h.length x = h ++ [x, .lst st, .lst (dI ws)] := by rw [List.set_append_right _ _ (Nat.le_refl _), Nat.sub_self]; rfl
theorem h3_s1 : (h3 h r st ws).set (h.length + 1) (.lst st') = h3 h r st' ws := by rw [List.set_append_right _ _ (by omega), show h.length + 1 - h.length = 1 by omega]; rfl
theorem h3_s2 : (h3 h r st ws).set (h.length + 2) (.lst (dI ws')) = h3 h r st ws' := by rw [List.set_append_right _ _ (by omega), show h.length + 2 - h.length = 2 by omega]; rfl
end
theorem llR_put {r : List Col} {k j : Nat} {b : Bool} {ds : List Ev.D} (hd : (llR r)[k]? = some ds) : (llR r).set k (ds.set j (.bl b)) = llR (putS r k j (some b)) := by
  unfold llR at hd ⊢
  rw [List.getElem?_map] at hd
  cases hr : r[k]? with
  | none => rw [hr] at hd; cases hd
  | some c =>
    rw [hr] at hd
    have hd : c.map eD = ds := Option.some.inj hd
    subst hd
    unfold putS
    rw [hr, List.map_set, Option.getD_some, List.map_set]
    rfl
end Lk
end
section
set_option Elab.async false
set_option linter.all false
set_option maxRecDepth 100000
set_option maxHeartbeats 4000000
/-! Lq7: follow: one step, one column, the whole. -/
namespace Lk
open PySem Ev Dk
def fB : Sx := (sSeq (sSet 7 (eCall 3 m_told_by [] (aCons (nO 0) (aCons (nO 2) (aCons (nO 6) aNil)))))
    (sSeq (sIf (bOf (eBin dEq (nO 7) (xO (eLst aNil))))
    (sRet (eTup (aCons (xO (eTakeL 2)) (aCons (xO (eLst (aStar (eTake 3) (aCons (xO (eVar 6)) aNil)))) (aCons (xO (eC (.bl false))) aNil)))))
    sNx)
    (sIf (bOf (eBin dNotN (nO 7) (xO (eC .non))))
    (sSeq (sAsg (gTp 3 (gCons' (gNm 8) (gCons' (gNm 9) (gCons' (gNm 10) gNil')))) (eBin dIx (nO 7) (xO (eC (.int 0)))))
    (sSeq (sStore2 2 (eVar 8) (eVar 9) (eVar 10))
    (sSeq (sExpr (eList mApp 3 (aCons (xO (eVar 6)) aNil)))
    (sExpr (eList mExt 4 (aCons (xO (eComp [11] (iVal (eTup (aCons (xO (eVar 8)) (aCons (xO (eVar 5)) aNil)))) (gNm 11) (bOf (eBin dNotIn (xO (eVar 11)) (nO 4))) (eVar 11))) aNil))))))
    sNx)))
def fW : Sx := (sSeq (sSet 5 (eList mPopAt 4 (aCons (xO (eC (.int 0))) aNil)))
    (sFor (iVal (eCall 3 m_steps_at [] (aCons (nO 0) (aCons (xO (eB bLen (aCons (nO 1) aNil))) (aCons (nO 5) aNil))))) (gNm 6)
    fB))
theorem m_follow_eq : m_follow = fnE 12 (sSeq (sMulti [2, 3, 4] (pConsLL [8] (iVal (eVar 1)) (gNm 8) tYesE (eB bList (aCons (xO (eVar 8)) aNil)) (pCons true (eLst aNil) (pCons true (eLstRg1 (eB bLen (aCons (nO 1) aNil))) pNil)))) (sSeq (sWhile (fun _ _ => 1000000) (bOf (eBin dNe (nO 4) (xO (eLst aNil)))) fW) (sRet (eTup (aCons (xO (eTakeL 2)) (aCons (xO (eTake 3)) (aCons (xO (eC (.bl true))) aNil))))))) := rfl
abbrev leF (w : Wr) (r : List Col) (a : Nat) (x5 x6 x7 x8 x9 x10 x11 : Option SV) : Nv := [some (.val w.D), some (.val (rD r)), some (.loc a), some (.loc (a + 1)), some (.loc (a + 2)), x5, x6, x7, x8, x9, x10, x11]
section
variable {h : Hs} {N : Nv → Hs → Prop} {R : RV → Hs → Prop} {w : Wr} {m : Int} {W : Nat} {r r2 : List Col} {st2 : List Ev.D} {ws : List Nat} {c : Nat} {s : Stp} {x7 x8 x9 x10 x11 : Option SV}
theorem fB_ok {S : Sx} (hS : S = fB) (hw : w.Ok m) (hW : w.wide = W) (hl2 : r2.length ≤ 1000) (hc2 : ∀ c ∈ r2, c.length = W) (hin : InW w s) (hok : StpOk W r2.length s) (hws : ∀ v ∈ ws, v < 1000) (hwl : ws.length ≤ 50000) (hst : st2.length ≤ 50000)
    (hq : Lq.Quiet (entR r2) (clsOf W s) → ∀ y7, N (leF w r h.length (some (.val (.int (c : Nat)))) (some (.val s.P)) y7 x8 x9 x10 x11) (h3 h r2 st2 ws))
    (hb : Lq.Broken (entR r2) (clsOf W s) → ∀ d1 d2 hh, hh.take h.length = h → R (.val (.tup [d1, d2, .bl false])) hh)
    (ht : ∀ l, Lq.Tell (entR r2) (clsOf W s) l → ∀ y7 y8 y9 y10 y11, N (leF w r h.length (some (.val (.int (c : Nat)))) (some (.val s.P)) y7 y8 y9 y10 y11) (h3 h (putS r2 l.1.1 l.1.2 (some l.2)) (st2 ++ [s.P]) (ws ++ [l.1.1, c].filter fun v => !decide (v ∈ ws)))) :
    WS S (leF w r h.length (some (.val (.int (c : Nat)))) (some (.val s.P)) x7 x8 x9 x10 x11) (h3 h r2 st2 ws) N R := by
  subst hS
  have n4 : W ≤ 4 := by have := hw.w4; omega
  have n1 : 1 ≤ W := by have := hw.i1; have := hw.iw; omega
  unfold fB
  rw [ws_seq, ws_set, we_call, wa_cons, wo_n (s := .val w.D) rfl, wa_cons, wo_n (s := .loc h.length) rfl, wa_cons, wo_n (s := .val s.P) rfl, wa_nil]
  refine ⟨[.val w.D, .loc h.length, .val s.P], by rw [svs_sl (s := .val w.D) rfl, svs_sl (s := .loc h.length) rfl, svs_sl (s := .val s.P) rfl]; rfl, rfl, toldBy_ok hw hW h3_0 hc2 hin hok (fun hqu => ?_) (fun hbr => ?_) fun l hte => ?_⟩
  · simp only [List.set_cons_succ, List.set_cons_zero, vl_val]
    rw [ws_seq, ws_if, wt_of, we_bin, wo_n (s := .val .non) rfl, wo_x, we_lst, wa_nil]
    refine ⟨_, rfl, by decide, _, force_val rfl, _, rfl, _, eqNil_non, _, rfl, ?_⟩
    rw [if_neg (by decide), ws_nx, ws_if, wt_of, we_bin, wo_n (s := .val .non) rfl, wo_x, we_c]
    refine ⟨_, force_val rfl, _, rfl, .val (.bl false), rfl, _, rfl, ?_⟩
    rw [if_neg (by decide), ws_nx]
    exact hq hqu _
  · simp only [List.set_cons_succ, List.set_cons_zero, vl_fresh]
    rw [ws_seq, ws_if, wt_of, we_bin, wo_n (s := .val (.lst [])) rfl, wo_x, we_lst, wa_nil]
    refine ⟨_, rfl, by decide, _, force_val rfl, _, rfl, _, nc_nil.eqNil (by decide), _, rfl, ?_⟩
    rw [if_pos (show ([] : List Ev.D).isEmpty = true from rfl), ws_ret, we_tup, wa_cons, wo_x, we_takeL (n := h.length) rfl h3_0, h3_s0, wa_cons, wo_x, we_lst, wa_star]
    rw [we_takeQ (n := h.length + 1) (ds := st2) rfl (by rw [List.getElem?_append_right (by omega), show h.length + 1 - h.length = 1 by omega]; rfl)]
    refine ⟨st2, rfl, ?_⟩
    rw [wa_cons, wo_x, we_var]
    refine ⟨_, rfl, ?_⟩
    rw [wa_nil]
    have go : ∀ ds : List Ev.D, plains (ds.map OV.vl ++ [.vl (RV.val s.P).vl]) = some (ds ++ [s.P]) := fun ds => by
      induction ds with
      | nil => rfl
      | cons d ds ih => rw [List.map_cons, List.cons_append, plains_vl, ih]; rfl
    refine ⟨_, go st2, by rw [List.length_append, sizeLine_eq]; show _ + 1 ≤ _; omega, ?_⟩
    rw [wa_cons, wo_x, we_c, wa_nil]
    refine ⟨_, rfl, by rw [sizeLine_eq]; show 3 ≤ _; decide, ?_⟩
    refine hb hbr _ _ _ ?_
    rw [List.set_append_right _ _ (by omega), List.take_append_of_le_length (Nat.le_refl _), List.take_length]
  · obtain ⟨x, hx, hlx⟩ := List.mem_map.mp hte.mem
    obtain ⟨p1, p2⟩ := lit_in n1 hok hx
    rw [hlx] at p1 p2
    obtain ⟨ds, d1, d2, d3⟩ := ll_at hc2 p1 p2
    have rl : (llR r2).length = r2.length := by unfold llR; rw [List.length_map]
    have nct := nc_trip (l := l) (Nat.lt_trans (by omega : l.1.1 < 1001) (by decide)) (Nat.lt_trans (by omega : l.1.2 < 5) (by decide))
    simp only [List.set_cons_succ, List.set_cons_zero, vl_fresh]
    rw [ws_seq, ws_if, wt_of, we_bin, wo_n (s := .val (.lst [tripD l])) rfl, wo_x, we_lst, wa_nil]
    refine ⟨_, rfl, by decide, _, force_val rfl, _, rfl, _, nct.eqNil (by decide), _, rfl, ?_⟩
    rw [if_neg (show ¬ ([tripD l].isEmpty = true) from fun z => by cases z), ws_nx, ws_if, wt_of, we_bin, wo_n (s := .val (.lst [tripD l])) rfl, wo_x, we_c]
    refine ⟨_, force_val rfl, _, rfl, .val (.bl true), rfl, _, rfl, ?_⟩
    rw [if_pos rfl, ws_seq, ws_asg, we_bin, wo_n (s := .val (.lst [tripD l])) rfl, wo_x, we_c]
    refine ⟨_, force_val rfl, _, rfl, .val (tripD l), rfl, ?_⟩
    refine ⟨leF w r h.length (some (.val (.int (c : Nat)))) (some (.val s.P)) (some (.val (.lst [tripD l]))) (some (.val (.int (l.1.1 : Nat)))) (some (.val (.int (l.1.2 : Nat)))) (some (.val (.bl l.2))) x11, rfl, ?_⟩
    rw [ws_seq]
    refine ws_store2 (n := h.length) rfl ?_
    rw [we_var]
    refine ⟨_, rfl, ?_⟩
    rw [we_var]
    refine ⟨_, rfl, _, llR r2, l.1.1, rfl, h3_0, by unfold L2.ixN; rw [if_pos (by omega), if_pos (by omega), Int.toNat_natCast], ?_⟩
    rw [we_var]
    refine ⟨_, rfl, _, llR r2, ds, l.1.2, rfl, h3_0, d1, by unfold L2.ixN; rw [if_pos (by omega), if_pos (by omega), Int.toNat_natCast], ?_⟩
    rw [vl_val, llR_put d1, h3_s0]
    show WS _ _ (h3 h (putS r2 l.1.1 l.1.2 (some l.2)) st2 ws) _ _
    rw [ws_seq, ws_expr, we_meth (n := h.length + 1) rfl h3_1, wa_cons, wo_x, we_var]
    refine ⟨_, rfl, ?_⟩
    rw [wa_nil]
    refine ⟨_, rfl, _, h3_1, _, app_d (by rw [sizeLine_eq]; omega), ?_⟩
    rw [h3_s1]
    rw [ws_expr, we_meth (n := h.length + 2) rfl h3_2, wa_cons, wo_x]
    refine we_comp (fun d => match d with
      | .int t => !decide (t.toNat ∈ ws)
      | _ => false) id ?_
    rw [wi_val, we_tup, wa_cons, wo_x, we_var]
    refine ⟨_, rfl, ?_⟩
    rw [wa_cons, wo_x, we_var]
    refine ⟨_, rfl, ?_⟩
    rw [wa_nil]
    refine ⟨_, rfl, by rw [sizeLine_eq]; show 2 ≤ _; decide, dI [l.1.1, c], rfl, by rw [sizeLine_eq]; show 2 < _; decide, fun d hd => ?_, ?_⟩
    · obtain ⟨v, hv, rfl⟩ := List.mem_map.mp hd
      refine ⟨_, rfl, ?_, fun _ => ?_⟩
      · show WT _ [some (.val w.D), some (.val (rD r)), some (.loc h.length), some (.loc (h.length + 1)), some (.loc (h.length + 2)), some (.val (.int (c : Nat))), some (.val s.P), some (.val (.lst [tripD l])), some (.val (.int (l.1.1 : Nat))), some (.val (.int (l.1.2 : Nat))), some (.val (.bl l.2)), some (.val (.int (v : Nat)))] _ _
        rw [wt_of, we_bin, wo_x, we_var]
        refine ⟨_, rfl, ?_⟩
        rw [wo_n (s := .loc (h.length + 2)) rfl]
        exact ⟨_, rfl, _, force_loc rfl h3_2, _, notIn_int v ws, _, rfl, rfl, rfl⟩
      · show WE _ [some (.val w.D), some (.val (rD r)), some (.loc h.length), some (.loc (h.length + 1)), some (.loc (h.length + 2)), some (.val (.int (c : Nat))), some (.val s.P), some (.val (.lst [tripD l])), some (.val (.int (l.1.1 : Nat))), some (.val (.int (l.1.2 : Nat))), some (.val (.bl l.2)), some (.val (.int (v : Nat)))] _ _
        rw [we_var]
        exact ⟨_, rfl, rfl, rfl⟩
    · have ef : ((dI [l.1.1, c]).filter fun d => match d with
        | .int t => !decide (t.toNat ∈ ws)
        | _ => false) = dI ([l.1.1, c].filter fun v => !decide (v ∈ ws)) := by
        rw [List.filter_map]
        rfl
      rw [ef, List.map_id, wa_nil]
      have few : ([l.1.1, c].filter fun v => !decide (v ∈ ws)).length ≤ 2 := List.length_filter_le _ _
      refine ⟨_, rfl, _, h3_2, _, ext_l (by rw [List.length_map, List.length_map]; omega), ?_⟩
      rw [← List.map_append, h3_s2]
      exact ht l hte _ _ _ _ _
end
end Lk
end
section
set_option Elab.async false
set_option linter.all false
set_option maxRecDepth 100000
set_option maxHeartbeats 4000000
/-! Lq8: follow, the program's: one column, the whole. -/
namespace Lk
open PySem Ev Dk
structure FI (w : Wr) (W : Nat) (r r2 : List Col) (ws : List Nat) (ex : Nat → Prop) : Prop where
  len : r2.length = r.length
  wide : ∀ c ∈ r2, c.length = W
  reach : Lq.Reach (stepsC w W r.length) (entR r) (entR r2)
  lt : ∀ v ∈ ws, v < r.length
  J : ∀ s ∈ flatTo w r.length 4, (∀ l ∈ clsOf W s, l.1.1 ∉ ws ∧ ¬ ex l.1.1) → Lq.Quiet (entR r2) (clsOf W s)
section
variable {h : Hs} {N : Nv → Hs → Prop} {R : RV → Hs → Prop} {w : Wr} {m : Int} {W : Nat} {r r1 : List Col} {st : List Ev.D} {ws : List Nat} {c : Nat} {x5 x6 x7 x8 x9 x10 x11 : Option SV}
theorem fW_ok {S : Sx} (hS : S = fW) (hw : w.Ok m) (hW : w.wide = W) (hr1 : 1 ≤ r.length) (hr2 : r.length ≤ 1000) (I : FI w W r r1 (c :: ws) fun _ => False) (hst : st.length + nonesR r1 ≤ 20000) (hms : 3 * nonesR r1 + ws.length ≤ 40000)
    (hb : Lq.Ends (stepsC w W r.length) (entR r) none → ∀ d1 d2 hh, hh.take h.length = h → R (.val (.tup [d1, d2, .bl false])) hh)
    (hn : ∀ r2 st2 ws2, FI w W r r2 ws2 (fun _ => False) → 3 * nonesR r2 + ws2.length < 3 * nonesR r1 + (ws.length + 1) → st2.length + nonesR r2 ≤ st.length + nonesR r1 → ∀ y5 y6 y7 y8 y9 y10 y11, N (leF w r h.length y5 y6 y7 y8 y9 y10 y11) (h3 h r2 st2 ws2)) :
    WS S (leF w r h.length x5 x6 x7 x8 x9 x10 x11) (h3 h r1 st (c :: ws)) N R := by
  subst hS
  have n1 : 1 ≤ W := by have := hw.i1; have := hw.iw; omega
  have hc : c < r.length := I.lt c List.mem_cons_self
  have lz : (r.map cD).length = r.length := List.length_map ..
  unfold fW
  generalize hfB : fB = vB
  generalize hm1 : m_steps_at = m1
  rw [ws_seq, ws_set, we_meth (n := h.length + 2) rfl h3_2, wa_cons, wo_x, we_c, wa_nil]
  refine ⟨_, rfl, _, h3_2, _, popAt_ii (d := .int (c : Nat)) (by decide) (by decide) rfl, ?_⟩
  show WS _ (leF w r h.length (some (.val (.int (c : Nat)))) x6 x7 x8 x9 x10 x11) ((h3 h r1 st (c :: ws)).set (h.length + 2) (.lst (dI ws))) _ _
  rw [h3_s2]
  generalize hE : leF w r h.length (some (.val (.int (c : Nat)))) x6 x7 x8 x9 x10 x11 = E
  have g0 : E[0]? = some (some (.val w.D)) := by rw [← hE]; rfl
  have g1 : E[1]? = some (some (.val (rD r))) := by rw [← hE]; rfl
  have g5 : E[5]? = some (some (.val (.int (c : Nat)))) := by rw [← hE]; rfl
  refine ws_for ?_
  rw [wi_val, we_call, wa_cons, wo_n g0, wa_cons, wo_x, we_B, wa_cons, wo_n g1, wa_nil]
  refine ⟨_, forces_cons (force_val g1) rfl, .val (.int (r.map cD).length), rfl, ?_⟩
  rw [wa_cons, wo_n g5, wa_nil, lz]
  refine ⟨[.val w.D, .val (.int r.length), .val (.int (c : Nat))], by rw [svs_sl g0, vl_val, svs_vl, svs_sl g5]; rfl, rfl, stepsAt_ok hm1.symm hw hc hr2 ?_⟩
  refine ⟨(atC w r.length c 4).map Stp.P, rfl, fun i e hh => ∃ (r2 : List Col) (st2 : List Ev.D) (ws2 : List Nat) (y6 y7 y8 y9 y10 y11 : Option SV), e = leF w r h.length (some (.val (.int (c : Nat)))) y6 y7 y8 y9 y10 y11 ∧ hh = h3 h r2 st2 ws2 ∧ FI w W r r2 ws2 (fun v => v = c) ∧ 3 * nonesR r2 + ws2.length ≤ 3 * nonesR r1 + ws.length ∧ st2.length + nonesR r2 ≤ st.length + nonesR r1 ∧
      (c ∈ ws2 ∨ (r2 = r1 ∧ ws2 = ws ∧ ∀ s ∈ (atC w r.length c 4).take i, Lq.Quiet (entR r1) (clsOf W s))),
    ⟨r1, st, ws, x6, x7, x8, x9, x10, x11, hE.symm, rfl, ⟨I.len, I.wide, I.reach, fun v hv => I.lt v (List.mem_cons_of_mem _ hv), fun s hs hl => I.J s hs fun l hm => ⟨fun z => ?_, fun z => z⟩⟩, Nat.le_refl _, Nat.le_refl _, .inr ⟨rfl, rfl, fun s hs => by simp at hs⟩⟩, fun i y e hh hy J => ?_, fun e hh J => ?_⟩
  · rcases List.mem_cons.mp z with z | z
    · exact (hl l hm).2 z
    · exact (hl l hm).1 z
  · obtain ⟨r2, st2, ws2, y6, y7, y8, y9, y10, y11, rfl, rfl, F, hme, hs2, hor⟩ := J
    rw [List.getElem?_map] at hy
    cases hx : (atC w r.length c 4)[i]? with
    | none => rw [hx] at hy; cases hy
    | some s =>
      rw [hx] at hy; cases hy
      have hsm : s ∈ atC w r.length c 4 := List.mem_of_getElem? hx
      have hsf := at_flat hc hsm
      have hok0 := flat_steps hw hW hr1 s hsf
      have hok : StpOk W r2.length s := by rw [F.len]; exact hok0
      have hmc : clsOf W s ∈ stepsC w W r.length := List.mem_map_of_mem hsf
      refine ⟨leF w r h.length (some (.val (.int (c : Nat)))) (some (.val s.P)) y7 y8 y9 y10 y11, rfl, ?_⟩
      refine fB_ok hfB.symm hw hW (by rw [F.len]; exact hr2) F.wide (at_inW hsm) hok (fun v hv => by have := F.lt v hv; omega) (by omega) (by omega) (fun hqu y7 => ?_) (fun hbr d1 d2 hh hth => hb ⟨_, F.reach, _, hmc, hbr⟩ d1 d2 hh hth) fun l hte y7 y8 y9 y10 y11 => ?_
      · refine ⟨r2, st2, ws2, _, _, _, _, _, _, rfl, rfl, F, hme, hs2, ?_⟩
        rcases hor with z | ⟨rfl, rfl, hq⟩
        · exact .inl z
        · refine .inr ⟨rfl, rfl, fun s' hs' => ?_⟩
          rw [List.take_add_one, hx] at hs'
          rcases List.mem_append.mp hs' with z | z
          · exact hq s' z
          · rw [List.mem_singleton.mp z]; exact hqu
      · obtain ⟨x, hxm, hlx⟩ := List.mem_map.mp hte.mem
        obtain ⟨p1, p2⟩ := lit_in n1 hok hxm
        rw [hlx] at p1 p2
        have hen : entR r2 l.1 = none := Lq.worth_non.mp hte.non
        have hpl : (r2[l.1.1]?.getD [])[l.1.2]? = some none := by
          have hwl : (r2[l.1.1]?.getD []).length = W := by rw [List.getElem?_eq_getElem p1]; exact F.wide _ (List.getElem_mem _)
          unfold entR at hen
          rw [List.getElem?_eq_getElem (by omega)] at hen ⊢
          exact congrArg some hen
        have hnp := nones_put (b := l.2) p1 hpl
        have hep : entR (putS r2 l.1.1 l.1.2 (some l.2)) = Lq.put (entR r2) l.1 l.2 := entR_put F.wide p1 p2
        have few : ([l.1.1, c].filter fun v => !decide (v ∈ ws2)).length ≤ 2 := List.length_filter_le _ _
        have kin : ∀ v, v = l.1.1 ∨ v = c → v ∈ ws2 ++ [l.1.1, c].filter fun v => !decide (v ∈ ws2) := fun v hv => by
          by_cases z : v ∈ ws2
          · exact List.mem_append_left _ z
          · refine List.mem_append_right _ (List.mem_filter.mpr ⟨?_, by simp [z]⟩)
            rcases hv with rfl | rfl
            · exact List.mem_cons_self
            · exact List.mem_cons_of_mem _ List.mem_cons_self
        refine ⟨_, _, _, _, _, _, _, _, _, rfl, rfl, ⟨by rw [putS_len, F.len], putS_wide F.wide p1, ?_, fun v hv => ?_, fun s' hs' hl' => ?_⟩, ?_, ?_, .inl (kin c (.inr rfl))⟩
        · rw [hep]; exact .step F.reach hmc hte
        · rcases List.mem_append.mp hv with z | z
          · exact F.lt v z
          · have := (List.mem_filter.mp z).1
            simp only [List.mem_cons, List.not_mem_nil, or_false] at this
            rcases this with rfl | rfl
            · rw [F.len] at p1; exact p1
            · exact hc
        · rw [hep]
          refine Lq.quiet_put (fun l' hm' z => (hl' l' hm').1 ?_) (F.J s' hs' fun l' hm' => ⟨fun z => (hl' l' hm').1 (List.mem_append_left _ z), (hl' l' hm').2⟩)
          rw [z]; exact kin _ (.inl rfl)
        · rw [List.length_append]; omega
        · rw [List.length_append]
          show st2.length + 1 + _ ≤ _
          omega
  · obtain ⟨r2, st2, ws2, y6, y7, y8, y9, y10, y11, rfl, rfl, F, hme, hs2, hor⟩ := J
    refine hn r2 st2 ws2 ⟨F.len, F.wide, F.reach, F.lt, fun s hs hl => ?_⟩ (by omega) hs2 _ _ _ _ _ _ _
    rcases hor with z | ⟨rfl, rfl, hq⟩
    · exact F.J s hs fun l hm => ⟨(hl l hm).1, fun e => (hl l hm).1 (e ▸ z)⟩
    · by_cases t : ∃ l ∈ clsOf W s, l.1.1 = c
      · obtain ⟨l, hm, e⟩ := t
        have := touch_at hw hW hs (flat_steps hw hW hr1 s hs) hm e
        rw [List.length_map, List.take_length] at hq
        exact hq s this
      · exact F.J s hs fun l hm => ⟨(hl l hm).1, fun e => t ⟨l, hm, e⟩⟩
end
theorem follow_ok {m0 : Fx} (hm0 : m0 = m_follow) {h : Hs} {Q : RV → Hs → Prop} {w : Wr} {m : Int} (hw : w.Ok m) {W : Nat} (hW : w.wide = W) {r : List Col} (h1 : 1 ≤ r.length) (h2 : r.length ≤ 1000) (hc : ∀ c ∈ r, c.length = W)
    (q0 : Lq.Ends (stepsC w W r.length) (entR r) none → ∀ d1 d2, Q (.val (.tup [d1, d2, .bl false])) h)
    (q : ∀ (r2 : List Col) d2, r2.length = r.length → (∀ c ∈ r2, c.length = W) → Lq.Ends (stepsC w W r.length) (entR r) (some (entR r2)) → Q (.val (.tup [.lst ((llR r2).map D.lst), d2, .bl true])) h) : WF m0 [.val w.D, .val (rD r)] h Q := by
  subst hm0
  have n4 : W ≤ 4 := by have := hw.w4; omega
  have n1 : 1 ≤ W := by have := hw.i1; have := hw.iw; omega
  have lz : (r.map cD).length = r.length := List.length_map ..
  rw [m_follow_eq, wf_fn]
  generalize hfW : fW = vW
  show WS _ [some (.val w.D), some (.val (rD r)), none, none, none, none, none, none, none, none, none, none] h _ _
  rw [ws_seq]
  generalize hE0 : ([some (.val w.D), some (.val (rD r)), none, none, none, none, none, none, none, none, none, none] : Nv) = E0
  have g0 : E0[0]? = some (some (.val w.D)) := by rw [← hE0]; rfl
  have g1 : E0[1]? = some (some (.val (rD r))) := by rw [← hE0]; rfl
  rw [ws_multi]
  refine wp_LL (fun d => match d with
    | .tup es => es
    | _ => []) ?_
  rw [wi_val, we_var]
  refine ⟨_, g1, r.map cD, rfl, by rw [lz, sizeLine_eq]; omega, fun d hd => ?_, ?_⟩
  · obtain ⟨c, hc', rfl⟩ := List.mem_map.mp hd
    rw [← hE0]
    exact ⟨_, rfl, rfl, rfl⟩
  have ell : (r.map cD).map (fun d => match d with
    | .tup es => es
    | _ => []) = llR r := by rw [List.map_map]; rfl
  rw [ell, wp_new, we_lst, wa_nil]
  refine ⟨_, rfl, by decide, _, rfl, ?_⟩
  rw [wp_new]
  refine we_lstRg1 ?_
  rw [we_B, wa_cons, wo_n g1, wa_nil]
  refine ⟨_, forces_cons (force_val g1) rfl, .val (.int (r.map cD).length), rfl, _, rfl, by rw [lz]; unfold rgOk small62; simp; omega, _, rfl, ?_⟩
  rw [wp_nil]
  refine ⟨leF w r h.length none none none none none none none, by
    rw [← hE0]
    show some _ = some _
    simp [setsE], ?_⟩
  have eh : (h ++ [Cell.lls (llR r)]) ++ [Cell.lst []] ++ [Cell.lst (rangeD 0 ((r.map cD).length : Int).toNat)] = h3 h r [] (List.range r.length) := by
    rw [lz, Int.toNat_natCast, range_D, List.append_assoc, List.append_assoc]; rfl
  rw [eh, ws_seq]
  generalize hE : leF w r h.length none none none none none none none = E
  have hn0 := nones_le hc
  have hn1 : r.length * W ≤ 1000 * 4 := Nat.mul_le_mul h2 n4
  refine ws_while (fun mm e hh => ∃ (r1 : List Col) (st : List Ev.D) (ws : List Nat) (x5 x6 x7 x8 x9 x10 x11 : Option SV), e = leF w r h.length x5 x6 x7 x8 x9 x10 x11 ∧ hh = h3 h r1 st ws ∧ FI w W r r1 ws (fun _ => False) ∧ mm = 3 * nonesR r1 + ws.length ∧ 3 * nonesR r1 + ws.length ≤ 30000 ∧ st.length + nonesR r1 ≤ 10000) (3 * nonesR r + (List.range r.length).length) ?_
    ⟨r, [], List.range r.length, none, none, none, none, none, none, none, hE.symm, rfl, ⟨rfl, hc, .refl, fun v hv => List.mem_range.mp hv, fun s hs hl => ?_⟩, rfl, by rw [List.length_range]; omega, by show 0 + _ ≤ _; omega⟩ fun mm e hh I => ?_
  · show _ < 1000000
    rw [List.length_range]; omega
  · have hne := flat_pos hw hW hs
    obtain ⟨x, hx⟩ := List.exists_mem_of_ne_nil _ hne
    have := lit_in n1 (flat_steps hw hW h1 s hs) hx
    exact absurd (List.mem_range.mpr this.1) (hl _ (List.mem_map_of_mem hx)).1
  obtain ⟨r1, st, ws, x5, x6, x7, x8, x9, x10, x11, rfl, rfl, F, rfl, hm1, hm2⟩ := I
  have ncw := nc_ws (ws := ws) (n := 30000) (fun v hv => Nat.lt_trans (Nat.lt_of_lt_of_le (F.lt v hv) h2) (by decide)) (by omega)
  rw [wt_of, we_bin, wo_n (s := .loc (h.length + 2)) rfl, wo_x, we_lst, wa_nil]
  refine ⟨_, rfl, by decide, _, force_loc rfl h3_2, _, rfl, _, ncw.neNil (by decide), _, rfl, ?_⟩
  rw [dI_nil]
  cases ws with
  | nil =>
    rw [if_neg (show ¬ ((!([] : List Nat).isEmpty) = true) from fun z => by cases z), ws_ret, we_tup, wa_cons, wo_x, we_takeL (n := h.length) rfl h3_0, h3_s0, wa_cons, wo_x]
    rw [we_takeQ (n := h.length + 1) (ds := st) rfl (by rw [List.getElem?_append_right (by omega), show h.length + 1 - h.length = 1 by omega]; rfl)]
    rw [wa_cons, wo_x, we_c, wa_nil]
    refine ⟨_, rfl, by rw [sizeLine_eq]; show 3 ≤ _; decide, ?_⟩
    rw [List.set_append_right _ _ (by omega), List.take_append_of_le_length (Nat.le_refl _), List.take_length]
    refine q r1 _ F.len F.wide ⟨F.reach, fun cl hcl => ?_⟩
    obtain ⟨s, hs, rfl⟩ := List.mem_map.mp hcl
    exact F.J s hs fun l _ => ⟨fun z => (nomatch z), fun z => z⟩
  | cons c ws =>
    rw [if_pos (show (!(c :: ws).isEmpty) = true from rfl)]
    have hwl : (c :: ws).length = ws.length + 1 := rfl
    refine fW_ok hfW.symm hw hW h1 h2 F (by omega) (by omega) (fun he d1 d2 hh hth => ?_) fun r2 st2 ws2 F2 hlt hst2 y5 y6 y7 y8 y9 y10 y11 => ⟨3 * nonesR r2 + ws2.length, by rw [hwl]; exact hlt, r2, st2, ws2, y5, y6, y7, y8, y9, y10, y11, rfl, rfl, F2, rfl, by omega, by omega⟩
    rw [hth]
    exact q0 he d1 d2
end Lk
end
section
set_option Elab.async false
set_option linter.all false
set_option maxRecDepth 100000
set_option maxHeartbeats 4000000
/-! Lq9: followed, bare rows, seen. -/
namespace Lk
open PySem Ev Dk
theorem repl1 (m : Nat) (x : Ev.D) : (List.replicate m [x]).flatten = List.replicate m x := by
  induction m with
  | zero => rfl
  | succ m ih => rw [List.replicate_succ, List.flatten_cons, ih]; rfl
theorem ixw0 (w : Wr) : dIx w.D (.int 0) = some (.val (.int w.ins)) := rfl
theorem ixw1 (w : Wr) : dIx w.D (.int 1) = some (.val (.int w.wide)) := rfl
theorem dMul_non {k : Int} (h0 : 0 ≤ k) (h1 : k ≤ 100) : dMul (.tup [.non]) (.int k) = some (.val (cD (List.replicate k.toNat none))) := by
  show ((iMul (.tup [.non]) (.int k)).or ((lMul (.tup [.non]) (.int k)).or (tMul (.tup [.non]) (.int k)))) = _
  have e : tMul (.tup [.non]) (.int k) = some (.val (.tup (List.replicate k.toNat [Ev.D.non]).flatten)) := by
    unfold tMul
    exact if_pos ⟨by omega, by omega, by show 1 ≤ 1000; decide⟩
  rw [e, repl1]
  show some (RV.val (.tup (List.replicate k.toNat Ev.D.non))) = some (RV.val (.tup ((List.replicate k.toNat (none : Option Bool)).map eD)))
  rw [List.map_replicate]
  rfl
/-- a row or None, as a call gives it -/
def rvO : Option (List Col) → RV
  | none => .val .non
  | some r => .fresh (r.map cD)
def rO : Option (List Col) → Ev.D
  | none => .non
  | some r => rD r
theorem rvO_vl (a : Option (List Col)) : (rvO a).vl = rO a := by cases a <;> rfl
/-- what following of a row comes to -/
structure FolS (w : Wr) (W : Nat) (r : List Col) (a : Option (List Col)) : Prop where
  shape : ∀ r2, a = some r2 → r2.length = r.length ∧ ∀ c ∈ r2, c.length = W
  ends : Lq.Ends (stepsC w W r.length) (entR r) (a.map entR)
theorem folS_one {w : Wr} {W : Nat} {r : List Col} {a b : Option (List Col)} (x : FolS w W r a) (y : FolS w W r b) : a = b := by
  have := Lq.ends_unique x.ends y.ends
  cases a with
  | none => cases b with
    | none => rfl
    | some r2 => cases this
  | some r1 => cases b with
    | none => cases this
    | some r2 =>
      obtain ⟨l1, w1⟩ := x.shape r1 rfl
      obtain ⟨l2, w2⟩ := y.shape r2 rfl
      have e : entR r1 = entR r2 := Option.some.inj this
      rw [row_ext (l1.trans l2.symm) w1 w2 e]
theorem followed_ok {m0 : Fx} (hm0 : m0 = m_followed) {h : Hs} {Q : RV → Hs → Prop} {w : Wr} {m : Int} (hw : w.Ok m) {W : Nat} (hW : w.wide = W) {r : List Col} (h1 : 1 ≤ r.length) (h2 : r.length ≤ 1000) (hc : ∀ c ∈ r, c.length = W)
    (q : ∀ a, FolS w W r a → Q (rvO a) h) : WF m0 [.val w.D, .val (rD r)] h Q := by
  subst hm0
  have n4 : W ≤ 4 := by have := hw.w4; omega
  unfold m_followed
  rw [wf_fn]
  show WS _ [some (.val w.D), some (.val (rD r)), none, none, none, none] h _ _
  generalize hm1 : m_follow = m1
  rw [ws_seq, ws_expr, we_call, wa_cons, wo_n (s := .val w.D) rfl, wa_nil]
  refine ⟨[.val w.D], by rw [svs_sl (s := .val w.D) rfl]; rfl, rfl, checkW_ok hw ?_⟩
  rw [ws_seq, ws_expr, we_call, wa_cons, wo_x, we_bin, wo_n (s := .val w.D) rfl, wo_x, we_c]
  refine ⟨_, force_val rfl, _, rfl, .val (.int w.wide), rfl, ?_⟩
  rw [wa_cons, wo_n (s := .val (rD r)) rfl, wa_nil]
  refine ⟨[.val (.int w.wide), .val (rD r)], by rw [vl_val, svs_vl, svs_sl (s := .val (rD r)) rfl]; rfl, rfl, checkR_ok (rowP_rD h2 fun c hc' => by rw [hc c hc']; omega) (by rw [hW]; exact rowB_rD h1 hc) ?_⟩
  rw [ws_seq, ws_asg, we_call, wa_cons, wo_n (s := .val w.D) rfl, wa_cons, wo_n (s := .val (rD r)) rfl, wa_nil]
  refine ⟨[.val w.D, .val (rD r)], by rw [svs_sl (s := .val w.D) rfl, svs_sl (s := .val (rD r)) rfl]; rfl, rfl, follow_ok hm1.symm hw hW h1 h2 hc (fun he d1 d2 => ?_) fun r2 d2 hl2 hc2 he => ?_⟩
  · refine ⟨[some (.val w.D), some (.val (rD r)), some (.val d1), some (.val d2), some (.val (.bl false)), none], rfl, ?_⟩
    rw [ws_ret, we_if, wt_of, we_var]
    refine ⟨_, rfl, _, rfl, ?_⟩
    rw [if_neg (by decide), we_c, List.take_length]
    exact q none ⟨fun r2 z => (by cases z), he⟩
  · refine ⟨[some (.val w.D), some (.val (rD r)), some (.val (.lst ((llR r2).map D.lst))), some (.val d2), some (.val (.bl true)), none], rfl, ?_⟩
    rw [ws_ret, we_if, wt_of, we_var]
    refine ⟨_, rfl, _, rfl, ?_⟩
    rw [if_pos rfl]
    refine we_comp (fun _ => true) (fun d => match d with
      | .lst es => .tup es
      | d => d) ?_
    rw [wi_val, we_var]
    have ll : ((llR r2).map D.lst).length = r2.length := by unfold llR; rw [List.length_map, List.length_map]
    refine ⟨_, rfl, (llR r2).map D.lst, rfl, by rw [ll, sizeLine_eq]; omega, fun d hd => ?_, ?_⟩
    · obtain ⟨es, _, rfl⟩ := List.mem_map.mp hd
      refine ⟨_, rfl, wt_yes.mpr ⟨rfl, rfl⟩, fun _ => ?_⟩
      show WE _ [some (.val w.D), some (.val (rD r)), some (.val (.lst ((llR r2).map D.lst))), some (.val d2), some (.val (.bl true)), some (.val (.lst es))] h _
      rw [we_B, wa_cons, wo_x, we_var]
      refine ⟨_, rfl, ?_⟩
      rw [wa_nil]
      exact ⟨_, rfl, .val (.tup es), rfl, rfl, rfl⟩
    · rw [filt, List.take_length]
      have e : ((llR r2).map D.lst).map (fun d => match d with
        | .lst es => .tup es
        | d => d) = r2.map cD := by
        unfold llR
        rw [List.map_map, List.map_map]
        rfl
      rw [e]
      exact q (some r2) ⟨fun r3 z => (by cases z; exact ⟨hl2, hc2⟩), he⟩
/-! ### bare rows -/
def bareR (k : Nat) (se : List Col) : List Col := se.map fun c => c ++ List.replicate k none
theorem bareR_len (k : Nat) (se : List Col) : (bareR k se).length = se.length := List.length_map ..
theorem bareR_wide {k i : Nat} {se : List Col} (h : ∀ c ∈ se, c.length = i) : ∀ c ∈ bareR k se, c.length = i + k := fun c hc => by
  obtain ⟨d, hd, rfl⟩ := List.mem_map.mp hc
  rw [List.length_append, List.length_replicate, h d hd]
theorem bare_e {w : Wr} {m : Int} (hw : w.Ok m) {W i : Nat} (hW : w.wide = W) (hi : w.ins = i) {h : Hs} {Q : RV → Hs → Prop} {se : List Col} (h2 : se.length ≤ 1000) (hc : ∀ c ∈ se, c.length = i) (q : Q (.fresh ((bareR (W - i) se).map cD)) h) :
    WE (eComp [2] (iVal (eVar 1)) (gNm 2) tYesE (eBin dAdd (xO (eVar 2)) (xO (eBin dMul (xO (eTup (aCons (xO (eC .non)) aNil))) (xO (eBin iSub (xO (eBin dIx (nO 0) (xO (eC (.int 1))))) (xO (eBin dIx (nO 0) (xO (eC (.int 0)))))))))))
      [some (.val w.D), some (.val (rD se)), none] h Q := by
  have a1 := hw.i1
  have a2 := hw.i2
  have a3 := hw.iw
  have a4 := hw.w4
  have lz : (se.map cD).length = se.length := List.length_map ..
  refine we_comp (fun _ => true) (fun d => match d with
    | .tup es => .tup (es ++ (List.replicate (W - i) (none : Option Bool)).map eD)
    | d => d) ?_
  rw [wi_val, we_var]
  refine ⟨_, rfl, se.map cD, rfl, by rw [lz, sizeLine_eq]; omega, fun d hd => ?_, ?_⟩
  · obtain ⟨c, hc', rfl⟩ := List.mem_map.mp hd
    refine ⟨_, rfl, wt_yes.mpr ⟨rfl, rfl⟩, fun _ => ?_⟩
    show WE _ [some (.val w.D), some (.val (rD se)), some (.val (cD c))] h _
    rw [we_bin, wo_x, we_var]
    refine ⟨_, rfl, ?_⟩
    rw [wo_x, we_bin, wo_x, we_tup, wa_cons, wo_x, we_c, wa_nil]
    refine ⟨_, rfl, by rw [sizeLine_eq]; show 1 ≤ _; decide, ?_⟩
    rw [wo_x, we_bin, wo_x, we_bin, wo_n (s := .val w.D) rfl, wo_x, we_c]
    refine ⟨_, force_val rfl, _, rfl, _, ixw1 w, ?_⟩
    rw [wo_x, we_bin, wo_n (s := .val w.D) rfl, wo_x, we_c]
    refine ⟨_, force_val rfl, _, rfl, _, ixw0 w, _, rfl, _, rfl, .val (.int (w.wide - w.ins)), rfl, _, rfl, _, rfl, _, dMul_non (by omega) (by omega), ?_⟩
    have ek : (w.wide - w.ins).toNat = W - i := by omega
    rw [ek]
    refine ⟨_, rfl, _, rfl, _, tAdd_tt _ _ (by rw [List.length_map, List.length_map, List.length_replicate, hc c hc', sizeLine_eq]; omega), rfl, rfl⟩
  · rw [filt]
    have e : (se.map cD).map (fun d => match d with
      | .tup es => .tup (es ++ (List.replicate (W - i) (none : Option Bool)).map eD)
      | d => d) = (bareR (W - i) se).map cD := by
      unfold bareR
      rw [List.map_map, List.map_map]
      apply List.map_congr_left
      intro c _
      show Ev.D.tup (c.map eD ++ _) = .tup ((c ++ _).map eD)
      rw [List.map_append]
    rw [e]
    exact q
theorem bareRow_ok {h : Hs} {Q : RV → Hs → Prop} {w : Wr} {m : Int} (hw : w.Ok m) {W i : Nat} (hW : w.wide = W) (hi : w.ins = i) {se : List Col} (h2 : se.length ≤ 1000) (hc : ∀ c ∈ se, c.length = i) (q : Q (.fresh ((bareR (W - i) se).map cD)) h) : WF m_bare_row [.val w.D, .val (rD se)] h Q := by
  unfold m_bare_row
  rw [wf_fn]
  show WS _ [some (.val w.D), some (.val (rD se)), none] h _ _
  rw [ws_ret]
  refine bare_e hw hW hi h2 hc ?_
  rw [List.take_length]; exact q
theorem lbare_ok {h : Hs} {Q : RV → Hs → Prop} {w : Wr} {m : Int} (hw : w.Ok m) {W i : Nat} (hW : w.wide = W) (hi : w.ins = i) {se : List Col} (h2 : se.length ≤ 1000) (hc : ∀ c ∈ se, c.length = i) (q : Q (.fresh ((bareR (W - i) se).map cD)) h) : WF m__law_bare [.val w.D, .val (rD se)] h Q := by
  unfold m__law_bare
  rw [wf_fn]
  show WS _ [some (.val w.D), some (.val (rD se)), none] h _ _
  rw [ws_ret]
  refine bare_e hw hW hi h2 hc ?_
  rw [List.take_length]; exact q
theorem checkS_ok {h : Hs} {Q : RV → Hs → Prop} {w : Int} {d : Ev.D} (hd : RowP d) (hr : rowB w d = true) (q : Q (.val .non) h) : WF m_check_setting [.val (.int w), .val d] h Q := by
  unfold m_check_setting
  rw [wf_fn]
  show WS _ [some (.val (.int w)), some (.val d)] h _ _
  rw [ws_if, wt_not, wt_of, we_call, wa_cons, wo_n (s := .val (.int w)) rfl, wa_cons, wo_n (s := .val d) rfl, wa_nil]
  refine ⟨[.val (.int w), .val d], by rw [svs_sl (s := .val (.int w)) rfl, svs_sl (s := .val d) rfl]; rfl, rfl, ?_⟩
  unfold m_is_setting
  rw [wf_fn]
  show WS _ [some (.val (.int w)), some (.val d)] h _ _
  rw [ws_ret, we_call, wa_cons, wo_n (s := .val (.int w)) rfl, wa_cons, wo_n (s := .val d) rfl, wa_nil]
  refine ⟨[.val (.int w), .val d], by rw [svs_sl (s := .val (.int w)) rfl, svs_sl (s := .val d) rfl]; rfl, rfl, isRow_ok hd ⟨_, rfl, ?_⟩⟩
  rw [hr, if_neg (by decide), ws_nx, List.take_length, List.take_length]
  exact q
/-! ### seen -/
def insR (i : Nat) (r : List Col) : List Col := r.map fun c => c.take i
/-- [column[:writing[0]] for column in ..] -/
theorem ins_e {w : Wr} {m : Int} (hw : w.Ok m) {i v f : Nat} (hi : w.ins = i) {E : Nv} {h : Hs} {Q : RV → Hs → Prop} {r : List Col} (h2 : r.length ≤ 1000) (hE0 : E[0]? = some (some (.val w.D)) ∨ True) (hv : E[v]? = some (some (.val (rD r)))) (hf : f < E.length) (kk : Nat) (hk : E[kk]? = some (some (.val w.D))) (hkf : f ≠ kk) (q : Q (.fresh ((insR i r).map cD)) h) :
    WE (eComp [f] (iVal (eVar v)) (gNm f) tYesE (eSl (xO (eVar f)) pNo (pAt (eBin dIx (nO kk) (xO (eC (.int 0))))))) E h Q := by
  have a1 := hw.i1
  have lz : (r.map cD).length = r.length := List.length_map ..
  refine we_comp (fun _ => true) (fun d => match d with
    | .tup es => .tup (es.take i)
    | d => d) ?_
  rw [wi_val, we_var]
  refine ⟨_, hv, r.map cD, rfl, by rw [lz, sizeLine_eq]; omega, fun d hd => ?_, ?_⟩
  · obtain ⟨c, hc', rfl⟩ := List.mem_map.mp hd
    refine ⟨_, rfl, wt_yes.mpr ⟨rfl, rfl⟩, fun _ => ?_⟩
    have g := compE (v := some (.val (cD c))) hf
    have g2 : ((wipeE E [f]).set f (some (.val (cD c))))[kk]? = some (some (.val w.D)) := by
      unfold wipeE wipeE
      rw [List.set_set, List.getElem?_set_ne hkf]
      exact hk
    generalize (wipeE E [f]).set f (some (.val (cD c))) = e1 at g g2
    rw [we_sl, wo_x, we_var]
    refine ⟨_, g, ?_⟩
    rw [wx_no, wx_at, we_bin, wo_n g2, wo_x, we_c]
    refine ⟨_, force_val g2, _, rfl, _, ixw0 w, _, rfl, _, rfl, .val (.tup ((c.map eD).take i)), ?_, rfl, rfl⟩
    show some (RV.val (.tup (cutD (c.map eD) none (some w.ins)))) = _
    rw [hi]
    by_cases z : i ≤ (c.map eD).length
    · rw [cutTo _ z]
    · unfold cutD
      rw [HT.sIx_nat, HT.sIx_none, Nat.min_eq_right (by omega), List.drop_zero, Nat.sub_zero, List.take_length, List.take_of_length_le (by omega)]
  · rw [filt]
    have e : (r.map cD).map (fun d => match d with
      | .tup es => .tup (es.take i)
      | d => d) = (insR i r).map cD := by
      unfold insR
      rw [List.map_map, List.map_map]
      apply List.map_congr_left
      intro c _
      show Ev.D.tup ((c.map eD).take i) = .tup ((c.take i).map eD)
      rw [List.map_take]
    rw [e]
    exact q
theorem seen_ok {m0 : Fx} (hm0 : m0 = m_seen) {h : Hs} {Q : RV → Hs → Prop} {w : Wr} {m : Int} (hw : w.Ok m) {W i : Nat} (hW : w.wide = W) (hi : w.ins = i) {se : List Col} (h1 : 1 ≤ se.length) (h2 : se.length ≤ 1000) (hc : ∀ c ∈ se, c.length = i)
    (q : ∀ a, FolS w W (bareR (W - i) se) a → Q (rvO (a.map (insR i))) h) : WF m0 [.val w.D, .val (rD se)] h Q := by
  subst hm0
  have a1 := hw.i1
  have a2 := hw.i2
  have a3 := hw.iw
  have a4 := hw.w4
  unfold m_seen
  rw [wf_fn]
  show WS _ [some (.val w.D), some (.val (rD se)), none, none] h _ _
  generalize hm1 : m_followed = m1
  rw [ws_seq, ws_expr, we_call, wa_cons, wo_n (s := .val w.D) rfl, wa_nil]
  refine ⟨[.val w.D], by rw [svs_sl (s := .val w.D) rfl]; rfl, rfl, checkW_ok hw ?_⟩
  rw [ws_seq, ws_expr, we_call, wa_cons, wo_x, we_bin, wo_n (s := .val w.D) rfl, wo_x, we_c]
  refine ⟨_, force_val rfl, _, rfl, _, ixw0 w, ?_⟩
  rw [wa_cons, wo_n (s := .val (rD se)) rfl, wa_nil]
  refine ⟨[.val (.int w.ins), .val (rD se)], by rw [vl_val, svs_vl, svs_sl (s := .val (rD se)) rfl]; rfl, rfl, checkS_ok (rowP_rD h2 fun c hc' => by rw [hc c hc']; omega) (by rw [hi]; exact rowB_rD h1 hc) ?_⟩
  rw [ws_seq, ws_set, we_call, wa_cons, wo_n (s := .val w.D) rfl, wa_cons, wo_x, we_call, wa_cons, wo_n (s := .val w.D) rfl, wa_cons, wo_n (s := .val (rD se)) rfl, wa_nil]
  refine ⟨[.val w.D, .val (rD se)], by rw [svs_sl (s := .val w.D) rfl, svs_sl (s := .val (rD se)) rfl]; rfl, rfl, bareRow_ok hw hW hi h2 hc ?_⟩
  rw [wa_nil]
  have hbw : ∀ c ∈ bareR (W - i) se, c.length = W := fun c hc' => by rw [bareR_wide hc c hc']; omega
  refine ⟨[.val w.D, .val (rD (bareR (W - i) se))], by rw [svs_sl (s := .val w.D) rfl, svs_vl]; rfl, rfl, followed_ok hm1.symm hw hW (by rw [bareR_len]; exact h1) (by rw [bareR_len]; exact h2) hbw fun a ha => ?_⟩
  rw [rvO_vl]
  show WS _ [some (.val w.D), some (.val (rD se)), some (.val (rO a)), none] h _ _
  rw [ws_ret, we_if, wt_of, we_bin, wo_n (s := .val (rO a)) rfl, wo_x, we_c]
  cases a with
  | none =>
    refine ⟨_, force_val rfl, _, rfl, .val (.bl true), rfl, _, rfl, ?_⟩
    rw [if_pos rfl, we_c, List.take_length]
    exact q none ha
  | some r2 =>
    refine ⟨_, force_val rfl, _, rfl, .val (.bl false), rfl, _, rfl, ?_⟩
    obtain ⟨l2, w2⟩ := ha.shape r2 rfl
    rw [if_neg (by decide)]
    refine ins_e hw hi (r := r2) (by rw [l2, bareR_len]; exact h2) (.inr trivial) rfl (by show 3 < 4; decide) 0 rfl (by decide) ?_
    rw [List.take_length]
    exact q (some r2) ha
end Lk
end
section
set_option Elab.async false
set_option linter.all false
set_option maxRecDepth 100000
set_option maxHeartbeats 4000000
/-! Lq10: the law's rounds. -/
namespace Lk
open PySem Ev Dk
theorem entry4 (d : Int) (h0 : 0 ≤ d) (h1 : d < 4) : ∃ e : Option Bool, L2.atI ([.non, .non, .bl false, .bl true] : List Ev.D) d = some (eD e) := by
  have : d = 0 ∨ d = 1 ∨ d = 2 ∨ d = 3 := by omega
  rcases this with rfl | rfl | rfl | rfl
  · exact ⟨none, rfl⟩
  · exact ⟨none, rfl⟩
  · exact ⟨some false, rfl⟩
  · exact ⟨some true, rfl⟩
theorem setting_ok {m0 : Fx} (hm0 : m0 = m__law_setting) {h : Hs} {n B ins most : Nat} {Q : RV → Hs → Prop} (hp : PenAt (B + 1 + most * ins) h n) (hi : ins ≤ 4) (hm : 1 ≤ most) (hm2 : most ≤ 100) (q : ∀ (r : List Col) h', 1 ≤ r.length → r.length ≤ most → (∀ c ∈ r, c.length = ins) → PenAt B h' n → Only1 n h h' → Q (.fresh (r.map cD)) h') : WF m0 [.loc n, .val (.int ins), .val (.int most)] h Q := by
  have hn := hp.lt
  subst hm0
  unfold m__law_setting
  rw [wf_fn]
  show WS _ [some (.loc n), some (.val (.int ins)), some (.val (.int most)), none, none, none] h _ _
  rw [ws_seq, ws_new, we_lst, wa_nil]
  refine ⟨_, rfl, by decide, _, rfl, ?_⟩
  show WS (sSeq _ _) [some (.loc n), some (.val (.int ins)), some (.val (.int most)), some (.loc h.length), none, none] (h ++ [.lst []]) _ _
  have hp0 : PenAt (B + 1 + most * ins) (h ++ [.lst []]) n := hp.eqAt (List.getElem?_append_left hn)
  rw [ws_seq]
  generalize hE : ([some (.loc n), some (.val (.int ins)), some (.val (.int most)), some (.loc h.length), none, none] : Nv) = E
  have g0 : E[0]? = some (some (.loc n)) := by rw [← hE]; rfl
  have g2 : E[2]? = some (some (.val (.int most))) := by rw [← hE]; rfl
  refine ws_for ?_
  rw [wi_range1, wa_cons, wo_x, we_bin, wo_x, we_c, wo_x, we_call, wa_cons, wo_n g0, wa_cons, wo_n g2, wa_nil]
  refine ⟨[.loc n, .val (.int most)], by rw [svs_sl g0, svs_sl g2]; rfl, rfl, ?_⟩
  refine draw_ok (B := B + most * ins) (PenAt.mono hp0 (by omega)) (by omega) ?_ fun d h1 d0 d1 hp1 o1 => ?_
  · have : ((most : Int)).natAbs < 2 ^ 7 := by omega
    have := log2_le (k := 6) this
    omega
  refine ⟨_, rfl, _, rfl, _, dAdd_ii _ _, ?_⟩
  rw [wa_nil]
  refine ⟨_, rfl, rangeD 0 (1 + d).toNat, range1_of (by omega) (by omega), ?_⟩
  have hk : (rangeD 0 (1 + d).toNat).length = (1 + d).toNat := by unfold rangeD; simp
  have hb1 : h1.length = h.length + 1 := by rw [o1.1, List.length_append]; rfl
  have hb2 : ∀ j, j ≠ n → j < h.length → h1[j]? = h[j]? := fun j hj hl => by rw [o1.2 j hj, List.getElem?_append_left hl]
  have hb3 : h1[h.length]? = some (.lst []) := by rw [o1.2 _ (by omega), List.getElem?_append_right (Nat.le_refl _), Nat.sub_self]; rfl
  refine ⟨fun i e h2 => i ≤ (1 + d).toNat ∧ ∃ (r : List Col) (x4 x5 : Option SV), e = [some (.loc n), some (.val (.int ins)), some (.val (.int most)), some (.loc h.length), x4, x5] ∧ r.length = i ∧ (∀ c ∈ r, c.length = ins) ∧ PenAt (B + (most - i) * ins) h2 n ∧ h2.length = h.length + 1 ∧ (∀ j, j ≠ n → j < h.length → h2[j]? = h[j]?) ∧ h2[h.length]? = some (.lst (r.map cD)),
    ⟨Nat.zero_le _, [], none, none, hE.symm, rfl, fun c hc => by simp at hc, hp1, hb1, hb2, hb3⟩, fun i d2 e h2 hd I => ?_, fun e h2 I => ?_⟩
  · obtain ⟨hil, r, x4, x5, rfl, hr, hc, hp2, l2, b2, f2⟩ := I
    have hlt : i < (1 + d).toNat := by
      have := (List.getElem?_eq_some_iff.mp hd).1
      rwa [hk] at this
    have him : i < most := by omega
    refine ⟨[some (.loc n), some (.val (.int ins)), some (.val (.int most)), some (.loc h.length), some (.val d2), x5], rfl, ?_⟩
    rw [ws_expr, we_meth (n := h.length) rfl f2, wa_cons, wo_x, we_B, wa_cons, wo_x]
    generalize hE2 : ([some (.loc n), some (.val (.int ins)), some (.val (.int most)), some (.loc h.length), some (.val d2), x5] : Nv) = E2
    have k1 : E2[1]? = some (some (.val (.int ins))) := by rw [← hE2]; rfl
    refine we_compI ?_
    rw [wi_range1, wa_cons, wo_n k1, wa_nil]
    refine ⟨_, forces_cons (force_val k1) rfl, rangeD 0 ((ins : Int)).toNat, range1_of (by omega) (by omega), ?_⟩
    rw [← hE2]
    have hk2 : (rangeD 0 ((ins : Int)).toNat).length = ins := by unfold rangeD; simp
    refine ⟨by rw [hk2, sizeLine_eq]; omega, fun j acc h3 => j ≤ ins ∧ ∃ c : Col, acc = c.map eD ∧ c.length = j ∧ PenAt (B + (most - (i + 1)) * ins + (ins - j)) h3 n ∧ Only1 n h2 h3, ⟨Nat.zero_le _, [], rfl, rfl, PenAt.mono hp2 ?_, Only1.refl _ _⟩, fun j d3 acc h3 hd3 I3 => ?_, fun acc h3 I3 => ?_⟩
    · have : most - i = (most - (i + 1)) + 1 := by omega
      rw [this, Nat.add_mul]; omega
    · obtain ⟨hjl, c, rfl, hcl, hp3, o3⟩ := I3
      have hjlt : j < ins := by
        have := (List.getElem?_eq_some_iff.mp hd3).1
        rwa [hk2] at this
      refine ⟨_, rfl, ?_⟩
      rw [wt_yes, if_pos rfl]
      show WE _ [some (.loc n), some (.val (.int ins)), some (.val (.int most)), some (.loc h.length), some (.val d2), some (.val d3)] h3 _
      rw [we_bin, wo_x, we_lst, wa_cons, wo_x, we_c, wa_cons, wo_x, we_c, wa_cons, wo_x, we_c, wa_cons, wo_x, we_c, wa_nil]
      refine ⟨_, rfl, by rw [sizeLine_eq]; show 4 ≤ _; decide, ?_⟩
      rw [wo_x, we_call, wa_cons, wo_n (s := .loc n) rfl, wa_cons, wo_x, we_c, wa_nil]
      refine ⟨[.loc n, .val (.int 4)], by rw [svs_sl (s := .loc n) rfl, vl_val, svs_vl]; rfl, rfl, ?_⟩
      refine draw_ok (B := B + (most - (i + 1)) * ins + (ins - (j + 1))) (PenAt.mono hp3 (by omega)) (by decide) (by decide) fun d4 h4 z0 z1 hp4 o4 => ?_
      obtain ⟨en, hen⟩ := entry4 d4 z0 z1
      refine ⟨_, rfl, _, rfl, .val (eD en), ?_, ?_⟩
      · show (L2.atI ([.non, .non, .bl false, .bl true] : List Ev.D) d4).map RV.val = _
        rw [hen]; rfl
      · refine ⟨hjlt, c ++ [en], by rw [List.map_append]; rfl, by rw [List.length_append, hcl]; rfl, hp4, o3.trans o4⟩
    · obtain ⟨_, c, rfl, hcl, hp3, o3⟩ := I3
      rw [hk2] at hcl hp3
      rw [wa_nil]
      refine ⟨_, rfl, .val (cD c), rfl, ?_⟩
      rw [wa_nil]
      have hne : h.length ≠ n := by omega
      have f3 : h3[h.length]? = some (.lst (r.map cD)) := by rw [o3.2 _ hne]; exact f2
      refine ⟨_, rfl, r.map cD, f3, (r.map cD ++ [cD c], .non), ?_, ?_⟩
      · unfold mApp
        refine if_pos ?_
        rw [List.length_map, sizeLine_eq]; omega
      · have hl3 : h.length < h3.length := by rw [o3.1, l2]; omega
        refine ⟨hlt, r ++ [c], some (.val d2), x5, rfl, by rw [List.length_append, hr]; rfl, fun c' hc' => ?_, ?_, ?_, fun j hj hjl => ?_, ?_⟩
        · rcases List.mem_append.mp hc' with z | z
          · exact hc c' z
          · rw [List.mem_singleton.mp z]; exact hcl
        · refine PenAt.eqAt (PenAt.mono hp3 (by omega)) (List.getElem?_set_ne hne)
        · rw [List.length_set, o3.1, l2]
        · rw [List.getElem?_set_ne (by omega), o3.2 _ hj, b2 j hj hjl]
        · rw [List.getElem?_set_self hl3, List.map_append]; rfl
  · obtain ⟨hil, r, x4, x5, rfl, hr, hc, hp2, l2, b2, f2⟩ := I
    rw [hk] at hr hp2
    rw [ws_ret, we_takeQ (n := h.length) rfl f2]
    have e1 : (h2.set h.length .dead).take h.length = h2.take h.length := by
      apply List.ext_getElem?
      intro j
      by_cases hj : j < h.length
      · rw [List.getElem?_take_of_lt hj, List.getElem?_take_of_lt hj, List.getElem?_set_ne (by omega)]
      · rw [List.getElem?_take_eq_none (by omega), List.getElem?_take_eq_none (by omega)]
    rw [e1]
    refine q r _ (by omega) (by omega) hc (PenAt.eqAt (PenAt.mono hp2 (by omega)) (List.getElem?_take_of_lt hn)) ⟨by rw [List.length_take]; omega, fun j hj => ?_⟩
    by_cases hjl : j < h.length
    · rw [List.getElem?_take_of_lt hjl, b2 j hj hjl]
    · rw [List.getElem?_take_eq_none (by omega), List.getElem?_eq_none (by omega)]
def bJt : Sx := (sSeq (sIf (tOrE (bOf (eBin dNe (xO (eB bRepr (aCons (nO 11) aNil))) (xO (eB bRepr (aCons (nO 7) aNil))))) (bOf (eBin dNe (xO (eB bRepr (aCons (nO 12) aNil))) (xO (eB bRepr (aCons (nO 9) aNil))))))
    (sRet (eC (.bl false)))
    sNx)
    (sSeq (sIf (bOf (eBin dNotN (nO 11) (xO (eC .non))))
    (sExpr (eList mApp 11 (aCons (xO (eC .non)) aNil)))
    sNx)
    (sIf (bOf (eBin dNotN (nO 12) (xO (eC .non))))
    (sExpr (eList mApp 12 (aCons (xO (eC .non)) aNil)))
    sNx)))
def bJ : Sx := (sSeq (sMulti [11, 12] (pConsM (eCall 2 m_followed [] (aCons (nO 3) (aCons (nO 5) aNil))) (pConsM (eCall 2 m_seen [] (aCons (nO 3) (aCons (nO 6) aNil))) pNil)))
    bJt)
def bI : Sx := (sSeq (sMulti [5, 6] (pCons false (eCall 3 m__law_row [] (aCons (nO 1) (aCons (xO (eBin dIx (nO 3) (xO (eC (.int 1))))) (aCons (xO (eC (.int 6))) aNil)))) (pCons false (eCall 3 m__law_setting [] (aCons (nO 1) (aCons (xO (eBin dIx (nO 3) (xO (eC (.int 0))))) (aCons (xO (eC (.int 6))) aNil)))) pNil)))
    (sSeq (sMulti [7, 8] (pCons false (eCall 2 m__law_follow [] (aCons (nO 3) (aCons (nO 5) aNil))) (pCons false (eB bRepr (aCons (xO (eLst (aCons (xO (eVar 3)) (aCons (xO (eVar 5)) (aCons (xO (eVar 6)) aNil))))) aNil)) pNil)))
    (sSeq (sSet 9 (eCall 2 m__law_follow [] (aCons (nO 3) (aCons (xO (eCall 2 m__law_bare [] (aCons (nO 3) (aCons (nO 6) aNil)))) aNil))))
    (sSeq (sSet 9 (eIf (bOf (eBin dIsN (nO 9) (xO (eC .non)))) (eC .non) (eComp [13] (iVal (eVar 9)) (gNm 13) tYesE (eSl (xO (eVar 13)) pNo (pAt (eBin dIx (nO 3) (xO (eC (.int 0)))))))))
    (sSeq (sFor (iRange range1? (aCons (xO (eC (.int 2))) aNil)) (gNm 10)
    bJ)
    (sIf (bOf (eBin dNe (xO (eB bRepr (aCons (xO (eLst (aCons (xO (eVar 3)) (aCons (xO (eVar 5)) (aCons (xO (eVar 6)) aNil))))) aNil))) (nO 8)))
    (sRet (eC (.bl false)))
    sNx))))))
def bL : Sx := (sSeq (sSet 3 (eCall 4 m__law_writing [] (aCons (nO 1) (aCons (xO (eBin dAdd (xO (eC (.int 1))) (xO (eB bInt (aCons (xO (eBin dEq (xO (eCall 2 m__law_draw [] (aCons (nO 1) (aCons (xO (eC (.int 3))) aNil)))) (xO (eC (.int 0))))) aNil))))) (aCons (xO (eC (.int 4))) (aCons (xO (eC (.int 3))) aNil))))))
    (sFor (iRange range1? (aCons (xO (eC (.int 3))) aNil)) (gNm 4)
    bI))
theorem m_law_eq : m_law = fnE 14 (sSeq (sNew 1 (eCall 1 m__law_pen [] (aCons (nO 0) aNil))) (sSeq (sFor (iRange range1? (aCons (xO (eC (.int 8))) aNil)) (gNm 2) bL) (sRet (eCall 0 m__law_long_right [] aNil)))) := rfl
abbrev le11 (cs : List Int) (x2 x3 x4 x5 x6 x7 x8 x9 x10 x11 x12 x13 : Option SV) : Nv := [some (.val (scrD cs)), some (.loc 0), x2, x3, x4, x5, x6, x7, x8, x9, x10, x11, x12, x13]
/-- a slot that holds a new list or None -/
inductive IsO (hh : Hs) : SV → Option (List Col) → Prop
  | non : IsO hh (.val .non) none
  | lst {n : Nat} {r : List Col} : hh[n]? = some (.lst (r.map cD)) → 0 < n → r.length ≤ 300 → (∀ c ∈ r, c.length ≤ 10) → IsO hh (.loc n) (some r)
theorem IsO.force {hh : Hs} {s : SV} {a : Option (List Col)} (h : IsO hh s a) {E : Nv} {i : Nat} (e : E[i]? = some (some s)) : Ev.force E hh (.sl i) = some (rO a) := by
  cases h with
  | non => exact force_val e
  | lst h1 h2 h3 h4 => exact force_loc e h1
theorem IsO.at {hh hh' : Hs} {s : SV} {a : Option (List Col)} (h : IsO hh s a) (k : ∀ n, s = .loc n → hh'[n]? = hh[n]?) : IsO hh' s a := by
  cases h with
  | non => exact .non
  | lst h1 h2 h3 h4 => exact .lst (by rw [k _ rfl]; exact h1) h2 h3 h4
theorem nc_rO {a : Option (List Col)} (h : ∀ r, a = some r → r.length ≤ 1000 ∧ ∀ c ∈ r, c.length ≤ 10) : Nc (rO a) 75003 3 := by
  cases a with
  | none => exact nc_non.mono (by decide) (by decide)
  | some r => obtain ⟨h1, h2⟩ := h r rfl; exact nc_rD h1 h2
theorem IsO.nc {hh : Hs} {s : SV} {a : Option (List Col)} (h : IsO hh s a) : Nc (rO a) 75003 3 := by
  cases h with
  | non => exact nc_non.mono (by decide) (by decide)
  | lst h1 h2 h3 h4 => exact nc_rD (by omega) h4
section
variable {cs : List Int} {x2 x3 x4 x5 x6 x7 x8 x9 x10 x11 x12 x13 : Option SV} {h : Hs} {N : Nv → Hs → Prop} {R : RV → Hs → Prop} {w : Wr} {m : Int} {W B : Nat}
theorem ifApp_ok {E : Nv} {i : Nat} {s : SV} {a : Option (List Col)} (e : E[i]? = some (some s)) (o : IsO h s a) (hp : PenAt B h 0)
    (q : ∀ h', PenAt B h' 0 → (∀ n, s ≠ .loc n → h'[n]? = h[n]?) → N E h') : WS (sIf (bOf (eBin dNotN (nO i) (xO (eC .non)))) (sExpr (eList mApp i (aCons (xO (eC .non)) aNil))) sNx) E h N R := by
  rw [ws_if, wt_of, we_bin, wo_n e, wo_x, we_c]
  cases o with
  | non =>
    refine ⟨_, force_val e, _, rfl, .val (.bl false), rfl, _, rfl, ?_⟩
    rw [if_neg (by decide), ws_nx]
    exact q h hp fun _ _ => rfl
  | lst h1 h2 h3 h4 =>
    rename_i n r
    refine ⟨_, force_loc e h1, _, rfl, .val (.bl true), rfl, _, rfl, ?_⟩
    rw [if_pos rfl, ws_expr, we_meth e h1, wa_cons, wo_x, we_c, wa_nil]
    refine ⟨_, rfl, _, h1, _, app_d (by rw [List.length_map, sizeLine_eq]; omega), ?_⟩
    exact q _ (hp.eqAt (List.getElem?_set_ne (by omega))) fun k hk => List.getElem?_set_ne fun z => hk (by rw [z])
theorem bJt_ok {S : Sx} (hS : S = bJt) {s11 s12 : SV} {a b : Option (List Col)} (o11 : IsO h s11 a) (o12 : IsO h s12 b) (hne : ∀ n, s12 = .loc n → s11 ≠ .loc n) (hp : PenAt B h 0)
    (q : ∀ h', PenAt B h' 0 → N (le11 cs x2 x3 x4 x5 x6 (some (.val (rO a))) x8 (some (.val (rO b))) x10 (some s11) (some s12) x13) h') : WS S (le11 cs x2 x3 x4 x5 x6 (some (.val (rO a))) x8 (some (.val (rO b))) x10 (some s11) (some s12) x13) h N R := by
  subst hS
  have n1 := o11.nc
  have n2 := o12.nc
  unfold bJt
  rw [ws_seq, ws_if, wt_or, wt_of, we_bin, wo_x, we_B, wa_cons, wo_n (s := s11) rfl, wa_nil]
  refine ⟨_, forces_cons (o11.force rfl) rfl, _, n1.repr (by decide) (by decide), ?_⟩
  rw [wo_x, we_B, wa_cons, wo_n (s := .val (rO a)) rfl, wa_nil]
  refine ⟨_, forces_cons (force_val rfl) rfl, _, n1.repr (by decide) (by decide), _, rfl, _, rfl, _, n1.same', _, rfl, ?_⟩
  rw [if_neg (by decide), wt_of, we_bin, wo_x, we_B, wa_cons, wo_n (s := s12) rfl, wa_nil]
  refine ⟨_, forces_cons (o12.force rfl) rfl, _, n2.repr (by decide) (by decide), ?_⟩
  rw [wo_x, we_B, wa_cons, wo_n (s := .val (rO b)) rfl, wa_nil]
  refine ⟨_, forces_cons (force_val rfl) rfl, _, n2.repr (by decide) (by decide), _, rfl, _, rfl, _, n2.same', _, rfl, ?_⟩
  rw [if_neg (by decide), ws_nx, ws_seq]
  refine ifApp_ok (s := s11) rfl o11 hp fun h1 hp1 k1 => ?_
  refine ifApp_ok (s := s12) rfl (o12.at fun n e => k1 n (hne n e)) hp1 fun h2 hp2 _ => ?_
  exact q h2 hp2
theorem bJ_ok {S : Sx} (hS : S = bJ) (hw : w.Ok m) {i : Nat} (hW : w.wide = W) (hi : w.ins = i) {r se : List Col} (r1 : 1 ≤ r.length) (r2 : r.length ≤ 100) (rc : ∀ c ∈ r, c.length = W) (s1 : 1 ≤ se.length) (s2 : se.length ≤ 100) (sc : ∀ c ∈ se, c.length = i)
    {a b : Option (List Col)} (fa : FolS w W r a) (fb : FolS w W (bareR (W - i) se) b) (hp : PenAt B h 0)
    (q : ∀ x11 x12 h', PenAt B h' 0 → N (le11 cs x2 (some (.val w.D)) x4 (some (.val (rD r))) (some (.val (rD se))) (some (.val (rO a))) x8 (some (.val (rO (b.map (insR i))))) x10 x11 x12 x13) h') :
    WS S (le11 cs x2 (some (.val w.D)) x4 (some (.val (rD r))) (some (.val (rD se))) (some (.val (rO a))) x8 (some (.val (rO (b.map (insR i))))) x10 x11 x12 x13) h N R := by
  subst hS
  have n4 : W ≤ 4 := by have := hw.w4; omega
  have hpos := hp.lt
  unfold bJ
  generalize hm1 : m_followed = m1
  generalize hm2 : m_seen = m2
  generalize hbt : bJt = vt
  rw [ws_seq, ws_multi]
  refine wp_M ?_
  rw [we_call, wa_cons, wo_n (s := .val w.D) rfl, wa_cons, wo_n (s := .val (rD r)) rfl, wa_nil]
  refine ⟨[.val w.D, .val (rD r)], by rw [svs_sl (s := .val w.D) rfl, svs_sl (s := .val (rD r)) rfl]; rfl, rfl, followed_ok hm1.symm hw hW r1 (by omega) rc fun a' fa' => ?_⟩
  have ea := folS_one fa' fa
  subst ea
  have tail : ∀ (s11 : SV) (h1 : Hs), IsO h1 s11 a' → PenAt B h1 0 → (∀ n, s11 = .loc n → n < h1.length) → WP' (pConsM (eCall 2 m2 [] (aCons (nO 3) (aCons (nO 6) aNil))) pNil) (le11 cs x2 (some (.val w.D)) x4 (some (.val (rD r))) (some (.val (rD se))) (some (.val (rO a'))) x8 (some (.val (rO (b.map (insR i))))) x10 x11 x12 x13) h1
      fun svs h3 => ∃ e1, setsE [11, 12] (s11 :: svs) (le11 cs x2 (some (.val w.D)) x4 (some (.val (rD r))) (some (.val (rD se))) (some (.val (rO a'))) x8 (some (.val (rO (b.map (insR i))))) x10 x11 x12 x13) = some e1 ∧ WS vt e1 h3 N R := fun s11 h1 o11 hp1 hlt => by
    refine wp_M ?_
    rw [we_call, wa_cons, wo_n (s := .val w.D) rfl, wa_cons, wo_n (s := .val (rD se)) rfl, wa_nil]
    refine ⟨[.val w.D, .val (rD se)], by rw [svs_sl (s := .val w.D) rfl, svs_sl (s := .val (rD se)) rfl]; rfl, rfl, seen_ok hm2.symm hw hW hi s1 (by omega) sc fun b' fb' => ?_⟩
    have eb := folS_one fb' fb
    subst eb
    cases b' with
    | none =>
      show WP' pNil _ h1 _
      rw [wp_nil]
      exact ⟨_, rfl, bJt_ok hbt.symm o11 .non (fun n e => by cases e) hp1 fun h' hp' => q _ _ h' hp'⟩
    | some rb =>
      obtain ⟨lb, wb⟩ := fb'.shape rb rfl
      rw [bareR_len] at lb
      show WP' pNil _ (h1 ++ [.lst ((insR i rb).map cD)]) _
      rw [wp_nil]
      refine ⟨_, rfl, bJt_ok hbt.symm (o11.at fun n e => List.getElem?_append_left (hlt n e)) (.lst (n := h1.length) (r := insR i rb) ?_ hp1.lt ?_ fun c hc => ?_) (fun n e z => ?_) (hp1.appN _) fun h' hp' => q _ _ h' hp'⟩
      · rw [List.getElem?_append_right (Nat.le_refl _), Nat.sub_self]; rfl
      · unfold insR; rw [List.length_map]; omega
      · obtain ⟨d, hd, rfl⟩ := List.mem_map.mp hc
        rw [List.length_take, wb d hd]; omega
      · cases e
        exact Nat.lt_irrefl _ (hlt _ z)
  cases a' with
  | none => exact tail (.val .non) h .non hp fun n e => by cases e
  | some ra =>
    obtain ⟨la, wa⟩ := fa'.shape ra rfl
    refine tail (.loc h.length) (h ++ [.lst (ra.map cD)]) (.lst ?_ hpos (by omega) fun c hc => by rw [wa c hc]; omega) (hp.appN _) fun n e => ?_
    · rw [List.getElem?_append_right (Nat.le_refl _), Nat.sub_self]; rfl
    · cases e; rw [List.length_append]; show h.length < h.length + 1; omega
end
end Lk
end
section
set_option Elab.async false
set_option linter.all false
set_option maxRecDepth 100000
set_option maxHeartbeats 4000000
/-! Lq11: a round; a lap. -/
namespace Lk
open PySem Ev Dk
theorem nc_cl {s : Int} {c : List Int} (h : ClauseOk s c) (hs : s ≤ 8) : Nc (tI c) 175 2 := nc_tup (m := 4) (n := 41) (k := 1) (fun d hd => by
  obtain ⟨x, hx, rfl⟩ := List.mem_map.mp hd
  have := (h.ran x hx).2
  exact nc_int40 (Nat.lt_of_le_of_lt (by omega : x.natAbs ≤ 8) (by decide))) (by rw [List.length_map]; exact h.few)
theorem nc_pt {s : Int} {p : List (List Int)} (h : PartOk s 16 p) (hs : s ≤ 8) : Nc (.tup (p.map tI)) 2835 3 := nc_tup (m := 16) (n := 175) (k := 2) (fun d hd => by
  obtain ⟨c, hc, rfl⟩ := List.mem_map.mp hd
  exact nc_cl (h.ok c hc) hs) (by rw [List.length_map]; exact h.few)
theorem nc_wr {w : Wr} {m : Int} (hw : w.Ok m) : Nc w.D 17025 4 := nc_tup (m := 6) (n := 2835) (k := 3) (fun d hd => by
  have := hw.i1; have := hw.i2; have := hw.iw; have := hw.w4
  simp only [List.mem_cons, List.not_mem_nil, or_false] at hd
  rcases hd with rfl | rfl | rfl | rfl | rfl | rfl
  · exact (nc_int40 (Nat.lt_of_le_of_lt (by omega : w.ins.natAbs ≤ 8) (by decide))).mono (by decide) (by decide)
  · exact (nc_int40 (Nat.lt_of_le_of_lt (by omega : w.wide.natAbs ≤ 8) (by decide))).mono (by decide) (by decide)
  · exact nc_pt hw.a (by omega)
  · exact nc_pt hw.b (by omega)
  · exact nc_pt hw.c (by omega)
  · exact nc_pt hw.d (by omega)) (by show 6 ≤ 6; decide)
theorem nc_three {a b c : Ev.D} {n k : Nat} (ha : Nc a n k) (hb : Nc b n k) (hc : Nc c n k) : Nc (.lst [a, b, c]) (3 * n + 2 * 3 + 3) (k + 1) := nc_lst (m := 3) (fun d hd => by
  simp only [List.mem_cons, List.not_mem_nil, or_false] at hd
  rcases hd with rfl | rfl | rfl
  · exact ha
  · exact hb
  · exact hc) (Nat.le_refl _)
section
variable {cs : List Int} {x2 x3 x4 x5 x6 x7 x8 x9 x10 x11 x12 x13 : Option SV} {h : Hs} {N : Nv → Hs → Prop} {R : RV → Hs → Prop} {w : Wr} {m : Int} {W B : Nat}
theorem bI_ok {S : Sx} (hS : S = bI) (hw : w.Ok m) {i : Nat} (hW : w.wide = W) (hi : w.ins = i) (hp : PenAt (B + 40) h 0)
    (q : ∀ y5 y6 y7 y8 y9 y10 y11 y12 h', PenAt B h' 0 → N (le11 cs x2 (some (.val w.D)) x4 y5 y6 y7 y8 y9 y10 y11 y12 x13) h') : WS S (le11 cs x2 (some (.val w.D)) x4 x5 x6 x7 x8 x9 x10 x11 x12 x13) h N R := by
  subst hS
  have a1 := hw.i1
  have a2 := hw.i2
  have a3 := hw.iw
  have a4 := hw.w4
  unfold bI
  generalize hm1 : m__law_row = m1
  generalize hm2 : m__law_setting = m2
  generalize hm3 : m__law_follow = m3
  generalize hbj : bJ = vj
  rw [ws_seq, ws_multi, wp_val, we_call, wa_cons, wo_n (s := .loc 0) rfl, wa_cons, wo_x, we_bin, wo_n (s := .val w.D) rfl, wo_x, we_c]
  refine ⟨_, force_val rfl, _, rfl, _, ixw1 w, ?_⟩
  rw [wa_cons, wo_x, we_c, wa_nil, hW]
  refine ⟨[.loc 0, .val (.int W), .val (.int (6 : Nat))], by rw [svs_sl (s := .loc 0) rfl]; rfl, rfl, ?_⟩
  have hp0 : PenAt (B + 13 + 1 + 6 * W) h 0 := PenAt.mono hp (by omega)
  refine row_ok hm1.symm (B := B + 13) hp0 (by omega) (by decide) (by decide) fun r h1 r1 r2 rc hp1 o1 => ?_
  rw [wp_val, we_call, wa_cons, wo_n (s := .loc 0) rfl, wa_cons, wo_x, we_bin, wo_n (s := .val w.D) rfl, wo_x, we_c]
  refine ⟨_, force_val rfl, _, rfl, _, ixw0 w, ?_⟩
  rw [wa_cons, wo_x, we_c, wa_nil, hi]
  refine ⟨[.loc 0, .val (.int i), .val (.int (6 : Nat))], by rw [svs_sl (s := .loc 0) rfl]; rfl, rfl, ?_⟩
  have hp1' : PenAt (B + 1 + 6 * i) h1 0 := PenAt.mono hp1 (by omega)
  refine setting_ok hm2.symm (B := B) hp1' (by omega) (by decide) (by decide) fun se h2 s1 s2 sc hp2 o2 => ?_
  rw [wp_nil]
  refine ⟨le11 cs x2 (some (.val w.D)) x4 (some (.val (rD r))) (some (.val (rD se))) x7 x8 x9 x10 x11 x12 x13, rfl, ?_⟩
  have nc : Nc (.lst [w.D, rD r, rD se]) 225018 5 := nc_three (n := 75003) (k := 4) ((nc_wr hw).mono (by decide) (by decide)) ((nc_rD (by omega) fun c hc => by rw [rc c hc]; omega).mono (by decide) (by decide)) ((nc_rD (by omega) fun c hc => by rw [sc c hc]; omega).mono (by decide) (by decide))
  have hbw : ∀ c ∈ bareR (W - i) se, c.length = W := fun c hc' => by rw [bareR_wide sc c hc']; omega
  -- the end, for both rows followed
  have fin : ∀ a b, FolS w W r a → FolS w W (bareR (W - i) se) b → WS (sSeq (sFor (iRange range1? (aCons (xO (eC (.int 2))) aNil)) (gNm 10) vj)
    (sIf (bOf (eBin dNe (xO (eB bRepr (aCons (xO (eLst (aCons (xO (eVar 3)) (aCons (xO (eVar 5)) (aCons (xO (eVar 6)) aNil))))) aNil))) (nO 8)))
    (sRet (eC (.bl false)))
    sNx)) (le11 cs x2 (some (.val w.D)) x4 (some (.val (rD r))) (some (.val (rD se))) (some (.val (rO a))) (some (.val (.str (rS (.lst [w.D, rD r, rD se]))))) (some (.val (rO (b.map (insR i))))) x10 x11 x12 x13) h2 N R := fun a b fa fb => by
    rw [ws_seq]
    generalize hE : le11 cs x2 (some (.val w.D)) x4 (some (.val (rD r))) (some (.val (rD se))) (some (.val (rO a))) (some (.val (.str (rS (.lst [w.D, rD r, rD se]))))) (some (.val (rO (b.map (insR i))))) x10 x11 x12 x13 = E
    refine ws_for ?_
    rw [wi_range1, wa_cons, wo_x, we_c, wa_nil]
    refine ⟨_, rfl, rangeD 0 2, rfl, fun j e h3 => PenAt B h3 0 ∧ ∃ y10 y11 y12, e = le11 cs x2 (some (.val w.D)) x4 (some (.val (rD r))) (some (.val (rD se))) (some (.val (rO a))) (some (.val (.str (rS (.lst [w.D, rD r, rD se]))))) (some (.val (rO (b.map (insR i))))) y10 y11 y12 x13, ⟨hp2, _, _, _, hE.symm⟩, fun j d e h3 hd I => ?_, fun e h3 I => ?_⟩
    · obtain ⟨hp3, y10, y11, y12, rfl⟩ := I
      refine ⟨le11 cs x2 (some (.val w.D)) x4 (some (.val (rD r))) (some (.val (rD se))) (some (.val (rO a))) (some (.val (.str (rS (.lst [w.D, rD r, rD se]))))) (some (.val (rO (b.map (insR i))))) (some (.val d)) y11 y12 x13, rfl, ?_⟩
      exact bJ_ok hbj.symm hw hW hi r1 (by omega) rc s1 (by omega) sc fa fb hp3 fun z11 z12 h' hp' => ⟨hp', _, _, _, rfl⟩
    · obtain ⟨hp3, y10, y11, y12, rfl⟩ := I
      rw [ws_if, wt_of, we_bin, wo_x, we_B, wa_cons, wo_x, we_lst, wa_cons, wo_x, we_var]
      refine ⟨_, rfl, ?_⟩
      rw [wa_cons, wo_x, we_var]
      refine ⟨_, rfl, ?_⟩
      rw [wa_cons, wo_x, we_var]
      refine ⟨_, rfl, ?_⟩
      rw [wa_nil]
      refine ⟨_, rfl, by rw [sizeLine_eq]; show 3 ≤ _; decide, ?_⟩
      rw [wa_nil]
      refine ⟨_, rfl, _, nc.repr (by decide) (by decide), ?_⟩
      rw [wo_n (s := .val (.str (rS (.lst [w.D, rD r, rD se])))) rfl]
      refine ⟨_, rfl, _, force_val rfl, _, nc.same', _, rfl, ?_⟩
      rw [if_neg (by decide), ws_nx]
      exact q _ _ _ _ _ _ _ _ h3 hp3
  -- due, kept
  have mid : ∀ a, FolS w W r a → ∀ rv : RV, rv.vl = rO a → WP' (pCons false (eB bRepr (aCons (xO (eLst (aCons (xO (eVar 3)) (aCons (xO (eVar 5)) (aCons (xO (eVar 6)) aNil))))) aNil)) pNil) (le11 cs x2 (some (.val w.D)) x4 (some (.val (rD r))) (some (.val (rD se))) x7 x8 x9 x10 x11 x12 x13) h2
      fun svs h3 => ∃ e1, setsE [7, 8] (.val rv.vl :: svs) (le11 cs x2 (some (.val w.D)) x4 (some (.val (rD r))) (some (.val (rD se))) x7 x8 x9 x10 x11 x12 x13) = some e1 ∧ WS (sSeq (sSet 9 (eCall 2 m3 [] (aCons (nO 3) (aCons (xO (eCall 2 m__law_bare [] (aCons (nO 3) (aCons (nO 6) aNil)))) aNil))))
    (sSeq (sSet 9 (eIf (bOf (eBin dIsN (nO 9) (xO (eC .non)))) (eC .non) (eComp [13] (iVal (eVar 9)) (gNm 13) tYesE (eSl (xO (eVar 13)) pNo (pAt (eBin dIx (nO 3) (xO (eC (.int 0)))))))))
    (sSeq (sFor (iRange range1? (aCons (xO (eC (.int 2))) aNil)) (gNm 10) vj)
    (sIf (bOf (eBin dNe (xO (eB bRepr (aCons (xO (eLst (aCons (xO (eVar 3)) (aCons (xO (eVar 5)) (aCons (xO (eVar 6)) aNil))))) aNil))) (nO 8)))
    (sRet (eC (.bl false)))
    sNx)))) e1 h3 N R := fun a fa rv hrv => by
    rw [hrv, wp_val, we_B, wa_cons, wo_x, we_lst, wa_cons, wo_x, we_var]
    refine ⟨_, rfl, ?_⟩
    rw [wa_cons, wo_x, we_var]
    refine ⟨_, rfl, ?_⟩
    rw [wa_cons, wo_x, we_var]
    refine ⟨_, rfl, ?_⟩
    rw [wa_nil]
    refine ⟨_, rfl, by rw [sizeLine_eq]; show 3 ≤ _; decide, ?_⟩
    rw [wa_nil]
    refine ⟨_, rfl, _, nc.repr (by decide) (by decide), ?_⟩
    rw [wp_nil]
    refine ⟨le11 cs x2 (some (.val w.D)) x4 (some (.val (rD r))) (some (.val (rD se))) (some (.val (rO a))) (some (.val (.str (rS (.lst [w.D, rD r, rD se]))))) x9 x10 x11 x12 x13, rfl, ?_⟩
    rw [ws_seq, ws_set, we_call, wa_cons, wo_n (s := .val w.D) rfl, wa_cons, wo_x, we_call, wa_cons, wo_n (s := .val w.D) rfl, wa_cons, wo_n (s := .val (rD se)) rfl, wa_nil]
    refine ⟨[.val w.D, .val (rD se)], by rw [svs_sl (s := .val w.D) rfl, svs_sl (s := .val (rD se)) rfl]; rfl, rfl, lbare_ok hw hW hi (by omega) sc ?_⟩
    rw [wa_nil]
    have oth : ∀ b, FolS w W (bareR (W - i) se) b → ∀ rv : RV, rv.vl = rO b → WS (sSeq (sSet 9 (eIf (bOf (eBin dIsN (nO 9) (xO (eC .non)))) (eC .non) (eComp [13] (iVal (eVar 9)) (gNm 13) tYesE (eSl (xO (eVar 13)) pNo (pAt (eBin dIx (nO 3) (xO (eC (.int 0)))))))))
    (sSeq (sFor (iRange range1? (aCons (xO (eC (.int 2))) aNil)) (gNm 10) vj)
    (sIf (bOf (eBin dNe (xO (eB bRepr (aCons (xO (eLst (aCons (xO (eVar 3)) (aCons (xO (eVar 5)) (aCons (xO (eVar 6)) aNil))))) aNil))) (nO 8)))
    (sRet (eC (.bl false)))
    sNx))) (le11 cs x2 (some (.val w.D)) x4 (some (.val (rD r))) (some (.val (rD se))) (some (.val (rO a))) (some (.val (.str (rS (.lst [w.D, rD r, rD se]))))) (some (.val rv.vl)) x10 x11 x12 x13) h2 N R := fun b fb rv hrv => by
      rw [hrv, ws_seq, ws_set, we_if, wt_of, we_bin, wo_n (s := .val (rO b)) rfl, wo_x, we_c]
      cases b with
      | none =>
        refine ⟨_, force_val rfl, _, rfl, .val (.bl true), rfl, _, rfl, ?_⟩
        rw [if_pos rfl, we_c]
        exact fin a none fa fb
      | some rb =>
        obtain ⟨lb, wb⟩ := fb.shape rb rfl
        rw [bareR_len] at lb
        refine ⟨_, force_val rfl, _, rfl, .val (.bl false), rfl, _, rfl, ?_⟩
        rw [if_neg (by decide)]
        refine ins_e hw hi (r := rb) (by omega) (.inr trivial) rfl (by show 13 < 14; decide) 3 rfl (by decide) ?_
        exact fin a (some rb) fa fb
    refine ⟨[.val w.D, .val (rD (bareR (W - i) se))], by rw [svs_sl (s := .val w.D) rfl, svs_vl]; rfl, rfl, lfollow_ok hm3.symm hw hW (by rw [bareR_len]; exact s1) (by rw [bareR_len]; omega) hbw (fun he => ?_) fun r' hl' hc' he => ?_⟩
    · exact oth none ⟨fun r2 z => (by cases z), he⟩ _ rfl
    · exact oth (some r') ⟨fun r2 z => (by cases z; exact ⟨hl', hc'⟩), he⟩ _ rfl
  rw [ws_seq, ws_multi, wp_val, we_call, wa_cons, wo_n (s := .val w.D) rfl, wa_cons, wo_n (s := .val (rD r)) rfl, wa_nil]
  refine ⟨[.val w.D, .val (rD r)], by rw [svs_sl (s := .val w.D) rfl, svs_sl (s := .val (rD r)) rfl]; rfl, rfl, lfollow_ok hm3.symm hw hW r1 (by omega) rc (fun he => ?_) fun r' hl' hc' he => ?_⟩
  · exact mid none ⟨fun r2 z => (by cases z), he⟩ (.val .non) rfl
  · exact mid (some r') ⟨fun r2 z => (by cases z; exact ⟨hl', hc'⟩), he⟩ (.val (rD r')) rfl
theorem bL_ok {S : Sx} (hS : S = bL) (hp : PenAt (B + 300) h 0)
    (q : ∀ x3 x4 x5 x6 x7 x8 x9 x10 x11 x12 h', PenAt B h' 0 → N (le11 cs x2 x3 x4 x5 x6 x7 x8 x9 x10 x11 x12 x13) h') : WS S (le11 cs x2 x3 x4 x5 x6 x7 x8 x9 x10 x11 x12 x13) h N R := by
  subst hS
  unfold bL
  generalize hbI : bI = vI
  generalize hm1 : m__law_writing = m1
  rw [ws_seq, ws_set, we_call, wa_cons, wo_n (s := .loc 0) rfl, wa_cons, wo_x, we_bin, wo_x, we_c, wo_x, we_B, wa_cons, wo_x, we_bin, wo_x, we_call, wa_cons, wo_n (s := .loc 0) rfl, wa_cons, wo_x, we_c, wa_nil]
  refine ⟨[.loc 0, .val (.int 3)], by rw [svs_sl (s := .loc 0) rfl, vl_val, svs_vl]; rfl, rfl, ?_⟩
  refine draw_ok (B := B + 299) hp (by decide) (by decide) fun d h1 d0 d1 hp1 o1 => ?_
  rw [wo_x, we_c]
  refine ⟨_, rfl, _, rfl, _, dEq_ii _ _, ?_⟩
  rw [wa_nil]
  refine ⟨_, rfl, .val (.int (if decide (d = 0) then 1 else 0)), rfl, _, rfl, _, rfl, _, dAdd_ii _ _, ?_⟩
  have hi1 : 1 ≤ (1 : Int) + (if decide (d = 0) = true then 1 else 0) := by split <;> omega
  have hi2 : (1 : Int) + (if decide (d = 0) = true then 1 else 0) ≤ 2 := by split <;> omega
  generalize (1 : Int) + (if decide (d = 0) = true then 1 else 0) = ins at hi1 hi2
  rw [wa_cons, wo_x, we_c, wa_cons, wo_x, we_c, wa_nil]
  refine ⟨[.loc 0, .val (.int ins), .val (.int 4), .val (.int ((3 : Nat) : Int))], by rw [svs_sl (s := .loc 0) rfl]; rfl, rfl, writing_ok hm1.symm (B := B + 130) (PenAt.mono hp1 (by omega)) hi1 hi2 (by decide) (by decide) fun w h2 hw hp2 o2 => ?_⟩
  have a1 := hw.i1
  have a3 := hw.iw
  obtain ⟨W, hW⟩ := Int.eq_ofNat_of_zero_le (show 0 ≤ w.wide by omega)
  obtain ⟨i, hi⟩ := Int.eq_ofNat_of_zero_le (show 0 ≤ w.ins by omega)
  show WS _ (le11 cs x2 (some (.val w.D)) x4 x5 x6 x7 x8 x9 x10 x11 x12 x13) h2 _ _
  generalize hE : le11 cs x2 (some (.val w.D)) x4 x5 x6 x7 x8 x9 x10 x11 x12 x13 = E
  refine ws_for ?_
  rw [wi_range1, wa_cons, wo_x, we_c, wa_nil]
  refine ⟨_, rfl, rangeD 0 3, rfl, fun j e h3 => j ≤ 3 ∧ PenAt (B + 40 * (3 - j)) h3 0 ∧ ∃ y4 y5 y6 y7 y8 y9 y10 y11 y12, e = le11 cs x2 (some (.val w.D)) y4 y5 y6 y7 y8 y9 y10 y11 y12 x13, ⟨by decide, PenAt.mono hp2 (by omega), _, _, _, _, _, _, _, _, _, hE.symm⟩, fun j d e h3 hd I => ?_, fun e h3 I => ?_⟩
  · obtain ⟨hj, hp3, y4, y5, y6, y7, y8, y9, y10, y11, y12, rfl⟩ := I
    have hlt := (rangeD_at hd).1
    refine ⟨le11 cs x2 (some (.val w.D)) (some (.val d)) y5 y6 y7 y8 y9 y10 y11 y12 x13, rfl, ?_⟩
    exact bI_ok hbI.symm hw hW hi (B := B + 40 * (3 - (j + 1))) (PenAt.mono hp3 (by omega)) fun z5 z6 z7 z8 z9 z10 z11 z12 h' hp' => ⟨hlt, hp', _, _, _, _, _, _, _, _, _, rfl⟩
  · obtain ⟨hj, hp3, y4, y5, y6, y7, y8, y9, y10, y11, y12, rfl⟩ := I
    exact q _ _ _ _ _ _ _ _ _ _ h3 (PenAt.mono hp3 (by omega))
end
end Lk
end
section
set_option Elab.async false
set_option linter.all false
set_option maxRecDepth 100000
set_option maxHeartbeats 4000000
/-! Lq12: the ladder: what following of its long rows comes to. -/
namespace Lq
variable {P : Type} [DecidableEq P]
theorem two_l {σ : St P} {p q : P} {a b : Bool} (h : Quiet σ [(p, a), (q, b)]) (e : σ p = some (!a)) : σ q = some b := by
  have w1 : worth σ (p, a) = some false := by
    unfold worth; rw [show σ (p, a).1 = some (!a) from e]; cases a <;> rfl
  rcases h with ⟨l, hl, hw⟩ | h2
  · simp only [List.mem_cons, List.not_mem_nil, or_false] at hl
    rcases hl with rfl | rfl
    · rw [w1] at hw; cases hw
    · unfold worth at hw
      cases z : σ q with
      | none => rw [show σ (q, b).1 = none from z] at hw; cases hw
      | some v =>
        rw [show σ (q, b).1 = some v from z] at hw
        have : (v == b) = true := Option.some.inj hw
        rw [eq_of_beq this]
  · rw [List.countP_cons, List.countP_cons, List.countP_nil, w1] at h2
    have h3 : (if (Option.isNone (some false : Option Bool)) = true then 1 else 0 : Nat) = 0 := rfl
    rw [h3] at h2
    split at h2 <;> omega
theorem quiet_comm {σ : St P} {l k : P × Bool} (h : Quiet σ [l, k]) : Quiet σ [k, l] := by
  rcases h with ⟨x, hx, hw⟩ | h2
  · refine .inl ⟨x, ?_, hw⟩
    simp only [List.mem_cons, List.not_mem_nil, or_false] at hx ⊢
    exact hx.symm
  · refine .inr ?_
    simp only [List.countP_cons, List.countP_nil] at h2 ⊢
    omega
theorem two_r {σ : St P} {p q : P} {a b : Bool} (h : Quiet σ [(p, a), (q, b)]) (e : σ q = some (!b)) : σ p = some a := two_l (quiet_comm h) e
end Lq
namespace Lk
open PySem Ev Dk
def lad : Wr := ⟨1, 2, [], [[-1, 2]], [[-2, 4], [-3, -2]], []⟩
theorem lad_ok : lad.Ok 2 := known_ok (w := lad) (by unfold knowns; exact List.mem_cons_self)
section
variable {n : Nat} {σ : Nat × Nat → Option Bool}
theorem lad_e (st : Lq.Stable (stepsC lad 2 n) σ) {c : Nat} (h : c < n) : Lq.Quiet σ [((c, 0), false), ((c, 1), true)] :=
  st _ (List.mem_map.mpr ⟨⟨nmS 1, 0, c, [-1, 2]⟩, mem_flat.mpr ⟨1, by decide, ptF_iff.mpr ⟨0, rfl, rfl, rfl, List.mem_range.mpr h⟩⟩, rfl⟩)
theorem lad_1 (st : Lq.Stable (stepsC lad 2 n) σ) {c : Nat} (h : c + 1 < n) : Lq.Quiet σ [((c, 1), false), ((c + 1, 1), true)] :=
  st _ (List.mem_map.mpr ⟨⟨nmS 2, 0, c, [-2, 4]⟩, mem_flat.mpr ⟨2, by decide, ptF_iff.mpr ⟨0, rfl, rfl, rfl, List.mem_range.mpr (show c < n - 1 by omega)⟩⟩, rfl⟩)
theorem lad_2 (st : Lq.Stable (stepsC lad 2 n) σ) {c : Nat} (h : c + 1 < n) : Lq.Quiet σ [((c + 1, 0), false), ((c, 1), false)] :=
  st _ (List.mem_map.mpr ⟨⟨nmS 2, 1, c, [-3, -2]⟩, mem_flat.mpr ⟨2, by decide, ptF_iff.mpr ⟨1, rfl, rfl, rfl, List.mem_range.mpr (show c < n - 1 by omega)⟩⟩, rfl⟩)
theorem lad_fwd (st : Lq.Stable (stepsC lad 2 n) σ) {c : Nat} (h : σ (c, 1) = some true) : ∀ k, c + k < n → σ (c + k, 1) = some true
  | 0, _ => h
  | k + 1, hk => Lq.two_l (lad_1 st (c := c + k) (by omega)) (lad_fwd st h k (by omega))
theorem lad_fwd0 (st : Lq.Stable (stepsC lad 2 n) σ) {c : Nat} (h : σ (c, 1) = some true) {k : Nat} (hk : c + k + 1 < n) : σ (c + k + 1, 0) = some false := Lq.two_r (lad_2 st (c := c + k) hk) (lad_fwd st h k (by omega))
theorem lad_top (st : Lq.Stable (stepsC lad 2 n) σ) {c : Nat} (hc : c < n) (h : σ (c, 0) = some true) : σ (c, 1) = some true := Lq.two_l (lad_e st hc) h
theorem lad_bwd (st : Lq.Stable (stepsC lad 2 n) σ) {c : Nat} (hc : c + 1 < n) (h : σ (c + 1, 0) = some true) : ∀ k, k ≤ c → σ (c - k, 1) = some false ∧ σ (c - k, 0) = some false
  | 0, _ => by
    have a : σ (c, 1) = some false := Lq.two_l (lad_2 st hc) h
    exact ⟨a, Lq.two_r (lad_e st (by omega)) a⟩
  | k + 1, hk => by
    have ih := (lad_bwd st hc h k (by omega)).1
    have e : c - k = (c - (k + 1)) + 1 := by omega
    rw [e] at ih
    have a : σ (c - (k + 1), 1) = some false := Lq.two_r (lad_1 st (c := c - (k + 1)) (by omega)) ih
    exact ⟨a, Lq.two_r (lad_e st (by omega)) a⟩
end
/-- the entry of a row by its column -/
theorem entR_at {r : List Col} {k j : Nat} {c : Col} (h : r[k]? = some c) : entR r (k, j) = (c[j]?).getD none := by
  unfold entR
  rw [h]; rfl
def quietB (σ : Nat × Nat → Option Bool) (c : Lq.Cls (Nat × Nat)) : Bool := c.any (fun l => Lq.worth σ l == some true) || decide (2 ≤ c.countP fun l => (Lq.worth σ l).isNone)
theorem quiet_of {σ : Nat × Nat → Option Bool} {c : Lq.Cls (Nat × Nat)} (h : quietB σ c = true) : Lq.Quiet σ c := by
  unfold quietB at h
  rw [Bool.or_eq_true] at h
  rcases h with h | h
  · obtain ⟨l, hl, e⟩ := List.any_eq_true.mp h
    exact .inl ⟨l, hl, eq_of_beq e⟩
  · exact .inr (of_decide_eq_true h)
def stB (n : Nat) (r : List Col) : Bool := (flatTo lad n 4).all fun s => quietB (entR r) (clsOf 2 s)
theorem st_of {n : Nat} {r : List Col} (h : stB n r = true) : Lq.Stable (stepsC lad 2 n) (entR r) := fun c hc => by
  obtain ⟨s, hs, rfl⟩ := List.mem_map.mp hc
  exact quiet_of (List.all_eq_true.mp h s hs)
def subB (n : Nat) (r t : List Col) : Bool := (List.range n).all fun k => [0, 1].all fun j => match entR r (k, j) with
  | none => true
  | some b => entR t (k, j) == some b
theorem sub_of {n : Nat} {r t : List Col} (hl : r.length = n) (hc : ∀ c ∈ r, c.length = 2) (h : subB n r t = true) : Lq.Sub (entR r) (entR t) := fun p b e => by
  obtain ⟨k, j⟩ := p
  by_cases hk : k < n
  · have w : (r[k]'(by omega)).length = 2 := hc _ (List.getElem_mem _)
    have ek := entR_at (r := r) (k := k) (j := j) (List.getElem?_eq_getElem (by omega))
    by_cases hj : j < 2
    · have z := List.all_eq_true.mp (List.all_eq_true.mp h k (List.mem_range.mpr hk)) j (by
        have : j = 0 ∨ j = 1 := by omega
        rcases this with rfl | rfl
        · exact List.mem_cons_self
        · exact List.mem_cons_of_mem _ List.mem_cons_self)
      rw [e] at z
      exact eq_of_beq z
    · rw [ek, List.getElem?_eq_none (by omega)] at e; cases e
  · unfold entR at e
    rw [List.getElem?_eq_none (l := r) (i := k) (by omega)] at e
    simp at e
/-- the one end, where a stable row holds the given one and everything stable does -/
theorem fol_some {n : Nat} {r t : List Col} {a : Option (List Col)} (hr : r.length = n) (hrc : ∀ c ∈ r, c.length = 2) (ht : t.length = n) (htc : ∀ c ∈ t, c.length = 2) (st : stB n t = true) (sb : subB n r t = true)
    (all : ∀ r2 : List Col, r2.length = n → (∀ c ∈ r2, c.length = 2) → Lq.Stable (stepsC lad 2 n) (entR r2) → Lq.Sub (entR r) (entR r2) → r2 = t) (f : FolS lad 2 r a) : a = some t := by
  subst hr
  cases a with
  | none =>
    obtain ⟨τ, rc, d⟩ := f.ends
    exact (Lq.dead_not rc (sub_of rfl hrc sb) (st_of st) d).elim
  | some r2 =>
    obtain ⟨l2, w2⟩ := f.shape r2 rfl
    obtain ⟨rc, s2⟩ := f.ends
    rw [all r2 l2 w2 s2 rc.sub]
theorem fol_none {r : List Col} {a : Option (List Col)} (no : ∀ σ, Lq.Stable (stepsC lad 2 r.length) σ → Lq.Sub (entR r) σ → False) (f : FolS lad 2 r a) : a = none := by
  cases a with
  | none => rfl
  | some r2 =>
    obtain ⟨rc, s2⟩ := f.ends
    exact (no _ s2 rc.sub).elim
/-- a row of two signs whose entries are known -/
theorem row_of {r t : List Col} (hl : r.length = t.length) (hc : ∀ c ∈ r, c.length = 2) (htc : ∀ c ∈ t, c.length = 2) (h : ∀ k, k < t.length → entR r (k, 0) = entR t (k, 0) ∧ entR r (k, 1) = entR t (k, 1)) : r = t := by
  refine row_ext hl hc htc (funext fun p => ?_)
  obtain ⟨k, j⟩ := p
  by_cases hk : k < t.length
  · have : j = 0 ∨ j = 1 ∨ 2 ≤ j := by omega
    rcases this with rfl | rfl | hj
    · exact (h k hk).1
    · exact (h k hk).2
    · rw [entR_at (List.getElem?_eq_getElem (by omega : k < r.length)), entR_at (List.getElem?_eq_getElem hk), List.getElem?_eq_none (by rw [hc _ (List.getElem_mem _)]; exact hj), List.getElem?_eq_none (by rw [htc _ (List.getElem_mem _)]; exact hj)]
  · unfold entR
    rw [List.getElem?_eq_none (l := r) (i := k) (by omega), List.getElem?_eq_none (l := t) (i := k) (by omega)]
def NN : Col := [none, none]
def TN : Col := [some true, none]
def FF : Col := [some false, some false]
def TT : Col := [some true, some true]
def FT : Col := [some false, some true]
def lrow (a b : Nat) : List Col := List.replicate a NN ++ [TN] ++ List.replicate b NN
def ltyp (a b : Nat) : List Col := List.replicate a FF ++ [TT] ++ List.replicate b FT
theorem three_at {a b k : Nat} {x y z : Col} : (List.replicate a x ++ [y] ++ List.replicate b z)[k]? = if k < a then some x else if k = a then some y else if k < a + 1 + b then some z else none := by
  by_cases h1 : k < a
  · rw [if_pos h1, List.getElem?_append_left (by rw [List.length_append, List.length_replicate]; show k < a + 1; omega), List.getElem?_append_left (by rw [List.length_replicate]; exact h1), List.getElem?_replicate, if_pos h1]
  · rw [if_neg h1]
    by_cases h2 : k = a
    · subst h2
      rw [if_pos rfl, List.getElem?_append_left (by rw [List.length_append, List.length_replicate]; show k < k + 1; omega), List.getElem?_append_right (by rw [List.length_replicate]; omega), List.length_replicate, Nat.sub_self]
      rfl
    · rw [if_neg h2, List.getElem?_append_right (by rw [List.length_append, List.length_replicate]; show a + 1 ≤ k; omega), List.getElem?_replicate, List.length_append, List.length_replicate]
      show (if k - (a + 1) < b then some z else none) = _
      by_cases h3 : k < a + 1 + b
      · rw [if_pos h3, if_pos (by omega)]
      · rw [if_neg h3, if_neg (by omega)]
theorem three_len {a b : Nat} {x y z : Col} : (List.replicate a x ++ [y] ++ List.replicate b z).length = a + 1 + b := by
  rw [List.length_append, List.length_append, List.length_replicate, List.length_replicate]; rfl
theorem three_wide {a b : Nat} {x y z : Col} (hx : x.length = 2) (hy : y.length = 2) (hz : z.length = 2) : ∀ c ∈ List.replicate a x ++ [y] ++ List.replicate b z, c.length = 2 := fun c hc => by
  rcases List.mem_append.mp hc with h | h
  · rcases List.mem_append.mp h with h | h
    · rw [(List.mem_replicate.mp h).2]; exact hx
    · rw [List.mem_singleton.mp h]; exact hy
  · rw [(List.mem_replicate.mp h).2]; exact hz
/-- all that is stable and holds such a row -/
theorem lad_all {a b : Nat} : ∀ r2 : List Col, r2.length = a + 1 + b → (∀ c ∈ r2, c.length = 2) → Lq.Stable (stepsC lad 2 (a + 1 + b)) (entR r2) → Lq.Sub (entR (lrow a b)) (entR r2) → r2 = ltyp a b := fun r2 hl hc st sb => by
  have top0 : entR r2 (a, 0) = some true := sb (a, 0) true (by
    unfold lrow
    rw [entR_at (three_at.trans (by rw [if_neg (by omega), if_pos rfl]))]; rfl)
  have top1 := lad_top st (by omega) top0
  refine row_of (by rw [hl]; exact three_len.symm) hc (three_wide rfl rfl rfl) fun k hk => ?_
  have hk' : k < a + 1 + b := by unfold ltyp at hk; rw [three_len] at hk; exact hk
  unfold ltyp
  by_cases h1 : k < a
  · rw [entR_at (three_at.trans (by rw [if_pos h1])), entR_at (three_at.trans (by rw [if_pos h1]))]
    obtain ⟨c, rfl⟩ : ∃ c, a = c + 1 := ⟨a - 1, by omega⟩
    have := lad_bwd st (c := c) (by omega) top0 (c - k) (by omega)
    rw [show c - (c - k) = k by omega] at this
    exact ⟨this.2, this.1⟩
  · by_cases h2 : k = a
    · subst h2
      rw [entR_at (three_at.trans (by rw [if_neg h1, if_pos rfl])), entR_at (three_at.trans (by rw [if_neg h1, if_pos rfl]))]
      exact ⟨top0, top1⟩
    · rw [entR_at (three_at.trans (by rw [if_neg h1, if_neg h2, if_pos hk'])), entR_at (three_at.trans (by rw [if_neg h1, if_neg h2, if_pos hk']))]
      obtain ⟨j, rfl⟩ : ∃ j, k = a + j + 1 := ⟨k - a - 1, by omega⟩
      exact ⟨lad_fwd0 st top1 (by omega), lad_fwd st top1 (j + 1) (by omega)⟩
/-- two that are told are too many -/
theorem lad_no {n c k : Nat} {σ : Nat × Nat → Option Bool} (st : Lq.Stable (stepsC lad 2 n) σ) (hn : c + k + 1 < n) (h1 : σ (c, 0) = some true) (h2 : σ (c + k + 1, 0) = some true) : False := by
  have := lad_fwd0 st (lad_top st (by omega) h1) hn
  rw [h2] at this; cases this
end Lk
end
section
set_option Elab.async false
set_option linter.all false
set_option maxRecDepth 100000
set_option maxHeartbeats 4000000
/-! Lk04: the law answers True. -/
namespace Lk
open PySem Ev Dk
theorem mulL (x : Col) {k : Nat} (h1 : k ≤ 1000) : dMul (.lst [cD x]) (.int (k : Nat)) = some (.fresh ((List.replicate k x).map cD)) := by
  show ((iMul (.lst [cD x]) (.int (k : Nat))).or ((lMul (.lst [cD x]) (.int (k : Nat))).or _)) = _
  have e : lMul (.lst [cD x]) (.int (k : Nat)) = some (.fresh (List.replicate ((k : Nat) : Int).toNat [cD x]).flatten) := by
    unfold lMul
    exact if_pos ⟨by omega, by omega, by rw [sizeLine_eq, Int.toNat_natCast]; show 1 * k ≤ _; omega⟩
  rw [e, repl1, List.map_replicate, Int.toNat_natCast]
  rfl
theorem addR (a b : List Col) (h : a.length + b.length ≤ 2000) : dAdd (.lst (a.map cD)) (.lst (b.map cD)) = some (.fresh ((a ++ b).map cD)) := by
  rw [List.map_append]
  exact lAdd_l _ _ (by rw [List.length_map, List.length_map, sizeLine_eq]; omega)
theorem pys_cD : ∀ r : List Col, toPys (r.map cD) = some (r.map fun c => PyData.tuple (c.map eP))
  | [] => rfl
  | c :: r => by
    have h1 : toPy (cD c) = some (.tuple (c.map eP)) := by
      show toPy (.tup (c.map eD)) = _
      rw [toPy, pys_eD]
    rw [List.map_cons, toPys, h1, pys_cD r]; rfl
theorem eqvE : ∀ c : Col, PyData.eqvAll (c.map eP) (c.map eP) = true
  | [] => by simp [PyData.eqvAll]
  | e :: c => by
    rw [List.map_cons, PyData.eqvAll, eqv_eP, eqvE c, beq_self_eq_true]; rfl
theorem eqvR : ∀ r : List Col, PyData.eqvAll (r.map fun c => PyData.tuple (c.map eP)) (r.map fun c => PyData.tuple (c.map eP)) = true
  | [] => by simp [PyData.eqvAll]
  | c :: r => by
    rw [List.map_cons, PyData.eqvAll, PyData.eqv, eqvE c, eqvR r]; rfl
theorem eqR {r : List Col} (h1 : r.length ≤ 1000) (h2 : ∀ c ∈ r, c.length ≤ 10) : dEq? (.lst (r.map cD)) (.lst (r.map cD)) = some true := by
  obtain ⟨p, e, sh⟩ := (nc_rD h1 h2).shaped (by decide)
  have e : toPy (.lst (r.map cD)) = some p := e
  unfold dEq?
  rw [e]
  dsimp only
  rw [sh]
  have e2 : toPy (.lst (r.map cD)) = some (.list (r.map fun c => PyData.tuple (c.map eP))) := by rw [toPy, pys_cD]
  rw [e] at e2
  cases e2
  show (if (true && true) = true then some (PyData.eqv (.list _) (.list _)) else none) = _
  rw [PyData.eqv, eqvR]
  rfl
def rowA : List Col := lrow 150 149
def rowB2 : List Col := rowA.take 40 ++ [TN] ++ rowA.take 160
def seA : List Col := List.replicate 99 [none] ++ [[some true]]
def seB : List Col := seA ++ [[some true]]
theorem rowA_len : rowA.length = 300 := three_len
theorem rowB_len : rowB2.length = 201 := by unfold rowB2; rw [List.length_append, List.length_append, List.length_take, List.length_take, rowA_len]; rfl
theorem rowA_wide : ∀ c ∈ rowA, c.length = 2 := three_wide rfl rfl rfl
theorem rowB_wide : ∀ c ∈ rowB2, c.length = 2 := fun c hc => by
  unfold rowB2 at hc
  rcases List.mem_append.mp hc with h | h
  · rcases List.mem_append.mp h with h | h
    · exact rowA_wide c (List.mem_of_mem_take h)
    · rw [List.mem_singleton.mp h]; rfl
  · exact rowA_wide c (List.mem_of_mem_take h)
theorem stA : stB 300 (ltyp 150 149) = true := by decide +kernel
theorem sbA : subB 300 rowA (ltyp 150 149) = true := by decide +kernel
theorem stC : stB 100 (ltyp 99 0) = true := by decide +kernel
theorem sbC : subB 100 (lrow 99 0) (ltyp 99 0) = true := by decide +kernel
theorem folA {a : Option (List Col)} (f : FolS lad 2 rowA a) : a = some (ltyp 150 149) :=
  fol_some (n := 300) rowA_len rowA_wide three_len (three_wide rfl rfl rfl) stA sbA (lad_all (a := 150) (b := 149)) f
theorem folB {a : Option (List Col)} (f : FolS lad 2 rowB2 a) : a = none :=
  fol_none (fun σ st sb => lad_no (c := 40) (k := 150) (by rw [rowB_len] at st; exact st) (by decide) (sb (40, 0) true (by decide +kernel)) (sb (191, 0) true (by decide +kernel))) f
theorem bareA : bareR (2 - 1) seA = lrow 99 0 := by decide +kernel
theorem folC {a : Option (List Col)} (f : FolS lad 2 (bareR (2 - 1) seA) a) : a = some (ltyp 99 0) := by
  rw [bareA] at f
  exact fol_some (n := 100) three_len (three_wide rfl rfl rfl) three_len (three_wide rfl rfl rfl) stC sbC (lad_all (a := 99) (b := 0)) f
theorem bareB_len : (bareR (2 - 1) seB).length = 101 := by decide +kernel
theorem folD {a : Option (List Col)} (f : FolS lad 2 (bareR (2 - 1) seB) a) : a = none :=
  fol_none (fun σ st sb => lad_no (c := 99) (k := 0) (by rw [bareB_len] at st; exact st) (by decide) (sb (99, 0) true (by decide +kernel)) (sb (100, 0) true (by decide +kernel))) f
theorem seA_len : seA.length = 100 := by decide +kernel
theorem seA_wide : ∀ c ∈ seA, c.length = 1 := fun c hc => by
  unfold seA at hc
  rcases List.mem_append.mp hc with h | h
  · rw [(List.mem_replicate.mp h).2]; rfl
  · rw [List.mem_singleton.mp h]; rfl
theorem seB_wide : ∀ c ∈ seB, c.length = 1 := fun c hc => by
  unfold seB at hc
  rcases List.mem_append.mp hc with h | h
  · exact seA_wide c h
  · rw [List.mem_singleton.mp h]; rfl
theorem insA : insR 1 (ltyp 99 0) = List.replicate 99 [some false] ++ [[some true]] := by decide +kernel
/-- [c] * k + [d], and such -/
theorem one_e {E : Nv} {h : Hs} {Q : RV → Hs → Prop} {m1 : Ex} {c : Col} (hm : m1 E h = .ok (.val (cD c)) h) {k : Nat} (hk : k ≤ 1000) (q : Q (.fresh ((List.replicate k c).map cD)) h) : WE (eBin dMul (xO (eLst (aCons (xO m1) aNil))) (xO (eC (.int (k : Nat))))) E h Q := by
  rw [we_bin, wo_x, we_lst, wa_cons, wo_x]
  refine we_lit hm ?_
  rw [wa_nil]
  refine ⟨_, rfl, by rw [sizeLine_eq]; show 1 ≤ _; decide, ?_⟩
  rw [wo_x, we_c]
  exact ⟨_, rfl, _, rfl, _, mulL c hk, q⟩
theorem sing_e {E : Nv} {h : Hs} {Q : RV → Hs → Prop} {m1 : Ex} {c : Col} (hm : m1 E h = .ok (.val (cD c)) h) (q : Q (.fresh ([c].map cD)) h) : WE (eLst (aCons (xO m1) aNil)) E h Q := by
  rw [we_lst, wa_cons, wo_x]
  refine we_lit hm ?_
  rw [wa_nil]
  exact ⟨_, rfl, by rw [sizeLine_eq]; show 1 ≤ _; decide, q⟩
theorem sum_e {E : Nv} {h : Hs} {Q : RV → Hs → Prop} {m1 m2 : Ex} {a b : List Col} (hl : a.length + b.length ≤ 2000) (w1 : ∀ {Q' : RV → Hs → Prop}, Q' (.fresh (a.map cD)) h → WE m1 E h Q') (w2 : ∀ {Q' : RV → Hs → Prop}, Q' (.fresh (b.map cD)) h → WE m2 E h Q') (q : Q (.fresh ((a ++ b).map cD)) h) : WE (eBin dAdd (xO m1) (xO m2)) E h Q := by
  rw [we_bin, wo_x]
  refine w1 ?_
  rw [wo_x]
  refine w2 ?_
  exact ⟨_, rfl, _, rfl, _, addR a b hl, q⟩
theorem long_ok {m0 : Fx} (hm0 : m0 = m__law_long_right) {h : Hs} {Q : RV → Hs → Prop} (q : Q (.val (.bl true)) h) : WF m0 [] h Q := by
  subst hm0
  unfold m__law_long_right
  rw [wf_fn]
  generalize hm1 : m_followed = m1
  generalize hm2 : m_seen = m2
  show WS _ [none, none, none] h _ _
  rw [ws_seq, ws_set]
  refine we_lit (rv := .val lad.D) rfl ?_
  show WS _ [some (.val lad.D), none, none] h _ _
  rw [ws_seq, ws_set]
  refine sum_e (a := List.replicate 150 NN ++ [TN]) (b := List.replicate 149 NN) (by decide) (fun q' => sum_e (a := List.replicate 150 NN) (b := [TN]) (by decide) (fun q2 => one_e (c := NN) (k := 150) rfl (by decide) q2) (fun q2 => sing_e (c := TN) rfl q2) q') (fun q' => one_e (c := NN) (k := 149) rfl (by decide) q') ?_
  show WS _ [some (.val lad.D), some (.val (rD rowA)), none] h _ _
  rw [ws_seq, ws_if, wt_of, we_bin, wo_x, we_call, wa_cons, wo_n (s := .val lad.D) rfl, wa_cons, wo_n (s := .val (rD rowA)) rfl, wa_nil]
  refine ⟨[.val lad.D, .val (rD rowA)], by rw [svs_sl (s := .val lad.D) rfl, svs_sl (s := .val (rD rowA)) rfl]; rfl, rfl, followed_ok hm1.symm lad_ok (W := 2) rfl (by rw [rowA_len]; decide) (by rw [rowA_len]; decide) rowA_wide fun a fa => ?_⟩
  rw [folA fa, wo_x]
  refine sum_e (a := List.replicate 150 FF ++ [TT]) (b := List.replicate 149 FT) (by decide) (fun q' => sum_e (a := List.replicate 150 FF) (b := [TT]) (by decide) (fun q2 => one_e (c := FF) (k := 150) rfl (by decide) q2) (fun q2 => sing_e (c := TT) rfl q2) q') (fun q' => one_e (c := FT) (k := 149) rfl (by decide) q') ?_
  refine ⟨_, rfl, _, rfl, .val (.bl false), ?_, _, rfl, ?_⟩
  · show (dEq? (.lst ((ltyp 150 149).map cD)) (.lst ((ltyp 150 149).map cD))).map _ = _
    rw [eqR (by unfold ltyp; rw [three_len]; decide) fun c hc => by rw [three_wide rfl rfl rfl c hc]; decide]; rfl
  rw [if_neg (by decide), ws_nx, ws_seq, ws_if, wt_of, we_bin, wo_x, we_call, wa_cons, wo_n (s := .val lad.D) rfl, wa_cons, wo_x]
  have cut : ∀ (k : Nat) {Q' : RV → Hs → Prop}, k ≤ 300 → Q' (.fresh ((rowA.take k).map cD)) h → WE (eSl (nO 1) pNo (pAt (eC (.int (k : Nat))))) [some (.val lad.D), some (.val (rD rowA)), none] h Q' := fun k Q' hk q' => by
    rw [we_sl, wo_n (s := .val (rD rowA)) rfl, wx_no, wx_at, we_c]
    refine ⟨_, rfl, _, force_val rfl, .fresh ((rowA.take k).map cD), ?_, q'⟩
    show some (RV.fresh (cutD (rowA.map cD) none (some (k : Int)))) = _
    rw [cutTo _ (by rw [List.length_map, rowA_len]; exact hk), List.map_take]
  refine sum_e (a := rowA.take 40 ++ [TN]) (b := rowA.take 160) (by rw [List.length_append, List.length_take, List.length_take, rowA_len]; decide) (fun q' => sum_e (a := rowA.take 40) (b := [TN]) (by rw [List.length_take, rowA_len]; decide) (fun q2 => cut 40 (by decide) q2) (fun q2 => sing_e (c := TN) rfl q2) q') (fun q' => cut 160 (by decide) q') ?_
  rw [wa_nil]
  refine ⟨[.val lad.D, .val (rD rowB2)], by rw [svs_sl (s := .val lad.D) rfl, svs_vl]; rfl, rfl, followed_ok hm1.symm lad_ok (W := 2) rfl (by rw [rowB_len]; decide) (by rw [rowB_len]; decide) rowB_wide fun a fa => ?_⟩
  rw [folB fa, wo_x, we_c]
  refine ⟨_, rfl, _, rfl, .val (.bl false), rfl, _, rfl, ?_⟩
  rw [if_neg (by decide), ws_nx, ws_seq, ws_set]
  refine sum_e (a := List.replicate 99 [none]) (b := [[some true]]) (by decide) (fun q2 => one_e (c := [none]) (k := 99) rfl (by decide) q2) (fun q2 => sing_e (c := [some true]) rfl q2) ?_
  show WS _ [some (.val lad.D), some (.val (rD rowA)), some (.val (rD seA))] h _ _
  rw [ws_ret, we_andE, we_bin, wo_x, we_call, wa_cons, wo_n (s := .val lad.D) rfl, wa_cons, wo_n (s := .val (rD seA)) rfl, wa_nil]
  refine ⟨[.val lad.D, .val (rD seA)], by rw [svs_sl (s := .val lad.D) rfl, svs_sl (s := .val (rD seA)) rfl]; rfl, rfl, seen_ok hm2.symm lad_ok (W := 2) (i := 1) rfl rfl (by rw [seA_len]; decide) (by rw [seA_len]; decide) seA_wide fun a fa => ?_⟩
  rw [folC fa, wo_x]
  refine sum_e (a := List.replicate 99 [some false]) (b := [[some true]]) (by decide) (fun q2 => one_e (c := [some false]) (k := 99) rfl (by decide) q2) (fun q2 => sing_e (c := [some true]) rfl q2) ?_
  refine ⟨_, rfl, _, rfl, .val (.bl true), ?_, true, rfl, ?_⟩
  · show (dEq? (.lst ((insR 1 (ltyp 99 0)).map cD)) (.lst ((List.replicate 99 [some false] ++ [[some true]] : List Col).map cD))).map _ = _
    rw [insA, eqR (by decide) (by decide)]; rfl
  rw [if_pos rfl, we_bin, wo_x, we_call, wa_cons, wo_n (s := .val lad.D) rfl, wa_cons, wo_x, we_bin, wo_n (s := .val (rD seA)) rfl, wo_x]
  refine sing_e (c := [some true]) rfl ?_
  refine ⟨_, force_val rfl, _, rfl, _, addR seA [[some true]] (by rw [seA_len]; decide), ?_⟩
  rw [wa_nil]
  have lB : seB.length = 101 := by unfold seB; rw [List.length_append, seA_len]; rfl
  refine ⟨[.val lad.D, .val (rD seB)], by rw [svs_sl (s := .val lad.D) rfl, svs_vl]; rfl, rfl, seen_ok hm2.symm lad_ok (W := 2) (i := 1) rfl rfl (by rw [lB]; decide) (by rw [lB]; decide) seB_wide fun a fa => ?_⟩
  rw [folD fa, wo_x, we_c]
  refine ⟨_, rfl, _, rfl, .val (.bl true), rfl, ?_⟩
  rw [List.take_length]
  exact q
theorem law_ok {cs : List Int} (hl : cs.length ≤ 63) : WF m_law [.val (scrD cs)] [] fun rv _ => rv = .val (.bl true) := by
  rw [m_law_eq, wf_fn]
  generalize hbL : bL = vL
  generalize hm2 : m__law_long_right = m2
  show WS _ [some (.val (scrD cs)), none, none, none, none, none, none, none, none, none, none, none, none, none] [] _ _
  rw [ws_seq, ws_new, we_call, wa_cons, wo_n (s := .val (scrD cs)) rfl, wa_nil]
  refine ⟨[.val (scrD cs)], svs_sl (s := .val (scrD cs)) rfl, rfl, ?_⟩
  refine pen_ok (by omega) fun es => ?_
  refine ⟨_, rfl, ?_⟩
  have hp : PenAt (2 ^ 190) [penC es 0 0] 0 := ⟨es, 0, 0, rfl, by decide, by decide⟩
  have e0 : (2 : Nat) ^ 190 = 1569275433846670190958947355801916604025588861116008628224 := by decide
  rw [e0] at hp
  have hp0 : PenAt 3000 [penC es 0 0] 0 := PenAt.mono hp (by decide)
  show WS (sSeq _ _) (le11 cs none none none none none none none none none none none none) [penC es 0 0] _ _
  generalize ([penC es 0 0] : Hs) = k0 at hp0
  rw [ws_seq]
  generalize hE : le11 cs none none none none none none none none none none none none = E
  refine ws_for ?_
  rw [wi_range1, wa_cons, wo_x, we_c, wa_nil]
  refine ⟨[.int 8], rfl, rangeD 0 8, rfl, ?_⟩
  refine ⟨fun i e h2 => i ≤ 8 ∧ PenAt (10 + (8 - i) * 300) h2 0 ∧ ∃ x2 x3 x4 x5 x6 x7 x8 x9 x10 x11 x12, e = le11 cs x2 x3 x4 x5 x6 x7 x8 x9 x10 x11 x12 none, ⟨by decide, PenAt.mono hp0 (by decide), _, _, _, _, _, _, _, _, _, _, _, hE.symm⟩, fun i d e h2 hd I => ?_, fun e h2 I => ?_⟩
  · obtain ⟨hi, hp2, x2, x3, x4, x5, x6, x7, x8, x9, x10, x11, x12, rfl⟩ := I
    have hlt := (rangeD_at hd).1
    refine ⟨le11 cs (some (.val d)) x3 x4 x5 x6 x7 x8 x9 x10 x11 x12 none, rfl, ?_⟩
    exact bL_ok hbL.symm (B := 10 + (8 - (i + 1)) * 300) (PenAt.mono hp2 (by omega)) fun y3 y4 y5 y6 y7 y8 y9 y10 y11 y12 h' hp' => ⟨hlt, hp', _, _, _, _, _, _, _, _, _, _, _, rfl⟩
  · obtain ⟨hi, hp2, x2, x3, x4, x5, x6, x7, x8, x9, x10, x11, x12, rfl⟩ := I
    rw [ws_ret, we_call, wa_nil]
    exact ⟨[], rfl, rfl, long_ok hm2.symm rfl⟩
end Lk
theorem Dk.truly : Ev.Truly Dk.m_law 63 := by
  intro ns hl
  have W := Lk.law_ok (cs := ns) hl
  unfold Ev.WF at W
  cases e : Dk.m_law [.val (Ev.scrD ns)] [] with
  | ok rv h => rw [e] at W; exact ⟨h, by rw [show rv = .val (.bl true) from W]⟩
  | exc _ _ => rw [e] at W; exact W.elim
  | bad => rw [e] at W; exact W.elim
end
set_option Elab.async false
set_option linter.all false
set_option maxRecDepth 100000
open PySem PySem.W PyProof.Rows
set_option maxHeartbeats 0 in
theorem PySem.Challenge.cw_followrows_k04_following_holds : PySem.Challenge.rw_followrows_k04_following.Holds := by
  w_on; o_law; k_head; (case hw => w_witness2)
  k_fill
  refine Dk.walk (l := PySem.Challenge.rw_followrows_k04_following) rfl rfl rfl (fun w h Y => PySem.W.kIn_of Y) ?F Dk.truly
  case F =>
    intro w mg h KX G
    refine' Dk.txt_mk KX G ?a0 ?l0 ?c0 ?k0 ?a1 ?l1 ?c1 ?k1 ?a2 ?l2 ?c2 ?k2 ?a3 ?l3 ?c3 ?k3 ?a4 ?l4 ?c4 ?k4 ?a5 ?l5 ?c5 ?k5 ?a6 ?l6 ?c6 ?k6 ?a7 ?l7 ?c7 ?k7 ?a8 ?l8 ?c8 ?k8 ?a9 ?l9 ?c9 ?k9 ?a10 ?l10 ?c10 ?k10 ?a11 ?l11 ?c11 ?k11 ?a12 ?l12 ?c12 ?k12 ?a13 ?l13 ?c13 ?k13 ?a14 ?l14 ?c14 ?k14 ?a15 ?l15 ?c15 ?k15 ?a16 ?l16 ?c16 ?k16 ?a17 ?l17 ?c17 ?k17 ?a18 ?l18 ?c18 ?k18 ?a19 ?l19 ?c19 ?k19 ?a20 ?l20 ?c20 ?k20 ?a21 ?l21 ?c21 ?k21 ?a22 ?l22 ?c22 ?k22 ?a23 ?l23 ?c23 ?k23 ?a24 ?l24 ?c24 ?k24 ?a25 ?l25 ?c25 ?k25 ?a26 ?l26 ?c26 ?k26 ?a27 ?l27 ?c27 ?k27 ?a28 ?l28 ?c28 ?k28 ?a29 ?l29 ?c29 ?k29 ?a30 ?l30 ?c30 ?k30 ?a31 ?l31 ?c31 ?k31 ?a32 ?l32 ?c32 ?k32 ?a33 ?l33 ?c33 ?k33 ?a34 ?l34 ?c34 ?k34 ?a35 ?l35 ?c35 ?k35 ?a36 ?l36 ?c36 ?k36 ?a37 ?l37 ?c37 ?k37 ?a38 ?l38 ?c38 ?k38 ?z_abs ?z_all ?z_bool ?z_enumerate ?z_int ?z_isinstance ?z_len ?z_list ?z_min ?z_range ?z_repr ?z_set ?z_sorted ?z_tuple ?z_zip ?c_MOST_CLAUSES ?c_MOST_INPUTS ?c_MOST_LITERALS ?c_MOST_SIGNS ?c_PARTS ?l_PARTS
    (case a0 => k_is)
    (case l0 => k_is)
    (case c0 => k_is)
    (case k0 => k_is)
    (case a1 => k_is)
    (case l1 => k_is)
    (case c1 => k_is)
    (case k1 => k_is)
    (case a2 => k_is)
    (case l2 => k_is)
    (case c2 => k_is)
    (case k2 => k_is)
    (case a3 => k_is)
    (case l3 => k_is)
    (case c3 => k_is)
    (case k3 => k_is)
    (case a4 => k_is)
    (case l4 => k_is)
    (case c4 => k_is)
    (case k4 => k_is)
    (case a5 => k_is)
    (case l5 => k_is)
    (case c5 => k_is)
    (case k5 => k_is)
    (case a6 => k_is)
    (case l6 => k_is)
    (case c6 => k_is)
    (case k6 => k_is)
    (case a7 => k_is)
    (case l7 => k_is)
    (case c7 => k_is)
    (case k7 => k_is)
    (case a8 => k_is)
    (case l8 => k_is)
    (case c8 => k_is)
    (case k8 => k_is)
    (case a9 => k_is)
    (case l9 => k_is)
    (case c9 => k_is)
    (case k9 => k_is)
    (case a10 => k_is)
    (case l10 => k_is)
    (case c10 => k_is)
    (case k10 => k_is)
    (case a11 => k_is)
    (case l11 => k_is)
    (case c11 => k_is)
    (case k11 => k_is)
    (case a12 => k_is)
    (case l12 => k_is)
    (case c12 => k_is)
    (case k12 => k_is)
    (case a13 => k_is)
    (case l13 => k_is)
    (case c13 => k_is)
    (case k13 => k_is)
    (case a14 => k_is)
    (case l14 => k_is)
    (case c14 => k_is)
    (case k14 => k_is)
    (case a15 => k_is)
    (case l15 => k_is)
    (case c15 => k_is)
    (case k15 => k_is)
    (case a16 => k_is)
    (case l16 => k_is)
    (case c16 => k_is)
    (case k16 => k_is)
    (case a17 => k_is)
    (case l17 => k_is)
    (case c17 => k_is)
    (case k17 => k_is)
    (case a18 => k_is)
    (case l18 => k_is)
    (case c18 => k_is)
    (case k18 => k_is)
    (case a19 => k_is)
    (case l19 => k_is)
    (case c19 => k_is)
    (case k19 => k_is)
    (case a20 => k_is)
    (case l20 => k_is)
    (case c20 => k_is)
    (case k20 => k_is)
    (case a21 => k_is)
    (case l21 => k_is)
    (case c21 => k_is)
    (case k21 => k_is)
    (case a22 => k_is)
    (case l22 => k_is)
    (case c22 => k_is)
    (case k22 => k_is)
    (case a23 => k_is)
    (case l23 => k_is)
    (case c23 => k_is)
    (case k23 => k_is)
    (case a24 => k_is)
    (case l24 => k_is)
    (case c24 => k_is)
    (case k24 => k_is)
    (case a25 => k_is)
    (case l25 => k_is)
    (case c25 => k_is)
    (case k25 => k_is)
    (case a26 => k_is)
    (case l26 => k_is)
    (case c26 => k_is)
    (case k26 => k_is)
    (case a27 => k_is)
    (case l27 => k_is)
    (case c27 => k_is)
    (case k27 => k_is)
    (case a28 => k_is)
    (case l28 => k_is)
    (case c28 => k_is)
    (case k28 => k_is)
    (case a29 => k_is)
    (case l29 => k_is)
    (case c29 => k_is)
    (case k29 => k_is)
    (case a30 => k_is)
    (case l30 => k_is)
    (case c30 => k_is)
    (case k30 => k_is)
    (case a31 => k_is)
    (case l31 => k_is)
    (case c31 => k_is)
    (case k31 => k_is)
    (case a32 => k_is)
    (case l32 => k_is)
    (case c32 => k_is)
    (case k32 => k_is)
    (case a33 => k_is)
    (case l33 => k_is)
    (case c33 => k_is)
    (case k33 => k_is)
    (case a34 => k_is)
    (case l34 => k_is)
    (case c34 => k_is)
    (case k34 => k_is)
    (case a35 => k_is)
    (case l35 => k_is)
    (case c35 => k_is)
    (case k35 => k_is)
    (case a36 => k_is)
    (case l36 => k_is)
    (case c36 => k_is)
    (case k36 => k_is)
    (case a37 => k_is)
    (case l37 => k_is)
    (case c37 => k_is)
    (case k37 => k_is)
    (case a38 => k_is)
    (case l38 => k_is)
    (case c38 => k_is)
    (case k38 => k_is)
    (case z_abs => k_is)
    (case z_all => k_is)
    (case z_bool => k_is)
    (case z_enumerate => k_is)
    (case z_int => k_is)
    (case z_isinstance => k_is)
    (case z_len => k_is)
    (case z_list => k_is)
    (case z_min => k_is)
    (case z_range => k_is)
    (case z_repr => k_is)
    (case z_set => k_is)
    (case z_sorted => k_is)
    (case z_tuple => k_is)
    (case z_zip => k_is)
    (case c_MOST_CLAUSES => k_is)
    (case c_MOST_INPUTS => k_is)
    (case c_MOST_LITERALS => k_is)
    (case c_MOST_SIGNS => k_is)
    (case c_PARTS => k_is)
    (case l_PARTS => k_is)
