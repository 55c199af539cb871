import PyProof.Rows.All
import Wide.All
import OpenK.AllK
import Wide.FinOn
import HandS.ForMost
import HandS.Evl
import HandS.Deep
import HandS.Zip
import HandS.TupAny
import HandS.TupMul
import HandS.IsInst
import HandS.CallLocal
import HandS.DictComp
import KE.KDictKeyed
import KE.KDictItemsList
import KE.SortData
import KE.LtData
import KE.KDictWalk
import HandS.TupLen
import HandS.Iter
import KE.KTupSum
import HandS.ListItems
import KE.KDictCopyH
import KE.DataEq
import HandS.Style
import HandS.Conv
import HandS.DictEq
import PySem.Challenge.RW_pumphouse_k77_whole_game_beside_the_rule
set_option Elab.async false
set_option linter.all false
set_option maxRecDepth 100000
set_option maxHeartbeats 4000000
namespace Pq
open PySem PySem.Spec PyProof.Rows L2

/-! ### a text asked in a dict of nested keys: never there -/
section
variable {prog : Program} {w : World} {A : Around} {E : Value → Shared → Prop} {s : Shared} {d : Addr}

theorem eq_text {k : NestedKey} {b : Addr} {x : Str} {t : Tok} {Q : Bool → Shared → Prop} (hu : A.units + 8 < cLine) (hk : NestedIs s.heap k (.ref b)) (h : Q false s) :
    wpAny (model prog w) A (eqBool (.ref b) (.str x t)) Q E s := by
  have e := eqAt_key k (.text x) A s (.ref b) (.str x t) hk (.text x t) (by simp only [NestedKey.depth]; omega)
  have e2 : NestedKey.beq k (.text x) = false := by
    cases hk; rfl
  rw [e2] at e
  exact e _ _ _ _ h

theorem find_text {o : Obj} {es ep} {x : Str} {t : Tok} {hh : Int} {Q : Option Nat → Shared → Prop} (hu : A.units + 8 < cLine)
    (ho : s.heap.get? d = some o) (hd : o.data = .dict es ep) (hk : ∀ e ∈ es, ∃ k b, e.key = .ref b ∧ NestedIs s.heap k (.ref b) ∧ k.depth ≤ 8) (h : Q none s) :
    wpAny (model prog w) A (dictFind d (.str x t) hh) Q E s := by
  have hq : ∀ v ∈ (placesWithHash es.size (fun i => es[i]?.map (·.hash)) hh).filterMap (fun i => es[i]?.map (·.key)), ∃ k b, v = Value.ref b ∧ NestedIs s.heap k (.ref b) ∧ k.depth ≤ 8 := by
    intro v hv
    obtain ⟨i, _, hi⟩ := List.mem_filterMap.mp hv
    cases hei : es[i]? with
    | none => rw [hei] at hi; cases hi
    | some e =>
      rw [hei] at hi
      obtain rfl : e.key = v := by simpa using hi
      obtain ⟨k, b, h1, h2⟩ := hk e (Array.mem_of_getElem? hei)
      exact ⟨k, b, h1, h2⟩
  -- the loop, however it is told
  have loop : ∀ (pl : List Nat) (body : Nat → (Option (Option Nat) × Option Nat) → Sem (ForInStep (Option (Option Nat) × Option Nat))) (R : (Option (Option Nat) × Option Nat) → Shared → Prop),
      (∀ i ∈ pl, ∀ R', R' (ForInStep.yield (none, none)) s → wpAny (model prog w) A (body i (none, none)) R' E s) → R (none, none) s → wpAny (model prog w) A (forIn pl (none, none) body) R E s := by
    intro pl body R hb hR
    refine wpAny_forIn_list _ (fun rest r s' => s' = s ∧ r = (none, none) ∧ ∀ i ∈ rest, i ∈ pl) _ ?_ ?_ _ _ ⟨rfl, rfl, fun i hi => hi⟩
    · rintro i rest r s' ⟨rfl, rfl, hr⟩
      exact hb i (hr i List.mem_cons_self) _ ⟨rfl, rfl, fun j hj => hr j (List.mem_cons_of_mem _ hj)⟩
    · rintro r s' ⟨rfl, rfl, _⟩
      exact hR
  unfold dictFind
  try with_reducible refine wpAny_holding ?_
  refine wpAny_bind (wpAny_dictEntries ho hd ?_)
  dsimp only
  by_cases hall : (es.all fun e => isExactStrKey e.key) = true
  · rw [if_pos hall]
    have hnil : es = #[] := by
      rcases Nat.eq_zero_or_pos es.size with e | e
      · exact Array.eq_empty_of_size_eq_zero e
      · exfalso
        have h1 := Array.all_eq_true.mp hall 0 e
        obtain ⟨k, b, h2, _⟩ := hk _ (Array.getElem_mem e)
        rw [h2] at h1
        cases h1
    subst hnil
    unfold foundByValue
    have e0 : (#[] : Array DictEntry).findIdx? (fun e => e.key.isStr x) = none := by simp
    rw [e0]
    exact wpAny_pure h
  · rw [if_neg hall]
    have body : ∀ i ∈ placesWithHash es.size (fun i => es[i]?.map (·.hash)) hh, ∃ e k b, es[i]? = some e ∧ (e.hash == hh) = true ∧ e.key = Value.ref b ∧ NestedIs s.heap k (.ref b) := by
      intro i hi
      unfold placesWithHash at hi
      obtain ⟨_, h1⟩ := List.mem_filter.mp hi
      dsimp only at h1
      cases hei : es[i]? with
      | none => rw [hei] at h1; cases h1
      | some e =>
        rw [hei] at h1
        obtain ⟨k, b, h2, h3, _⟩ := hk e (Array.mem_of_getElem? hei)
        exact ⟨e, k, b, rfl, by simpa using h1, h2, h3⟩
    by_cases hpl : ((Value.str x t :: (placesWithHash es.size (fun i => es[i]?.map (·.hash)) hh).filterMap (fun i => es[i]?.map (·.key))).all carriedByValue) = true
    · rw [if_pos hpl]
      have hnil : placesWithHash es.size (fun i => es[i]?.map (·.hash)) hh = [] := by
        cases e : placesWithHash es.size (fun i => es[i]?.map (·.hash)) hh with
        | nil => rfl
        | cons i r =>
          exfalso
          rw [e] at hpl body
          obtain ⟨en, k, b, h1, _, h2, _⟩ := body i List.mem_cons_self
          rw [List.filterMap_cons, h1] at hpl
          simp [h2, carriedByValue] at hpl
      rw [hnil]
      unfold dictWalkPlain
      exact wpAny_pure h
    · rw [if_neg hpl]
      have tell : ∀ R : Bool → Shared → Prop, R false s → wpAny (model prog w) A (tableMayTell (Value.str x t) ((placesWithHash es.size (fun i => es[i]?.map (·.hash)) hh).filterMap (fun i => es[i]?.map (·.key)))) R E s := by
        intro R hR
        unfold tableMayTell
        split
        · exact wpAny_pure hR
        · refine wpAny_bind (QuietAt.byValue rfl _ _ _ ?_)
          simp only [Bool.not_true, Bool.false_eq_true, if_false]
          refine wpAny_bind ?_
          refine wpAny_forIn_list _ (fun rest r s' => s' = s ∧ r = (none, ()) ∧ ∀ v ∈ rest, ∃ k b, v = Value.ref b ∧ NestedIs s.heap k (.ref b) ∧ k.depth ≤ 8) _ ?_ ?_ _ _ ⟨rfl, rfl, hq⟩
          · rintro v rest r s' ⟨rfl, rfl, hr⟩
            obtain ⟨k, b, rfl, hb, hd8⟩ := hr v List.mem_cons_self
            refine wpAny_bind (quiet_key k (.ref b) 8 _ hb hd8 _ _ _ ?_)
            simp only [Bool.not_true, Bool.false_eq_true, if_false]
            exact wpAny_pure ⟨rfl, rfl, fun v hv => hr v (List.mem_cons_of_mem _ hv)⟩
          · rintro r s' ⟨rfl, rfl, _⟩
            exact wpAny_pure hR
      by_cases hone : (((placesWithHash es.size (fun i => es[i]?.map (·.hash)) hh).filterMap (fun i => es[i]?.map (·.key))) == [Value.str x t]) = true <;>
      (first | rw [if_pos hone] | rw [if_neg hone]) <;> (first | refine wpAny_bind (wpAny_pure ?_) | refine wpAny_bind (tell _ ?_)) <;> (
        rw [if_neg (by simp)]
        refine wpAny_bind (loop _ _ _ (fun i hi R' hR' => ?_) ?_)
        · obtain ⟨e, k, b, h1, h2, h3, h4⟩ := body i hi
          rw [h1]
          dsimp only
          rw [if_pos h2]
          refine wpAny_bind (wpAny_dictEpoch ho hd (wpAny_bind ?_))
          rw [h3]
          refine eq_text hu h4 (wpAny_bind (wpAny_dictEpoch ho hd ?_))
          rw [if_neg (by simp)]
          simp only [Bool.false_eq_true, if_false]
          refine wpAny_bind (wpAny_rule ?_)
          first | exact wpAny_pure hR' | (rw [if_neg (by simp)]; exact wpAny_pure hR')
        · exact wpAny_pure h)

theorem keysN {xs : List (NestedKey × Addr × Value)} {es : Array DictEntry} (he : es.toList = xs.map (entryOfKey (nestedKind prog w))) (his : ∀ x ∈ xs, (nestedKind prog w).is s.heap x.1 x.2.1) :
    ∀ e ∈ es, ∃ k b, e.key = Value.ref b ∧ NestedIs s.heap k (.ref b) ∧ k.depth ≤ 8 := by
  intro e hin
  have hin' : e ∈ xs.map (entryOfKey (nestedKind prog w)) := he ▸ Array.mem_toList_iff.mpr hin
  obtain ⟨y, hy, rfl⟩ := List.mem_map.mp hin'
  exact ⟨y.1, y.2.1, rfl, (his y hy).1, (his y hy).2⟩
theorem get_text {xs : List (NestedKey × Addr × Value)} {x : Str} {t : Tok} {Q : Option Value → Shared → Prop} (hu : A.units + 8 < cLine) (hm : s.heap.DictOfH (nestedKind prog w) d xs) (h : ∀ n, Q none { s with toks := n }) :
    wpAny (model prog w) A (dictGet d (.str x t)) Q E s := by
  obtain ⟨o, es, ep, ho, _, hd, he, his, _⟩ := hm
  unfold dictGet
  try with_reducible refine wpAny_holding ?_
  refine wpAny_bind (wpAny_pyHash_str (wpAny_bind (find_text (s := { s with toks := s.toks + 1 }) hu ho hd (keysN he his) ?_)))
  exact wpAny_pure (h _)
theorem contains_text {xs : List (NestedKey × Addr × Value)} {x : Str} {t : Tok} {Q : Bool → Shared → Prop} (hu : A.units + 9 < cLine) (hs : (d == sysModules) = false) (hm : s.heap.DictOfH (nestedKind prog w) d xs) (h : ∀ n, Q false { s with toks := n }) :
    wpAny (model prog w) A (contains (.ref d) (.str x t)) Q E s := by
  refine wpAny_contains_slot hm.typeIs F.slot_dict_contains ?_
  refine call_meetsIn F.slot_dict_contains hm.typeIs F.entry_dict_contains (F.args_dict_contains_2 _ _) (S := fun A' R s' => A' = A ∧ s' = s ∧ ∀ n, R (.ok (.ret (.bool false))) { s with toks := n }) (fun A' R s' hS => ?_) ⟨rfl, rfl, fun n => wpAny_truthy_bool (h n)⟩
  obtain ⟨rfl, rfl, hq⟩ := hS
  show wpAny _ _ (dictGet d (.str x t) >>= _) _ _ _
  refine wpAny_bind (get_text (by show A'.units + 1 + 8 < cLine; omega) hm fun n => ?_)
  show wpAny _ _ (Builtin.Dict.pendingKey? d (.str x t) >>= _) _ _ _
  exact wpAny_bind (wpAny_pendingKey_other hs (wpAny_pure (hq n)))
end
end Pq

namespace Pq
open PySem PySem.Spec L2
open PyProof.Rows hiding St
open Evl (Ex)

/-! ### pure data: tuples of tuples of numbers, texts, truth values, None -/
mutual
inductive Dt (H : Hp) : V → PyData → Prop
  | non : Dt H .non .none
  | bl (b : Bool) : Dt H (.bl b) (.bool b)
  | int (i : Int) : Dt H (.int i) (.int i)
  | str (x : Str) : Dt H (.str x) (.str x)
  | tup {a : Addr} {vs : List V} {ds : List PyData} : H a = some (.tup vs) → DtAll H vs ds → Dt H (.ref a) (.tuple ds)
inductive DtAll (H : Hp) : List V → List PyData → Prop
  | nil : DtAll H [] []
  | cons {v : V} {vs : List V} {d : PyData} {ds : List PyData} : Dt H v d → DtAll H vs ds → DtAll H (v :: vs) (d :: ds)
end
/-- the tuples stay -/
def TEx (H H' : Hp) : Prop := ∀ a vs, H a = some (.tup vs) → H' a = some (.tup vs)
theorem TEx.refl (H : Hp) : TEx H H := fun _ _ h => h
theorem TEx.trans {H H1 H2 : Hp} (a : TEx H H1) (b : TEx H1 H2) : TEx H H2 := fun c vs h => b c vs (a c vs h)
theorem TEx.of {H H' : Hp} (e : Ex H H') : TEx H H' := fun a vs h => e a _ h
theorem TEx.upd {H H' : Hp} {p : Addr} {o : HO} (e : TEx H H') (h : ∀ vs, H p ≠ some (.tup vs)) : TEx H (upd H' p o) := fun a vs q => by
  rw [upd_ne (fun z => by rw [z] at q; exact h vs q)]
  exact e a vs q
mutual
theorem Dt.mono {H H' : Hp} (e : TEx H H') : ∀ (d : PyData) (v : V), Dt H v d → Dt H' v d
  | .none, _, h => by cases h; exact .non
  | .bool _, _, h => by cases h; exact .bl _
  | .int _, _, h => by cases h; exact .int _
  | .str _, _, h => by cases h; exact .str _
  | .tuple ds, _, h => by
    cases h with
    | tup h1 h2 => exact .tup (e _ _ h1) (DtAll.mono e ds _ h2)
  | .list _, _, h => by cases h
  | .dict _, _, h => by cases h
theorem DtAll.mono {H H' : Hp} (e : TEx H H') : ∀ (ds : List PyData) (vs : List V), DtAll H vs ds → DtAll H' vs ds
  | [], _, h => by cases h; exact .nil
  | d :: ds, _, h => by
    cases h with
    | cons h1 h2 => exact .cons (Dt.mono e d _ h1) (DtAll.mono e ds _ h2)
end
theorem Dt.ex {H H' : Hp} {v : V} {d : PyData} (h : Dt H v d) (e : TEx H H') : Dt H' v d := Dt.mono e d v h
theorem DtAll.ex {H H' : Hp} {vs : List V} {ds : List PyData} (h : DtAll H vs ds) (e : TEx H H') : DtAll H' vs ds := DtAll.mono e ds vs h
theorem DtAll.length {H : Hp} : ∀ {vs : List V} {ds : List PyData}, DtAll H vs ds → vs.length = ds.length
  | _, _, .nil => rfl
  | _, _, .cons _ t => by rw [List.length_cons, List.length_cons, DtAll.length t]
theorem DtAll.append {H : Hp} : ∀ {vs ws : List V} {ds es : List PyData}, DtAll H vs ds → DtAll H ws es → DtAll H (vs ++ ws) (ds ++ es)
  | _, _, _, _, .nil, h => h
  | _, _, _, _, .cons a t, h => .cons a (DtAll.append t h)
theorem DtAll.get {H : Hp} : ∀ {vs : List V} {ds : List PyData} {i : Nat} {v : V}, DtAll H vs ds → vs[i]? = some v → ∃ d, ds[i]? = some d ∧ Dt H v d
  | _, _, _, _, .nil, h => by simp at h
  | _, _, 0, _, .cons a _, h => by
    simp at h; subst h; exact ⟨_, rfl, a⟩
  | _, _, i + 1, _, .cons _ t, h => by
    obtain ⟨d, e, q⟩ := DtAll.get (i := i) t (by simpa using h)
    exact ⟨d, by simpa using e, q⟩
theorem DtAll.at_ {H : Hp} : ∀ {vs : List V} {ds : List PyData} {i : Nat} {d : PyData}, DtAll H vs ds → ds[i]? = some d → ∃ v, vs[i]? = some v ∧ Dt H v d
  | _, _, _, _, .nil, h => by simp at h
  | _, _, 0, _, .cons a _, h => by
    simp at h; subst h; exact ⟨_, rfl, a⟩
  | _, _, i + 1, _, .cons _ t, h => by
    obtain ⟨d, e, q⟩ := DtAll.at_ (i := i) t (by simpa using h)
    exact ⟨d, by simpa using e, q⟩
theorem DtAll.take {H : Hp} : ∀ {vs : List V} {ds : List PyData} (n : Nat), DtAll H vs ds → DtAll H (vs.take n) (ds.take n)
  | _, _, 0, _ => by simp; exact .nil
  | _, _, n + 1, .nil => by simp; exact .nil
  | _, _, n + 1, .cons a t => .cons a (DtAll.take n t)
theorem DtAll.drop {H : Hp} : ∀ {vs : List V} {ds : List PyData} (n : Nat), DtAll H vs ds → DtAll H (vs.drop n) (ds.drop n)
  | _, _, 0, h => h
  | _, _, n + 1, .nil => .nil
  | _, _, n + 1, .cons a t => DtAll.drop n t
theorem DtAll.ints {H : Hp} : ∀ {vs : List V} {ns : List Int}, DtAll H vs (ns.map .int) → vs = ns.map V.int
  | _, [], h => by cases h; rfl
  | _, n :: ns, h => by
    cases h with
    | cons a t => cases a; rw [DtAll.ints t]; rfl
theorem DtAll.ofInts (H : Hp) : ∀ (ns : List Int), DtAll H (ns.map V.int) (ns.map .int)
  | [] => .nil
  | n :: ns => .cons (.int n) (DtAll.ofInts H ns)
mutual
theorem Dt.dp {K : PySem.W.Frag} {H : Hp} : ∀ (d : PyData) (v : V), Dt H v d → Dp K H v d
  | .none, _, h => by cases h; exact .non
  | .bool _, _, h => by cases h; exact .bl _
  | .int _, _, h => by cases h; exact .int _
  | .str _, _, h => by cases h; exact .str _
  | .tuple ds, _, h => by
    cases h with
    | tup h1 h2 => exact .tup (SqT.of h1) (DtAll.dp ds _ h2)
  | .list _, _, h => by cases h
  | .dict _, _, h => by cases h
theorem DtAll.dp {K : PySem.W.Frag} {H : Hp} : ∀ (ds : List PyData) (vs : List V), DtAll H vs ds → DpAll K H vs ds
  | [], _, h => by cases h; exact .nil
  | d :: ds, _, h => by
    cases h with
    | cons h1 h2 => exact .cons (Dt.dp d _ h1) (DtAll.dp ds _ h2)
end
/-! ### keys -/
mutual
theorem Dt.key {X : Cx} {pins : List (Addr × Obj)} {σ : St} {H : Hp} {s : Shared} (I : Inv X pins σ H s) : ∀ (k : NestedKey) (v : V) (u : Value), Dt H v k.data → RelV v u → NestedIs s.heap k u
  | .none, _, _, h, r => by simp only [NestedKey.data] at h; cases h; cases r; exact .none
  | .num i, _, _, h, r => by simp only [NestedKey.data] at h; cases h; obtain ⟨t, rfl⟩ := r; exact .int _ _
  | .text x, _, _, h, r => by simp only [NestedKey.data] at h; cases h; obtain ⟨t, rfl⟩ := r; exact .text _ _
  | .tup ks, _, _, h, r => by
    simp only [NestedKey.data] at h
    cases h with
    | tup h1 h2 =>
      cases r
      obtain ⟨_, its, rv, o, ho, hc, n, hd⟩ := I.hok _ _ h1
      exact .tup ho hc hd (by simpa using Dt.keys I ks _ its h2 rv)
theorem Dt.keys {X : Cx} {pins : List (Addr × Obj)} {σ : St} {H : Hp} {s : Shared} (I : Inv X pins σ H s) : ∀ (ks : List NestedKey) (vs : List V) (us : List Value), DtAll H vs (NestedKey.datas ks) → Vals vs us → NestedAll s.heap ks us
  | [], _, _, h, r => by simp only [NestedKey.datas] at h; cases h; cases r; exact .nil
  | k :: ks, _, _, h, r => by
    simp only [NestedKey.datas] at h
    cases h with
    | cons h1 h2 =>
      cases r with
      | cons r1 r2 => exact .cons (Dt.key I k _ _ h1 r1) (Dt.keys I ks _ _ h2 r2)
end
end Pq

namespace Pq
open PySem PySem.Spec L2
open PyProof.Rows hiding St
open Evl (Ex)

/-! ### tables with nested keys -/
section
variable {α : Type}
def lookN (kvs : List (NestedKey × α)) (k : NestedKey) : Option α := (kvs.find? fun p => decide (p.1 = k)).map (·.2)
def putN (kvs : List (NestedKey × α)) (k : NestedKey) (a : α) : List (NestedKey × α) :=
  if (lookN kvs k).isSome = true then kvs.map (fun p => if p.1 = k then (p.1, a) else p) else kvs ++ [(k, a)]
def dropN (kvs : List (NestedKey × α)) (k : NestedKey) : List (NestedKey × α) := kvs.filter fun p => decide (p.1 ≠ k)
end
abbrev Raw := List (NestedKey × Addr × V)
abbrev Xs := List (NestedKey × Addr × Value)
def rlook (raw : Raw) (k : NestedKey) : Option (Addr × V) := (raw.find? fun p => decide (p.1 = k)).map (·.2)
def rput (raw : Raw) (k : NestedKey) (b : Addr) (y : V) : Raw := if (rlook raw k).isSome = true then raw.map (fun p => if p.1 = k then (p.1, p.2.1, y) else p) else raw ++ [(k, b, y)]
def rdrop (raw : Raw) (k : NestedKey) : Raw := raw.filter fun p => decide (p.1 ≠ k)
/-- the concrete entries -/
abbrev RX (raw : Raw) (xs : Xs) : Prop := Paired (fun (p : NestedKey × Addr × V) (q : NestedKey × Addr × Value) => p.1 = q.1 ∧ p.2.1 = q.2.1 ∧ RelV p.2.2 q.2.2) raw xs
/-- what they stand for -/
abbrev RK (H : Hp) (raw : Raw) (kvs : List (NestedKey × PyData)) : Prop := Paired (fun (p : NestedKey × Addr × V) (q : NestedKey × PyData) => p.1 = q.1 ∧ p.1.depth ≤ 8 ∧ Dt H (.ref p.2.1) p.1.data ∧ Dt H p.2.2 q.2) raw kvs
theorem RK.ex {H H' : Hp} (e : TEx H H') : ∀ {raw : Raw} {kvs : List (NestedKey × PyData)}, RK H raw kvs → RK H' raw kvs
  | _, _, .nil => .nil
  | _, _, .cons r t => .cons ⟨r.1, r.2.1, r.2.2.1.ex e, r.2.2.2.ex e⟩ (RK.ex e t)
theorem RX.look {raw : Raw} {xs : Xs} (r : RX raw xs) (k : NestedKey) : (∃ a v u, rlook raw k = some (a, v) ∧ atKey xs k = some (a, u) ∧ RelV v u) ∨ (rlook raw k = none ∧ atKey xs k = none) := by
  induction r with
  | nil => exact .inr ⟨rfl, rfl⟩
  | @cons p q l1 l2 h t ih =>
    obtain ⟨h1, h2, h3⟩ := h
    by_cases e : p.1 = k
    · left
      refine ⟨p.2.1, p.2.2, q.2.2, by simp [rlook, List.find?_cons, e], ?_, h3⟩
      simp [atKey, List.find?_cons, h1 ▸ e, h2]
    · have e' : ¬ q.1 = k := fun z => e (h1.trans z)
      have a1 : rlook (p :: l1) k = rlook l1 k := by simp [rlook, List.find?_cons, e]
      have a2 : atKey (q :: l2) k = atKey l2 k := by simp [atKey, List.find?_cons, e']
      rw [a1, a2]
      exact ih
theorem RK.look {H : Hp} {raw : Raw} {kvs : List (NestedKey × PyData)} (r : RK H raw kvs) (k : NestedKey) : (∃ a v d, rlook raw k = some (a, v) ∧ lookN kvs k = some d ∧ Dt H v d) ∨ (rlook raw k = none ∧ lookN kvs k = none) := by
  induction r with
  | nil => exact .inr ⟨rfl, rfl⟩
  | @cons p q l1 l2 h t ih =>
    obtain ⟨h1, _, _, h3⟩ := h
    by_cases e : p.1 = k
    · left
      refine ⟨p.2.1, p.2.2, q.2, by simp [rlook, List.find?_cons, e], ?_, h3⟩
      simp [lookN, List.find?_cons, h1 ▸ e]
    · have e' : ¬ q.1 = k := fun z => e (h1.trans z)
      have a1 : rlook (p :: l1) k = rlook l1 k := by simp [rlook, List.find?_cons, e]
      have a2 : lookN (q :: l2) k = lookN l2 k := by simp [lookN, List.find?_cons, e']
      rw [a1, a2]
      exact ih
theorem RX.mapv {raw : Raw} {xs : Xs} (r : RX raw xs) (k : NestedKey) {y : V} {u : Value} (h : RelV y u) : RX (raw.map fun p => if p.1 = k then (p.1, p.2.1, y) else p) (xs.map (putAt k u)) := by
  induction r with
  | nil => exact .nil
  | @cons p q l1 l2 z t ih =>
    obtain ⟨h1, h2, h3⟩ := z
    refine .cons ?_ ih
    by_cases e : p.1 = k
    · have e' : q.1 = k := h1 ▸ e
      dsimp only [putAt]
      rw [if_pos e, if_pos e']
      exact ⟨h1, h2, h⟩
    · have e' : ¬ q.1 = k := fun z => e (h1.trans z)
      dsimp only [putAt]
      rw [if_neg e, if_neg e']
      exact ⟨h1, h2, h3⟩
theorem RK.mapv {H : Hp} {raw : Raw} {kvs : List (NestedKey × PyData)} (r : RK H raw kvs) (k : NestedKey) {y : V} {d : PyData} (h : Dt H y d) :
    RK H (raw.map fun p => if p.1 = k then (p.1, p.2.1, y) else p) (kvs.map fun p => if p.1 = k then (p.1, d) else p) := by
  induction r with
  | nil => exact .nil
  | @cons p q l1 l2 z t ih =>
    obtain ⟨h1, h2, h3, h4⟩ := z
    refine .cons ?_ ih
    by_cases e : p.1 = k
    · have e' : q.1 = k := h1 ▸ e
      dsimp only
      rw [if_pos e, if_pos e']
      exact ⟨h1, h2, h3, h⟩
    · have e' : ¬ q.1 = k := fun z => e (h1.trans z)
      dsimp only
      rw [if_neg e, if_neg e']
      exact ⟨h1, h2, h3, h4⟩
theorem paired_snoc {α β : Type} {R : α → β → Prop} : ∀ {xs : List α} {ys : List β} {x : α} {y : β}, Paired R xs ys → R x y → Paired R (xs ++ [x]) (ys ++ [y])
  | _, _, _, _, .nil, h => .cons h .nil
  | _, _, _, _, .cons r t, h => .cons r (paired_snoc t h)
theorem RX.put {raw : Raw} {xs : Xs} (r : RX raw xs) (k : NestedKey) (b : Addr) {y : V} {u : Value} (h : RelV y u) : RX (rput raw k b y) (storedH xs k b u) := by
  rcases r.look k with ⟨a, v, u', e1, e2, _⟩ | ⟨e1, e2⟩
  · rw [storedH_old e2, rput, if_pos (by rw [e1]; rfl)]
    exact r.mapv k h
  · rw [storedH_new e2, rput, if_neg (by rw [e1]; decide)]
    exact paired_snoc r ⟨rfl, rfl, h⟩
theorem RK.put {H : Hp} {raw : Raw} {kvs : List (NestedKey × PyData)} (r : RK H raw kvs) {k : NestedKey} {b : Addr} {y : V} {d : PyData} (hk : k.depth ≤ 8) (hb : Dt H (.ref b) k.data) (h : Dt H y d) : RK H (rput raw k b y) (putN kvs k d) := by
  rcases r.look k with ⟨a, v, u', e1, e2, _⟩ | ⟨e1, e2⟩
  · rw [putN, rput, if_pos (by rw [e1]; rfl), if_pos (by rw [e2]; rfl)]
    exact r.mapv k h
  · rw [putN, rput, if_neg (by rw [e1]; decide), if_neg (by rw [e2]; decide)]
    exact paired_snoc r ⟨rfl, hk, hb, h⟩
theorem paired_filter {α β : Type} {R : α → β → Prop} {f : α → Bool} {g : β → Bool} (hfg : ∀ a b, R a b → f a = g b) : ∀ {xs : List α} {ys : List β}, Paired R xs ys → Paired R (xs.filter f) (ys.filter g)
  | _, _, .nil => .nil
  | _, _, .cons (a := a) (b := b) r t => by
    rw [List.filter_cons, List.filter_cons, ← hfg a b r]
    cases f a with
    | true => exact .cons r (paired_filter hfg t)
    | false => exact paired_filter hfg t

theorem RX.drop {raw : Raw} {xs : Xs} (r : RX raw xs) (k : NestedKey) : RX (rdrop raw k) (withoutH xs k) :=
  paired_filter (fun a b h => by rw [h.1]) r
theorem RK.drop {H : Hp} {raw : Raw} {kvs : List (NestedKey × PyData)} (r : RK H raw kvs) (k : NestedKey) : RK H (rdrop raw k) (dropN kvs k) :=
  paired_filter (fun a b h => by rw [h.1]) r
theorem RX.len {raw : Raw} {xs : Xs} (r : RX raw xs) : raw.length = xs.length := Paired.length r
theorem RK.len {H : Hp} {raw : Raw} {kvs : List (NestedKey × PyData)} (r : RK H raw kvs) : raw.length = kvs.length := Paired.length r
theorem RK.keys {H : Hp} {raw : Raw} {kvs : List (NestedKey × PyData)} (r : RK H raw kvs) : raw.map (·.1) = kvs.map (·.1) := by
  induction r with
  | nil => rfl
  | cons h t ih => rw [List.map_cons, List.map_cons, ih, h.1]
theorem RX.keys {raw : Raw} {xs : Xs} (r : RX raw xs) : raw.map (·.1) = xs.map (·.1) := by
  induction r with
  | nil => rfl
  | cons h t ih => rw [List.map_cons, List.map_cons, ih, h.1]

/-! ### the object of such a dict -/
section
variable (P : Program) (w : World)
def dPhi (a : Addr) (raw : Raw) (h : Heap) : Prop := ∃ xs : Xs, RX raw xs ∧ ∃ o es ep, h.get? a = some o ∧ o.ExactDict ∧ o.data = .dict es ep ∧ es.toList = xs.map (entryOfKey (nestedKind P w)) ∧ (xs.map (·.1)).Nodup
def NObj (a : Addr) (raw : Raw) : HO := .ext (dPhi P w a raw)
/-- at a an own dict with nested keys -/
def IsN (H : Hp) (a : Addr) (kvs : List (NestedKey × PyData)) : Prop := (a == sysModules) = false ∧ ∃ raw, H a = some (NObj P w a raw) ∧ RK H raw kvs
/-- .. to be read -/
def RdN (H : Hp) (a : Addr) (kvs : List (NestedKey × PyData)) : Prop := (a == sysModules) = false ∧ ∃ raw, Rd H a (NObj P w a raw) ∧ RK H raw kvs
end
theorem IsN.rd {P : Program} {w : World} {H : Hp} {a : Addr} {kvs : List (NestedKey × PyData)} (h : IsN P w H a kvs) : RdN P w H a kvs := let ⟨z, raw, e, r⟩ := h; ⟨z, raw, .inl e, r⟩
theorem IsN.ex {P : Program} {w : World} {H H' : Hp} {a : Addr} {kvs : List (NestedKey × PyData)} (h : IsN P w H a kvs) (e : TEx H H') (ea : H' a = H a) : IsN P w H' a kvs := let ⟨z, raw, q, r⟩ := h; ⟨z, raw, ea.trans q, r.ex e⟩
theorem RdN.ex {P : Program} {w : World} {H H' : Hp} {a : Addr} {kvs : List (NestedKey × PyData)} (h : RdN P w H a kvs) (e : Ex H H') : RdN P w H' a kvs := let ⟨z, raw, q, r⟩ := h; ⟨z, raw, Evl.ex_rd e q, r.ex (.of e)⟩
theorem RdN.of2 {P : Program} {w : World} {H H' : Hp} {a : Addr} {kvs : List (NestedKey × PyData)} (h : RdN P w H a kvs) (e : TEx H H') (q : ∀ u, Rd H a u → Rd H' a u) : RdN P w H' a kvs := let ⟨z, raw, q', r⟩ := h; ⟨z, raw, q _ q', r.ex e⟩
theorem dPhi.obj {P : Program} {w : World} {h : Heap} {a : Addr} {raw : Raw} (x : dPhi P w a raw h) {H : Hp} : ObjOk P w H h a (NObj P w a raw) := by
  refine ⟨x, ?_, ?_⟩
  · obtain ⟨_, _, o, _, _, ho, _⟩ := x
    exact ⟨o, ho⟩
  · intro h1 h2 y k
    obtain ⟨xs, rx, o, es, ep, ho, r⟩ := y
    exact ⟨xs, rx, o, es, ep, k _ ho, r⟩
section
variable {X : Cx} {pins : List (Addr × Obj)} {σ : St} {H : Hp} {s : Shared} {a : Addr} {kvs : List (NestedKey × PyData)}
theorem RdN.phi {raw : Raw} (I : Inv X pins σ H s) (h : Rd H a (NObj X.prog X.w a raw)) : dPhi X.prog X.w a raw s.heap := by
  have q := h.ok I.hok
  exact q.1
theorem RdN.at_ {raw : Raw} (I : Inv X pins σ H s) (h : Rd H a (NObj X.prog X.w a raw)) (rk : RK H raw kvs) : ∃ xs, RX raw xs ∧ s.heap.DictOfH (nestedKind X.prog X.w) a xs := by
  obtain ⟨xs, rx, o, es, ep, ho, hx, hd, he, hn⟩ := RdN.phi I h
  refine ⟨xs, rx, o, es, ep, ho, hx, hd, he, ?_, hn⟩
  have key : ∀ {raw : Raw} {xs : Xs} {kvs : List (NestedKey × PyData)}, RX raw xs → RK H raw kvs → ∀ x ∈ xs, (nestedKind X.prog X.w).is s.heap x.1 x.2.1 := by
    intro raw xs kvs rx
    induction rx generalizing kvs with
    | nil => intro _ x hx; cases hx
    | @cons p q l1 l2 r t ih =>
      intro rk x hx
      cases rk with
      | cons r' t' =>
        rcases List.mem_cons.mp hx with e | hx
        · subst e
          have h1 := Dt.key I p.1 (.ref p.2.1) (.ref p.2.1) r'.2.2.1 rfl
          rw [r.1, r.2.1] at h1
          exact ⟨h1, r.1 ▸ r'.2.1⟩
        · exact ih t' x hx
  exact key rx rk
end
end Pq

namespace Pq
open PySem PySem.Spec L2
open PyProof.Rows hiding St
open Evl (Ex)

/-- keys that are stored: tuples; keys that are asked: also texts -/
def TupKey (k : NestedKey) : Prop := (∃ ks, k = .tup ks) ∧ k.depth ≤ 8
def AskKey (k : NestedKey) : Prop := TupKey k ∨ ∃ x, k = .text x
theorem TupKey.ref {H : Hp} {k : NestedKey} {y : V} (t : TupKey k) (h : Dt H y k.data) : ∃ b, y = .ref b := by
  obtain ⟨⟨ks, rfl⟩, _⟩ := t
  simp only [NestedKey.data] at h
  cases h
  exact ⟨_, rfl⟩
theorem RK.noText {H : Hp} {x : Str} : ∀ {raw : Raw} {kvs : List (NestedKey × PyData)}, RK H raw kvs → lookN kvs (.text x) = none
  | _, _, .nil => rfl
  | _, _, .cons (a := p) (b := q) r t => by
    have ih := RK.noText (x := x) t
    have hp : ¬ q.1 = .text x := by
      intro e
      have h1 := r.2.2.1
      rw [r.1, e] at h1
      simp only [NestedKey.data] at h1
      cases h1
    unfold lookN at ih ⊢
    rw [List.find?_cons, decide_eq_false hp]
    exact ih
section
variable {X : Cx} {pins : List (Addr × Obj)} {σ : St} {H : Hp} {s : Shared} {a : Addr} {kvs : List (NestedKey × PyData)} {k : NestedKey} {y v : V} {u r : Value} {E : Value → Shared → Prop} {A : Around}
theorem room8 (hu : A.units + 9 < cLine) : (nestedKind X.prog X.w).room A.in1 := by
  show A.units + 1 + 8 < cLine
  omega
theorem n_contains {Q : Bool → Shared → Prop} (hu : A.units + 9 < cLine) (I : Inv X pins σ H s) (h : RdN X.prog X.w H a kvs) (hk : AskKey k) (hy : Dt H y k.data) (ry : RelV y u) (q : ∀ s', Inv X pins σ H s' → Q (lookN kvs k).isSome s') :
    wpAny (model X.prog X.w) A (contains (.ref a) u) Q E s := by
  obtain ⟨hs, raw, rd, rk⟩ := h
  obtain ⟨xs, rx, hm⟩ := RdN.at_ I rd rk
  rcases hk with tk | ⟨x, rfl⟩
  · obtain ⟨b, rfl⟩ := tk.ref hy
    cases ry
    refine wpAny_contains_heap (k := k) (room8 hu) ⟨Dt.key I k _ _ hy rfl, tk.2⟩ hs hm ?_
    have e : (atKey xs k).isSome = (lookN kvs k).isSome := by
      rcases rx.look k with ⟨a1, v1, u1, e1, e2, _⟩ | ⟨e1, e2⟩
      · rcases rk.look k with ⟨a2, v2, d2, e3, e4, _⟩ | ⟨e3, e4⟩
        · rw [e2, e4]; rfl
        · rw [e1] at e3; cases e3
      · rcases rk.look k with ⟨a2, v2, d2, e3, e4, _⟩ | ⟨e3, e4⟩
        · rw [e1] at e3; cases e3
        · rw [e2, e4]; rfl
    rw [e]
    exact q _ (I.tok _)
  · simp only [NestedKey.data] at hy
    cases hy
    obtain ⟨t, rfl⟩ := ry
    refine contains_text hu hs hm fun n => ?_
    have e : (lookN kvs (.text x)).isSome = false := by rw [rk.noText]; rfl
    rw [← e]
    exact q _ (I.tok n)
theorem n_in {Q : Value → Shared → Prop} (hu : A.units + 9 < cLine) (I : Inv X pins σ H s) (h : RdN X.prog X.w H a kvs) (hk : AskKey k) (hy : Dt H y k.data) (ry : RelV y u) (q : ∀ s', Inv X pins σ H s' → Q (.bool (lookN kvs k).isSome) s') :
    wpAny (model X.prog X.w) A (compareOp .In u (.ref a)) Q E s := by
  show wpAny _ _ (do return .bool (← contains (.ref a) u)) Q E s
  exact wpAny_bind (n_contains hu I h hk hy ry fun s' I' => wpAny_pure (q s' I'))
theorem n_notIn {Q : Value → Shared → Prop} (hu : A.units + 9 < cLine) (I : Inv X pins σ H s) (h : RdN X.prog X.w H a kvs) (hk : AskKey k) (hy : Dt H y k.data) (ry : RelV y u) (q : ∀ s', Inv X pins σ H s' → Q (.bool (!(lookN kvs k).isSome)) s') :
    wpAny (model X.prog X.w) A (compareOp .NotIn u (.ref a)) Q E s := by
  show wpAny _ _ (do return .bool (!(← contains (.ref a) u))) Q E s
  exact wpAny_bind (n_contains hu I h hk hy ry fun s' I' => wpAny_pure (q s' I'))
theorem n_get {d : PyData} {Q : Value → Shared → Prop} (hu : A.units + 9 < cLine) (I : Inv X pins σ H s) (h : RdN X.prog X.w H a kvs) (hk : TupKey k) (hy : Dt H y k.data) (ry : RelV y u) (l : lookN kvs k = some d)
    (q : ∀ v w' s', Inv X pins σ H s' → Dt H v d → RelV v w' → Q w' s') : wpAny (model X.prog X.w) A (getItem (.ref a) u) Q E s := by
  obtain ⟨hs, raw, rd, rk⟩ := h
  obtain ⟨xs, rx, hm⟩ := RdN.at_ I rd rk
  obtain ⟨b, rfl⟩ := hk.ref hy
  cases ry
  rcases rk.look k with ⟨a2, v2, d2, e3, e4, hd⟩ | ⟨e3, e4⟩
  · rw [e4] at l
    cases l
    rcases rx.look k with ⟨a1, v1, u1, e1, e2, rv⟩ | ⟨e1, e2⟩
    · rw [e3] at e1
      cases e1
      exact wpAny_getItem_heap (k := k) (room8 hu) ⟨Dt.key I k _ _ hy rfl, hk.2⟩ hm e2 (q _ _ _ (I.tok _) hd rv)
    · rw [e3] at e1
      cases e1
  · rw [e4] at l
    cases l
theorem N.notTup (h : IsN X.prog X.w H a kvs) : ∀ vs, H a ≠ some (.tup vs) := fun vs e => by
  obtain ⟨_, raw, q, _⟩ := h
  rw [e] at q
  cases q
/-- what a store needs: the new object in its place -/
theorem n_write {raw' : Raw} {h' : Heap} {t' : Nat} (I : Inv X pins σ H s) (h : IsN X.prog X.w H a kvs) (x : dPhi X.prog X.w a raw' h') (sb : Heap.SameBut a s.heap h') : Inv X pins σ (upd H a (NObj X.prog X.w a raw')) { s with heap := h', toks := t' } := by
  obtain ⟨hs, raw, e, rk⟩ := h
  obtain ⟨xs, rx, o, es, ep, ho, r⟩ := id x
  exact d_write I (by rw [e]; trivial) sb ⟨o, ho⟩ x.obj
theorem N.upd_is {raw' : Raw} {kvs' : List (NestedKey × PyData)} (h : IsN X.prog X.w H a kvs) (rk : RK H raw' kvs') : IsN X.prog X.w (upd H a (NObj X.prog X.w a raw')) a kvs' :=
  ⟨h.1, raw', upd_same, rk.ex ((TEx.refl H).upd (N.notTup h))⟩
theorem n_set {d : PyData} {Q : Unit → Shared → Prop} (hu : A.units + 9 < cLine) (I : Inv X pins σ H s) (h : IsN X.prog X.w H a kvs) (hk : TupKey k) (hy : Dt H y k.data) (ry : RelV y u) (hv : Dt H v d) (rv : RelV v r) (hz : kvs.length ≤ sizeLine)
    (q : ∀ o s', Inv X pins σ (upd H a o) s' → IsN X.prog X.w (upd H a o) a (putN kvs k d) → Q () s') : wpAny (model X.prog X.w) A (setItem (.ref a) u r) Q E s := by
  obtain ⟨hs, raw, rd, rk⟩ := id h
  obtain ⟨xs, rx, hm⟩ := RdN.at_ I (.inl rd) rk
  obtain ⟨b, rfl⟩ := hk.ref hy
  cases ry
  refine wpAny_setItem_heap (k := k) (hsz := by rw [← rx.len, rk.len]; exact hz) (room8 hu) ⟨Dt.key I k _ _ hy rfl, hk.2⟩ hm fun h' hm' sb => ?_
  have x : dPhi X.prog X.w a (rput raw k b v) h' := by
    obtain ⟨o, es, ep, ho, hx, hd, he, _, hn⟩ := hm'
    exact ⟨_, rx.put k b rv, o, es, ep, ho, hx, hd, he, hn⟩
  exact q _ _ (n_write I h x sb) (N.upd_is h (rk.put hk.2 hy hv))
theorem n_del {d : PyData} {Q : Unit → Shared → Prop} (hu : A.units + 9 < cLine) (I : Inv X pins σ H s) (h : IsN X.prog X.w H a kvs) (hk : TupKey k) (hy : Dt H y k.data) (ry : RelV y u) (l : lookN kvs k = some d) (hz : kvs.length ≤ sizeLine)
    (q : ∀ o s', Inv X pins σ (upd H a o) s' → IsN X.prog X.w (upd H a o) a (dropN kvs k) → Q () s') : wpAny (model X.prog X.w) A (delItem (.ref a) u) Q E s := by
  obtain ⟨hs, raw, rd, rk⟩ := id h
  obtain ⟨xs, rx, hm⟩ := RdN.at_ I (.inl rd) rk
  obtain ⟨b, rfl⟩ := hk.ref hy
  cases ry
  rcases rk.look k with ⟨a2, v2, d2, e3, e4, hd⟩ | ⟨e3, e4⟩
  · rcases rx.look k with ⟨a1, v1, u1, e1, e2, rv⟩ | ⟨e1, e2⟩
    · refine wpAny_delItem_heap (k := k) (hsz := by rw [← rx.len, rk.len]; exact hz) (room8 hu) ⟨Dt.key I k _ _ hy rfl, hk.2⟩ hs hm e2 fun h' hm' sb => ?_
      have x : dPhi X.prog X.w a (rdrop raw k) h' := by
        obtain ⟨o, es, ep, ho, hx, hd, he, _, hn⟩ := hm'
        exact ⟨_, rx.drop k, o, es, ep, ho, hx, hd, he, hn⟩
      exact q _ _ (n_write I h x sb) (N.upd_is h (rk.drop k))
    · rw [e3] at e1
      cases e1
  · rw [e4] at l
    cases l
theorem n_pop {d : PyData} {Q : Value → Shared → Prop} (hu : A.units + 9 < cLine) (I : Inv X pins σ H s) (h : IsN X.prog X.w H a kvs) (hk : TupKey k) (hy : Dt H y k.data) (ry : RelV y u) (l : lookN kvs k = some d) (hz : kvs.length ≤ sizeLine)
    (q : ∀ o v w' s', Inv X pins σ (upd H a o) s' → IsN X.prog X.w (upd H a o) a (dropN kvs k) → Dt H v d → RelV v w' → Q w' s') : wpAny (model X.prog X.w) A (call (.builtin "dict.pop") [.ref a, u]) Q E s := by
  obtain ⟨hs, raw, rd, rk⟩ := id h
  obtain ⟨xs, rx, hm⟩ := RdN.at_ I (.inl rd) rk
  obtain ⟨b, rfl⟩ := hk.ref hy
  cases ry
  rcases rk.look k with ⟨a2, v2, d2, e3, e4, hd⟩ | ⟨e3, e4⟩
  · rw [e4] at l
    cases l
    rcases rx.look k with ⟨a1, v1, u1, e1, e2, rv⟩ | ⟨e1, e2⟩
    · rw [e3] at e1
      cases e1
      refine call_pop_heap (more := []) (k := k) (hsz := by rw [← rx.len, rk.len]; exact hz) (.inl rfl) (F.args_dict_pop_2 _ _) (room8 hu) ⟨Dt.key I k _ _ hy rfl, hk.2⟩ hs hm e2 fun h' hm' sb => ?_
      have x : dPhi X.prog X.w a (rdrop raw k) h' := by
        obtain ⟨o, es, ep, ho, hx, hd, he, _, hn⟩ := hm'
        exact ⟨_, rx.drop k, o, es, ep, ho, hx, hd, he, hn⟩
      exact q _ _ _ _ (n_write I h x sb) (N.upd_is h (rk.drop k)) hd rv
    · rw [e3] at e1
      cases e1
  · rw [e4] at l
    cases l
/-- len -/
theorem n_len {Q : Value → Shared → Prop} (I : Inv X pins σ H s) (h : RdN X.prog X.w H a kvs) (hz : kvs.length ≤ sizeLine) (q : ∀ t s', Inv X pins σ H s' → Q (.int kvs.length t) s') : wpAny (model X.prog X.w) A (call (.builtin "len") [.ref a]) Q E s := by
  obtain ⟨hs, raw, rd, rk⟩ := id h
  obtain ⟨xs, rx, hm⟩ := RdN.at_ I rd rk
  have e : xs.length = kvs.length := rx.len.symm.trans rk.len
  refine call_len_dictH hs hm (by have := line63; rw [e]; omega) ?_
  rw [e]
  exact q _ _ (I.tok _)
/-- a new dict -/
theorem n_new {h' : Heap} {t' : Nat} (I : Inv X pins σ H s) (hs : (s.heap.objs.size == sysModules) = false) : Inv X pins σ (upd H s.heap.objs.size (NObj X.prog X.w s.heap.objs.size [])) { s with heap := s.heap.push { cls := .type "dict", data := .dict #[] }, toks := t' } := by
  refine I.laid (fun b o e => Heap.get?_push_of_some _ e) (Nat.le_refl _) ?_
  exact dPhi.obj ⟨[], .nil, _, #[], 0, Heap.get?_push_size _ rfl, ⟨rfl, rfl, rfl⟩, rfl, rfl, List.nodup_nil⟩
end
end Pq

namespace Pq
open PySem PySem.Spec L2
open PyProof.Rows hiding St
open Evl (Ex)

/-! ### what an own object is: its content, by the value and the places that may be written -/
structure SK where
  is : Hp → V → List Addr → Prop
  stay : ∀ {H H' : Hp} {v : V} {F : List Addr}, is H v F → TEx H H' → (∀ a ∈ F, H' a = H a) → is H' v F
  dom : ∀ {H : Hp} {v : V} {F : List Addr}, is H v F → ∀ a ∈ F, ∃ o, H a = some o
theorem SK.ex (S : SK) {H H' : Hp} {v : V} {F : List Addr} (h : S.is H v F) (e : Ex H H') : S.is H' v F :=
  S.stay h (.of e) fun a ha => by
    obtain ⟨o, q⟩ := S.dom h a ha
    rw [q, e a o q]
/-- a list of pure data -/
def SK.l (ds : List PyData) : SK where
  is H v F := ∃ p vs, v = .ref p ∧ F = [p] ∧ H p = some (.lst vs) ∧ DtAll H vs ds
  stay := by
    rintro H H' v F ⟨p, vs, rfl, rfl, hp, hd⟩ e k
    exact ⟨p, vs, rfl, rfl, (k p (by simp)).trans hp, hd.ex e⟩
  dom := by
    rintro H v F ⟨p, vs, rfl, rfl, hp, hd⟩ a ha
    obtain rfl : a = p := by simpa using ha
    exact ⟨_, hp⟩
/-- a dict with nested keys -/
def SK.n (P : Program) (w : World) (kvs : List (NestedKey × PyData)) : SK where
  is H v F := ∃ p, v = .ref p ∧ F = [p] ∧ IsN P w H p kvs
  stay := by
    rintro H H' v F ⟨p, rfl, rfl, hp⟩ e k
    exact ⟨p, rfl, rfl, hp.ex e (k p (by simp))⟩
  dom := by
    rintro H v F ⟨p, rfl, rfl, _, raw, hp, _⟩ a ha
    obtain rfl : a = p := by simpa using ha
    exact ⟨_, hp⟩
/-- .. to be read -/
def SK.nr (P : Program) (w : World) (kvs : List (NestedKey × PyData)) : SK where
  is H v F := ∃ p, v = .ref p ∧ F = [p] ∧ RdN P w H p kvs
  stay := by
    rintro H H' v F ⟨p, rfl, rfl, z, raw, hp, r⟩ e k
    refine ⟨p, rfl, rfl, z, raw, ?_, r.ex e⟩
    have q := k p (by simp)
    rcases hp with h | ⟨o, h⟩
    · exact .inl (q.trans h)
    · exact .inr ⟨o, q.trans h⟩
  dom := by
    rintro H v F ⟨p, rfl, rfl, _, raw, hp, _⟩ a ha
    obtain rfl : a = p := by simpa using ha
    rcases hp with h | ⟨o, h⟩
    · exact ⟨_, h⟩
    · exact ⟨_, h⟩

/-! ### kinds of slots -/
inductive Kd where
  | d (x : PyData)
  | v (x : V)
  | o (S : SK)
  | bo (S : SK)
def Is (H0 H : Hp) : Kd → V → List Addr → Prop
  | .d x, v, F => F = [] ∧ Dt H v x
  | .v x, v, F => F = [] ∧ v = x
  | .o S, v, F => S.is H v F ∧ ∀ a ∈ F, H0 a = none ∧ ∀ vs, H a ≠ some (.tup vs)
  | .bo S, v, F => F = [] ∧ ∃ G, S.is H0 v G
theorem Is.stay {H0 H H' : Hp} {k : Kd} {v : V} {F : List Addr} (h : Is H0 H k v F) (e : TEx H H') (q : ∀ a ∈ F, H' a = H a) : Is H0 H' k v F := by
  cases k with
  | d x => exact ⟨h.1, h.2.ex e⟩
  | v x => exact h
  | o S => exact ⟨S.stay h.1 e q, fun a ha => ⟨(h.2 a ha).1, fun vs z => (h.2 a ha).2 vs ((q a ha).symm.trans z)⟩⟩
  | bo S => exact h
theorem Is.dom {H0 H : Hp} {k : Kd} {v : V} {F : List Addr} (h : Is H0 H k v F) : ∀ a ∈ F, H0 a = none ∧ ∃ o, H a = some o ∧ ∀ vs, o ≠ .tup vs := by
  intro a ha
  cases k with
  | d x => rw [h.1] at ha; cases ha
  | v x => rw [h.1] at ha; cases ha
  | o S =>
    obtain ⟨o, z⟩ := S.dom h.1 a ha
    exact ⟨(h.2 a ha).1, o, z, fun vs y => (h.2 a ha).2 vs (by rw [z, y])⟩
  | bo S => rw [h.1] at ha; cases ha
theorem Is.ex {H0 H H' : Hp} {k : Kd} {v : V} {F : List Addr} (h : Is H0 H k v F) (e : Ex H H') : Is H0 H' k v F :=
  h.stay (.of e) fun a ha => by
    obtain ⟨_, o, q, _⟩ := h.dom a ha
    rw [q, e a o q]
abbrev Slots := List (Option Kd)
/-- what is locked: addresses and what stands there -/
abbrev Lk := List (Addr × SK)
structure SlF (H0 : Hp) (Φ : Lk) (H : Hp) (σ : L2.St) (δ : Slots) (F : Nat → List Addr) : Prop where
  some_ : ∀ i k, δ[i]? = some (some k) → ∃ v, σ[i]? = some (some v) ∧ Is H0 H k v (F i)
  none_ : ∀ i, (∀ k, δ[i]? ≠ some (some k)) → F i = []
  apart : ∀ i j a, i ≠ j → a ∈ F i → a ∉ F j
  lock : ∀ q ∈ Φ, q.2.is H (.ref q.1) [q.1] ∧ ∀ i, q.1 ∉ F i
/-- the slots hold what is told; all that the frame H0 tracks is as it was; what may be written stands apart -/
structure Sl (H0 : Hp) (Φ : Lk) (H : Hp) (σ : L2.St) (δ : Slots) : Prop where
  ex : Ex H0 H
  len : σ.length = δ.length
  at_ : ∃ F : Nat → List Addr, SlF H0 Φ H σ δ F
section
variable {H0 H H' H1 : Hp} {Φ : Lk} {σ : L2.St} {δ : Slots} {F : Nat → List Addr}
theorem SlF.dom (f : SlF H0 Φ H σ δ F) {i : Nat} {a : Addr} (ha : a ∈ F i) : H0 a = none ∧ ∃ o, H a = some o ∧ ∀ vs, o ≠ .tup vs := by
  cases hd : δ[i]? with
  | none => rw [f.none_ i (fun w z => by rw [hd] at z; cases z)] at ha; cases ha
  | some w =>
    cases w with
    | none => rw [f.none_ i (fun w z => by rw [hd] at z; cases z)] at ha; cases ha
    | some w =>
      obtain ⟨u, hu, hq⟩ := f.some_ i w hd
      exact hq.dom a ha
theorem Sl.mono (h : Sl H0 Φ H σ δ) (e : Ex H H') : Sl H0 Φ H' σ δ := by
  obtain ⟨F, f⟩ := h.at_
  refine ⟨h.ex.trans e, h.len, F, fun i k q => ?_, f.none_, f.apart, fun q hq => ⟨q.2.ex (f.lock q hq).1 e, (f.lock q hq).2⟩⟩
  obtain ⟨v, hv, hi⟩ := f.some_ i k q
  exact ⟨v, hv, hi.ex e⟩
/-- a value is stored that is fresh against the heap in which the slots stood -/
theorem Sl.set_new (h : Sl H0 Φ H1 σ δ) (e : Ex H1 H) {i : Nat} {k : Kd} {v : V} {G : List Addr} (hi : Is H0 H k v G) (hG : ∀ a ∈ G, H1 a = none) : Sl H0 Φ H (σ.set i (some v)) (δ.set i (some k)) := by
  obtain ⟨F, f⟩ := h.at_
  have base : Sl H0 Φ H σ δ := h.mono e
  by_cases hl : i < δ.length
  · refine ⟨base.ex, by simp [h.len], fun j => if j = i then G else F j, fun j w q => ?_, fun j q => ?_, fun j m a ne ha => ?_, fun q hq => ⟨q.2.ex (f.lock q hq).1 e, fun j hj => ?_⟩⟩
    · by_cases ej : j = i
      · subst ej
        rw [List.getElem?_set_self hl] at q
        cases q
        refine ⟨v, by rw [List.getElem?_set_self (by rw [h.len]; exact hl)], ?_⟩
        simp only [if_pos rfl]
        exact hi
      · rw [List.getElem?_set_ne (Ne.symm ej)] at q ⊢
        simp only [if_neg ej]
        obtain ⟨u, hu, hq⟩ := f.some_ j w q
        exact ⟨u, hu, hq.ex e⟩
    · by_cases ej : j = i
      · subst ej
        exact absurd (List.getElem?_set_self hl) (q k)
      · simp only [if_neg ej]
        exact f.none_ j fun w z => q w (by rw [List.getElem?_set_ne (Ne.symm ej)]; exact z)
    · have apart : ∀ j a, a ∈ F j → a ∉ G := by
        intro j a ha hg
        obtain ⟨_, o, q, _⟩ := f.dom ha
        rw [hG a hg] at q
        cases q
      by_cases e1 : j = i
      · simp only [if_pos e1] at ha
        have e2 : ¬ m = i := fun z => ne (e1.trans z.symm)
        simp only [if_neg e2]
        exact fun z => apart m a z ha
      · simp only [if_neg e1] at ha
        by_cases e2 : m = i
        · simp only [if_pos e2]
          exact apart j a ha
        · simp only [if_neg e2]
          exact f.apart j m a ne ha
    · by_cases ej : j = i
      · simp only [if_pos ej] at hj
        obtain ⟨o, z⟩ := q.2.dom (f.lock q hq).1 q.1 List.mem_cons_self
        rw [hG _ hj] at z
        cases z
      · simp only [if_neg ej] at hj
        exact (f.lock q hq).2 j hj
  · have e1 : σ.set i (some v) = σ := List.set_eq_of_length_le (by rw [h.len]; omega)
    have e2 : δ.set i (some k) = δ := List.set_eq_of_length_le (by omega)
    rw [e1, e2]
    exact base
/-- a slot is forgotten, whatever it holds -/
theorem Sl.forget (h : Sl H0 Φ H σ δ) (i : Nat) : Sl H0 Φ H σ (δ.set i none) := by
  obtain ⟨F, f⟩ := h.at_
  refine ⟨h.ex, by simp [h.len], fun j => if j = i then [] else F j, fun j w q => ?_, fun j q => ?_, fun j m a ne ha => ?_, fun q hq => ⟨(f.lock q hq).1, fun j hj => ?_⟩⟩
  · by_cases ej : j = i
    · subst ej
      by_cases hl : j < δ.length
      · rw [List.getElem?_set_self hl] at q; cases q
      · rw [List.getElem?_eq_none (by simp; omega)] at q; cases q
    · rw [List.getElem?_set_ne (Ne.symm ej)] at q
      simp only [if_neg ej]
      exact f.some_ j w q
  · by_cases ej : j = i
    · simp only [if_pos ej]
    · simp only [if_neg ej]
      exact f.none_ j fun w z => q w (by rw [List.getElem?_set_ne (Ne.symm ej)]; exact z)
  · by_cases e1 : j = i
    · simp only [if_pos e1] at ha; cases ha
    · simp only [if_neg e1] at ha
      by_cases e2 : m = i
      · simp only [if_pos e2]; exact fun z => nomatch z
      · simp only [if_neg e2]; exact f.apart j m a ne ha
  · by_cases ej : j = i
    · simp only [if_pos ej] at hj; cases hj
    · simp only [if_neg ej] at hj; exact (f.lock q hq).2 j hj
/-- .. and its place wiped -/
theorem Sl.wipe1 (h : Sl H0 Φ H σ δ) (i : Nat) : Sl H0 Φ H (σ.set i none) (δ.set i none) := by
  obtain ⟨F, f⟩ := (h.forget i).at_
  refine ⟨h.ex, by simp [h.len], F, fun j w q => ?_, f.none_, f.apart, f.lock⟩
  obtain ⟨u, hu, hq⟩ := f.some_ j w q
  refine ⟨u, ?_, hq⟩
  by_cases ej : j = i
  · subst ej
    by_cases hl : j < δ.length
    · rw [List.getElem?_set_self hl] at q; cases q
    · rw [List.getElem?_eq_none (by simp; omega)] at q; cases q
  · rw [List.getElem?_set_ne (Ne.symm ej)]; exact hu
def wipeD (δ : Slots) : List Nat → Slots
  | [] => δ
  | v :: vs => (wipeD δ vs).set v none
theorem Sl.wipe (h : Sl H0 Φ H σ δ) : ∀ vs : List Nat, Sl H0 Φ H (L2.wipe σ vs) (wipeD δ vs)
  | [] => h
  | v :: vs => (Sl.wipe h vs).wipe1 v
/-- the objects of one slot change, and nothing else -/
theorem Sl.upd (h : Sl H0 Φ H σ δ) {i : Nat} {k : Kd} (hk : δ[i]? = some (some k)) {k' : Kd}
    (hn : ∀ v F, σ[i]? = some (some v) → Is H0 H k v F → (∀ a ∈ F, H0 a = none) → (∀ a o, a ∉ F → H a = some o → H' a = some o) ∧ ∃ F', Is H0 H' k' v F' ∧ ∀ a ∈ F', a ∈ F ∨ H a = none) : Sl H0 Φ H' σ (δ.set i (some k')) := by
  obtain ⟨F, f⟩ := h.at_
  obtain ⟨v, hv, hi⟩ := f.some_ i k hk
  obtain ⟨q1, F', q2, q3⟩ := hn v (F i) hv hi fun a ha => (hi.dom a ha).1
  have hl : i < δ.length := (List.getElem?_eq_some_iff.mp hk).1
  have te : TEx H H' := fun a vs e => q1 a _ (fun z => by
    obtain ⟨_, o, q, nt⟩ := hi.dom a z
    rw [e] at q
    cases q
    exact nt vs rfl) e
  have e0 : Ex H0 H' := fun a o e => q1 a o (fun z => by rw [(hi.dom a z).1] at e; cases e) (h.ex a o e)
  refine ⟨e0, by simp [h.len], fun j => if j = i then F' else F j, fun j w q => ?_, fun j q => ?_, fun j m a ne ha => ?_, fun q hq => ⟨q.2.stay (f.lock q hq).1 te fun a ha => ?_, fun j hj => ?_⟩⟩
  · by_cases ej : j = i
    · subst ej
      rw [List.getElem?_set_self hl] at q
      cases q
      simp only [if_pos rfl]
      exact ⟨v, hv, q2⟩
    · rw [List.getElem?_set_ne (Ne.symm ej)] at q
      simp only [if_neg ej]
      obtain ⟨u, hu, hq⟩ := f.some_ j w q
      refine ⟨u, hu, hq.stay te fun a ha => ?_⟩
      obtain ⟨_, o, z, _⟩ := hq.dom a ha
      rw [z, q1 a o (f.apart j i a ej ha) z]
  · by_cases ej : j = i
    · subst ej
      exact absurd (List.getElem?_set_self hl) (q k')
    · simp only [if_neg ej]
      exact f.none_ j fun w z => q w (by rw [List.getElem?_set_ne (Ne.symm ej)]; exact z)
  · have apart : ∀ j a, j ≠ i → a ∈ F j → a ∉ F' := by
      intro j a ej ha hg
      rcases q3 a hg with z | z
      · exact f.apart j i a ej ha z
      · obtain ⟨_, o, q, _⟩ := f.dom ha
        rw [z] at q
        cases q
    by_cases e1 : j = i
    · simp only [if_pos e1] at ha
      have e2 : ¬ m = i := fun z => ne (e1.trans z.symm)
      simp only [if_neg e2]
      exact fun z => apart m a e2 z ha
    · simp only [if_neg e1] at ha
      by_cases e2 : m = i
      · simp only [if_pos e2]
        exact apart j a e1 ha
      · simp only [if_neg e2]
        exact f.apart j m a ne ha
  · obtain ⟨o, z⟩ := q.2.dom (f.lock q hq).1 q.1 List.mem_cons_self
    obtain rfl : a = q.1 := by simpa using ha
    rw [z, q1 _ o ((f.lock q hq).2 i) z]
  · by_cases ej : j = i
    · simp only [if_pos ej] at hj
      obtain ⟨o, z⟩ := q.2.dom (f.lock q hq).1 q.1 List.mem_cons_self
      rcases q3 _ hj with y | y
      · exact (f.lock q hq).2 i y
      · rw [z] at y; cases y
    · simp only [if_neg ej] at hj
      exact (f.lock q hq).2 j hj
/-- an own name is handed on: j's content stands in i, j is forgotten -/
theorem Sl.move (h : Sl H0 Φ H σ δ) {i j : Nat} {k : Kd} (ne : i ≠ j) (hk : δ[j]? = some (some k)) {v : V} (hv : σ[j]? = some (some v)) : Sl H0 Φ H (σ.set i (some v)) ((δ.set j none).set i (some k)) := by
  obtain ⟨F, f⟩ := h.at_
  obtain ⟨v', hv', hi⟩ := f.some_ j k hk
  rw [hv] at hv'
  cases hv'
  by_cases hl : i < δ.length
  · have get : ∀ m w, ((δ.set j none).set i (some k))[m]? = some (some w) → (m = i ∧ w = k) ∨ (m ≠ i ∧ m ≠ j ∧ δ[m]? = some (some w)) := by
      intro m w q
      by_cases e1 : m = i
      · subst e1
        rw [List.getElem?_set_self (by simpa using hl)] at q
        cases q
        exact .inl ⟨rfl, rfl⟩
      · rw [List.getElem?_set_ne (Ne.symm e1)] at q
        by_cases e2 : m = j
        · subst e2
          rw [List.getElem?_set_self (List.getElem?_eq_some_iff.mp hk).1] at q
          cases q
        · rw [List.getElem?_set_ne (Ne.symm e2)] at q
          exact .inr ⟨e1, e2, q⟩
    refine ⟨h.ex, by simp [h.len], fun m => if m = i then F j else if m = j then [] else F m, fun m w q => ?_, fun m q => ?_, fun m n a nm ha => ?_, fun q hq => ⟨(f.lock q hq).1, fun m hm => ?_⟩⟩
    · rcases get m w q with ⟨rfl, rfl⟩ | ⟨e1, e2, q⟩
      · exact ⟨v, by rw [List.getElem?_set_self (by rw [h.len]; exact hl)], by simp only [if_pos rfl]; exact hi⟩
      · obtain ⟨u, hu, hq⟩ := f.some_ m w q
        exact ⟨u, by rw [List.getElem?_set_ne (Ne.symm e1)]; exact hu, by simp only [if_neg e1, if_neg e2]; exact hq⟩
    · by_cases e1 : m = i
      · subst e1
        exact absurd (List.getElem?_set_self (by simpa using hl)) (q k)
      · simp only [if_neg e1]
        by_cases e2 : m = j
        · simp only [if_pos e2]
        · simp only [if_neg e2]
          exact f.none_ m fun w z => q w (by rw [List.getElem?_set_ne (Ne.symm e1), List.getElem?_set_ne (Ne.symm e2)]; exact z)
    · by_cases e1 : m = i
      · simp only [if_pos e1] at ha
        have e2 : ¬ n = i := fun z => nm (e1.trans z.symm)
        simp only [if_neg e2]
        by_cases e3 : n = j
        · simp only [if_pos e3]; exact fun z => nomatch z
        · simp only [if_neg e3]; exact f.apart j n a (Ne.symm e3) ha
      · simp only [if_neg e1] at ha
        by_cases e2 : m = j
        · simp only [if_pos e2] at ha; cases ha
        · simp only [if_neg e2] at ha
          by_cases e3 : n = i
          · simp only [if_pos e3]; exact f.apart m j a e2 ha
          · simp only [if_neg e3]
            by_cases e4 : n = j
            · simp only [if_pos e4]; exact fun z => nomatch z
            · simp only [if_neg e4]; exact f.apart m n a nm ha
    · by_cases e1 : m = i
      · simp only [if_pos e1] at hm; exact (f.lock q hq).2 j hm
      · simp only [if_neg e1] at hm
        by_cases e2 : m = j
        · simp only [if_pos e2] at hm; cases hm
        · simp only [if_neg e2] at hm; exact (f.lock q hq).2 m hm
  · have e1 : σ.set i (some v) = σ := List.set_eq_of_length_le (by rw [h.len]; omega)
    have e2 : (δ.set j none).set i (some k) = δ.set j none := List.set_eq_of_length_le (by simp; omega)
    rw [e1, e2]
    exact h.forget j
/-- a slot's own object is locked: it leaves the slots, its name keeps its address -/
theorem Sl.locked (h : Sl H0 Φ H σ δ) {i : Nat} {S : SK} (hk : δ[i]? = some (some (.o S))) {v : V} (hv : σ[i]? = some (some v)) (hs : ∀ F, S.is H v F → ∃ p, v = .ref p ∧ F = [p]) {p : Addr} (ep : v = .ref p) {T : SK}
    (te : TEx H H') (e1 : ∀ a o, a ≠ p → H a = some o → H' a = some o) (ht : T.is H' (.ref p) [p]) : Sl H0 ((p, T) :: Φ) H' σ (δ.set i (some (.v (.ref p)))) := by
  obtain ⟨F, f⟩ := h.at_
  obtain ⟨v', hv', hi⟩ := f.some_ i _ hk
  rw [hv] at hv'
  cases hv'
  obtain ⟨p', ep', eF⟩ := hs _ hi.1
  rw [ep] at ep'
  cases ep'
  have hl : i < δ.length := (List.getElem?_eq_some_iff.mp hk).1
  have hp0 : H0 p = none := (hi.2 p (by rw [eF]; exact List.mem_cons_self)).1
  refine ⟨fun a o e => e1 a o (fun z => by rw [z, hp0] at e; cases e) (h.ex a o e), by simp [h.len], fun j => if j = i then [] else F j, fun j w q => ?_, fun j q => ?_, fun j m a ne ha => ?_, fun q hq => ?_⟩
  · by_cases ej : j = i
    · subst ej
      rw [List.getElem?_set_self hl] at q
      cases q
      exact ⟨_, by rw [hv, ep], by simp only [if_pos rfl]; exact ⟨rfl, rfl⟩⟩
    · rw [List.getElem?_set_ne (Ne.symm ej)] at q
      simp only [if_neg ej]
      obtain ⟨u, hu, hq⟩ := f.some_ j w q
      refine ⟨u, hu, hq.stay te fun a ha => ?_⟩
      obtain ⟨_, o, z, _⟩ := hq.dom a ha
      have nap : a ≠ p := fun y => f.apart j i a ej ha (by rw [eF, y]; exact List.mem_cons_self)
      rw [z, e1 a o nap z]
  · by_cases ej : j = i
    · simp only [if_pos ej]
    · simp only [if_neg ej]
      exact f.none_ j fun w z => q w (by rw [List.getElem?_set_ne (Ne.symm ej)]; exact z)
  · by_cases e1 : j = i
    · simp only [if_pos e1] at ha; cases ha
    · simp only [if_neg e1] at ha
      by_cases e2 : m = i
      · simp only [if_pos e2]; exact fun z => nomatch z
      · simp only [if_neg e2]; exact f.apart j m a ne ha
  · rcases List.mem_cons.mp hq with e | hq
    · subst e
      refine ⟨ht, fun j hj => ?_⟩
      by_cases ej : j = i
      · simp only [if_pos ej] at hj; cases hj
      · simp only [if_neg ej] at hj
        exact f.apart j i p ej hj (by rw [eF]; exact List.mem_cons_self)
    · obtain ⟨l1, l2⟩ := f.lock q hq
      obtain ⟨o, z⟩ := q.2.dom l1 q.1 List.mem_cons_self
      have nap : q.1 ≠ p := fun y => l2 i (by rw [eF, y]; exact List.mem_cons_self)
      refine ⟨q.2.stay l1 te fun a ha => ?_, fun j hj => ?_⟩
      · obtain rfl : a = q.1 := by simpa using ha
        rw [z, e1 _ o nap z]
      · by_cases ej : j = i
        · simp only [if_pos ej] at hj; cases hj
        · simp only [if_neg ej] at hj; exact l2 j hj
/-- .. and unlocked -/
theorem Sl.unlocked {p : Addr} {T S : SK} (h : Sl H0 ((p, T) :: Φ) H σ δ) {i : Nat} (hk : δ[i]? = some (some (.v (.ref p)))) (h0 : H0 p = none) (hlk : ∀ q ∈ Φ, q.1 ≠ p)
    (te : TEx H H') (e1 : ∀ a o, a ≠ p → H a = some o → H' a = some o) (hs : S.is H' (.ref p) [p]) (nt : ∀ vs, H' p ≠ some (.tup vs)) : Sl H0 Φ H' σ (δ.set i (some (.o S))) := by
  obtain ⟨F, f⟩ := h.at_
  obtain ⟨v, hv, hi⟩ := f.some_ i _ hk
  obtain ⟨_, rfl⟩ := hi
  have hl : i < δ.length := (List.getElem?_eq_some_iff.mp hk).1
  obtain ⟨lp, np⟩ := f.lock (p, T) List.mem_cons_self
  refine ⟨fun a o e => e1 a o (fun z => by rw [z, h0] at e; cases e) (h.ex a o e), by simp [h.len], fun j => if j = i then [p] else F j, fun j w q => ?_, fun j q => ?_, fun j m a ne ha => ?_, fun q hq => ?_⟩
  · by_cases ej : j = i
    · subst ej
      rw [List.getElem?_set_self hl] at q
      cases q
      refine ⟨_, hv, ?_⟩
      simp only [if_pos rfl]
      exact ⟨hs, fun a ha => by obtain rfl : a = p := by simpa using ha
                                exact ⟨h0, nt⟩⟩
    · rw [List.getElem?_set_ne (Ne.symm ej)] at q
      simp only [if_neg ej]
      obtain ⟨u, hu, hq⟩ := f.some_ j w q
      refine ⟨u, hu, hq.stay te fun a ha => ?_⟩
      obtain ⟨_, o, z, _⟩ := hq.dom a ha
      have nap : a ≠ p := fun y => np j (y ▸ ha)
      rw [z, e1 a o nap z]
  · by_cases ej : j = i
    · subst ej
      exact absurd (List.getElem?_set_self hl) (q _)
    · simp only [if_neg ej]
      exact f.none_ j fun w z => q w (by rw [List.getElem?_set_ne (Ne.symm ej)]; exact z)
  · by_cases c1 : j = i
    · simp only [if_pos c1] at ha
      have e2 : ¬ m = i := fun z => ne (c1.trans z.symm)
      obtain rfl : a = p := by simpa using ha
      simp only [if_neg e2]
      exact np m
    · simp only [if_neg c1] at ha
      by_cases e2 : m = i
      · simp only [if_pos e2]
        intro z
        obtain rfl : a = p := by simpa using z
        exact np j ha
      · simp only [if_neg e2]; exact f.apart j m a ne ha
  · obtain ⟨l1, l2⟩ := f.lock q (List.mem_cons_of_mem _ hq)
    obtain ⟨o, z⟩ := q.2.dom l1 q.1 List.mem_cons_self
    refine ⟨q.2.stay l1 te fun a ha => ?_, fun j hj => ?_⟩
    · obtain rfl : a = q.1 := by simpa using ha
      rw [z, e1 _ o (hlk q hq) z]
    · by_cases ej : j = i
      · simp only [if_pos ej] at hj
        exact hlk q hq (by simpa using hj)
      · simp only [if_neg ej] at hj; exact l2 j hj
/-- what stands in no slot is locked: new things, tuples -/
def LkNew (H1 H2 : Hp) (Ψ : Lk) : Prop := ∀ q ∈ Ψ, q.2.is H2 (.ref q.1) [q.1] ∧ (H1 q.1 = none ∨ ∃ vs, H2 q.1 = some (.tup vs))
theorem Sl.lock_new {Ψ : Lk} (h : Sl H0 Φ H1 σ δ) (e : Ex H1 H) (hp : LkNew H1 H Ψ) : Sl H0 (Ψ ++ Φ) H σ δ := by
  obtain ⟨F1, f1⟩ := h.at_
  refine ⟨h.ex.trans e, h.len, F1, fun j w q => ?_, f1.none_, f1.apart, fun q hq => ?_⟩
  · obtain ⟨u, hu, hq⟩ := f1.some_ j w q
    exact ⟨u, hu, hq.ex e⟩
  · rcases List.mem_append.mp hq with hq | hq
    · refine ⟨(hp q hq).1, fun j hj => ?_⟩
      obtain ⟨_, o, z, nt⟩ := f1.dom hj
      rcases (hp q hq).2 with y | ⟨vs, y⟩
      · rw [y] at z
        cases z
      · have z2 := e _ _ z
        rw [y] at z2
        cases z2
        exact nt vs rfl
    · exact ⟨q.2.ex (f1.lock q hq).1 e, (f1.lock q hq).2⟩
/-- a locked object goes its way, no slot's -/
theorem Sl.dropd {p : Addr} {T : SK} (h : Sl H0 ((p, T) :: Φ) H σ δ) (h0 : H0 p = none) (hlk : ∀ q ∈ Φ, q.1 ≠ p) (te : TEx H H') (e1 : ∀ a o, a ≠ p → H a = some o → H' a = some o) : Sl H0 Φ H' σ δ := by
  obtain ⟨F, f⟩ := h.at_
  obtain ⟨lp, np⟩ := f.lock (p, T) List.mem_cons_self
  refine ⟨fun a o e => e1 a o (fun z => by rw [z, h0] at e; cases e) (h.ex a o e), h.len, F, fun j w q => ?_, f.none_, f.apart, fun q hq => ?_⟩
  · obtain ⟨u, hu, hq⟩ := f.some_ j w q
    refine ⟨u, hu, hq.stay te fun a ha => ?_⟩
    obtain ⟨_, o, z, _⟩ := hq.dom a ha
    have nap : a ≠ p := fun y => np j (y ▸ ha)
    rw [z, e1 a o nap z]
  · obtain ⟨l1, l2⟩ := f.lock q (List.mem_cons_of_mem _ hq)
    obtain ⟨o, z⟩ := q.2.dom l1 q.1 List.mem_cons_self
    refine ⟨q.2.stay l1 te fun a ha => ?_, l2⟩
    obtain rfl : a = q.1 := by simpa using ha
    rw [z, e1 _ o (hlk q hq) z]
theorem Sl.drop_locks {Ψ : Lk} (h : Sl H0 (Ψ ++ Φ) H σ δ) : Sl H0 Φ H σ δ := by
  obtain ⟨F, f⟩ := h.at_
  exact ⟨h.ex, h.len, F, f.some_, f.none_, f.apart, fun q hq => f.lock q (List.mem_append_right _ hq)⟩
theorem Sl.drop_lock {p : Addr} {T : SK} (h : Sl H0 ((p, T) :: Φ) H σ δ) : Sl H0 Φ H σ δ := by
  obtain ⟨F, f⟩ := h.at_
  exact ⟨h.ex, h.len, F, f.some_, f.none_, f.apart, fun q hq => f.lock q (List.mem_cons_of_mem _ hq)⟩
end
end Pq

namespace Pq
open PySem PySem.Spec L2
open PyProof.Rows hiding St
open Evl (Ex)

/-! ### the readings by what they mean -/
section
variable (X : Cx)
def wE (e : Expr) : TE := fun σ H Q => ∀ (pins : List (Addr × Obj)) (s : Shared), L2.Inv X pins σ H s → wpAny (model X.prog X.w) X.A (eval e X.env) (EP X pins σ Q) X.xe s
def wT (e : Expr) : TT := fun σ H Q => ∀ (pins : List (Addr × Obj)) (s : Shared), L2.Inv X pins σ H s → wpAny (model X.prog X.w) X.A (isTrue e X.env (eval e X.env)) (TP X pins σ Q) X.xe s
def wW (e : Expr) : TT := fun σ H Q => ∀ (whole : Sem Value) (pins : List (Addr × Obj)) (s : Shared), L2.Inv X pins σ H s → wpAny (model X.prog X.w) X.A (isTrue e X.env whole) (TP X pins σ Q) X.xe s
def wC (op : CmpOp) (a b : Expr) : TE := fun σ H Q => ∀ (pins : List (Addr × Obj)) (s : Shared), L2.Inv X pins σ H s → wpAny (model X.prog X.w) X.A (eval a X.env) (fun v s₁ => wpAny (model X.prog X.w) X.A (eval b X.env) (fun u s₂ => wpAny (model X.prog X.w) X.A (compareOp op v u) (EP X pins σ Q) X.xe s₂) X.xe s₁) X.xe s
def wA (es : List Expr) : TA := fun σ H Q => ∀ (pos : Pos) (pins : List (Addr × Obj)) (s : Shared), L2.Inv X pins σ H s → wpAny (model X.prog X.w) X.A (spliced (backTo pos (starEach es X.env))) (AP X pins σ Q) X.xe s
def wS (st : Stmt) : TS := fun D σ H => ∀ (pins : List (Addr × Obj)) (s : Shared), L2.Inv X pins σ H s → wpAny (model X.prog X.w) X.A (exec st X.env) (SP X pins D) X.xe s
def wSs (st : List Stmt) : TS := fun D σ H => ∀ (pins : List (Addr × Obj)) (s : Shared), L2.Inv X pins σ H s → wpAny (model X.prog X.w) X.A (execs st X.env) (SP X pins D) X.xe s
end
section
variable {X : Cx} {e : Expr} {es : List Expr} {st : Stmt} {sts : List Stmt} {σ : L2.St} {H : Hp}
theorem pe_w : PE X e (wE X e) := ⟨fun pins s _ _ _ I h => h pins s I⟩
theorem pt_w : PT X e (wT X e) := ⟨fun pins s _ _ _ I h => h pins s I⟩
theorem pw_w : PW X e (wW X e) := ⟨fun wh pins s _ _ _ I h => h wh pins s I⟩
theorem pa_w : PA X es (wA X es) := ⟨fun pos pins s _ _ _ I h => h pos pins s I⟩
theorem ps_w : PS X st (wS X st) := ⟨fun pins s _ _ _ I h => h pins s I⟩
theorem pss_w : PSs X sts (wSs X sts) := ⟨fun pins s _ _ _ I h => h pins s I⟩
theorem e_of {t : TE} {Q : VK} (p : PE X e t) (h : t σ H Q) : wE X e σ H Q := fun pins s I => p.run pins s σ H Q I h
theorem t_of {t : TT} {Q : Bool → Hp → Prop} (p : PT X e t) (h : t σ H Q) : wT X e σ H Q := fun pins s I => p.run pins s σ H Q I h
theorem w_of {t : TT} {Q : Bool → Hp → Prop} (p : PW X e t) (h : t σ H Q) : wW X e σ H Q := fun wh pins s I => p.run wh pins s σ H Q I h
theorem a_of {t : TA} {Q : List V → Hp → Prop} (p : PA X es t) (h : t σ H Q) : wA X es σ H Q := fun pos pins s I => p.run pos pins s σ H Q I h
theorem s_of {t : TS} {D : Ends} (p : PS X st t) (h : t D σ H) : wS X st D σ H := fun pins s I => p.run pins s σ H D I h
theorem ss_of {t : TS} {D : Ends} (p : PSs X sts t) (h : t D σ H) : wSs X sts D σ H := fun pins s I => p.run pins s σ H D I h
end

/-! ### the judgements -/
/-- e gives a value of the kind k (new, if it is an object that may be written), and leaves all as it is -/
def JE (X : Cx) (Φ : Lk) (e : Expr) (δ : Slots) (k : Kd) : Prop := ∀ (H0 : Hp) (σ : L2.St) (H1 : Hp), Sl H0 Φ H1 σ δ → ∀ Q : VK, (∀ v H2 F, Ex H1 H2 → Is H1 H2 k v F → Q v H2) → wE X e σ H1 Q
/-- e gives an object that may be read as S -/
def JR (X : Cx) (Φ : Lk) (e : Expr) (δ : Slots) (S : SK) : Prop := ∀ (H0 : Hp) (σ : L2.St) (H1 : Hp), Sl H0 Φ H1 σ δ → ∀ Q : VK, (∀ v H2 G, Ex H1 H2 → S.is H2 v G → Q v H2) → wE X e σ H1 Q
/-- .. as an argument: the callee's frame is the heap behind it -/
def JG (X : Cx) (Φ : Lk) (e : Expr) (δ : Slots) (k : Kd) : Prop := ∀ (H0 : Hp) (σ : L2.St) (H1 : Hp), Sl H0 Φ H1 σ δ → ∀ Q : VK, (∀ v H2, Ex H1 H2 → Is H2 H2 k v [] → Q v H2) → wE X e σ H1 Q
def JT (X : Cx) (Φ : Lk) (e : Expr) (δ : Slots) (b : Bool) : Prop := ∀ (H0 : Hp) (σ : L2.St) (H1 : Hp), Sl H0 Φ H1 σ δ → ∀ Q : Bool → Hp → Prop, (∀ H2, Ex H1 H2 → Q b H2) → wT X e σ H1 Q
def JW (X : Cx) (Φ : Lk) (e : Expr) (δ : Slots) (b : Bool) : Prop := ∀ (H0 : Hp) (σ : L2.St) (H1 : Hp), Sl H0 Φ H1 σ δ → ∀ Q : Bool → Hp → Prop, (∀ H2, Ex H1 H2 → Q b H2) → wW X e σ H1 Q
def JC (X : Cx) (Φ : Lk) (op : CmpOp) (a b : Expr) (δ : Slots) (k : Bool) : Prop := ∀ (H0 : Hp) (σ : L2.St) (H1 : Hp), Sl H0 Φ H1 σ δ → ∀ Q : VK, (∀ H2, Ex H1 H2 → Q (.bl k) H2) → wC X op a b σ H1 Q
abbrev AsAll (H : Hp) (ks : List Kd) (vs : List V) : Prop := Paired (fun k v => Is H H k v []) ks vs
def JA (X : Cx) (Φ : Lk) (es : List Expr) (δ : Slots) (ks : List Kd) : Prop := ∀ (H0 : Hp) (σ : L2.St) (H1 : Hp), Sl H0 Φ H1 σ δ → ∀ Q : List V → Hp → Prop, (∀ vs H2, Ex H1 H2 → AsAll H2 ks vs → Q vs H2) → wA X es σ H1 Q
/-- several expressions of pure data -/
def JDs (X : Cx) (Φ : Lk) (es : List Expr) (δ : Slots) (ds : List PyData) : Prop := ∀ (H0 : Hp) (σ : L2.St) (H1 : Hp), Sl H0 Φ H1 σ δ → ∀ Q : List V → Hp → Prop, (∀ vs H2, Ex H1 H2 → DtAll H2 vs ds → Q vs H2) → wA X es σ H1 Q
/-- what is wanted behind statements -/
structure En where
  nx : Slots → Prop
  rt : Kd → Prop
  bk : Slots → Prop
  ct : Slots → Prop
structure Good (H0 : Hp) (Φ : Lk) (E : En) (D : Ends) : Prop where
  nx : ∀ σ H δ, Sl H0 Φ H σ δ → E.nx δ → D.nx σ H
  rt : ∀ v H k F, (∃ σ δ, Sl H0 Φ H σ δ) → Is H0 H k v F → E.rt k → D.rt v H
  bk : ∀ σ H δ, Sl H0 Φ H σ δ → E.bk δ → D.bk σ H
  ct : ∀ σ H δ, Sl H0 Φ H σ δ → E.ct δ → D.ct σ H
def JP (X : Cx) (Φ : Lk) (st : Stmt) (δ : Slots) (E : En) : Prop := ∀ (H0 : Hp) (σ : L2.St) (H1 : Hp) (D : Ends), Sl H0 Φ H1 σ δ → Good H0 Φ E D → wS X st D σ H1
def JS (X : Cx) (Φ : Lk) (sts : List Stmt) (δ : Slots) (E : En) : Prop := ∀ (H0 : Hp) (σ : L2.St) (H1 : Hp) (D : Ends), Sl H0 Φ H1 σ δ → Good H0 Φ E D → wSs X sts D σ H1

theorem Is.now {H : Hp} {k : Kd} {v : V} {H' : Hp} (h : Is H H k v []) (e : Ex H H') : Is H' H' k v [] := by
  cases k with
  | d x => exact ⟨rfl, h.2.ex (.of e)⟩
  | v x => exact h
  | o S => exact ⟨S.ex h.1 e, fun a z => nomatch z⟩
  | bo S =>
    obtain ⟨_, G, q⟩ := h
    exact ⟨rfl, G, S.ex q e⟩
theorem AsAll.now {H H' : Hp} (e : Ex H H') : ∀ {ks : List Kd} {vs : List V}, AsAll H ks vs → AsAll H' ks vs
  | _, _, .nil => .nil
  | _, _, .cons r t => .cons (r.now e) (AsAll.now e t)
section
variable {X : Cx} {Φ : Lk} {δ : Slots} {E : En} {e a b c : Expr} {es : List Expr} {pos : Pos}
theorem jr_new {S : SK} (h : JE X Φ e δ (.o S)) : JR X Φ e δ S := fun H0 σ H1 sl Q q => h H0 σ H1 sl Q fun v H2 F ex is => q v H2 F ex is.1
theorem jr_bo {S : SK} (h : JE X Φ e δ (.bo S)) : JR X Φ e δ S := fun H0 σ H1 sl Q q => h H0 σ H1 sl Q fun v H2 F ex is => let ⟨_, G, z⟩ := is; q v H2 G ex (S.ex z ex)
theorem jr_n {kvs : List (NestedKey × PyData)} {P : Program} {w : World} (h : JR X Φ e δ (SK.n P w kvs)) : JR X Φ e δ (SK.nr P w kvs) := fun H0 σ H1 sl Q q => h H0 σ H1 sl Q fun v H2 G ex ⟨p, e1, e2, z⟩ => q v H2 G ex ⟨p, e1, e2, z.rd⟩
theorem jg_d {x : PyData} (h : JE X Φ e δ (.d x)) : JG X Φ e δ (.d x) := fun H0 σ H1 sl Q q => h H0 σ H1 sl Q fun v H2 F ex is => q v H2 ex ⟨rfl, is.2⟩
theorem jg_v {x : V} (h : JE X Φ e δ (.v x)) : JG X Φ e δ (.v x) := fun H0 σ H1 sl Q q => h H0 σ H1 sl Q fun v H2 F ex is => q v H2 ex ⟨rfl, is.2⟩
theorem jg_r {S : SK} (h : JR X Φ e δ S) : JG X Φ e δ (.bo S) := fun H0 σ H1 sl Q q => h H0 σ H1 sl Q fun v H2 G ex is => q v H2 ex ⟨rfl, G, is⟩

/-! ### names, constants -/
theorem je_vd {i : Nat} {x : Str} {d : PyData} (hd : δ[i]? = some (some (.d d))) (hN : X.N[i]? = some x := by rfl) (hv : Vis X.env.scope x := by first | exact Or.inl rfl | exact Or.inr (Or.inl rfl) | exact Or.inr (Or.inr rfl))
    (h1 : (x == ("__debug__" : Str)) = false := by decide) (h2 : (x == ("__classdict__" : Str)) = false := by decide) : JE X Φ (.Name x pos) δ (.d d) := fun H0 σ H1 sl Q q => by
  obtain ⟨F, f⟩ := sl.at_
  obtain ⟨v, hs, hi⟩ := f.some_ i _ hd
  exact e_of (pe_var hN hv h1 h2) ⟨v, hs, q v H1 [] (Evl.Ex.refl H1) ⟨rfl, hi.2⟩⟩
theorem je_vv {i : Nat} {x : Str} {y : V} (hd : δ[i]? = some (some (.v y))) (hN : X.N[i]? = some x := by rfl) (hv : Vis X.env.scope x := by first | exact Or.inl rfl | exact Or.inr (Or.inl rfl) | exact Or.inr (Or.inr rfl))
    (h1 : (x == ("__debug__" : Str)) = false := by decide) (h2 : (x == ("__classdict__" : Str)) = false := by decide) : JE X Φ (.Name x pos) δ (.v y) := fun H0 σ H1 sl Q q => by
  obtain ⟨F, f⟩ := sl.at_
  obtain ⟨v, hs, hi⟩ := f.some_ i _ hd
  exact e_of (pe_var hN hv h1 h2) ⟨v, hs, q v H1 [] (Evl.Ex.refl H1) ⟨rfl, hi.2⟩⟩
/-- an own name, or one of the frame, as what may be read -/
theorem jr_vo {i : Nat} {x : Str} {S : SK} (hd : δ[i]? = some (some (.o S))) (hN : X.N[i]? = some x := by rfl) (hv : Vis X.env.scope x := by first | exact Or.inl rfl | exact Or.inr (Or.inl rfl) | exact Or.inr (Or.inr rfl))
    (h1 : (x == ("__debug__" : Str)) = false := by decide) (h2 : (x == ("__classdict__" : Str)) = false := by decide) : JR X Φ (.Name x pos) δ S := fun H0 σ H1 sl Q q => by
  obtain ⟨F, f⟩ := sl.at_
  obtain ⟨v, hs, hi⟩ := f.some_ i _ hd
  exact e_of (pe_var hN hv h1 h2) ⟨v, hs, q v H1 _ (Evl.Ex.refl H1) hi.1⟩
theorem jr_vb {i : Nat} {x : Str} {S : SK} (hd : δ[i]? = some (some (.bo S))) (hN : X.N[i]? = some x := by rfl) (hv : Vis X.env.scope x := by first | exact Or.inl rfl | exact Or.inr (Or.inl rfl) | exact Or.inr (Or.inr rfl))
    (h1 : (x == ("__debug__" : Str)) = false := by decide) (h2 : (x == ("__classdict__" : Str)) = false := by decide) : JR X Φ (.Name x pos) δ S := fun H0 σ H1 sl Q q => by
  obtain ⟨F, f⟩ := sl.at_
  obtain ⟨v, hs, hi⟩ := f.some_ i _ hd
  obtain ⟨_, G, g⟩ := hi
  exact e_of (pe_var hN hv h1 h2) ⟨v, hs, q v H1 _ (Evl.Ex.refl H1) (S.ex g sl.ex)⟩
/-- a locked name -/
theorem jr_vl {i : Nat} {x : Str} {p : Addr} {S : SK} (hd : δ[i]? = some (some (.v (.ref p)))) (hl : (p, S) ∈ Φ) (hN : X.N[i]? = some x := by rfl) (hv : Vis X.env.scope x := by first | exact Or.inl rfl | exact Or.inr (Or.inl rfl) | exact Or.inr (Or.inr rfl))
    (h1 : (x == ("__debug__" : Str)) = false := by decide) (h2 : (x == ("__classdict__" : Str)) = false := by decide) : JR X Φ (.Name x pos) δ S := fun H0 σ H1 sl Q q => by
  obtain ⟨F, f⟩ := sl.at_
  obtain ⟨v, hs, hi⟩ := f.some_ i _ hd
  obtain ⟨_, rfl⟩ := hi
  exact e_of (pe_var hN hv h1 h2) ⟨_, hs, q _ H1 _ (Evl.Ex.refl H1) (f.lock _ hl).1⟩
theorem je_int {i : Int} {j} : JE X Φ (.Constant (.int i) j pos) δ (.d (.int i)) := fun _ _ H1 _ _ q => e_of pe_int (q _ H1 [] (Evl.Ex.refl H1) ⟨rfl, .int i⟩)
theorem je_bl {i : Bool} {j} : JE X Φ (.Constant (.bool i) j pos) δ (.d (.bool i)) := fun _ _ H1 _ _ q => e_of pe_bl (q _ H1 [] (Evl.Ex.refl H1) ⟨rfl, .bl i⟩)
theorem je_non {j} : JE X Φ (.Constant .none j pos) δ (.d .none) := fun _ _ H1 _ _ q => e_of pe_non (q _ H1 [] (Evl.Ex.refl H1) ⟨rfl, .non⟩)
theorem je_str {i : Str} {j} : JE X Φ (.Constant (.str i) j pos) δ (.d (.str i)) := fun _ _ H1 _ _ q => e_of pe_str (q _ H1 [] (Evl.Ex.refl H1) ⟨rfl, .str i⟩)
/-- a module's constant -/
theorem je_gi {x : Str} {i : Int} (hm : ∃ t, X.mg x = some (.int i t)) (hg : Gl X x := by rfl) (hd : (x == ("__debug__" : Str)) = false := by decide) : JE X Φ (.Name x pos) δ (.d (.int i)) := fun _ _ H1 _ _ q => by
  obtain ⟨t, hm⟩ := hm
  exact e_of (pe_glob (v := .int i) hg hm ⟨t, rfl⟩ hd) (q _ H1 [] (Evl.Ex.refl H1) ⟨rfl, .int i⟩)
theorem je_gs {x : Str} {i : Str} (hm : ∃ t, X.mg x = some (.str i t)) (hg : Gl X x := by rfl) (hd : (x == ("__debug__" : Str)) = false := by decide) : JE X Φ (.Name x pos) δ (.d (.str i)) := fun _ _ H1 _ _ q => by
  obtain ⟨t, hm⟩ := hm
  exact e_of (pe_glob (v := .str i) hg hm ⟨t, rfl⟩ hd) (q _ H1 [] (Evl.Ex.refl H1) ⟨rfl, .str i⟩)

/-! ### operators on numbers -/
/-- two operands of pure data, by what the operator's rule asks -/
theorem je_op2 {op : Operator} {r : R2} {x y z : PyData} (ho : OpR X (binaryOp op) r) (ha : JE X Φ a δ (.d x)) (hb : JE X Φ b δ (.d y))
    (hr : ∀ H v u (Q : VK), Dt H v x → Dt H u y → (∀ t H' , Ex H H' → Dt H' t z → Q t H') → r v u H Q) : JE X Φ (.BinOp a op b pos) δ (.d z) := fun H0 σ H1 sl Q q => by
  refine e_of (pe_op ho pe_w pe_w) ?_
  refine ha H0 σ H1 sl _ fun v H2 _ e1 i1 => ?_
  refine hb H0 σ H2 (sl.mono e1) _ fun u H3 _ e2 i2 => ?_
  exact hr H3 v u Q (i1.2.ex (.of e2)) i2.2 fun t H4 e3 d => q t H4 [] ((e1.trans e2).trans e3) ⟨rfl, d⟩
theorem dt_int {H : Hp} {v : V} {i : Int} (h : Dt H v (.int i)) : v = .int i := by cases h; rfl
theorem dt_bl {H : Hp} {v : V} {i : Bool} (h : Dt H v (.bool i)) : v = .bl i := by cases h; rfl
theorem dt_str {H : Hp} {v : V} {i : Str} (h : Dt H v (.str i)) : v = .str i := by cases h; rfl
theorem je_opI {op : Operator} {C : Int → Int → Prop} {g : Int → Int → Int} {i j : Int} (ho : OpR X (binaryOp op) (rI C fun i j => .int (g i j))) (ha : JE X Φ a δ (.d (.int i))) (hb : JE X Φ b δ (.d (.int j))) (hc : C i j) : JE X Φ (.BinOp a op b pos) δ (.d (.int (g i j))) :=
  je_op2 ho ha hb fun H v u Q dv du q => ⟨i, j, dt_int dv, dt_int du, hc, q _ H (Evl.Ex.refl H) (.int _)⟩
theorem je_opI0 {op : Operator} {g : Int → Int → Int} {i j : Int} (ho : OpR X (binaryOp op) (rI0 fun i j => .int (g i j))) (ha : JE X Φ a δ (.d (.int i))) (hb : JE X Φ b δ (.d (.int j))) : JE X Φ (.BinOp a op b pos) δ (.d (.int (g i j))) :=
  je_op2 ho ha hb fun H v u Q dv du q => ⟨i, j, dt_int dv, dt_int du, q _ H (Evl.Ex.refl H) (.int _)⟩
theorem je_add {i j : Int} (ha : JE X Φ a δ (.d (.int i))) (hb : JE X Φ b δ (.d (.int j))) : JE X Φ (.BinOp a .Add b pos) δ (.d (.int (i + j))) := je_opI0 (g := fun i j => i + j) op_add ha hb
theorem je_sub {i j : Int} (ha : JE X Φ a δ (.d (.int i))) (hb : JE X Φ b δ (.d (.int j))) : JE X Φ (.BinOp a .Sub b pos) δ (.d (.int (i - j))) := je_opI0 (g := fun i j => i - j) op_sub ha hb
theorem je_mul {i j : Int} (ha : JE X Φ a δ (.d (.int i))) (hb : JE X Φ b δ (.d (.int j))) (hc : CMul i j) : JE X Φ (.BinOp a .Mult b pos) δ (.d (.int (i * j))) := je_opI (g := fun i j => i * j) op_mul ha hb hc
theorem je_mod {i j : Int} (ha : JE X Φ a δ (.d (.int i))) (hb : JE X Φ b δ (.d (.int j))) (hc : 0 < j) : JE X Φ (.BinOp a .Mod b pos) δ (.d (.int (i % j))) := je_opI (C := fun _ j => 0 < j) (g := fun i j => i % j) op_mod ha hb hc
theorem je_usub {i : Int} (ha : JE X Φ a δ (.d (.int i))) : JE X Φ (.UnaryOp .USub a pos) δ (.d (.int (-i))) := fun H0 σ H1 sl Q q =>
  e_of (pe_un un_neg pe_w) (ha H0 σ H1 sl _ fun v H2 _ e1 i1 => ⟨i, dt_int i1.2, q _ H2 [] e1 ⟨rfl, .int _⟩⟩)
/-! ### comparisons -/
theorem pc_w {op : CmpOp} : PC X op a b (wC X op a b) := ⟨fun pins s _ _ _ I h => h pins s I⟩
theorem c_of {op : CmpOp} {t : TE} {σ : L2.St} {H : Hp} {Q : VK} (p : PC X op a b t) (h : t σ H Q) : wC X op a b σ H Q := fun pins s I => p.run pins s σ H Q I h
theorem pc_op {op : CmpOp} {r : R2} {ta tb : TE} (ho : OpR X (compareOp op) r) (ha : PE X a ta) (hb : PE X b tb) : PC X op a b (tOp r ta tb) := by
  refine ⟨fun pins s σ H Q I h => ?_⟩
  exact thn (ha.run pins s σ H _ I h) fun v s1 ⟨x, H1, I1, r1, q1⟩ => thn (hb.run pins s1 σ H1 _ I1 q1) fun u s2 ⟨y, H2, I2, r2, q2⟩ => ho pins s2 σ H2 x y v u Q I2 r1 r2 q2
theorem je_c {op : CmpOp} {k : Bool} (h : JC X Φ op a b δ k) (h1 : behindInMarks op b = false := by first | exact nobehind _ (by decide) (by decide) | rfl) : JE X Φ (.Compare a [op] [b] pos) δ (.d (.bool k)) := fun H0 σ H1 sl Q q =>
  e_of (pe_cmp pc_w h1) (h H0 σ H1 sl Q fun H2 e1 => q _ H2 [] e1 ⟨rfl, .bl _⟩)
theorem jt_c {op : CmpOp} {k : Bool} (h : JC X Φ op a b δ k) (h1 : behindInMarks op b = false := by first | exact nobehind _ (by decide) (by decide) | rfl) : JT X Φ (.Compare a [op] [b] pos) δ k := fun H0 σ H1 sl Q q =>
  t_of (pt_cmp pc_w h1) (h H0 σ H1 sl _ fun H2 e1 => ⟨k, rfl, q H2 e1⟩)
theorem jc_is {op : CmpOp} {k l : Bool} (h : JC X Φ op a b δ k) (e : k = l) : JC X Φ op a b δ l := e ▸ h
theorem jc_2 {op : CmpOp} {r : R2} {x y : PyData} {k : Bool} (ho : OpR X (compareOp op) r) (ha : JE X Φ a δ (.d x)) (hb : JE X Φ b δ (.d y))
    (hr : ∀ H v u (Q : VK), Dt H v x → Dt H u y → Q (.bl k) H → r v u H Q) : JC X Φ op a b δ k := fun H0 σ H1 sl Q q => by
  refine c_of (pc_op ho pe_w pe_w) ?_
  refine ha H0 σ H1 sl _ fun v H2 _ e1 i1 => ?_
  refine hb H0 σ H2 (sl.mono e1) _ fun u H3 _ e2 i2 => ?_
  exact hr H3 v u Q (i1.2.ex (.of e2)) i2.2 (q H3 (e1.trans e2))
theorem jc_I {op : CmpOp} {g : Int → Int → Bool} {i j : Int} (ho : OpR X (compareOp op) (rI0 fun i j => .bl (g i j))) (ha : JE X Φ a δ (.d (.int i))) (hb : JE X Φ b δ (.d (.int j))) : JC X Φ op a b δ (g i j) :=
  jc_2 ho ha hb fun H v u Q dv du q => ⟨i, j, dt_int dv, dt_int du, q⟩
theorem jc_lt {i j : Int} (ha : JE X Φ a δ (.d (.int i))) (hb : JE X Φ b δ (.d (.int j))) : JC X Φ .Lt a b δ (decide (i < j)) := jc_I (g := fun i j => decide (i < j)) op_lt ha hb
theorem jc_le {i j : Int} (ha : JE X Φ a δ (.d (.int i))) (hb : JE X Φ b δ (.d (.int j))) : JC X Φ .LtE a b δ (decide (i ≤ j)) := jc_I (g := fun i j => decide (i ≤ j)) op_le ha hb
theorem jc_gt {i j : Int} (ha : JE X Φ a δ (.d (.int i))) (hb : JE X Φ b δ (.d (.int j))) : JC X Φ .Gt a b δ (decide (j < i)) := jc_I (g := fun i j => decide (j < i)) op_gt ha hb
theorem jc_ge {i j : Int} (ha : JE X Φ a δ (.d (.int i))) (hb : JE X Φ b δ (.d (.int j))) : JC X Φ .GtE a b δ (decide (j ≤ i)) := jc_I (g := fun i j => decide (j ≤ i)) op_ge ha hb
theorem vint_dec (i j : Int) : decide (V.int i = V.int j) = decide (i = j) := by simp
theorem vstr_dec (i j : Str) : decide (V.str i = V.str j) = decide (i = j) := by simp
theorem vbl_dec (i j : Bool) : decide (V.bl i = V.bl j) = decide (i = j) := by simp
theorem jc_eqI {i j : Int} (ha : JE X Φ a δ (.d (.int i))) (hb : JE X Φ b δ (.d (.int j))) : JC X Φ .Eq a b δ (decide (i = j)) :=
  jc_2 op_eq ha hb fun H v u Q dv du q => by
    rw [dt_int dv, dt_int du]
    exact ⟨rfl, by rw [vint_dec]; exact q⟩
theorem jc_neI {i j : Int} (ha : JE X Φ a δ (.d (.int i))) (hb : JE X Φ b δ (.d (.int j))) : JC X Φ .NotEq a b δ (!decide (i = j)) :=
  jc_2 op_ne ha hb fun H v u Q dv du q => by
    rw [dt_int dv, dt_int du]
    exact ⟨rfl, by rw [vint_dec]; exact q⟩
theorem jc_eqS {i j : Str} (ha : JE X Φ a δ (.d (.str i))) (hb : JE X Φ b δ (.d (.str j))) : JC X Φ .Eq a b δ (decide (i = j)) :=
  jc_2 op_eq ha hb fun H v u Q dv du q => by
    rw [dt_str dv, dt_str du]
    exact ⟨rfl, by rw [vstr_dec]; exact q⟩
theorem jc_neS {i j : Str} (ha : JE X Φ a δ (.d (.str i))) (hb : JE X Φ b δ (.d (.str j))) : JC X Φ .NotEq a b δ (!decide (i = j)) :=
  jc_2 op_ne ha hb fun H v u Q dv du q => by
    rw [dt_str dv, dt_str du]
    exact ⟨rfl, by rw [vstr_dec]; exact q⟩
theorem jc_neB {i j : Bool} (ha : JE X Φ a δ (.d (.bool i))) (hb : JE X Φ b δ (.d (.bool j))) : JC X Φ .NotEq a b δ (!decide (i = j)) :=
  jc_2 op_ne ha hb fun H v u Q dv du q => by
    rw [dt_bl dv, dt_bl du]
    exact ⟨rfl, by rw [vbl_dec]; exact q⟩
/-- x is None -/
def isNone : PyData → Bool
  | .none => true
  | _ => false
theorem dt_none {H : Hp} {v : V} {x : PyData} (h : Dt H v x) : decide (v = .non) = isNone x := by
  cases h <;> rfl
theorem jc_isN {x : PyData} {j p2} (ha : JE X Φ a δ (.d x)) : JC X Φ .Is a (.Constant .none j p2) δ (isNone x) :=
  jc_2 (y := .none) op_isN ha je_non fun H v u Q dv du q => by
    cases du
    exact ⟨rfl, by rw [dt_none dv]; exact q⟩
theorem jc_notN {x : PyData} {j p2} (ha : JE X Φ a δ (.d x)) : JC X Φ .IsNot a (.Constant .none j p2) δ (!isNone x) :=
  jc_2 (y := .none) op_notN ha je_non fun H v u Q dv du q => by
    cases du
    exact ⟨rfl, by rw [dt_none dv]; exact q⟩
theorem je_is {x y : PyData} (h : JE X Φ e δ (.d x)) (q : x = y) : JE X Φ e δ (.d y) := q ▸ h
theorem jt_is {x y : Bool} (h : JT X Φ e δ x) (q : x = y) : JT X Φ e δ y := q ▸ h

/-! ### tests -/
theorem jt_val {b : Bool} (h : JE X Φ e δ (.d (.bool b))) (he : ∀ whole, isTrue e X.env whole = (do let v ← whole; standAt e.pos; holding [v] (truthy v)) := by intro _; rfl) : JT X Φ e δ b := fun H0 σ H1 sl Q q =>
  t_of (pt_val pe_w he) (h H0 σ H1 sl _ fun v H2 _ e1 i1 => ⟨b, dt_bl i1.2, q H2 e1⟩)
theorem jt_not {k : Bool} (h : JT X Φ a δ k) : JT X Φ (.UnaryOp .Not a pos) δ (!k) := fun H0 σ H1 sl Q q => t_of (pt_not pt_w) (h H0 σ H1 sl _ fun H2 e1 => q H2 e1)
theorem jw_and1 {k : Bool} (h : JT X Φ a δ k) : JW X Φ (.BoolOp .And [a] pos) δ k := fun H0 σ H1 sl Q q => w_of (pw_and1 pt_w) (h H0 σ H1 sl Q q)
theorem jw_or1 {k : Bool} (h : JT X Φ a δ k) : JW X Φ (.BoolOp .Or [a] pos) δ k := fun H0 σ H1 sl Q q => w_of (pw_or1 pt_w) (h H0 σ H1 sl Q q)
theorem jw_and {k l : Bool} {r : List Expr} (h : JT X Φ a δ k) (h2 : k = true → JW X Φ (.BoolOp .And (b :: r) pos) δ l) : JW X Φ (.BoolOp .And (a :: b :: r) pos) δ (k && l) := fun H0 σ H1 sl Q q =>
  w_of (pw_and pt_w pw_w) (h H0 σ H1 sl _ fun H2 e1 => by
    cases k with
    | true =>
      show wW X (.BoolOp .And (b :: r) pos) σ H2 Q
      exact h2 rfl H0 σ H2 (sl.mono e1) Q fun H3 e2 => q H3 (e1.trans e2)
    | false =>
      show Q false H2
      exact q H2 e1)
theorem jw_or {k l : Bool} {r : List Expr} (h : JT X Φ a δ k) (h2 : k = false → JW X Φ (.BoolOp .Or (b :: r) pos) δ l) : JW X Φ (.BoolOp .Or (a :: b :: r) pos) δ (k || l) := fun H0 σ H1 sl Q q =>
  w_of (pw_or pt_w pw_w) (h H0 σ H1 sl _ fun H2 e1 => by
    cases k with
    | true =>
      show Q true H2
      exact q H2 e1
    | false =>
      show wW X (.BoolOp .Or (b :: r) pos) σ H2 Q
      exact h2 rfl H0 σ H2 (sl.mono e1) Q fun H3 e2 => q H3 (e1.trans e2))
theorem jt_w {k : Bool} (h : JW X Φ e δ k) : JT X Φ e δ k := fun H0 σ H1 sl Q q => by
  have z := h H0 σ H1 sl Q q
  exact fun pins s I => z _ pins s I
/-! .. as values -/
theorem je_one {op} {k : Bool} (h : JE X Φ a δ (.d (.bool k))) : JE X Φ (.BoolOp op [a] pos) δ (.d (.bool k)) := fun H0 σ H1 sl Q q => e_of (pe_one pe_w) (h H0 σ H1 sl Q q)
theorem je_and {k l : Bool} {r : List Expr} (h : JE X Φ a δ (.d (.bool k))) (h2 : k = true → JE X Φ (.BoolOp .And (b :: r) pos) δ (.d (.bool l))) : JE X Φ (.BoolOp .And (a :: b :: r) pos) δ (.d (.bool (k && l))) := fun H0 σ H1 sl Q q =>
  e_of (pe_and pe_w pe_w) (h H0 σ H1 sl _ fun v H2 _ e1 i1 => ⟨k, dt_bl i1.2, by
    cases k with
    | true =>
      show wE X (.BoolOp .And (b :: r) pos) σ H2 Q
      exact h2 rfl H0 σ H2 (sl.mono e1) Q fun v H3 F e2 i2 => q v H3 [] (e1.trans e2) ⟨rfl, i2.2⟩
    | false =>
      show Q (.bl false) H2
      exact q _ H2 [] e1 ⟨rfl, .bl _⟩⟩)
theorem je_or {k l : Bool} {r : List Expr} (h : JE X Φ a δ (.d (.bool k))) (h2 : k = false → JE X Φ (.BoolOp .Or (b :: r) pos) δ (.d (.bool l))) : JE X Φ (.BoolOp .Or (a :: b :: r) pos) δ (.d (.bool (k || l))) := fun H0 σ H1 sl Q q =>
  e_of (pe_or pe_w pe_w) (h H0 σ H1 sl _ fun v H2 _ e1 i1 => ⟨k, dt_bl i1.2, by
    cases k with
    | true =>
      show Q (.bl true) H2
      exact q _ H2 [] e1 ⟨rfl, .bl _⟩
    | false =>
      show wE X (.BoolOp .Or (b :: r) pos) σ H2 Q
      exact h2 rfl H0 σ H2 (sl.mono e1) Q fun v H3 F e2 i2 => q v H3 [] (e1.trans e2) ⟨rfl, i2.2⟩⟩)
theorem je_not {k : Bool} (h : JE X Φ a δ (.d (.bool k))) : JE X Φ (.UnaryOp .Not a pos) δ (.d (.bool (!k))) := fun H0 σ H1 sl Q q =>
  e_of (pe_not pe_w) (h H0 σ H1 sl _ fun v H2 _ e1 i1 => ⟨k, dt_bl i1.2, q _ H2 [] e1 ⟨rfl, .bl _⟩⟩)
theorem je_if {c : Expr} {k : Bool} {r : Kd} (h : JT X Φ c δ k) (h1 : k = true → JE X Φ a δ r) (h2 : k = false → JE X Φ b δ r) (hr : ∀ H1 H2 H3 v F, Ex H1 H2 → Is H2 H3 r v F → Is H1 H3 r v F) : JE X Φ (.IfExp c a b pos) δ r := fun H0 σ H1 sl Q q =>
  e_of (pe_ifExp pt_w pe_w pe_w) (h H0 σ H1 sl _ fun H2 e1 => by
    cases k with
    | true =>
      show wE X a σ H2 Q
      exact h1 rfl H0 σ H2 (sl.mono e1) Q fun v H3 F e2 i2 => q v H3 F (e1.trans e2) (hr _ _ _ _ _ e1 i2)
    | false =>
      show wE X b σ H2 Q
      exact h2 rfl H0 σ H2 (sl.mono e1) Q fun v H3 F e2 i2 => q v H3 F (e1.trans e2) (hr _ _ _ _ _ e1 i2))
theorem je_ifd {c : Expr} {k : Bool} {r : PyData} (h : JT X Φ c δ k) (h1 : k = true → JE X Φ a δ (.d r)) (h2 : k = false → JE X Φ b δ (.d r)) : JE X Φ (.IfExp c a b pos) δ (.d r) := je_if h h1 h2 fun _ _ _ _ _ _ i => i
end
end Pq

namespace Pq
open PySem PySem.Spec L2
open PyProof.Rows hiding St
open Evl (Ex)

section
variable {X : Cx} {Φ : Lk} {δ : Slots} {E : En} {e a b c : Expr} {es : List Expr} {pos : Pos}

theorem is_l {H H' : Hp} {t : Addr} {vs : List V} {ds : List PyData} (hn : H t = none) (ht : H' t = some (.lst vs)) (hd : DtAll H' vs ds) : Is H H' (.o (SK.l ds)) (.ref t) [t] :=
  ⟨⟨t, vs, rfl, rfl, ht, hd⟩, fun a ha => by
    obtain rfl : a = t := by simpa using ha
    exact ⟨hn, fun vs z => by rw [ht] at z; cases z⟩⟩
/-- e is no starred one -/
def NS (e : Expr) : Prop := ∀ (es : List Expr) (env : Env), starEach (e :: es) env = (false, eval e env) :: starEach es env
theorem NS.any {e : Expr} (h : NS e) (pos : Pos) (env : Env) : (backTo pos (starEach [e] env)).any (·.1) = false := by
  rw [h]
  rfl
/-! ### several expressions; tuples -/
theorem jds_nil : JDs X Φ [] δ [] := fun _ _ H1 _ _ q => a_of pa_nil (q [] H1 (Evl.Ex.refl H1) .nil)
theorem jds_cons {d : PyData} {ds : List PyData} (h : JE X Φ e δ (.d d)) (t : JDs X Φ es δ ds) (hs : NS e := by exact fun _ _ => rfl) : JDs X Φ (e :: es) δ (d :: ds) := fun H0 σ H1 sl Q q =>
  a_of (pa_cons pe_w pa_w (hs _ _)) (h H0 σ H1 sl _ fun v H2 _ e1 i1 => t H0 σ H2 (sl.mono e1) _ fun vs H3 e2 i2 => q _ H3 (e1.trans e2) (.cons (i1.2.ex (.of e2)) i2))
theorem je_tup {ds : List PyData} {k : Nat} (h : JDs X Φ es δ ds) (hz : ds.length ≤ 1000 := by decide) : JE X Φ (.Tuple es k pos) δ (.d (.tuple ds)) := fun H0 σ H1 sl Q q =>
  e_of (pe_tup pa_w) (h H0 σ H1 sl _ fun vs H2 e1 i1 => ⟨by rw [i1.length]; exact Nat.le_of_lt (small1000 hz), fun p hp => q _ _ [] (e1.trans (Evl.Ex.new hp)) ⟨rfl, .tup upd_same (i1.ex (.of (Evl.Ex.new hp)))⟩⟩)
/-- a new list of what is told -/
theorem je_lst {ds : List PyData} (h : JDs X Φ es δ ds) (hz : ds.length ≤ 1000 := by decide) : JE X Φ (.List es pos) δ (.o (SK.l ds)) := fun H0 σ H1 sl Q q =>
  e_of (pe_lst pa_w) (h H0 σ H1 sl _ fun vs H2 e1 i1 => ⟨by rw [i1.length]; exact Nat.le_of_lt (small1000 hz), fun p hp => q _ _ [p] (e1.trans (Evl.Ex.new hp)) (is_l (Evl.fresh_back e1 hp) upd_same (i1.ex (.of (Evl.Ex.new hp))))⟩)
/-! ### places of tuples and lists -/
theorem dt_tup {H : Hp} {v : V} {ds : List PyData} (h : Dt H v (.tuple ds)) : ∃ a vs, v = .ref a ∧ H a = some (.tup vs) ∧ DtAll H vs ds := by
  cases h with
  | tup h1 h2 => exact ⟨_, _, rfl, h1, h2⟩
theorem atI_dt {H : Hp} {vs : List V} {ds : List PyData} {i : Int} {d : PyData} (h : DtAll H vs ds) (q : atI ds i = some d) : ∃ v, atI vs i = some v ∧ Dt H v d := by
  unfold atI at q ⊢
  rw [h.length]
  cases e : ixN ds.length i with
  | none => rw [e] at q; cases q
  | some j =>
    rw [e] at q
    exact h.at_ q
theorem je_ix {ds : List PyData} {i : Int} {d : PyData} (ha : JE X Φ a δ (.d (.tuple ds))) (hb : JE X Φ b δ (.d (.int i))) (hq : atI ds i = some d) (hs : PlainIx b := by exact fun _ _ => rfl) : JE X Φ (.Subscript a b pos) δ (.d d) := fun H0 σ H1 sl Q q => by
  refine e_of (pe_ix ix_tup pe_w pe_w hs) ?_
  refine ha H0 σ H1 sl _ fun v H2 _ e1 i1 => ?_
  refine hb H0 σ H2 (sl.mono e1) _ fun u H3 _ e2 i2 => ?_
  obtain ⟨p, vs, rfl, hp, hd⟩ := dt_tup (i1.2.ex (.of e2))
  obtain ⟨v, hv, dv⟩ := atI_dt hd hq
  exact ⟨p, vs, i, v, rfl, dt_int i2.2, SqT.of hp, hv, q v H3 [] (e1.trans e2) ⟨rfl, dv⟩⟩
theorem je_ixL {ds : List PyData} {i : Int} {d : PyData} (ha : JR X Φ a δ (SK.l ds)) (hb : JE X Φ b δ (.d (.int i))) (hq : atI ds i = some d) (hs : PlainIx b := by exact fun _ _ => rfl) : JE X Φ (.Subscript a b pos) δ (.d d) := fun H0 σ H1 sl Q q => by
  refine e_of (pe_ix ix_list pe_w pe_w hs) ?_
  refine ha H0 σ H1 sl _ fun v H2 G e1 i1 => ?_
  refine hb H0 σ H2 (sl.mono e1) _ fun u H3 _ e2 i2 => ?_
  obtain ⟨p, vs, rfl, _, hp, hd⟩ := (SK.l ds).ex i1 e2
  obtain ⟨v, hv, dv⟩ := atI_dt hd hq
  exact ⟨p, vs, i, v, rfl, dt_int i2.2, SqL.of hp, hv, q v H3 [] (e1.trans e2) ⟨rfl, dv⟩⟩
/-! ### slices, +, * of tuples -/
def cutD (ds : List PyData) (lo hi : Option Int) : List PyData := (ds.drop (HT.sIx ds.length 0 lo)).take (HT.sIx ds.length ds.length hi - HT.sIx ds.length 0 lo)
theorem cut_dt {H : Hp} {vs : List V} {ds : List PyData} (h : DtAll H vs ds) (lo hi : Option Int) : DtAll H (cutV vs lo hi) (cutD ds lo hi) := by
  unfold cutV cutD
  rw [h.length]
  exact (h.drop _).take _
/-- an optional part of a slice -/
def JO (X : Cx) (Φ : Lk) (o : Option Expr) (δ : Slots) (i : Option Int) : Prop := ∀ (H0 : Hp) (σ : L2.St) (H1 : Hp), Sl H0 Φ H1 σ δ → ∀ Q : Option Int → Hp → Prop, (∀ H2, Ex H1 H2 → Q i H2) →
  ∀ (pins : List (Addr × Obj)) (s : Shared), L2.Inv X pins σ H1 s → ∃ t : TO, PO X o t ∧ t σ H1 Q
theorem jo_none : JO X Φ none δ none := fun _ _ H1 _ Q q _ _ _ => ⟨tNoPart, po_none, q H1 (Evl.Ex.refl H1)⟩
theorem jo_some {i : Int} (h : JE X Φ e δ (.d (.int i))) : JO X Φ (some e) δ (some i) := fun H0 σ H1 sl Q q _ _ _ => ⟨_, po_some pe_w, h H0 σ H1 sl _ fun v H2 _ e1 i1 => ⟨i, dt_int i1.2, q H2 e1⟩⟩
/-- the parts of a slice, as told -/
inductive SlPart (X : Cx) (Φ : Lk) (δ : Slots) : Option Expr → Option Int → Prop
  | none : SlPart X Φ δ none none
  | some {e : Expr} {i : Int} : JE X Φ e δ (.d (.int i)) → SlPart X Φ δ (some e) (some i)
def tO (X : Cx) : Option Expr → TO
  | none => tNoPart
  | some e => tPart (wE X e)
theorem po_w {o : Option Expr} : PO X o (tO X o) := by
  cases o with
  | none => exact po_none
  | some e => exact po_some pe_w
theorem SlPart.run {o : Option Expr} {i : Option Int} (h : SlPart X Φ δ o i) {H0 : Hp} {σ : L2.St} {H1 : Hp} (sl : Sl H0 Φ H1 σ δ) {Q : Option Int → Hp → Prop} (q : ∀ H2, Ex H1 H2 → Q i H2) : tO X o σ H1 Q := by
  cases h with
  | none => exact q H1 (Evl.Ex.refl H1)
  | some h => exact h H0 σ H1 sl _ fun v H2 _ e1 i1 => ⟨_, dt_int i1.2, q H2 e1⟩
theorem whole_cut {ds : List PyData} {lo hi : Option Int} (h : HT.sIx ds.length 0 lo = 0 ∧ HT.sIx ds.length ds.length hi = ds.length) : cutD ds lo hi = ds := by
  unfold cutD
  rw [h.1, h.2]
  simp
theorem je_slT {ds : List PyData} {lo hi : Option Expr} {l u : Option Int} {p2 : Pos} (ha : JE X Φ a δ (.d (.tuple ds))) (hl : SlPart X Φ δ lo l) (hu : SlPart X Φ δ hi u) : JE X Φ (.Subscript a (.Slice lo hi none p2) pos) δ (.d (.tuple (cutD ds l u))) := fun H0 σ H1 sl Q q => by
  refine e_of (pe_slice sl_tupA pe_w po_w po_w) ?_
  refine ha H0 σ H1 sl _ fun v H2 _ e1 i1 => ?_
  refine hl.run (sl.mono e1) fun H3 e2 => ?_
  refine hu.run (sl.mono (e1.trans e2)) fun H4 e3 => ?_
  obtain ⟨p, vs, rfl, hp, hd⟩ := dt_tup (i1.2.ex (.of (e2.trans e3)))
  refine ⟨p, vs, rfl, SqT.of hp, fun hw => ?_, fun _ t ht => ?_⟩
  · refine q _ H4 [] ((e1.trans e2).trans e3) ⟨rfl, ?_⟩
    rw [hd.length] at hw
    rw [whole_cut hw]
    exact .tup hp hd
  · exact q _ _ [] (((e1.trans e2).trans e3).trans (Evl.Ex.new ht)) ⟨rfl, .tup upd_same ((cut_dt hd _ _).ex (.of (Evl.Ex.new ht)))⟩
theorem je_slL {ds : List PyData} {lo hi : Option Expr} {l u : Option Int} {p2 : Pos} (ha : JR X Φ a δ (SK.l ds)) (hl : SlPart X Φ δ lo l) (hu : SlPart X Φ δ hi u) : JE X Φ (.Subscript a (.Slice lo hi none p2) pos) δ (.o (SK.l (cutD ds l u))) := fun H0 σ H1 sl Q q => by
  refine e_of (pe_slice sl_list pe_w po_w po_w) ?_
  refine ha H0 σ H1 sl _ fun v H2 _ e1 i1 => ?_
  refine hl.run (sl.mono e1) fun H3 e2 => ?_
  refine hu.run (sl.mono (e1.trans e2)) fun H4 e3 => ?_
  obtain ⟨p, vs, rfl, _, hp, hd⟩ := (SK.l ds).ex i1 (e2.trans e3)
  refine ⟨p, vs, rfl, SqL.of hp, fun t ht => ?_⟩
  exact q _ _ [t] (((e1.trans e2).trans e3).trans (Evl.Ex.new ht)) (is_l (Evl.fresh_back ((e1.trans e2).trans e3) ht) upd_same ((cut_dt hd _ _).ex (.of (Evl.Ex.new ht))))
theorem je_catT {ds es' : List PyData} (ha : JE X Φ a δ (.d (.tuple ds))) (hb : JE X Φ b δ (.d (.tuple es'))) (hz : ds.length + es'.length ≤ 1000) : JE X Φ (.BinOp a .Add b pos) δ (.d (.tuple (ds ++ es'))) :=
  je_op2 op_catA ha hb fun H v u Q dv du q => by
    obtain ⟨p, vs, rfl, hp, hd⟩ := dt_tup dv
    obtain ⟨p', vs', rfl, hp', hd'⟩ := dt_tup du
    refine ⟨p, p', vs, vs', rfl, rfl, SqT.of hp, SqT.of hp', by rw [hd.length, hd'.length]; exact Nat.le_of_lt (small1000 hz), fun e0 => ?_, fun e0 e1 => ?_, fun _ _ t ht => ?_⟩
    · subst e0
      cases hd
      exact q _ H (Evl.Ex.refl H) (.tup hp' hd')
    · subst e1
      cases hd'
      rw [List.append_nil] at q
      exact q _ H (Evl.Ex.refl H) (.tup hp hd)
    · exact q _ _ (Evl.Ex.new ht) (.tup upd_same ((hd.append hd').ex (.of (Evl.Ex.new ht))))
theorem je_catL {ds es' : List PyData} (ha : JR X Φ a δ (SK.l ds)) (hb : JR X Φ b δ (SK.l es')) (hz : ds.length + es'.length ≤ 1000000) : JE X Φ (.BinOp a .Add b pos) δ (.o (SK.l (ds ++ es'))) := fun H0 σ H1 sl Q q => by
  refine e_of (pe_op op_cat pe_w pe_w) ?_
  refine ha H0 σ H1 sl _ fun v H2 _ e1 i1 => ?_
  refine hb H0 σ H2 (sl.mono e1) _ fun u H3 _ e2 i2 => ?_
  obtain ⟨p, vs, rfl, _, hp, hd⟩ := (SK.l ds).ex i1 e2
  obtain ⟨p', vs', rfl, _, hp', hd'⟩ := i2
  refine ⟨p, p', vs, vs', rfl, rfl, hp, hp', by rw [hd.length, hd'.length, sizeLine_eq]; omega, fun t ht => ?_⟩
  exact q _ _ [t] ((e1.trans e2).trans (Evl.Ex.new ht)) (is_l (Evl.fresh_back (e1.trans e2) ht) upd_same ((hd.append hd').ex (.of (Evl.Ex.new ht))))
/-! ### numbers by built-ins -/
theorem je_call1 {x : Str} {id : String} {r : List V → Hp → VK → Prop} {d z : PyData} {p : Pos} (hc : CallR X (.builtin id) r) (hm : X.mg x = none) (hv : bootBuiltins x = some (.builtin id)) (ha : JE X Φ a δ (.d d))
    (hr : ∀ H v (Q : VK), Dt H v d → (∀ t H', Ex H H' → Dt H' t z → Q t H') → r [v] H Q) (hg : Gl X x := by rfl) (hn : x ≠ "__name__" := by decide) (hdb : (x == ("__debug__" : Str)) = false := by decide)
    (hs : NS a := by exact fun _ _ => rfl) : JE X Φ (.Call (.Name x p) [a] [] pos) δ (.d z) := fun H0 σ H1 sl Q q => by
  refine e_of (pe_callB hc hg hm hv (pa_cons pe_w pa_nil (hs _ _)) hn hdb (he := hs _ _)) ?_
  exact ha H0 σ H1 sl _ fun v H2 _ e1 i1 => hr H2 v Q i1.2 fun t H3 e2 d => q t H3 [] (e1.trans e2) ⟨rfl, d⟩
theorem je_callT1 {x : Str} {T : String} {r : List V → Hp → VK → Prop} {d z : PyData} {p : Pos} (hc : CallR X (.type T) r) (hm : X.mg x = none) (hv : bootBuiltins x = some (.type T)) (ha : JE X Φ a δ (.d d))
    (hr : ∀ H v (Q : VK), Dt H v d → (∀ t H', Ex H H' → Dt H' t z → Q t H') → r [v] H Q) (hg : Gl X x := by rfl) (hn : x ≠ "__name__" := by decide) (hdb : (x == ("__debug__" : Str)) = false := by decide)
    (hs : NS a := by exact fun _ _ => rfl) : JE X Φ (.Call (.Name x p) [a] [] pos) δ (.d z) := fun H0 σ H1 sl Q q => by
  refine e_of (pe_callTy hc hg hm hv (pa_cons pe_w pa_nil (hs _ _)) hn hdb (he := hs _ _)) ?_
  exact ha H0 σ H1 sl _ fun v H2 _ e1 i1 => hr H2 v Q i1.2 fun t H3 e2 d => q t H3 [] (e1.trans e2) ⟨rfl, d⟩
theorem je_call2 {x : Str} {id : String} {r : List V → Hp → VK → Prop} {d d' z : PyData} {p : Pos} (hc : CallR X (.builtin id) r) (hm : X.mg x = none) (hv : bootBuiltins x = some (.builtin id)) (ha : JE X Φ a δ (.d d)) (hb : JE X Φ b δ (.d d'))
    (hr : ∀ H v u (Q : VK), Dt H v d → Dt H u d' → (∀ t H', Ex H H' → Dt H' t z → Q t H') → r [v, u] H Q) (hg : Gl X x := by rfl) (hn : x ≠ "__name__" := by decide) (hdb : (x == ("__debug__" : Str)) = false := by decide)
    (hs : NS a := by exact fun _ _ => rfl) (hs2 : NS b := by exact fun _ _ => rfl) : JE X Φ (.Call (.Name x p) [a, b] [] pos) δ (.d z) := fun H0 σ H1 sl Q q => by
  refine e_of (pe_callB hc hg hm hv (pa_cons pe_w (pa_cons pe_w pa_nil (hs2 _ _)) (hs _ _)) hn hdb (he := hs _ _) (hpl := hs2.any _ _)) ?_
  refine ha H0 σ H1 sl _ fun v H2 _ e1 i1 => ?_
  exact hb H0 σ H2 (sl.mono e1) _ fun u H3 _ e2 i2 => hr H3 v u Q (i1.2.ex (.of e2)) i2.2 fun t H4 e3 d => q t H4 [] ((e1.trans e2).trans e3) ⟨rfl, d⟩
theorem je_min {i j : Int} {p : Pos} (hm : X.mg "min" = none) (ha : JE X Φ a δ (.d (.int i))) (hb : JE X Φ b δ (.d (.int j))) (hc : X.calm = true := by rfl) (hg : Gl X "min" := by rfl) (hs : NS a := by exact fun _ _ => rfl) (hs2 : NS b := by exact fun _ _ => rfl) : JE X Φ (.Call (.Name "min" p) [a, b] [] pos) δ (.d (.int (if j < i then j else i))) :=
  je_call2 (call_min2 hc) hm (by decide +kernel) ha hb (fun H v u Q dv du q => ⟨i, j, by rw [dt_int dv, dt_int du], q _ H (Evl.Ex.refl H) (.int _)⟩) hg (hs := hs) (hs2 := hs2)
theorem je_max {i j : Int} {p : Pos} (hm : X.mg "max" = none) (ha : JE X Φ a δ (.d (.int i))) (hb : JE X Φ b δ (.d (.int j))) (hc : X.calm = true := by rfl) (hg : Gl X "max" := by rfl) (hs : NS a := by exact fun _ _ => rfl) (hs2 : NS b := by exact fun _ _ => rfl) : JE X Φ (.Call (.Name "max" p) [a, b] [] pos) δ (.d (.int (if j > i then j else i))) :=
  je_call2 (call_max2 hc) hm (by decide +kernel) ha hb (fun H v u Q dv du q => ⟨i, j, by rw [dt_int dv, dt_int du], q _ H (Evl.Ex.refl H) (.int _)⟩) hg (hs := hs) (hs2 := hs2)
theorem je_intI {i : Int} {p : Pos} (hm : X.mg "int" = none) (ha : JE X Φ a δ (.d (.int i))) (hg : Gl X "int" := by rfl) (hs : NS a := by exact fun _ _ => rfl) : JE X Φ (.Call (.Name "int" p) [a] [] pos) δ (.d (.int i)) :=
  je_callT1 call_int1 hm (by decide +kernel) ha (fun H v Q dv q => .inl ⟨i, by rw [dt_int dv], q _ H (Evl.Ex.refl H) (.int _)⟩) hg (hs := hs)
theorem je_intB {k : Bool} {p : Pos} (hm : X.mg "int" = none) (ha : JE X Φ a δ (.d (.bool k))) (hg : Gl X "int" := by rfl) (hs : NS a := by exact fun _ _ => rfl) : JE X Φ (.Call (.Name "int" p) [a] [] pos) δ (.d (.int (if k then 1 else 0))) :=
  je_callT1 call_int1 hm (by decide +kernel) ha (fun H v Q dv q => .inr ⟨k, by rw [dt_bl dv], q _ H (Evl.Ex.refl H) (.int _)⟩) hg (hs := hs)
theorem je_lenT {ds : List PyData} {p : Pos} (hm : X.mg "len" = none) (ha : JE X Φ a δ (.d (.tuple ds))) (hg : Gl X "len" := by rfl) (hs : NS a := by exact fun _ _ => rfl) : JE X Φ (.Call (.Name "len" p) [a] [] pos) δ (.d (.int (ds.length : Nat))) :=
  je_call1 call_len_seq hm PySem.boot_len ha (fun H v Q dv q => by
    obtain ⟨p, vs, rfl, hp, hd⟩ := dt_tup dv
    exact ⟨p, vs, rfl, .inr (SqT.of hp), by rw [hd.length]; exact q _ H (Evl.Ex.refl H) (.int _)⟩) hg (hs := hs)
/-- built-ins over an object that is read -/
theorem je_callR {x : Str} {id : String} {r : List V → Hp → VK → Prop} {S : SK} {z : Kd} {p : Pos} (hc : CallR X (.builtin id) r) (hm : X.mg x = none) (hv : bootBuiltins x = some (.builtin id)) (ha : JR X Φ a δ S)
    (hr : ∀ H v G (Q : VK), S.is H v G → (∀ t H' F, Ex H H' → Is H H' z t F → Q t H') → r [v] H Q) (hz : ∀ H1 H2 H3 v F, Ex H1 H2 → Is H2 H3 z v F → Is H1 H3 z v F) (hg : Gl X x := by rfl) (hn : x ≠ "__name__" := by decide) (hdb : (x == ("__debug__" : Str)) = false := by decide)
    (hs : NS a := by exact fun _ _ => rfl) : JE X Φ (.Call (.Name x p) [a] [] pos) δ z := fun H0 σ H1 sl Q q => by
  refine e_of (pe_callB hc hg hm hv (pa_cons pe_w pa_nil (hs _ _)) hn hdb (he := hs _ _)) ?_
  exact ha H0 σ H1 sl _ fun v H2 G e1 i1 => hr H2 v G Q i1 fun t H3 F e2 d => q t H3 F (e1.trans e2) (hz _ _ _ _ _ e1 d)
theorem je_callTR {x : Str} {T : String} {r : List V → Hp → VK → Prop} {S : SK} {z : Kd} {p : Pos} (hc : CallR X (.type T) r) (hm : X.mg x = none) (hv : bootBuiltins x = some (.type T)) (ha : JR X Φ a δ S)
    (hr : ∀ H v G (Q : VK), S.is H v G → (∀ t H' F, Ex H H' → Is H H' z t F → Q t H') → r [v] H Q) (hz : ∀ H1 H2 H3 v F, Ex H1 H2 → Is H2 H3 z v F → Is H1 H3 z v F) (hg : Gl X x := by rfl) (hn : x ≠ "__name__" := by decide) (hdb : (x == ("__debug__" : Str)) = false := by decide)
    (hs : NS a := by exact fun _ _ => rfl) : JE X Φ (.Call (.Name x p) [a] [] pos) δ z := fun H0 σ H1 sl Q q => by
  refine e_of (pe_callTy hc hg hm hv (pa_cons pe_w pa_nil (hs _ _)) hn hdb (he := hs _ _)) ?_
  exact ha H0 σ H1 sl _ fun v H2 G e1 i1 => hr H2 v G Q i1 fun t H3 F e2 d => q t H3 F (e1.trans e2) (hz _ _ _ _ _ e1 d)
theorem liftd {x : PyData} : ∀ H1 H2 H3 v F, Ex H1 H2 → Is H2 H3 (.d x) v F → Is H1 H3 (.d x) v F := fun _ _ _ _ _ _ i => i
theorem lifto {S : SK} : ∀ H1 H2 H3 v F, Ex H1 H2 → Is H2 H3 (.o S) v F → Is H1 H3 (.o S) v F := fun _ _ _ _ _ e i => ⟨i.1, fun a ha => ⟨Evl.fresh_back e (i.2 a ha).1, (i.2 a ha).2⟩⟩
theorem je_lenL {ds : List PyData} {p : Pos} (hm : X.mg "len" = none) (ha : JR X Φ a δ (SK.l ds)) (hg : Gl X "len" := by rfl) (hs : NS a := by exact fun _ _ => rfl) : JE X Φ (.Call (.Name "len" p) [a] [] pos) δ (.d (.int (ds.length : Nat))) :=
  je_callR call_len_seq hm PySem.boot_len ha (fun H v G Q is q => by
    obtain ⟨p, vs, rfl, _, hp, hd⟩ := is
    exact ⟨p, vs, rfl, .inl (SqL.of hp), by rw [hd.length]; exact q _ H [] (Evl.Ex.refl H) ⟨rfl, .int _⟩⟩) liftd hg (hs := hs)
theorem je_listL {ds : List PyData} {p : Pos} (hm : X.mg "list" = none) (ha : JR X Φ a δ (SK.l ds)) (hg : Gl X "list" := by rfl) (hs : NS a := by exact fun _ _ => rfl) : JE X Φ (.Call (.Name "list" p) [a] [] pos) δ (.o (SK.l ds)) :=
  je_callTR call_list_of hm (by decide +kernel) ha (fun H v G Q is q => by
    obtain ⟨p, vs, rfl, _, hp, hd⟩ := is
    exact ⟨p, vs, rfl, .inl (SqL.of hp), fun l hl => q _ _ [l] (Evl.Ex.new hl) (is_l hl upd_same (hd.ex (.of (Evl.Ex.new hl))))⟩) lifto hg (hs := hs)
theorem je_listT {ds : List PyData} {p : Pos} (hm : X.mg "list" = none) (ha : JE X Φ a δ (.d (.tuple ds))) (hg : Gl X "list" := by rfl)
    (hs : NS a := by exact fun _ _ => rfl) : JE X Φ (.Call (.Name "list" p) [a] [] pos) δ (.o (SK.l ds)) := fun H0 σ H1 sl Q q => by
  refine e_of (pe_callTy call_list_of hg hm (by decide +kernel) (pa_cons pe_w pa_nil (hs _ _)) (he := hs _ _)) ?_
  refine ha H0 σ H1 sl _ fun v H2 _ e1 i1 => ?_
  obtain ⟨p, vs, rfl, hp, hd⟩ := dt_tup i1.2
  exact ⟨p, vs, rfl, .inr (SqT.of hp), fun l hl => q _ _ [l] (e1.trans (Evl.Ex.new hl)) (is_l (Evl.fresh_back e1 hl) upd_same (hd.ex (.of (Evl.Ex.new hl))))⟩
theorem je_tupL {ds : List PyData} {p : Pos} (hm : X.mg "tuple" = none) (ha : JR X Φ a δ (SK.l ds)) (hg : Gl X "tuple" := by rfl) (hs : NS a := by exact fun _ _ => rfl) : JE X Φ (.Call (.Name "tuple" p) [a] [] pos) δ (.d (.tuple ds)) :=
  je_callTR call_tuple_of hm (by decide +kernel) ha (fun H v G Q is q => by
    obtain ⟨p, vs, rfl, _, hp, hd⟩ := is
    exact ⟨p, vs, rfl, .inl ⟨SqL.of hp, fun l hl => q _ _ [] (Evl.Ex.new hl) ⟨rfl, .tup upd_same (hd.ex (.of (Evl.Ex.new hl)))⟩⟩⟩) liftd hg (hs := hs)
theorem dt_bls {H : Hp} : ∀ {vs : List V} {bs : List Bool}, DtAll H vs (bs.map .bool) → vs = bs.map V.bl
  | _, [], h => by cases h; rfl
  | _, k :: bs, h => by
    cases h with
    | cons a t => cases a; rw [dt_bls t]; rfl
theorem je_all {bs : List Bool} {p : Pos} (hm : X.mg "all" = none) (ha : JR X Φ a δ (SK.l (bs.map .bool))) (hc : X.calm = true := by rfl) (hg : Gl X "all" := by rfl) (hs : NS a := by exact fun _ _ => rfl) : JE X Φ (.Call (.Name "all" p) [a] [] pos) δ (.d (.bool (bs.all id))) :=
  je_callR (cr_all hc) hm (by decide +kernel) ha (fun H v G Q is q => by
    obtain ⟨p, vs, rfl, _, hp, hd⟩ := is
    rw [dt_bls hd] at hp
    exact ⟨p, bs, rfl, SqL.of hp, q _ H [] (Evl.Ex.refl H) ⟨rfl, .bl _⟩⟩) liftd hg (hs := hs)
theorem je_any {bs : List Bool} {p : Pos} (hm : X.mg "any" = none) (ha : JR X Φ a δ (SK.l (bs.map .bool))) (hc : X.calm = true := by rfl) (hg : Gl X "any" := by rfl) (hs : NS a := by exact fun _ _ => rfl) : JE X Φ (.Call (.Name "any" p) [a] [] pos) δ (.d (.bool (bs.any id))) :=
  je_callR (cr_any hc) hm (by decide +kernel) ha (fun H v G Q is q => by
    obtain ⟨p, vs, rfl, _, hp, hd⟩ := is
    rw [dt_bls hd] at hp
    exact ⟨p, bs, rfl, SqL.of hp, q _ H [] (Evl.Ex.refl H) ⟨rfl, .bl _⟩⟩) liftd hg (hs := hs)
end
end Pq

namespace Pq
open PySem PySem.Spec L2
open PyProof.Rows hiding St
open Evl (Ex)

/-! ### defs that leave all as it is -/
def Kd.own : Kd → Prop
  | .bo _ => False
  | _ => True
theorem Is.lift {k : Kd} (ho : k.own) {H1 H2 H3 : Hp} {v : V} {F : List Addr} (e : Ex H1 H2) (i : Is H2 H3 k v F) : Is H1 H3 k v F := by
  cases k with
  | d x => exact i
  | v x => exact i
  | o S => exact ⟨i.1, fun a ha => ⟨Evl.fresh_back e (i.2 a ha).1, (i.2 a ha).2⟩⟩
  | bo S => exact ho.elim
/-- S: which arguments, which answer -/
abbrev Rl := List Kd → Kd → Prop
def spF (S : Rl) : Sp := fun vs H Q _ => ∃ ks r, S ks r ∧ r.own ∧ AsAll H ks vs ∧ ∀ v H' F, Ex H H' → Is H H' r v F → Q v H'
/-- a def of the module, by its name -/
structure Has (P : Program) (w : World) (K : PySem.W.Frag) (mg : Str → Option Value) (base : Heap) (k : Nat) (x : Str) (ps : List Str) (sp : Sp) : Prop where
  out : ∃ (f : Addr) (fd : FuncData), FnOk P w K mg base CX0 k f fd ps sp ∧ mg x = some (.ref f) ∧ PySem.W.keepIn K (.ref f) = true ∧ Binds K fd ps []
section
variable {X : Cx} {Φ : Lk} {δ : Slots} {E : En} {e a b c : Expr} {es : List Expr} {pos : Pos} {st : Stmt} {sts rest : List Stmt}
theorem ja_nil : JA X Φ [] δ [] := fun _ _ H1 _ _ q => a_of pa_nil (q [] H1 (Evl.Ex.refl H1) .nil)
theorem ja_cons {k : Kd} {ks : List Kd} (h : JG X Φ e δ k) (t : JA X Φ es δ ks) (hs : NS e := by exact fun _ _ => rfl) : JA X Φ (e :: es) δ (k :: ks) := fun H0 σ H1 sl Q q =>
  a_of (pa_cons pe_w pa_w (hs _ _)) (h H0 σ H1 sl _ fun v H2 e1 i1 => t H0 σ H2 (sl.mono e1) _ fun vs H3 e2 i2 => q _ H3 (e1.trans e2) (.cons (i1.now e2) i2))
/-- a list of arguments without stars -/
def NSs (es : List Expr) : Prop := ∀ (pos : Pos) (env : Env), (backTo pos (starEach es env)).any (·.1) = false
theorem je_call {S : Rl} {k : Nat} {x : Str} {ps : List Str} {p : Pos} {ks : List Kd} {r : Kd} (h : Has X.prog X.w X.K X.mg X.base k x ps (spF S)) (hr : Room k X.A) (ha : JA X Φ (e :: es) δ ks) (hS : S ks r) (ho : r.own)
    (hg : Gl X x := by rfl) (hdb : (x == ("__debug__" : Str)) = false := by decide) (hs : NS e := by exact fun _ _ => rfl) (hs2 : NSs es := by exact fun _ _ => rfl) : JE X Φ (.Call (.Name x p) (e :: es) [] pos) δ r := fun H0 σ H1 sl Q q => by
  obtain ⟨f, fd, ok, hm, kp, bi⟩ := h.out
  refine e_of (pe_call ok hr hg hm kp bi .nil pass0 pa_w hdb (he := hs _ _) (hpl := hs2 _ _)) ?_
  refine ha H0 σ H1 sl _ fun vs H2 e1 i1 => ?_
  rw [List.append_nil]
  exact ⟨ks, r, hS, ho, i1, fun v H3 F e2 i2 => q v H3 F (e1.trans e2) (i2.lift ho e1)⟩
theorem je_call0 {S : Rl} {k : Nat} {x : Str} {ps : List Str} {p : Pos} {r : Kd} (h : Has X.prog X.w X.K X.mg X.base k x ps (spF S)) (hr : Room k X.A) (hS : S [] r) (ho : r.own)
    (hg : Gl X x := by rfl) (hdb : (x == ("__debug__" : Str)) = false := by decide) : JE X Φ (.Call (.Name x p) [] [] pos) δ r := fun H0 σ H1 sl Q q => by
  obtain ⟨f, fd, ok, hm, kp, bi⟩ := h.out
  refine e_of (pe_call0 ok hr hg hm kp bi .nil pass0 hdb) ?_
  exact ⟨[], r, hS, ho, .nil, fun v H3 F e2 i2 => q v H3 F e2 i2⟩

/-! ### blocks -/
theorem js_nil (h : E.nx δ) : JS X Φ [] δ E := fun _ σ H1 _ sl g => ss_of pss_nil (g.nx σ H1 δ sl h)
theorem js_cons (h : JP X Φ st δ { E with nx := fun δ' => JS X Φ rest δ' E }) : JS X Φ (st :: rest) δ E := fun H0 σ H1 D sl g =>
  ss_of (pss_cons ps_w pss_w) (h H0 σ H1 { D with nx := wSs X rest D } sl ⟨fun σ' H' δ' sl' q => q H0 σ' H' D sl' g, g.rt, g.bk, g.ct⟩)
theorem js_end {r : Stmt → Prop} (h : JP X Φ st δ E) : JS X Φ [st] δ E := fun H0 σ H1 D sl g => ss_of (pss_one ps_w) (h H0 σ H1 D sl g)
theorem js_one (h : JP X Φ st δ E) : JS X Φ [st] δ E := fun H0 σ H1 D sl g => ss_of (pss_one ps_w) (h H0 σ H1 D sl g)
theorem Is.fresh {H1 H2 : Hp} {k : Kd} {v : V} {F : List Addr} (i : Is H1 H2 k v F) : ∀ a ∈ F, H1 a = none := fun a ha => (i.dom a ha).1
theorem jp_set {i : Nat} {x : Str} {k : Kd} {p' : Pos} (h : JE X Φ e δ k) (ho : k.own) (hn : E.nx (δ.set i (some k))) (hN : X.N.Nodup) (hi : X.N[i]? = some x := by rfl) (hx : Loc X.env.scope x := by first | exact Or.inl rfl | exact Or.inr rfl)
    (hs : swapsWith e (some (.Name x p')) pos.line X.env = pure false := by rfl) (hf : X.fn x = true ∨ X.env.scope.names.lookup x = some .local := by first | exact .inl rfl | exact .inr rfl) : JP X Φ (.Assign [.Name x p'] e pos) δ E := fun H0 σ H1 D sl g =>
  s_of (ps_set hN hi hx pe_w hs hf) (h H0 σ H1 sl _ fun v H2 F e1 i1 => g.nx _ _ _ (sl.set_new e1 (i1.lift ho sl.ex) i1.fresh) hn)
/-- an own name is handed on: x = y, y is no more used -/
theorem jp_move {i j : Nat} {x y : Str} {k : Kd} {p' p2 : Pos} (hk : δ[j]? = some (some k)) (ne : i ≠ j) (hn : E.nx ((δ.set j none).set i (some k))) (hN : X.N.Nodup) (hi : X.N[i]? = some x := by rfl) (hj : X.N[j]? = some y := by rfl) (hx : Loc X.env.scope x := by first | exact Or.inl rfl | exact Or.inr rfl)
    (hv : Vis X.env.scope y := by first | exact Or.inl rfl | exact Or.inr (Or.inl rfl) | exact Or.inr (Or.inr rfl)) (h1 : (y == ("__debug__" : Str)) = false := by decide) (h2 : (y == ("__classdict__" : Str)) = false := by decide)
    (hs : swapsWith (.Name y p2) (some (.Name x p')) pos.line X.env = pure false := by rfl) (hf : X.fn x = true ∨ X.env.scope.names.lookup x = some .local := by first | exact .inl rfl | exact .inr rfl) : JP X Φ (.Assign [.Name x p'] (.Name y p2) pos) δ E := fun H0 σ H1 D sl g => by
  obtain ⟨F, f⟩ := sl.at_
  obtain ⟨v, hs', _⟩ := f.some_ j _ hk
  exact s_of (ps_set hN hi hx (pe_var hj hv h1 h2) hs hf) ⟨v, hs', g.nx _ _ _ (sl.move ne hk hs') hn⟩
theorem jp_ret {k : Kd} (h : JE X Φ e δ k) (ho : k.own) (hr : E.rt k) : JP X Φ (.Return (some e) pos) δ E := fun H0 σ H1 D sl g =>
  s_of (ps_ret pe_w) (h H0 σ H1 sl _ fun v H2 F e1 i1 => g.rt v H2 k F ⟨σ, δ, sl.mono e1⟩ (i1.lift ho sl.ex) hr)
/-- an own name is handed back -/
theorem jp_retO {i : Nat} {x : Str} {S : SK} {p : Pos} (hd : δ[i]? = some (some (.o S))) (hr : E.rt (.o S)) (hN : X.N[i]? = some x := by rfl) (hv : Vis X.env.scope x := by first | exact Or.inl rfl | exact Or.inr (Or.inl rfl) | exact Or.inr (Or.inr rfl))
    (h1 : (x == ("__debug__" : Str)) = false := by decide) (h2 : (x == ("__classdict__" : Str)) = false := by decide) : JP X Φ (.Return (some (.Name x p)) pos) δ E := fun H0 σ H1 D sl g => by
  obtain ⟨F, f⟩ := sl.at_
  obtain ⟨v, hs', hi⟩ := f.some_ i _ hd
  exact s_of (ps_ret (pe_var hN hv h1 h2)) ⟨v, hs', g.rt v H1 _ _ ⟨σ, δ, sl⟩ hi hr⟩
theorem jp_if {A B : List Stmt} {k : Bool} (h : JT X Φ c δ k) (h1 : k = true → JS X Φ A δ E) (h2 : k = false → JS X Φ B δ E) : JP X Φ (.If c A B pos) δ E := fun H0 σ H1 D sl g =>
  s_of (ps_if pt_w pss_w pss_w) (h H0 σ H1 sl _ fun H2 e1 => by
    cases k with
    | true =>
      show wSs X A D σ H2
      exact h1 rfl H0 σ H2 D (sl.mono e1) g
    | false =>
      show wSs X B D σ H2
      exact h2 rfl H0 σ H2 D (sl.mono e1) g)
/-- an if that is not taken: if c: raise .. -/
theorem jp_ifno {A : List Stmt} (h : JT X Φ c δ false) (hn : E.nx δ) : JP X Φ (.If c A [] pos) δ E := jp_if h (fun z => nomatch z) fun _ => js_nil hn
theorem jp_expr {k : Kd} (h : JE X Φ e δ k) (hn : E.nx δ) (hs : swapsWith e none pos.line X.env = pure false := by rfl) : JP X Φ (.Expr e pos) δ E := fun H0 σ H1 D sl g =>
  s_of (ps_expr pe_w hs) (h H0 σ H1 sl _ fun v H2 F e1 i1 => g.nx _ _ _ (sl.mono e1) hn)
theorem jp_aug {i : Nat} {x : Str} {n m : Int} {p' : Pos} (hk : δ[i]? = some (some (.d (.int n)))) (h : JE X Φ e δ (.d (.int m))) (hn : E.nx (δ.set i (some (.d (.int (n + m)))))) (hN : X.N.Nodup) (hi : X.N[i]? = some x := by rfl) (hx : Loc X.env.scope x := by first | exact Or.inl rfl | exact Or.inr rfl)
    (hf : X.fn x = true ∨ X.env.scope.names.lookup x = some .local := by first | exact .inl rfl | exact .inr rfl) : JP X Φ (.AugAssign (.Name x p') .Add e pos) δ E := fun H0 σ H1 D sl g => by
  obtain ⟨F, f⟩ := sl.at_
  obtain ⟨v, hs', hi'⟩ := f.some_ i _ hk
  refine s_of (ps_aug hN hi hx pe_w ip_add hf) ⟨v, hs', h H0 σ H1 sl _ fun u H2 F e1 i1 => ?_⟩
  refine ⟨n, m, dt_int hi'.2, dt_int i1.2, g.nx _ _ _ (sl.set_new e1 (k := .d (.int (n + m))) (G := []) ⟨rfl, .int _⟩ (fun a z => nomatch z)) hn⟩
end
end Pq

namespace Pq
open PySem PySem.Spec L2
open PyProof.Rows hiding St
open Evl (Ex)

/-! ### targets -/
/-- the value d is stored in the target: the slots δ become δ' -/
def wG (X : Cx) (tg : Expr) : TG := fun v σ H Q => ∀ (pins : List (Addr × Obj)) (s : Shared) (u : Value), L2.Inv X pins σ H s → RelV v u → wpAny (model X.prog X.w) X.A (assign tg X.env u) (fun _ s' => ∃ σ' H', L2.Inv X pins σ' H' s' ∧ Q σ' H') X.xe s
theorem pg_w {X : Cx} {tg : Expr} : PG X tg (wG X tg) := ⟨fun pins s _ _ _ u _ I r h => h pins s u I r⟩
theorem g_of {X : Cx} {tg : Expr} {t : TG} {v : V} {σ : L2.St} {H : Hp} {Q : L2.St → Hp → Prop} (p : PG X tg t) (h : t v σ H Q) : wG X tg v σ H Q := fun pins s u I r => p.run pins s σ H v u Q I r h
/-- places set one after another -/
def setσ (σ : L2.St) : List Nat → List V → L2.St
  | i :: is, v :: vs => setσ (σ.set i (some v)) is vs
  | _, _ => σ
def setδ (δ : Slots) : List Nat → List PyData → Slots
  | i :: is, d :: ds => setδ (δ.set i (some (.d d))) is ds
  | _, _ => δ
/-- the target stores a value of pure data d: which places change -/
structure TgOk (X : Cx) (tg : Expr) (js : List Nat) (ds : List PyData) (d : PyData) : Prop where
  run : ∀ (σ : L2.St) (H : Hp) (v : V) (Q : L2.St → Hp → Prop), Dt H v d → (∀ vs, DtAll H vs ds → vs.length = js.length → Q (setσ σ js vs) H) → wG X tg v σ H Q
  len : ds.length = js.length
theorem setSl {H0 H : Hp} {Φ : Lk} : ∀ {js : List Nat} {ds : List PyData} {vs : List V} {σ : L2.St} {δ : Slots}, Sl H0 Φ H σ δ → DtAll H vs ds → Sl H0 Φ H (setσ σ js vs) (setδ δ js ds)
  | [], _, _, _, _, h, _ => by unfold setσ setδ; exact h
  | i :: js, _, _, _, _, h, .nil => by unfold setσ setδ; exact h
  | i :: js, _, _, σ, δ, h, .cons (v := v) (vs := vs) (d := d) (ds := ds) a t => by
    show Sl H0 Φ H (setσ (σ.set i (some v)) js vs) (setδ (δ.set i (some (.d d))) js ds)
    exact setSl (h.set_new (Evl.Ex.refl H) (k := .d d) (G := []) ⟨rfl, a⟩ (fun a z => nomatch z)) t
theorem setσ_len : ∀ (js : List Nat) (vs : List V) (σ : L2.St), (setσ σ js vs).length = σ.length
  | [], _, _ => by unfold setσ; rfl
  | _ :: _, [], _ => by unfold setσ; rfl
  | i :: js, v :: vs, σ => by
    show (setσ (σ.set i (some v)) js vs).length = _
    rw [setσ_len, List.length_set]
section
variable {X : Cx} {pos : Pos}
theorem tg_name {i : Nat} {x : Str} {d : PyData} (hN : X.N.Nodup) (hi : X.N[i]? = some x := by rfl) (hx : Loc X.env.scope x := by first | exact Or.inl rfl | exact Or.inr rfl)
    (hf : X.fn x = true ∨ X.env.scope.names.lookup x = some .local := by first | exact .inl rfl | exact .inr rfl) : TgOk X (.Name x pos) [i] [d] d :=
  ⟨fun σ H v Q hd q => g_of (pg_name hN hi hx hf) (q [v] (.cons hd .nil) rfl), rfl⟩
/-- names of a tuple target -/
structure NmOk (X : Cx) (ts : List Expr) (js : List Nat) : Prop where
  run : ∃ t, PGs X ts t ∧ ∀ (σ : L2.St) (H : Hp) (vs : List V) (Q : L2.St → Hp → Prop), vs.length = js.length → Q (setσ σ js vs) H → t vs σ H Q
  len : ts.length = js.length
theorem nm_nil : NmOk X [] [] := ⟨⟨gNil, pgs_nil, fun σ H vs Q hl q => ⟨List.length_eq_zero_iff.mp hl, by
  obtain rfl := List.length_eq_zero_iff.mp hl
  exact q⟩⟩, rfl⟩
theorem nm_cons {i : Nat} {x : Str} {ts : List Expr} {js : List Nat} (hN : X.N.Nodup) (t : NmOk X ts js) (hi : X.N[i]? = some x := by rfl) (hx : Loc X.env.scope x := by first | exact Or.inl rfl | exact Or.inr rfl)
    (hf : X.fn x = true ∨ X.env.scope.names.lookup x = some .local := by first | exact .inl rfl | exact .inr rfl)
    (hs : (assignEach (.Name x pos :: ts) X.env).map (·.2) = assign (.Name x pos) X.env :: (assignEach ts X.env).map (·.2) := by rfl) : NmOk X (.Name x pos :: ts) (i :: js) := by
  obtain ⟨⟨g, pg, hg⟩, hl⟩ := t
  refine ⟨⟨gCons (gName i) g, pgs_cons (pg_name hN hi hx hf) pg hs, fun σ H vs Q hlv q => ?_⟩, by simp [hl]⟩
  cases vs with
  | nil => cases hlv
  | cons v vs =>
    exact ⟨v, vs, rfl, hg _ H vs Q (by simpa using hlv) q⟩
theorem tg_tup {ts : List Expr} {js : List Nat} {ds : List PyData} {k : Nat} (h : NmOk X ts js) (hl : ds.length = js.length) (hc : X.calm = true := by rfl) (hn : (assignEach ts X.env).length = ts.length := by rfl) (hst : (assignEach ts X.env).findIdx? (·.1) = none := by rfl) :
    TgOk X (.Tuple ts k pos) js ds (.tuple ds) := by
  obtain ⟨⟨g, pg, hg⟩, htl⟩ := h
  refine ⟨fun σ H v Q hd q => ?_, hl⟩
  obtain ⟨a, vs, rfl, ha, hds⟩ := dt_tup hd
  refine g_of (pg_tup hc pg hn hst) ⟨a, vs, rfl, SqT.of ha, by rw [hds.length, hl, htl], hg σ H vs Q (by rw [hds.length, hl]) (q vs hds (by rw [hds.length, hl]))⟩
end
section
variable {X : Cx} {Φ : Lk} {δ : Slots} {E : En} {e a b c : Expr} {es : List Expr} {pos : Pos} {st : Stmt} {sts rest : List Stmt}
/-- target = e, e pure data -/
theorem jp_asg {tg : Expr} {js : List Nat} {ds : List PyData} {d : PyData} (h : JE X Φ e δ (.d d)) (ht : TgOk X tg js ds d) (hn : E.nx (setδ δ js ds)) (hs : swapsWithSole [tg] e pos.line X.env = pure false := by rfl) (hw : swappedStores [tg] e X.env = pure none := by rfl)
    (h1 : (assignEach [tg] X.env).map (·.2) = [assign tg X.env] := by rfl) : JP X Φ (.Assign [tg] e pos) δ E := fun H0 σ H1 D sl g =>
  s_of (ps_asg pe_w pg_w hs hw h1) (h H0 σ H1 sl _ fun v H2 F e1 i1 => ht.run σ H2 v _ i1.2 fun vs hvs hl => g.nx _ _ _ (setSl (sl.mono e1) hvs) hn)
/-- two things, one after the other, as arguments -/
theorem jp_par {i j : Nat} {x y : Str} {px py pt : Pos} {kt k2 pt2} {k l : Kd} (ha : JE X Φ a δ k) (hb : JE X Φ b δ l) (hk : k.own) (hl : l.own) (hn : E.nx ((δ.set i (some k)).set j (some l))) (hN : X.N.Nodup) (hij : i ≠ j := by decide) (hi : X.N[i]? = some x := by rfl) (hj : X.N[j]? = some y := by rfl)
    (hx : X.env.scope.names.lookup x = some .local := by rfl) (hy : X.env.scope.names.lookup y = some .local := by rfl) (hsa : NS a := by exact fun _ _ => rfl) (hsb : NS b := by exact fun _ _ => rfl) (hc : X.calm = true := by rfl)
    (hw : swappedStores [.Tuple [.Name x px, .Name y py] kt pt] (.Tuple [a, b] k2 pt2) X.env = pure (some [x, y]) := by rfl)
    (hs : swapsWithSole [.Tuple [.Name x px, .Name y py] kt pt] (.Tuple [a, b] k2 pt2) pos.line X.env = pure false := by rfl) : JP X Φ (.Assign [.Tuple [.Name x px, .Name y py] kt pt] (.Tuple [a, b] k2 pt2) pos) δ E := fun H0 σ H1 D sl g => by
  refine s_of (ps_par hc hN hi hj hij hx hy (pa_cons pe_w (pa_cons pe_w pa_nil (hsb _ _)) (hsa _ _)) hw hs) ?_
  refine ha H0 σ H1 sl _ fun v H2 F e1 i1 => ?_
  refine hb H0 σ H2 (sl.mono e1) _ fun u H3 G e2 i2 => ?_
  refine ⟨v, u, rfl, g.nx _ _ _ ?_ hn⟩
  have s1 : Sl H0 Φ H2 (σ.set i (some v)) (δ.set i (some k)) := sl.set_new e1 (i1.lift hk sl.ex) i1.fresh
  exact s1.set_new e2 (i2.lift hl (sl.ex.trans e1)) i2.fresh

/-! ### what is walked -/
structure ItOk (J : It) (ds : List PyData) (Src : Hp → Prop) : Prop where
  go : ∀ i H, Src H → i < ds.length → J.go i H
  stop : ∀ H, Src H → J.stop ds.length H
  yld : ∀ i H x H', Src H → i < ds.length → J.yld i H x H' → Ex H H' ∧ ∃ d, ds[i]? = some d ∧ Dt H' x d
def wI (X : Cx) (tg iter : Expr) : TI := fun σ H R => ∀ (pins : List (Addr × Obj)) (s : Shared), L2.Inv X pins σ H s → wpAny (model X.prog X.w) X.A (eval iter X.env) (fun v s1 => wpAny (model X.prog X.w) X.A (pyIter v) (PIE X pins σ tg R) X.xe s1) X.xe s
theorem pi_w {tg iter : Expr} : PI X tg iter (wI X tg iter) := ⟨fun pins s _ _ _ I h => h pins s I⟩
theorem i_of {tg iter : Expr} {t : TI} {σ : L2.St} {H : Hp} {R : It → Hp → Prop} (p : PI X tg iter t) (h : t σ H R) : wI X tg iter σ H R := fun pins s I => p.run pins s σ H R I h
/-- iter walks ds, while what it walks over stands (new, or a tuple) -/
def JI (X : Cx) (Φ : Lk) (tg iter : Expr) (δ : Slots) (ds : List PyData) : Prop := ∀ (H0 : Hp) (σ : L2.St) (H1 : Hp), Sl H0 Φ H1 σ δ → ∀ R : It → Hp → Prop,
  (∀ (J : It) (H2 : Hp) (Src : Hp → Prop) (Ψ : Lk), Ex H1 H2 → ItOk J ds Src → LkNew H1 H2 Ψ → (∀ H, (∀ q ∈ Ψ, q.2.is H (.ref q.1) [q.1]) → Src H) → R J H2) → wI X tg iter σ H1 R
/-- .. while all objects stay -/
def JIx (X : Cx) (Φ : Lk) (tg iter : Expr) (δ : Slots) (ds : List PyData) : Prop := ∀ (H0 : Hp) (σ : L2.St) (H1 : Hp), Sl H0 Φ H1 σ δ → ∀ R : It → Hp → Prop,
  (∀ (J : It) (H2 : Hp) (Src : Hp → Prop), Ex H1 H2 → ItOk J ds Src → (∀ H H', Src H → Ex H H' → Src H') → Src H2 → R J H2) → wI X tg iter σ H1 R
theorem jix {tg iter : Expr} {ds : List PyData} (h : JI X Φ tg iter δ ds) : JIx X Φ tg iter δ ds := fun H0 σ H1 sl R q => h H0 σ H1 sl R fun J H2 Src Ψ e1 ok ln st => q J H2 (fun H => ∀ q ∈ Ψ, q.2.is H (.ref q.1) [q.1]) e1 ⟨fun i H s => ok.go i H (st H s), fun H s => ok.stop H (st H s), fun i H x H' s => ok.yld i H x H' (st H s)⟩ (fun H H' s e q hq => q.2.ex (s q hq) e) fun q hq => (ln q hq).1
/-- the whole numbers lo, lo + 1, .., n of them -/
def rngD (lo : Int) (n : Nat) : List PyData := (List.range n).map fun (i : Nat) => PyData.int (lo + (i : Int))
theorem rngD_len (lo : Int) (n : Nat) : (rngD lo n).length = n := by simp [rngD]
theorem rngD_get {lo : Int} {n i : Nat} (h : i < n) : (rngD lo n)[i]? = some (.int (lo + (i : Int))) := by simp [rngD, h]
theorem rng_ok (lo : Int) (n : Nat) : ItOk (Itr lo n) (rngD lo n) (fun _ => True) where
  go := fun i H _ h => by rw [rngD_len] at h; exact h
  stop := fun H _ => by rw [rngD_len]; exact Nat.le_refl _
  yld := fun i H x H' _ hi h => by
    rw [rngD_len] at hi
    obtain ⟨rfl, rfl⟩ := h
    exact ⟨Evl.Ex.refl _, _, rngD_get hi, .int _⟩
theorem list_ok {K : PySem.W.Frag} {a : Addr} {vs : List V} {ds : List PyData} (hl : vs.length = ds.length) : ItOk (Itl K a) ds (fun H => H a = some (.lst vs) ∧ DtAll H vs ds) where
  go := fun i H s h => by
    have hi : i < vs.length := by omega
    exact ⟨vs, vs[i], SqL.of s.1, List.getElem?_eq_getElem hi⟩
  stop := fun H s => ⟨vs, SqL.of s.1, by omega⟩
  yld := fun i H x H' s hi h => by
    obtain ⟨rfl, h⟩ := h
    obtain ⟨d, hd, dd⟩ := s.2.get (h vs (SqL.of s.1))
    exact ⟨Evl.Ex.refl _, d, hd, dd⟩
theorem tup_ok {K : PySem.W.Frag} {a : Addr} {vs : List V} {ds : List PyData} (hl : vs.length = ds.length) : ItOk (Itt K a) ds (fun H => H a = some (.tup vs) ∧ DtAll H vs ds) where
  go := fun i H s h => by
    have hi : i < vs.length := by omega
    exact ⟨vs, vs[i], SqT.of s.1, List.getElem?_eq_getElem hi⟩
  stop := fun H s => ⟨vs, SqT.of s.1, by omega⟩
  yld := fun i H x H' s hi h => by
    obtain ⟨rfl, h⟩ := h
    obtain ⟨d, hd, dd⟩ := s.2.get (h vs (SqT.of s.1))
    exact ⟨Evl.Ex.refl _, d, hd, dd⟩
theorem rng_bd {n : Int} (h : n ≤ 100000) (h' : -100000 ≤ n) : -(2 ^ 62) ≤ n ∧ n < 2 ^ 62 := by
  have e : (2 : Int) ^ 62 = 4611686018427387904 := by decide
  omega
/-- a list that stands still, exactly -/
def SK.lx (vs : List V) (ds : List PyData) : SK where
  is H v F := ∃ p, v = .ref p ∧ F = [p] ∧ H p = some (.lst vs) ∧ DtAll H vs ds
  stay := by
    rintro H H' v F ⟨p, rfl, rfl, hp, hd⟩ e k
    exact ⟨p, rfl, rfl, (k p (by simp)).trans hp, hd.ex e⟩
  dom := by
    rintro H v F ⟨p, rfl, rfl, hp, hd⟩ a ha
    obtain rfl : a = p := by simpa using ha
    exact ⟨_, hp⟩
/-- a tuple that stands still, exactly -/
def SK.tx (vs : List V) (ds : List PyData) : SK where
  is H v F := ∃ p, v = .ref p ∧ F = [p] ∧ H p = some (.tup vs) ∧ DtAll H vs ds
  stay := by
    rintro H H' v F ⟨p, rfl, rfl, hp, hd⟩ e k
    exact ⟨p, rfl, rfl, (k p (by simp)).trans hp, hd.ex e⟩
  dom := by
    rintro H v F ⟨p, rfl, rfl, hp, hd⟩ a ha
    obtain rfl : a = p := by simpa using ha
    exact ⟨_, hp⟩
theorem ji_tup {tg : Expr} {ds : List PyData} (ha : JE X Φ a δ (.d (.tuple ds))) : JI X Φ tg a δ ds := fun H0 σ H1 sl R q => by
  refine i_of (pi_tup pe_w) ?_
  refine ha H0 σ H1 sl _ fun v H2 F e1 i1 => ?_
  obtain ⟨p, vs, rfl, hp, hd⟩ := dt_tup i1.2
  refine ⟨p, rfl, ⟨vs, SqT.of hp⟩, q _ H2 _ [(p, SK.tx vs ds)] e1 (tup_ok hd.length) (fun q hq => ?_) fun H s => ?_⟩
  · obtain rfl : q = (p, SK.tx vs ds) := by simpa using hq
    exact ⟨⟨p, rfl, rfl, hp, hd⟩, .inr ⟨vs, hp⟩⟩
  · obtain ⟨p', e, _, h1, h2⟩ := s (p, SK.tx vs ds) List.mem_cons_self
    cases e
    exact ⟨h1, h2⟩
/-- over a new list -/
theorem ji_new {tg : Expr} {ds : List PyData} (ha : JE X Φ a δ (.o (SK.l ds))) : JI X Φ tg a δ ds := fun H0 σ H1 sl R q => by
  refine i_of (pi_list pe_w) ?_
  refine ha H0 σ H1 sl _ fun v H2 F e1 i1 => ?_
  obtain ⟨⟨p, vs, rfl, rfl, hp, hd⟩, nw⟩ := i1
  refine ⟨p, rfl, ⟨vs, SqL.of hp⟩, q _ H2 _ [(p, SK.lx vs ds)] e1 (list_ok hd.length) (fun q hq => ?_) fun H s => ?_⟩
  · obtain rfl : q = (p, SK.lx vs ds) := by simpa using hq
    exact ⟨⟨p, rfl, rfl, hp, hd⟩, .inl (nw p List.mem_cons_self).1⟩
  · obtain ⟨p', e, _, h1, h2⟩ := s (p, SK.lx vs ds) List.mem_cons_self
    cases e
    exact ⟨h1, h2⟩
theorem ji_range1 {tg : Expr} {n : Int} {p : Pos} (hm : X.mg "range" = none) (ha : JE X Φ a δ (.d (.int n))) (h1 : n ≤ 100000) (h2 : -100000 ≤ n) (hg : Gl X "range" := by rfl) (hs : NS a := by exact fun _ _ => rfl) : JI X Φ tg (.Call (.Name "range" p) [a] [] pos) δ (rngD 0 n.toNat) := fun H0 σ H1 sl R q => by
  refine i_of (pi_range1 hg hm (pa_cons pe_w pa_nil (hs _ _)) (hs := hs _ _)) ?_
  refine ha H0 σ H1 sl _ fun v H2 F e1 i1 => ⟨n, by rw [dt_int i1.2], (rng_bd h1 h2).1, (rng_bd h1 h2).2, ?_⟩
  exact q _ H2 (fun _ => True) [] e1 (rng_ok 0 n.toNat) (fun _ z => nomatch z) fun _ _ => trivial
theorem ji_range2 {tg : Expr} {n m : Int} {p : Pos} (hm : X.mg "range" = none) (ha : JE X Φ a δ (.d (.int n))) (hb : JE X Φ b δ (.d (.int m))) (h1 : n ≤ 100000) (h2 : -100000 ≤ n) (h3 : m ≤ 100000) (h4 : -100000 ≤ m) (hg : Gl X "range" := by rfl) (hs : NS a := by exact fun _ _ => rfl) (hs2 : NS b := by exact fun _ _ => rfl) :
    JI X Φ tg (.Call (.Name "range" p) [a, b] [] pos) δ (rngD n (m - n).toNat) := fun H0 σ H1 sl R q => by
  refine i_of (pi_range2 hg hm (pa_cons pe_w (pa_cons pe_w pa_nil (hs2 _ _)) (hs _ _)) (hs := by rw [hs, hs2]; rfl) (hs2 := hs2 _ _)) ?_
  refine ha H0 σ H1 sl _ fun v H2 F e1 i1 => ?_
  refine hb H0 σ H2 (sl.mono e1) _ fun u H3 G e2 i2 => ⟨n, m, by rw [dt_int i1.2, dt_int i2.2], ⟨(rng_bd h1 h2).1, (rng_bd h1 h2).2, (rng_bd h3 h4).1, (rng_bd h3 h4).2⟩, ?_⟩
  exact q _ H3 (fun _ => True) [] (e1.trans e2) (rng_ok n (m - n).toNat) (fun _ z => nomatch z) fun _ _ => trivial
theorem ji_list {tg : Expr} {ds : List PyData} (ha : JR X Φ a δ (SK.l ds)) : JIx X Φ tg a δ ds := fun H0 σ H1 sl R q => by
  refine i_of (pi_list pe_w) ?_
  refine ha H0 σ H1 sl _ fun v H2 F e1 i1 => ?_
  obtain ⟨p, vs, rfl, _, hp, hd⟩ := i1
  exact ⟨p, rfl, ⟨vs, SqL.of hp⟩, q _ H2 _ e1 (list_ok hd.length) (fun H H' s e => ⟨e _ _ s.1, s.2.ex (.of e)⟩) ⟨hp, hd⟩⟩
/-! ### for -/
/-- the turns of a for over anything whose source the slots' word keeps -/
theorem for_core {J : It} {ds : List PyData} {Src : Hp → Prop} (ok : ItOk J ds Src) {g : TG} {tb : TS} {D : Ends} {σ : L2.St} {H : Hp} (Pv : Nat → L2.St → Hp → Prop) (h0 : Pv 0 σ H) (hsrc : ∀ i σ H, Pv i σ H → Src H)
    (hs : ∀ i d x σ H, ds[i]? = some d → Dt H x d → (∃ H1, Pv i σ H1 ∧ Ex H1 H) → g x σ H fun σ2 H2 => tb { D with nx := Pv (i + 1), ct := Pv (i + 1), bk := D.nx } σ2 H2) (hd : ∀ σ H, Pv ds.length σ H → D.nx σ H) :
    ∃ W : Nat → Nat → L2.St → Hp → Prop, (∃ m, W 0 m σ H) ∧ ∀ i m σ H, W i m σ H →
      (J.stop i H ∧ D.nx σ H) ∨ (J.go i H ∧ ∃ N : L2.St → Hp → Prop, (∀ σ' H', N σ' H' → ∃ m', m' < m ∧ W (i + 1) m' σ' H') ∧ ∀ x H', J.yld i H x H' → g x σ H' fun σ2 H2 => tb { D with nx := N, ct := N, bk := D.nx } σ2 H2) := by
  refine ⟨fun i m σ H => m = ds.length - i ∧ i ≤ ds.length ∧ Pv i σ H, ⟨ds.length, by simp, Nat.zero_le _, h0⟩, ?_⟩
  rintro i m σ H ⟨rfl, hi, p⟩
  by_cases hlt : i < ds.length
  · refine .inr ⟨ok.go i H (hsrc i σ H p) hlt, Pv (i + 1), fun σ' H' p' => ⟨ds.length - (i + 1), by omega, rfl, hlt, p'⟩, fun x H' y => ?_⟩
    obtain ⟨ex, d, hd', dd⟩ := ok.yld i H x H' (hsrc i σ H p) hlt y
    exact hs i d x σ H' hd' dd ⟨H, p, ex⟩
  · obtain rfl : i = ds.length := by omega
    exact .inl ⟨ok.stop H (hsrc _ σ H p), hd σ H p⟩
theorem jp_for {tg iter : Expr} {body : List Stmt} {ds : List PyData} (hi : JI X Φ tg iter δ ds) (I : Nat → Slots → Prop) (h0 : I 0 δ)
    (hs : ∀ Φ', (∀ q ∈ Φ, q ∈ Φ') → ∀ i d δ1, ds[i]? = some d → I i δ1 → ∃ js es, TgOk X tg js es d ∧ JS X Φ' body (setδ δ1 js es) ⟨I (i + 1), E.rt, E.nx, I (i + 1)⟩) (hd : ∀ δ1, I ds.length δ1 → E.nx δ1)
    (hp : PassesOwn (model X.prog X.w) X.A X.env X.xe := by exact PassesOwn.never) (hc : X.calm = true := by rfl) (hf : ∀ x, foldedSetIterable iter X.env x = pure x := by intro _; rfl) : JP X Φ (.For tg iter body [] pos) δ E := fun H0 σ H1 D sl g => by
  refine s_of (ps_for hp hc pi_w pg_w pss_w hf) ?_
  refine hi H0 σ H1 sl _ fun J H2 Src Ψ e1 ok ln st => ?_
  have src : ∀ {σ H δ1}, Sl H0 (Ψ ++ Φ) H σ δ1 → Src H := fun {σ H δ1} s => by
    obtain ⟨F, f⟩ := s.at_
    exact st H fun q hq => (f.lock q (List.mem_append_left _ hq)).1
  refine for_core ok (fun i σ H => ∃ δ1, Sl H0 (Ψ ++ Φ) H σ δ1 ∧ I i δ1) ⟨δ, sl.lock_new e1 ln, h0⟩ (fun i σ H p => let ⟨_, s, _⟩ := p; src s) ?_ (fun σ H ⟨δ1, s, q⟩ => g.nx σ H δ1 s.drop_locks (hd δ1 q))
  rintro i d x σ' H' hdi dd ⟨Hb, ⟨δ1, sl1, q⟩, ex⟩
  obtain ⟨js, es, tg', body'⟩ := hs (Ψ ++ Φ) (fun q hq => List.mem_append_right _ hq) i d δ1 hdi q
  refine tg'.run σ' H' x _ dd fun vs hvs hl => ?_
  exact body' H0 _ H' _ (setSl (sl1.mono ex) hvs) ⟨fun σ3 H3 δ3 s3 q3 => ⟨δ3, s3, q3⟩, fun v3 H3 k3 F3 ⟨σ3, δ3, s3⟩ => g.rt v3 H3 k3 F3 ⟨σ3, δ3, s3.drop_locks⟩, fun σ3 H3 δ3 s3 q3 => g.nx σ3 H3 δ3 s3.drop_locks q3, fun σ3 H3 δ3 s3 q3 => ⟨δ3, s3, q3⟩⟩
end
end Pq

namespace Pq
open PySem PySem.Spec L2
open PyProof.Rows hiding St
open Evl (Ex)

/-! ### the keys of a locked dict with nested keys -/
section
variable {X : Cx} {pins : List (Addr × Obj)} {σ : L2.St} {H : Hp} {s : Shared} {d : Addr} {o : Obj}
theorem frzN {raw : Raw} (I : L2.Inv X pins σ H s) (h : H d = some (.frz o (NObj X.prog X.w d raw))) :
    s.heap.get? d = some o ∧ o.ExactDict ∧ ∃ (es : Array DictEntry) (ep : Nat), o.data = .dict es ep ∧ es.size = raw.length ∧
      ∀ (i : Nat) (q : NestedKey × Addr × V), raw[i]? = some q → ∃ en : DictEntry, es[i]? = some en ∧ en.key = .ref q.2.1 := by
  obtain ⟨hd, ph, _, _⟩ := I.hok d _ h
  obtain ⟨xs, rx, o', es, ep, ho, hx, hdt, he, _⟩ := ph
  rw [hd] at ho
  cases ho
  refine ⟨hd, hx, es, ep, hdt, ?_, fun i q e => ?_⟩
  · have l1 : es.size = xs.length := size_of_entries he
    have l2 := rx.len
    omega
  · obtain ⟨b, hb, e1, e2, _⟩ := L2.paired_get rx e
    have z := entry_at he i
    rw [hb] at z
    exact ⟨_, z, by rw [e2]; rfl⟩
end
def ItN (P : Program) (w : World) (d : Addr) (o : Obj) (raw : Raw) : It :=
  ⟨fun i H => H d = some (.frz o (NObj P w d raw)) ∧ i < raw.length, fun i H x H' => H' = H ∧ ∃ q, raw[i]? = some q ∧ x = .ref q.2.1, fun i H => H d = some (.frz o (NObj P w d raw)) ∧ raw.length ≤ i⟩
theorem turn_keysN {P : Program} {w : World} {K : PySem.W.Frag} {tg : Expr} {d : Addr} {o : Obj} {es : Array DictEntry} {ep : Nat} {raw : Raw} (it : Addr) (hod : o.data = .dict es ep) :
    Turn P w K tg (ItN P w d o raw) [it] it (fun i h => h.IsKeyIter it d i raw.length ep) where
  mem := by simp
  obj := fun i h st b hb => by
    obtain rfl : b = it := by simpa using hb
    obtain ⟨oi, e, c, dd⟩ := st
    exact ⟨oi, e, fun v z => by rw [dd] at z; cases z⟩
  keep := fun i h h' st k => st.at fun oi e => k it (by simp) oi e
  item := by
    intro X hP hw hK hc i pins s σ H E I hf st hg
    subst hP hw hK
    obtain ⟨hd, hi⟩ := hg
    have ff := hf it (by simp)
    obtain ⟨hgd, hx, es', ep', hdt, hsz, ent⟩ := frzN I hd
    obtain ⟨rfl, rfl⟩ := dict_ep hod hdt
    obtain ⟨q, hq⟩ : ∃ p, raw[i]? = some p := ⟨raw[i], List.getElem?_eq_getElem hi⟩
    obtain ⟨en, hen, hkey⟩ := ent i q hq
    refine next_key_item st hgd hdt hsz hen fun h' st' sb => ?_
    have I1 : L2.Inv X pins σ H { s with heap := h' } := I.turned (t' := s.toks) (fun b ob hb e => (sb.2 b hb).trans e) ff.1 ff.2.1 ff.2.2.2.1 ff.2.2.2.2.1 ff.2.2.2.2.2
    obtain ⟨oi, e, c, dd⟩ := id st'
    exact ⟨en.key, rfl, go_of (s := { s with heap := h' }) e c dd (by decide) ⟨.ref q.2.1, H, I1, hkey, ⟨rfl, q, hq, rfl⟩, st', fun b hb => (hf b hb).1⟩⟩
  done := by
    intro X hP hw hK hc i pins s σ H E I hf st hg
    subst hP hw hK
    obtain ⟨hd, hi⟩ := hg
    have ff := hf it (by simp)
    obtain ⟨hgd, hx, es', ep', hdt, hsz, ent⟩ := frzN I hd
    obtain ⟨rfl, rfl⟩ := dict_ep hod hdt
    exact next_key_end (I.ok.hd hc) st hgd hdt hsz hi fun h' eb => ⟨rfl, I.turned (t' := s.toks) (fun b ob hb e => eb b ob hb e) ff.1 ff.2.1 ff.2.2.2.1 ff.2.2.2.2.1 ff.2.2.2.2.2⟩
  self := fun A i s Q E st h => by
    refine wpAny_pyIter_slot st.typeIs F.slot_dict_keyiterator_iter (wpAny_call_entry F.slot_dict_keyiterator_iter st.typeIs F.entry_dict_keyiterator_iter ?_ (F.args_dict_keyiterator_iter_1 _))
    show wpAny _ _ (ret (.ref it)) _ _ s
    exact wpAny_pure ⟨_, rfl, "dict_keyiterator", _, st.typeIs, F.slot_dict_keyiterator_next.lookup, h⟩
def iKeysN (P : Program) (w : World) (td : TE) : TI := fun σ H R => td σ H fun x H1 => ∃ d o raw, x = .ref d ∧ (d == sysModules) = false ∧ H1 d = some (.frz o (NObj P w d raw)) ∧ R (ItN P w d o raw) H1
theorem pi_keysN {X : Cx} {tg e : Expr} {td : TE} (he : PE X e td) : PI X tg e (iKeysN X.prog X.w td) := by
  refine ⟨fun pins s σ H R I h => ?_⟩
  refine thn (he.run pins s σ H _ I h) fun u s1 ⟨x, H1, I1, rx, d, o, raw, ex, hs, hd, q⟩ => ?_
  subst ex
  obtain rfl : u = Value.ref d := rx
  obtain ⟨hgd, hx, es, ep, hdt, hsz, ent⟩ := frzN I1 hd
  refine iter_keys hs hgd hx hdt (pi_one (tk := s1.toks) I1 _ (turn_keysN _ hdt) ⟨_, Heap.get?_push_size _ rfl, rfl, ?_⟩ q)
  rw [hsz] <;> rfl
theorem RK.get {H : Hp} {raw : Raw} {kvs : List (NestedKey × PyData)} (rk : RK H raw kvs) {i : Nat} {q : NestedKey × Addr × V} (h : raw[i]? = some q) : ∃ p, kvs[i]? = some p ∧ q.1 = p.1 ∧ Dt H (.ref q.2.1) p.1.data ∧ Dt H q.2.2 p.2 := by
  obtain ⟨p, hp, e, _, d1, d2⟩ := L2.paired_get rk h
  exact ⟨p, hp, e, e ▸ d1, d2⟩
theorem keysN_ok {P : Program} {w : World} {d : Addr} {o : Obj} {raw : Raw} {kvs : List (NestedKey × PyData)} (hl : raw.length = kvs.length) : ItOk (ItN P w d o raw) (kvs.map fun p => p.1.data) (fun H => H d = some (.frz o (NObj P w d raw)) ∧ RK H raw kvs) where
  go := fun i H s h => by
    rw [List.length_map] at h
    exact ⟨s.1, by omega⟩
  stop := fun H s => ⟨s.1, by rw [List.length_map]; omega⟩
  yld := fun i H x H' s hi h => by
    obtain ⟨rfl, q, hq, rfl⟩ := h
    obtain ⟨p, hp, _, dk, _⟩ := s.2.get hq
    exact ⟨Evl.Ex.refl _, p.1.data, by rw [List.getElem?_map, hp]; rfl, dk⟩
/-- a locked dict, exactly -/
def SK.fz (P : Program) (w : World) (o : Obj) (raw : Raw) (kvs : List (NestedKey × PyData)) : SK where
  is H v F := ∃ p, v = .ref p ∧ F = [p] ∧ (p == sysModules) = false ∧ H p = some (.frz o (NObj P w p raw)) ∧ RK H raw kvs
  stay := by
    rintro H H' v F ⟨p, rfl, rfl, hs, hp, hd⟩ e k
    exact ⟨p, rfl, rfl, hs, (k p (by simp)).trans hp, hd.ex e⟩
  dom := by
    rintro H v F ⟨p, rfl, rfl, _, hp, _⟩ a ha
    obtain rfl : a = p := by simpa using ha
    exact ⟨_, hp⟩
section
variable {X : Cx} {Φ : Lk} {δ : Slots} {E : En} {e a b c : Expr} {es : List Expr} {pos : Pos} {st : Stmt} {sts rest : List Stmt}
theorem jr_fz {P : Program} {w : World} {o : Obj} {raw : Raw} {kvs : List (NestedKey × PyData)} (h : JR X Φ e δ (SK.fz P w o raw kvs)) : JR X Φ e δ (SK.nr P w kvs) := fun H0 σ H1 sl Q q =>
  h H0 σ H1 sl Q fun v H2 G ex ⟨p, e1, e2, hs, hp, rk⟩ => q v H2 G ex ⟨p, e1, e2, hs, raw, .inr ⟨o, hp⟩, rk⟩
theorem upd_back {H : Hp} {p : Addr} {u : HO} (h : H p = some u) : upd H p u = H := by
  funext a
  by_cases e : a = p
  · rw [e, upd_same, h]
  · rw [upd_ne e]
/-- for over an own list that stands in a name; the body does not touch it -/
theorem jp_forO {tg : Expr} {body : List Stmt} {ds : List PyData} {i0 : Nat} {x : Str} {p1 : Pos} (hk : δ[i0]? = some (some (.o (SK.l ds)))) (I : Addr → Nat → Slots → Prop) (hv : ∀ p i δ1, I p i δ1 → δ1[i0]? = some (some (.v (.ref p)))) (h0 : ∀ p, I p 0 (δ.set i0 (some (.v (.ref p)))))
    (hs : ∀ p vs Φ', Φ' = (p, SK.lx vs ds) :: Φ → ∀ i d δ1, ds[i]? = some d → I p i δ1 → ∃ js es, TgOk X tg js es d ∧ JS X Φ' body (setδ δ1 js es) ⟨I p (i + 1), E.rt, fun _ => False, I p (i + 1)⟩)
    (hd : ∀ p δ1, I p ds.length δ1 → E.nx (δ1.set i0 (some (.o (SK.l ds)))))
    (hN : X.N[i0]? = some x := by rfl) (hvis : Vis X.env.scope x := by first | exact Or.inl rfl | exact Or.inr (Or.inl rfl) | exact Or.inr (Or.inr rfl))
    (h1 : (x == ("__debug__" : Str)) = false := by decide) (h2 : (x == ("__classdict__" : Str)) = false := by decide)
    (hp : PassesOwn (model X.prog X.w) X.A X.env X.xe := by exact PassesOwn.never) (hc : X.calm = true := by rfl) (hf : ∀ y, foldedSetIterable (.Name x p1) X.env y = pure y := by intro _; rfl) : JP X Φ (.For tg (.Name x p1) body [] pos) δ E := fun H0 σ H1 D sl g => by
  refine s_of (ps_for hp hc (pi_list (pe_var hN hvis h1 h2)) pg_w pss_w hf) ?_
  obtain ⟨F, f⟩ := sl.at_
  obtain ⟨v, hv0, hi⟩ := f.some_ i0 _ hk
  obtain ⟨⟨p, vs, rfl, eF, hp0, hds⟩, nw⟩ := hi
  have nwp := nw p (by rw [eF]; exact List.mem_cons_self)
  refine ⟨_, hv0, p, rfl, ⟨vs, SqL.of hp0⟩, ?_⟩
  have slk : Sl H0 ((p, SK.lx vs ds) :: Φ) H1 σ (δ.set i0 (some (.v (.ref p)))) :=
    sl.locked hk hv0 (fun F ⟨q, ws, e1, e2, _⟩ => ⟨q, e1, e2⟩) rfl (TEx.refl H1) (fun a o _ z => z) (T := SK.lx vs ds) ⟨p, rfl, rfl, hp0, hds⟩
  have src : ∀ {σ H δ1}, Sl H0 ((p, SK.lx vs ds) :: Φ) H σ δ1 → H p = some (.lst vs) ∧ DtAll H vs ds := fun {σ H δ1} s => by
    obtain ⟨F, f⟩ := s.at_
    obtain ⟨p', e, _, z1, z2⟩ := (f.lock _ List.mem_cons_self).1
    cases e
    exact ⟨z1, z2⟩
  have nlk : ∀ q ∈ Φ, q.1 ≠ p := fun q hq z => (f.lock q hq).2 i0 (by rw [eF, z]; exact List.mem_cons_self)
  refine for_core (list_ok hds.length) (fun i σ H => ∃ δ1, Sl H0 ((p, SK.lx vs ds) :: Φ) H σ δ1 ∧ I p i δ1) ⟨_, slk, h0 p⟩ (fun i σ H q => let ⟨_, s, _⟩ := q; src s) ?_ (fun σ H ⟨δ1, s, q⟩ => ?_)
  · rintro i d y σ' H' hdi dd ⟨Hb, ⟨δ1, sl1, q⟩, ex⟩
    obtain ⟨js, es, tg', body'⟩ := hs p vs _ rfl i d δ1 hdi q
    refine tg'.run σ' H' y _ dd fun ws hws hl => ?_
    exact body' H0 _ H' _ (setSl (sl1.mono ex) hws) ⟨fun σ3 H3 δ3 s3 q3 => ⟨δ3, s3, q3⟩, fun v3 H3 k3 F3 ⟨σ3, δ3, s3⟩ => g.rt v3 H3 k3 F3 ⟨σ3, δ3, s3.drop_locks (Ψ := [_])⟩, fun σ3 H3 δ3 s3 q3 => q3.elim, fun σ3 H3 δ3 s3 q3 => ⟨δ3, s3, q3⟩⟩
  · obtain ⟨z1, z2⟩ := src s
    exact g.nx σ H _ (s.unlocked (hv p _ δ1 q) nwp.1 nlk (TEx.refl H) (fun a o _ z => z) (S := SK.l ds) ⟨p, vs, rfl, rfl, z1, z2⟩ (fun ws z => by rw [z1] at z; cases z)) (hd p δ1 q)
/-- for over the keys of an own dict that stands in a name; the body reads it at most -/
theorem jp_forN {tg : Expr} {body : List Stmt} {kvs : List (NestedKey × PyData)} {i0 : Nat} {x : Str} {p1 : Pos} (hk : δ[i0]? = some (some (.o (SK.n X.prog X.w kvs)))) (I : Addr → Nat → Slots → Prop) (hv : ∀ p i δ1, I p i δ1 → δ1[i0]? = some (some (.v (.ref p)))) (h0 : ∀ p, I p 0 (δ.set i0 (some (.v (.ref p)))))
    (hs : ∀ p o raw Φ', Φ' = (p, SK.fz X.prog X.w o raw kvs) :: Φ → ∀ i q δ1, kvs[i]? = some q → I p i δ1 → ∃ js es, TgOk X tg js es q.1.data ∧ JS X Φ' body (setδ δ1 js es) ⟨I p (i + 1), fun k => E.rt k ∧ ∃ y, k = .d y, fun _ => False, I p (i + 1)⟩)
    (hd : ∀ p δ1, I p kvs.length δ1 → E.nx (δ1.set i0 (some (.o (SK.n X.prog X.w kvs)))))
    (hN : X.N[i0]? = some x := by rfl) (hvis : Vis X.env.scope x := by first | exact Or.inl rfl | exact Or.inr (Or.inl rfl) | exact Or.inr (Or.inr rfl))
    (h1 : (x == ("__debug__" : Str)) = false := by decide) (h2 : (x == ("__classdict__" : Str)) = false := by decide)
    (hp : PassesOwn (model X.prog X.w) X.A X.env X.xe := by exact PassesOwn.never) (hc : X.calm = true := by rfl) (hf : ∀ y, foldedSetIterable (.Name x p1) X.env y = pure y := by intro _; rfl) : JP X Φ (.For tg (.Name x p1) body [] pos) δ E := fun H0 σ H1 D sl g => by
  refine s_of (ps_lock (ps_for hp hc (pi_keysN (pe_var hN hvis h1 h2)) pg_w pss_w hf)) ?_
  obtain ⟨F, f⟩ := sl.at_
  obtain ⟨v, hv0, hi⟩ := f.some_ i0 _ hk
  obtain ⟨⟨p, rfl, eF, hsys, raw, hp0, rk⟩, nw⟩ := hi
  have nwp := nw p (by rw [eF]; exact List.mem_cons_self)
  refine ⟨p, _, hp0, trivial, fun o => ?_⟩
  refine ⟨_, hv0, p, o, raw, rfl, hsys, upd_same, ?_⟩
  have te1 : TEx H1 (upd H1 p (.frz o (NObj X.prog X.w p raw))) := (TEx.refl H1).upd nwp.2
  have slk : Sl H0 ((p, SK.fz X.prog X.w o raw kvs) :: Φ) (upd H1 p (.frz o (NObj X.prog X.w p raw))) σ (δ.set i0 (some (.v (.ref p)))) :=
    sl.locked hk hv0 (fun F ⟨q, e1, e2, _⟩ => ⟨q, e1, e2⟩) rfl te1 (fun a u na z => by rw [upd_ne na]; exact z) ⟨p, rfl, rfl, hsys, upd_same, rk.ex te1⟩
  have src : ∀ {σ H δ1}, Sl H0 ((p, SK.fz X.prog X.w o raw kvs) :: Φ) H σ δ1 → H p = some (.frz o (NObj X.prog X.w p raw)) ∧ RK H raw kvs := fun {σ H δ1} s => by
    obtain ⟨F, f⟩ := s.at_
    obtain ⟨p', e, _, _, z1, z2⟩ := (f.lock _ List.mem_cons_self).1
    cases e
    exact ⟨z1, z2⟩
  have nlk : ∀ q ∈ Φ, q.1 ≠ p := fun q hq z => (f.lock q hq).2 i0 (by rw [eF, z]; exact List.mem_cons_self)
  have back : ∀ {σ H δ1}, Sl H0 ((p, SK.fz X.prog X.w o raw kvs) :: Φ) H σ δ1 → δ1[i0]? = some (some (.v (.ref p))) → Sl H0 Φ (upd H p (NObj X.prog X.w p raw)) σ (δ1.set i0 (some (.o (SK.n X.prog X.w kvs)))) := fun {σ H δ1} s hv1 => by
    obtain ⟨z1, z2⟩ := src s
    have te2 : TEx H (upd H p (NObj X.prog X.w p raw)) := (TEx.refl H).upd (fun vs z => by rw [z1] at z; cases z)
    exact s.unlocked hv1 nwp.1 nlk te2 (fun a u na z => by rw [upd_ne na]; exact z) ⟨p, rfl, rfl, hsys, raw, upd_same, z2.ex te2⟩ (fun vs z => by rw [upd_same] at z; cases z)
  refine for_core (keysN_ok rk.len) (fun i σ H => ∃ δ1, Sl H0 ((p, SK.fz X.prog X.w o raw kvs) :: Φ) H σ δ1 ∧ I p i δ1) ⟨_, slk, h0 p⟩ (fun i σ H q => let ⟨_, s, _⟩ := q; src s) ?_ (fun σ H ⟨δ1, s, q⟩ => ?_)
  · rintro i d y σ' H' hdi dd ⟨Hb, ⟨δ1, sl1, q⟩, ex⟩
    obtain ⟨kv, hkv, rfl⟩ : ∃ kv, kvs[i]? = some kv ∧ kv.1.data = d := by
      rw [List.getElem?_map] at hdi
      cases z : kvs[i]? with
      | none => rw [z] at hdi; cases hdi
      | some kv => rw [z] at hdi; exact ⟨kv, rfl, Option.some.inj hdi⟩
    obtain ⟨js, es, tg', body'⟩ := hs p o raw _ rfl i kv δ1 hkv q
    refine tg'.run σ' H' y _ dd fun ws hws hl => ?_
    refine body' H0 _ H' _ (setSl (sl1.mono ex) hws) ⟨fun σ3 H3 δ3 s3 q3 => ⟨δ3, s3, q3⟩, fun v3 H3 k3 F3 ⟨σ3, δ3, s3⟩ is3 ⟨q3, y3, e3⟩ => ?_, fun σ3 H3 δ3 s3 q3 => q3.elim, fun σ3 H3 δ3 s3 q3 => ⟨δ3, s3, q3⟩⟩
    obtain ⟨z1, z2⟩ := src s3
    subst e3
    have te2 : TEx H3 (upd H3 p (NObj X.prog X.w p raw)) := (TEx.refl H3).upd (fun vs z => by rw [z1] at z; cases z)
    exact ⟨z1, g.rt v3 _ (.d y3) [] ⟨σ3, δ3, s3.dropd nwp.1 nlk te2 (fun a u na z => by rw [upd_ne na]; exact z)⟩ ⟨rfl, is3.2.ex te2⟩ q3⟩
  · rw [List.length_map] at q
    exact ⟨(src s).1, g.nx σ _ _ (back s (hv p _ δ1 q)) (hd p δ1 q)⟩
end
end Pq

namespace Pq
open PySem PySem.Spec L2
open PyProof.Rows hiding St
open Evl (Ex)

theorem wipe_at (σ : L2.St) (i : Nat) : ∀ vs : List Nat, (L2.wipe σ vs)[i]? = if i ∈ vs ∧ i < σ.length then some none else σ[i]?
  | [] => by simp [L2.wipe]
  | v :: vs => by
    show ((L2.wipe σ vs).set v none)[i]? = _
    have ih := wipe_at σ i vs
    by_cases e : i = v
    · subst e
      by_cases hl : i < σ.length
      · rw [List.getElem?_set_self (by rw [L2.wipe_length]; exact hl), if_pos ⟨List.mem_cons_self, hl⟩]
      · rw [if_neg (fun z => hl z.2), List.getElem?_eq_none (by simp [L2.wipe_length]; omega), List.getElem?_eq_none (by omega)]
    · rw [List.getElem?_set_ne (Ne.symm e), ih]
      simp only [List.mem_cons, e, false_or]
theorem setσ_at : ∀ (js : List Nat) (ws : List V) (σ : L2.St) (i : Nat), i ∉ js → (setσ σ js ws)[i]? = σ[i]?
  | [], _, _, _, _ => by unfold setσ; rfl
  | _ :: _, [], _, _, _ => by unfold setσ; rfl
  | j :: js, w :: ws, σ, i, h => by
    show (setσ (σ.set j (some w)) js ws)[i]? = _
    rw [setσ_at js ws _ i (fun z => h (List.mem_cons_of_mem _ z)), List.getElem?_set_ne (fun z => h (by rw [z]; exact List.mem_cons_self))]
theorem wipe_set (σ : L2.St) (vs js : List Nat) (ws : List V) (h : ∀ j ∈ js, j ∈ vs) : L2.wipe (setσ (L2.wipe σ vs) js ws) vs = L2.wipe σ vs := by
  apply List.ext_getElem?
  intro i
  rw [wipe_at, wipe_at, setσ_len, L2.wipe_length]
  by_cases q : i ∈ vs ∧ i < σ.length
  · rw [if_pos q, if_pos q]
  · rw [if_neg q, if_neg q]
    by_cases hi : i ∈ vs
    · have hl : ¬ i < σ.length := fun z => q ⟨hi, z⟩
      rw [List.getElem?_eq_none (by rw [setσ_len, L2.wipe_length]; omega), List.getElem?_eq_none (by omega)]
    · rw [setσ_at js ws _ i (fun z => hi (h i z)), wipe_at, if_neg q]

/-- a clause's tests -/
def wTs (X : Cx) (ifs : List Expr) : TT := fun σ H Q => ∀ (pins : List (Addr × Obj)) (s : Shared), L2.Inv X pins σ H s →
  wpAny (model X.prog X.w) X.A (forIn ifs true fun c r => if r = true then do let ok ← isTrue c X.env (eval c X.env); pure (ForInStep.yield ok) else pure (ForInStep.yield r)) (TP X pins σ Q) X.xe s
theorem pts_w {X : Cx} {ifs : List Expr} : PTs X ifs (wTs X ifs) := ⟨fun pins s _ _ _ I h => h pins s I⟩
theorem ts_of {X : Cx} {ifs : List Expr} {t : TT} {σ : L2.St} {H : Hp} {Q : Bool → Hp → Prop} (p : PTs X ifs t) (h : t σ H Q) : wTs X ifs σ H Q := fun pins s I => p.run pins s σ H Q I h
def JTs (X : Cx) (Φ : Lk) (ifs : List Expr) (δ : Slots) (b : Bool) : Prop := ∀ (H0 : Hp) (σ : L2.St) (H1 : Hp), Sl H0 Φ H1 σ δ → ∀ Q : Bool → Hp → Prop, (∀ H2, Ex H1 H2 → Q b H2) → wTs X ifs σ H1 Q
theorem jts_nil {X : Cx} {Φ : Lk} {δ : Slots} : JTs X Φ [] δ true := fun _ _ H1 _ _ q => ts_of pts_nil (q H1 (Evl.Ex.refl H1))
theorem jts_one {X : Cx} {Φ : Lk} {δ : Slots} {c : Expr} {b : Bool} (h : JT X Φ c δ b) : JTs X Φ [c] δ b := fun H0 σ H1 sl Q q => ts_of (pts_one pt_w) (h H0 σ H1 sl Q q)
/-- the context of a comprehension's block, whatever it is -/
abbrev Blk (X : Cx) (scope : Scope) (Y : Cx) : Prop := ∃ (s : Shared) (H : Hp) (C : Addr) (cl : List (Str × Addr)) (fp : List Addr), Y = X.blk s H scope (compEnvC scope cl C X.env) fp
/-- one turn of a comprehension, in each such context -/
structure LcTurn (X : Cx) (scope : Scope) (vs : List Nat) (Φ : Lk) (δ : Slots) (tg : Expr) (ifs : List Expr) (elt : Expr) (d : PyData) (b : Bool) (z : PyData) : Prop where
  out : ∃ (js : List Nat) (es : List PyData), (∀ j ∈ js, j ∈ vs) ∧ ∀ (s : Shared) (H : Hp) (C : Addr) (cl : List (Str × Addr)) (fp : List Addr),
    TgOk (X.blk s H scope (compEnvC scope cl C X.env) fp) tg js es d ∧ JTs (X.blk s H scope (compEnvC scope cl C X.env) fp) Φ ifs (setδ (wipeD δ vs) js es) b ∧
      (b = true → JE (X.blk s H scope (compEnvC scope cl C X.env) fp) Φ elt (setδ (wipeD δ vs) js es) (.d z))
def gAll (X : Cx) (scope : Scope) (tg : Expr) : TG := fun v σ H Q => ∀ (s : Shared) (Hh : Hp) (C : Addr) (cl : List (Str × Addr)) (fp : List Addr), wG (X.blk s Hh scope (compEnvC scope cl C X.env) fp) tg v σ H Q
def tAll (X : Cx) (scope : Scope) (ifs : List Expr) : TT := fun σ H Q => ∀ (s : Shared) (Hh : Hp) (C : Addr) (cl : List (Str × Addr)) (fp : List Addr), wTs (X.blk s Hh scope (compEnvC scope cl C X.env) fp) ifs σ H Q
def eAll (X : Cx) (scope : Scope) (elt : Expr) : TE := fun σ H Q => ∀ (s : Shared) (Hh : Hp) (C : Addr) (cl : List (Str × Addr)) (fp : List Addr), wE (X.blk s Hh scope (compEnvC scope cl C X.env) fp) elt σ H Q
def lcOut (f : PyData → Bool) (g : PyData → PyData) (ds : List PyData) : List PyData := (ds.filter f).map g
theorem lcOut_snoc {f : PyData → Bool} {g : PyData → PyData} {ds : List PyData} {i : Nat} {d : PyData} (h : ds[i]? = some d) : lcOut f g (ds.take (i + 1)) = if f d = true then lcOut f g (ds.take i) ++ [g d] else lcOut f g (ds.take i) := by
  have hl : i < ds.length := (List.getElem?_eq_some_iff.mp h).1
  have e : ds.take (i + 1) = ds.take i ++ [d] := by
    rw [List.take_add_one, h]
    rfl
  unfold lcOut
  rw [e, List.filter_append, List.map_append, List.filter_cons]
  by_cases q : f d = true
  · rw [if_pos q, if_pos q]; rfl
  · rw [if_neg q, if_neg q]; simp
section
variable {X : Cx} {Φ : Lk} {δ : Slots} {E : En} {e a b c : Expr} {es : List Expr} {pos : Pos} {st : Stmt} {sts rest : List Stmt}
theorem lc_read {elt tg iter : Expr} {ifs : List Expr} {scope : Scope} {vs : List Nat} {ds : List PyData} {f : PyData → Bool} {g : PyData → PyData} (hi : JIx X Φ tg iter δ ds)
    (ht : ∀ d ∈ ds, LcTurn X scope vs Φ δ tg ifs elt d (f d) (g d)) (hz : ds.length ≤ 1000000) {H0 : Hp} {σ : L2.St} {H1 : Hp} (sl : Sl H0 Φ H1 σ δ) {Q : VK}
    (q : ∀ v H2 F, Ex H1 H2 → Is H1 H2 (.o (SK.l (lcOut f g ds))) v F → Q v H2) : tLc (wI X tg iter) (gAll X scope tg) (tAll X scope ifs) (eAll X scope elt) vs σ H1 Q := by
  refine hi H0 σ H1 sl _ fun J H2 Src e1 ok stab s2 => ?_
  intro D hD
  have srcOf : ∀ {H}, Ex H2 H → Src H := fun {H} ex => stab _ _ s2 ex
  refine ⟨fun i m H => m = ds.length - i ∧ i ≤ ds.length ∧ Ex H2 H ∧ ∃ acc, H D = some (.lst acc) ∧ DtAll H acc (lcOut f g (ds.take i)), ⟨ds.length, by simp, Nat.zero_le _, Evl.Ex.new hD, [], upd_same, by simp [lcOut]; exact .nil⟩, ?_⟩
  rintro i m H ⟨rfl, hi', ex, acc, hDa, hacc⟩
  by_cases hlt : i < ds.length
  · refine .inr ⟨ok.go i H (srcOf ex) hlt, fun H' => (i + 1) ≤ ds.length ∧ Ex H2 H' ∧ ∃ acc, H' D = some (.lst acc) ∧ DtAll H' acc (lcOut f g (ds.take (i + 1))), fun H' ⟨z1, z2, z3⟩ => ⟨ds.length - (i + 1), by omega, rfl, z1, z2, z3⟩, fun x H' y => ?_⟩
    obtain ⟨exy, d, hd, dd⟩ := ok.yld i H x H' (srcOf ex) hlt y
    obtain ⟨js, es, hjs, turn⟩ := (ht d (List.mem_of_getElem? hd)).out
    have exH : Ex H2 H' := ex.trans exy
    intro s Hh C cl fp
    obtain ⟨tg1, _, _⟩ := turn s Hh C cl fp
    refine tg1.run _ H' x _ dd fun ws hws hl => ⟨wipe_set σ vs js ws hjs, ?_⟩
    have sl2 : Sl H0 Φ H' (setσ (L2.wipe σ vs) js ws) (setδ (wipeD δ vs) js es) := setSl ((sl.mono (e1.trans exH)).wipe vs) hws
    intro s Hh C cl fp
    obtain ⟨_, ts1, _⟩ := turn s Hh C cl fp
    refine ts1 H0 _ H' sl2 _ fun H3 e3 => ?_
    cases hf : f d with
    | false =>
      show (i + 1) ≤ ds.length ∧ Ex H2 H3 ∧ _
      refine ⟨hlt, exH.trans e3, acc, e3 _ _ (exy _ _ hDa), ?_⟩
      rw [lcOut_snoc hd, hf]
      exact hacc.ex (.of (exy.trans e3))
    | true =>
      show eAll X scope elt _ H3 _
      intro s Hh C cl fp
      obtain ⟨_, _, el⟩ := turn s Hh C cl fp
      refine el hf H0 _ H3 (sl2.mono e3) _ fun v H4 F e4 i4 => ?_
      have hD4 : H4 D = some (.lst acc) := e4 _ _ (e3 _ _ (exy _ _ hDa))
      have te : TEx H4 (upd H4 D (.lst (acc ++ [v]))) := (TEx.refl H4).upd (fun ws z => by rw [hD4] at z; cases z)
      refine ⟨acc, hD4, ?_, hlt, Evl.Ex.mut ((exH.trans e3).trans e4) hD, _, upd_same, ?_⟩
      · have l1 := hacc.length
        have l2 : (lcOut f g (ds.take i)).length ≤ i := by
          unfold lcOut
          rw [List.length_map]
          exact Nat.le_trans (List.length_filter_le _ _) (by rw [List.length_take]; omega)
        rw [sizeLine_eq]
        omega
      · rw [lcOut_snoc hd, if_pos hf]
        exact ((hacc.ex (.of ((exy.trans e3).trans e4))).append (.cons i4.2 .nil)).ex te
  · obtain rfl : i = ds.length := by omega
    rw [List.take_length] at hacc
    exact .inl ⟨ok.stop H (srcOf ex), q _ H [D] (e1.trans ex) (is_l (Evl.fresh_back e1 hD) hDa hacc)⟩
theorem je_lc {elt tg iter : Expr} {ifs : List Expr} {scope : Scope} {own : List (Str × Nat)} {ds : List PyData} {f : PyData → Bool} {g : PyData → PyData} (ok : BlkOk X.N X.env.scope scope own) (hN : X.N.Nodup) (hi : JIx X Φ tg iter δ ds)
    (ht : ∀ d ∈ ds, LcTurn X scope (own.map (·.2)) Φ δ tg ifs elt d (f d) (g d)) (hz : ds.length ≤ 1000000) (hc : X.calm = true := by rfl) (hs : ∀ x, foldedSetIterable iter X.env x = pure x := by intro _; rfl) :
    JE X Φ (.ListComp elt [⟨tg, iter, ifs, 0⟩] scope pos) δ (.o (SK.l (lcOut f g ds))) := fun H0 σ H1 sl Q q =>
  e_of (pe_lc hc hN pi_w ok (fun s H C cl fp => ⟨fun pins s' σ' H' v u Q' I r h => h s H C cl fp pins s' u I r⟩) (fun s H C cl fp => ⟨fun pins s' σ' H' Q' I h => h s H C cl fp pins s' I⟩) (fun s H C cl fp => ⟨fun pins s' σ' H' Q' I h => h s H C cl fp pins s' I⟩) hs)
    (lc_read hi ht hz sl q)
theorem jp_setLc {i : Nat} {y : Str} {py : Pos} {spos : Pos} {elt tg iter : Expr} {ifs : List Expr} {scope : Scope} {own : List (Str × Nat)} {ds : List PyData} {f : PyData → Bool} {g : PyData → PyData} (ok : BlkOk X.N X.env.scope scope own) (hN : X.N.Nodup) (hi : JIx X Φ tg iter δ ds)
    (ht : ∀ d ∈ ds, LcTurn X scope (own.map (·.2)) Φ δ tg ifs elt d (f d) (g d)) (hz : ds.length ≤ 1000000) (hn : E.nx (δ.set i (some (.o (SK.l (lcOut f g ds)))))) (hsw : swapsWith (.ListComp elt [⟨tg, iter, ifs, 0⟩] scope pos) (some (.Name y py)) spos.line X.env = pure true)
    (hy : X.N[i]? = some y := by rfl) (hyl : X.env.scope.names.lookup y = some .local := by rfl) (hc : X.calm = true := by rfl) (hs : ∀ x, foldedSetIterable iter X.env x = pure x := by intro _; rfl) :
    JP X Φ (.Assign [.Name y py] (.ListComp elt [⟨tg, iter, ifs, 0⟩] scope pos) spos) δ E := fun H0 σ H1 D sl g' =>
  s_of (ps_setLc hc hN hy hyl hsw pi_w ok (fun s H C cl fp => ⟨fun pins s' σ' H' v u Q' I r h => h s H C cl fp pins s' u I r⟩) (fun s H C cl fp => ⟨fun pins s' σ' H' Q' I h => h s H C cl fp pins s' I⟩) (fun s H C cl fp => ⟨fun pins s' σ' H' Q' I h => h s H C cl fp pins s' I⟩) hs)
    (lc_read hi ht hz sl fun v H2 F e1 i1 => g'.nx _ _ _ (sl.set_new e1 (i1.lift (k := .o _) trivial sl.ex) i1.fresh) hn)
/-! ### while -/
theorem jp_while {body : List Stmt} (I : Nat → Slots → Prop) (m0 : Nat) (h0 : I m0 δ)
    (hs : ∀ m δ1, I m δ1 → ∃ k, JT X Φ c δ1 k ∧ (k = true → JS X Φ body δ1 ⟨fun δ2 => ∃ m', m' < m ∧ I m' δ2, E.rt, E.nx, fun δ2 => ∃ m', m' < m ∧ I m' δ2⟩) ∧ (k = false → E.nx δ1))
    (hp : PassesOwn (model X.prog X.w) X.A X.env X.xe := by exact PassesOwn.never) : JP X Φ (.While c body [] pos) δ E := fun H0 σ H1 D sl g => by
  refine s_of (ps_while hp pt_w pss_w) ⟨fun m σ H => ∃ δ1, Sl H0 Φ H σ δ1 ∧ I m δ1, ⟨m0, δ, sl, h0⟩, ?_⟩
  rintro m σ' H' ⟨δ1, sl1, q⟩
  obtain ⟨k, jt, h1, h2⟩ := hs m δ1 q
  refine jt H0 σ' H' sl1 _ fun H2 e1 => ?_
  cases k with
  | true =>
    show ∃ N, _
    refine ⟨fun σ2 H2 => ∃ δ2, Sl H0 Φ H2 σ2 δ2 ∧ ∃ m', m' < m ∧ I m' δ2, fun σ2 H2 ⟨δ2, s2, m', z1, z2⟩ => ⟨m', z1, δ2, s2, z2⟩, ?_⟩
    exact h1 rfl H0 σ' H2 _ (sl1.mono e1) ⟨fun σ3 H3 δ3 s3 q3 => ⟨δ3, s3, q3⟩, g.rt, fun σ3 H3 δ3 s3 q3 => g.nx σ3 H3 δ3 s3 q3, fun σ3 H3 δ3 s3 q3 => ⟨δ3, s3, q3⟩⟩
  | false =>
    show D.nx σ' H2
    exact g.nx σ' H2 δ1 (sl1.mono e1) (h2 rfl)
end
end Pq

namespace Pq
open PySem PySem.Spec L2
open PyProof.Rows hiding St
open Evl (Ex)

/-! ### dict comprehensions with nested keys -/
theorem nEmpty {P : Program} {w : World} {H : Hp} (h : Heap) : ObjOk P w H (h.push { cls := .type "dict", data := .dict #[] }) h.objs.size (NObj P w h.objs.size []) :=
  dPhi.obj ⟨[], .nil, _, #[], 0, Heap.get?_push_size _ rfl, ⟨rfl, rfl, rfl⟩, rfl, rfl, List.nodup_nil⟩
theorem n_dictSet {X : Cx} {pins : List (Addr × Obj)} {σ : L2.St} {H : Hp} {s : Shared} {a : Addr} {kvs : List (NestedKey × PyData)} {k : NestedKey} {y v : V} {u r : Value} {E : Value → Shared → Prop} {d : PyData} {Q : Unit → Shared → Prop} (hu : X.A.units + 9 < cLine) (I : L2.Inv X pins σ H s) (h : IsN X.prog X.w H a kvs) (hk : TupKey k) (hy : Dt H y k.data) (ry : RelV y u) (hv : Dt H v d) (rv : RelV v r) (hz : kvs.length ≤ sizeLine)
    (q : ∀ o s', L2.Inv X pins σ (upd H a o) s' → IsN X.prog X.w (upd H a o) a (putN kvs k d) → Q () s') : wpAny (model X.prog X.w) X.A (dictSet a u r) Q E s := by
  obtain ⟨hs, raw, rd, rk⟩ := id h
  obtain ⟨xs, rx, hm⟩ := RdN.at_ I (.inl rd) rk
  obtain ⟨b, rfl⟩ := hk.ref hy
  cases ry
  refine wpAny_dictSet_heap (knd := nestedKind X.prog X.w) (k := k) (hsz := by rw [← rx.len, rk.len]; exact hz) (by show X.A.units + 8 < cLine; omega) ⟨Dt.key I k _ _ hy rfl, hk.2⟩ hm fun h' hm' sb => ?_
  have x : dPhi X.prog X.w a (rput raw k b v) h' := by
    obtain ⟨o, es, ep, ho, hx, hd, he, _, hn⟩ := hm'
    exact ⟨_, rx.put k b rv, o, es, ep, ho, hx, hd, he, hn⟩
  exact q _ _ (n_write I h x sb) (N.upd_is h (rk.put hk.2 hy hv))
section
variable {X : Cx}
def tDcN (P : Program) (w : World) (wi : TI) (g : TG) (tt : TT) (tk tv : TE) (vs : List Nat) : TE := fun σ H Q => wi σ H fun J H1 => ∀ D, H1 D = none → (D == sysModules) = false → ∃ W : Nat → Nat → Hp → Prop, (∃ m, W 0 m (upd H1 D (NObj P w D []))) ∧ ∀ i m H, W i m H →
  (J.stop i H ∧ Q (.ref D) H) ∨ (J.go i H ∧ ∃ Nx : Hp → Prop, (∀ H', Nx H' → ∃ m', m' < m ∧ W (i + 1) m' H') ∧ ∀ x H', J.yld i H x H' → g x (L2.wipe σ vs) H' fun σ2 H2 => L2.wipe σ2 vs = L2.wipe σ vs ∧ tt σ2 H2 fun b H3 =>
    if b = true then tk σ2 H3 fun y H4 => tv σ2 H4 fun z H5 => ∃ kvs k d, IsN P w H5 D kvs ∧ kvs.length ≤ sizeLine ∧ TupKey k ∧ Dt H5 y k.data ∧ Dt H5 z d ∧ ∀ o, IsN P w (upd H5 D o) D (putN kvs k d) → Nx (upd H5 D o) else Nx H3)
theorem dcN_core {pins : List (Addr × Obj)} {s : Shared} {σ : L2.St} {H : Hp} {Q : VK} {kx vx tg iter : Expr} {ifs : List Expr} {scope : Scope} {own : List (Str × Nat)} {pos pos' : Pos} {wi : TI} {g : TG} {tt : TT} {tk tv : TE} {use : Option (Value → Sem Unit)} {Qf : Value → Shared → Prop}
    (hu : X.A.units + 9 < cLine) (hc : X.calm = true) (hN : X.N.Nodup) (I : L2.Inv X pins σ H s) (hi : PI X tg iter wi) (ok : BlkOk X.N X.env.scope scope own)
    (hg : ∀ (s : Shared) (H : Hp) (C : Addr) (cl : List (Str × Addr)) (fp : List Addr), PG (X.blk s H scope (compEnvC scope cl C X.env) fp) tg g) (ht : ∀ (s : Shared) (H : Hp) (C : Addr) (cl : List (Str × Addr)) (fp : List Addr), PTs (X.blk s H scope (compEnvC scope cl C X.env) fp) ifs tt)
    (hk : ∀ (s : Shared) (H : Hp) (C : Addr) (cl : List (Str × Addr)) (fp : List Addr), PE (X.blk s H scope (compEnvC scope cl C X.env) fp) kx tk)
    (he : ∀ (s : Shared) (H : Hp) (C : Addr) (cl : List (Str × Addr)) (fp : List Addr), PE (X.blk s H scope (compEnvC scope cl C X.env) fp) vx tv) (hs : ∀ x, foldedSetIterable iter X.env x = pure x)
    (h : tDcN X.prog X.w wi g tt tk tv (own.map (·.2)) σ H Q)
    (hRR : ∀ D C s' m H', L2.Inv X pins σ H' s' → Q (.ref D) H' → s'.heap.Ns C m → FpOk X pins H' C → compPost (model X.prog X.w) X.A X.xe use Qf (.ref D) C (.ok .next) s') :
    wpAny (model X.prog X.w) X.A (comprehension (.DictComp kx vx [⟨tg, iter, ifs, 0⟩] scope pos) scope X.env pos' newDict false (eval iter X.env) use) Qf X.xe s := by
  have gfree : ∀ y ∈ scope.names, y.2 = .free → ∃ c, X.env.cells.lookup y.1 = some c := fun y hy e => by
    rcases ok.free y hy e with k | k
    · exact I.ok.has _ (.inl k)
    · exact I.ok.has _ (.inr k)
  refine wpAny_comprehension_free (use := use) rfl hs (closure_ok gfree) ok.kind (fun y hy e => by rw [ok.uniq y hy, e])
    (thn (hi.run pins s σ H _ I h) fun xv s1 gx => thn gx fun itv r2 g2 => ?_)
  obtain ⟨itr, fp, tn, J, G2, e, J2, T, u2, k2, q⟩ := g2
  subst e
  refine wpAny_newObj_type (newEnv_comp ?_)
  generalize gD : r2.heap.objs.size = D
  have gDn : G2 D = none := J2.hok.fresh (Nat.le_of_eq gD)
  obtain ⟨W, ⟨m0, w0⟩, trn⟩ := q D gDn (by have z := J2.big; rw [← gD]; exact beq_false_of_ne (Nat.ne_of_gt z))
  -- the new list
  generalize hs3 : ({ r2 with heap := r2.heap.push { cls := .type "dict", data := .dict #[] } } : Shared) = r3
  have J3 : L2.Inv X pins σ (upd G2 D (NObj X.prog X.w D [])) r3 := by
    rw [← hs3]
    refine J2.laid (t' := r2.toks) (fun b o e => Heap.get?_push_of_some _ e) (Nat.le_of_eq gD) ?_
    rw [← gD]
    exact nEmpty r2.heap
  have g3 : r3.heap = r2.heap.push { cls := .type "dict", data := .dict #[] } := by rw [← hs3]
  have szz : ∀ b ∈ fp, b < r2.heap.objs.size := fun b hb => by
    obtain ⟨o, e, _⟩ := T.obj _ _ u2 b hb
    exact Heap.lt_size e
  have k3 : ∀ b ∈ fp, FpOk X pins (upd G2 D (NObj X.prog X.w D [])) b ∧ b < r3.heap.objs.size := fun b hb => by
    have hlt := szz b hb
    refine ⟨⟨?_, (k2 b hb).2⟩, by rw [g3, Heap.size_push]; exact Nat.lt_succ_of_lt hlt⟩
    rw [upd_ne (by rw [← gD]; exact Nat.ne_of_lt hlt)]
    exact (k2 b hb).1
  have u3 : tn 0 r3.heap := T.keep _ _ _ u2 fun b _ o e => by rw [g3]; exact Heap.get?_push_of_some _ e
  have J4 := block_start J3 ok hN k3
  have qg := hg r3 (upd G2 D (NObj X.prog X.w D [])) r3.heap.objs.size (cellsFrom (r3.heap.objs.size + 1) scope.names (cloFrom X.env.cells scope.names [])) fp
  have qt := ht r3 (upd G2 D (NObj X.prog X.w D [])) r3.heap.objs.size (cellsFrom (r3.heap.objs.size + 1) scope.names (cloFrom X.env.cells scope.names [])) fp
  have qk := hk r3 (upd G2 D (NObj X.prog X.w D [])) r3.heap.objs.size (cellsFrom (r3.heap.objs.size + 1) scope.names (cloFrom X.env.cells scope.names [])) fp
  have qe := he r3 (upd G2 D (NObj X.prog X.w D [])) r3.heap.objs.size (cellsFrom (r3.heap.objs.size + 1) scope.names (cloFrom X.env.cells scope.names [])) fp
  show codeAny _ _ (.compStart (.DictComp kx vx [⟨tg, iter, ifs, 0⟩] scope pos) 0 (.ref itr) (.ref D) (compEnvC scope (cellsFrom (r3.heap.objs.size + 1) scope.names (cloFrom X.env.cells scope.names [])) r3.heap.objs.size X.env)) (compPost (model X.prog X.w) X.A X.xe use Qf (.ref D) r3.heap.objs.size) { r3 with heap := pushCells (r3.heap.push { cls := .type "dict", data := .dict #[] }) scope.names }
  have nqp : ∀ b ∈ fp, (upd G2 D (NObj X.prog X.w D [])) b = none := fun b hb => (k3 b hb).1.1
  generalize hce : compEnvC scope (cellsFrom (r3.heap.objs.size + 1) scope.names (cloFrom X.env.cells scope.names [])) r3.heap.objs.size X.env = cv at J4 qg qt qk qe ⊢
  have cM : cv.locals = r3.heap.objs.size := by subst hce; rfl
  generalize hH3 : upd G2 D (NObj X.prog X.w D []) = G3 at J3 J4 qg qt qk qe w0 nqp k3
  generalize hs4 : ({ r3 with heap := pushCells (r3.heap.push { cls := .type "dict", data := .dict #[] }) scope.names } : Shared) = r4 at J4 ⊢
  have u4 : tn 0 r4.heap := T.keep _ _ _ u3 fun b _ o e => by rw [← hs4]; exact pushCells_keeps _ _ _ _ (Heap.get?_push_of_some _ e)
  have stt : ∀ {σ' : L2.St} {H' : Hp} {s' : Shared}, L2.Inv (X.blk r3 G3 scope cv fp) [] σ' H' s' → (∀ b ∈ fp, H' b = none) → ∀ b ∈ fp, FpOk (X.blk r3 G3 scope cv fp) [] H' b := fun {σ' H' s'} I' hn b hb =>
    ⟨hn b hb, (I'.ok.exf b hb).1, I'.ok.exfs b hb, .inl hb, fun x c e => (I'.ok.exf b hb).2 x c e, fun p hp => absurd (show p ∈ ([] : List (Addr × Obj)) ++ [] from hp) (by simp)⟩
  have lup : codeAny (model X.prog X.w) X.A (.compLoop (.DictComp kx vx [⟨tg, iter, ifs, 0⟩] scope pos) 0 (.ref itr) (.ref D) cv) (compPost (model X.prog X.w) X.A X.xe use Qf (.ref D) r3.heap.objs.size) r4 := by
    refine compLoop_anyD (fun n s' => ∃ i H', L2.Inv (X.blk r3 G3 scope cv fp) [] (wipe σ (own.map (·.2))) H' s' ∧ tn i s'.heap ∧ (∀ b ∈ fp, H' b = none) ∧ W i n H') ?_ m0 ⟨0, G3, J4, u4, nqp, w0⟩
    rintro n r5 ⟨i, G5, J5, u5, m5, v5⟩
    rcases trn i n G5 v5 with ⟨stop, qq⟩ | ⟨go, Nx, hNx, step⟩
    · have tdn := T.done (X.blk r3 G3 scope cv fp) rfl rfl rfl hc i [] r5 _ G5 (fun _ _ => False) J5 (stt J5 m5) u5 stop
      refine thnF tdn fun r r6 ⟨hr, J6⟩ => ?_
      subst hr
      -- back in the def's context
      have J7 : L2.Inv X pins σ G5 r6 := J3.call' (ch := fp) J6.os J6.base J6.hok J6.bare fun b hb => ⟨(k3 b hb).1.2.2.2.1, (k3 b hb).1.2.1, (k3 b hb).1.2.2.2.2.1, (k3 b hb).1.2.2.2.2.2⟩
      have nK : G5 r3.heap.objs.size = none := by
        have z : G5 cv.locals = none := J6.free
        rw [cM] at z
        exact z
      obtain ⟨m, hn, _⟩ := J6.loc
      have hn : r6.heap.Ns cv.locals m := hn
      rw [cM] at hn
      exact hRR D r3.heap.objs.size r6 m G5 J7 qq hn (J3.fpOk (Nat.le_refl _) nK)
    · have tit := T.item (X.blk r3 G3 scope cv fp) rfl rfl rfl hc i [] r5 _ G5 (fun _ _ => False) J5 (stt J5 m5) u5 go
      refine thnF tit fun r r6 ⟨u, hr, g6⟩ => ?_
      subst hr
      refine thnF g6 fun _ r7 ⟨x, G7, J7, q7, z7, u7, m7⟩ => ?_
      have J7' := J7.pinned (stt J7 m7) (T.obj _ _ u7)
      refine thnF (qg.run _ r7 _ G7 x u _ J7' q7 (step x G7 z7)) fun _ r8 ⟨τ8, G8, J8, kw8, p8⟩ => ?_
      refine thnF (qt.run _ r8 τ8 G8 _ J8 p8) fun b r9 ⟨G9, J9, p9⟩ => ?_
      -- the turn's end
      have fnl : ∀ {s' : Shared} {H' : Hp}, L2.Inv (X.blk r3 G3 scope cv fp) ([] ++ pinsAt fp r7.heap) τ8 H' s' → Nx H' → ∃ m, m < n ∧ ∃ i H', L2.Inv (X.blk r3 G3 scope cv fp) [] (wipe σ (own.map (·.2))) H' s' ∧ tn i s'.heap ∧ (∀ b ∈ fp, H' b = none) ∧ W i m H' := fun {s' H'} I' nx => by
        obtain ⟨m', hm, w'⟩ := hNx H' nx
        have pin' : ∀ b ∈ fp, ∀ o, r7.heap.get? b = some o → s'.heap.get? b = some o ∧ H' b = none := fun b hb o e =>
          let z := I'.pin (b, o) (List.mem_append_right _ (List.mem_append_right _ (mem_pinsAt hb e)))
          ⟨z.1, z.2.1⟩
        have hl : (wipe σ (own.map (·.2))).length = τ8.length := by rw [← kw8, wipe_length]
        refine ⟨m', hm, i + 1, H', (I'.unpinned (pins := [])).weak hl (fun j v e => ?_), T.keep _ _ _ u7 fun b hb o e => (pin' b hb o e).1, fun b hb => ?_, w'⟩
        · rw [← kw8] at e
          exact (wipe_some e).1
        · obtain ⟨o, e, _⟩ := T.obj _ _ u7 b hb
          exact (pin' b hb o e).2
      cases b with
      | false =>
        simp only [Bool.false_eq_true, if_false] at p9 ⊢
        exact fnl J9 p9
      | true =>
        simp only [if_true] at p9 ⊢
        refine thnF (qk.run _ r9 τ8 G9 _ J9 p9) fun z r10a ⟨yk, G10, J10, rr10, p10⟩ => ?_
        refine thnF (qe.run _ r10a τ8 G10 _ J10 p10) fun z2 r11a ⟨yv, G11, J11, rr11, kvs, k, d, hD11, hz11, hk11, hy11, hv11, nx⟩ => ?_
        exact n_dictSet (X := X.blk r3 G3 scope cv fp) (hu := hu) J11 hD11 hk11 hy11 rr10 hv11 rr11 hz11 fun o s12 I12 isn => fnl I12 (nx o isn)
  exact codeAny_compStart_dict lup (T.self X.A 0 _ _ _ u4 lup)
/-- as a value -/
theorem pe_dcN {kx vx tg iter : Expr} {ifs : List Expr} {scope : Scope} {own : List (Str × Nat)} {pos : Pos} {wi : TI} {g : TG} {tt : TT} {tk tv : TE} (hu : X.A.units + 9 < cLine) (hc : X.calm = true) (hN : X.N.Nodup) (hi : PI X tg iter wi) (ok : BlkOk X.N X.env.scope scope own)
    (hg : ∀ (s : Shared) (H : Hp) (C : Addr) (cl : List (Str × Addr)) (fp : List Addr), PG (X.blk s H scope (compEnvC scope cl C X.env) fp) tg g) (ht : ∀ (s : Shared) (H : Hp) (C : Addr) (cl : List (Str × Addr)) (fp : List Addr), PTs (X.blk s H scope (compEnvC scope cl C X.env) fp) ifs tt)
    (hk : ∀ (s : Shared) (H : Hp) (C : Addr) (cl : List (Str × Addr)) (fp : List Addr), PE (X.blk s H scope (compEnvC scope cl C X.env) fp) kx tk)
    (he : ∀ (s : Shared) (H : Hp) (C : Addr) (cl : List (Str × Addr)) (fp : List Addr), PE (X.blk s H scope (compEnvC scope cl C X.env) fp) vx tv) (hs : ∀ x, foldedSetIterable iter X.env x = pure x := by intro _; rfl) :
    PE X (.DictComp kx vx [⟨tg, iter, ifs, 0⟩] scope pos) (tDcN X.prog X.w wi g tt tk tv (own.map (·.2))) := by
  refine ⟨fun pins s σ H Q I h => ?_⟩
  rw [arm_eval_DictComp]
  refine dcN_core hu hc hN I hi ok hg ht hk he hs h fun D C s' m H' I' q hn f => ⟨m, hn, fun h'' sb => ?_⟩
  obtain ⟨b0, b1, b2, b3, b4, b5⟩ := f
  exact ⟨.ref D, H', I'.turned (t' := s'.toks) (fun b o hb e => (sb.2 b hb).trans e) b0 b1 b3 b4 b5, rfl, q⟩
end
end Pq

namespace Pq
open PySem PySem.Spec L2
open PyProof.Rows hiding St
open Evl (Ex)

theorem Room.u9 {k : Nat} {A : Around} (hr : Room k A) : A.units + 9 < cLine := by
  have := hr.units
  omega
theorem is_n {P : Program} {w : World} {H H' : Hp} {t : Addr} {kvs : List (NestedKey × PyData)} (hn : H t = none) (h : IsN P w H' t kvs) : Is H H' (.o (SK.n P w kvs)) (.ref t) [t] :=
  ⟨⟨t, rfl, rfl, h⟩, fun a ha => by
    obtain rfl : a = t := by simpa using ha
    refine ⟨hn, fun vs z => ?_⟩
    obtain ⟨_, raw, q, _⟩ := h
    rw [q] at z
    cases z⟩
section
variable {X : Cx} {Φ : Lk} {δ : Slots} {E : En} {e a b c : Expr} {es : List Expr} {pos : Pos} {st : Stmt} {sts rest : List Stmt} {j : Nat}
theorem JE.go {k : Kd} (h : JE X Φ e δ k) {H0 : Hp} {σ : L2.St} {H1 : Hp} (sl : Sl H0 Φ H1 σ δ) {pins : List (Addr × Obj)} {s : Shared} (I : L2.Inv X pins σ H1 s) :
    wpAny (model X.prog X.w) X.A (eval e X.env) (fun u s' => ∃ v H2 F, L2.Inv X pins σ H2 s' ∧ RelV v u ∧ Ex H1 H2 ∧ Is H1 H2 k v F) X.xe s :=
  thn (h H0 σ H1 sl (fun v H2 => ∃ F, Ex H1 H2 ∧ Is H1 H2 k v F) (fun v H2 F e1 i1 => ⟨F, e1, i1⟩) pins s I) fun u s1 ⟨v, H2, I2, r2, F, e1, i1⟩ => ⟨v, H2, F, I2, r2, e1, i1⟩
theorem JR.go {S : SK} (h : JR X Φ e δ S) {H0 : Hp} {σ : L2.St} {H1 : Hp} (sl : Sl H0 Φ H1 σ δ) {pins : List (Addr × Obj)} {s : Shared} (I : L2.Inv X pins σ H1 s) :
    wpAny (model X.prog X.w) X.A (eval e X.env) (fun u s' => ∃ v H2 G, L2.Inv X pins σ H2 s' ∧ RelV v u ∧ Ex H1 H2 ∧ S.is H2 v G) X.xe s :=
  thn (h H0 σ H1 sl (fun v H2 => ∃ F, Ex H1 H2 ∧ S.is H2 v F) (fun v H2 F e1 i1 => ⟨F, e1, i1⟩) pins s I) fun u s1 ⟨v, H2, I2, r2, F, e1, i1⟩ => ⟨v, H2, F, I2, r2, e1, i1⟩
theorem ref_of {p : Addr} {u : Value} (r : RelV (.ref p) u) : u = .ref p := r
/-- x in d -/
theorem jc_inN {P : Program} {w : World} {kvs : List (NestedKey × PyData)} {k : NestedKey} (hr : Room j X.A) (ha : JE X Φ a δ (.d k.data)) (hb : JR X Φ b δ (SK.nr P w kvs)) (hk : AskKey k) (hP : P = X.prog := by rfl) (hw : w = X.w := by rfl) : JC X Φ .In a b δ (lookN kvs k).isSome := fun H0 σ H1 sl Q q => by
  subst hP hw
  intro pins s I
  refine thn (ha.go sl I) fun v s1 ⟨x, H2, F, I2, r2, e1, i1⟩ => ?_
  refine thn (hb.go (sl.mono e1) I2) fun u s2 ⟨y, H3, G, I3, r3, e2, i2⟩ => ?_
  obtain ⟨p, rfl, _, hd⟩ := i2
  rw [ref_of r3]
  exact n_in (Room.u9 hr) I3 hd hk (i1.2.ex (.of e2)) r2 fun s' I' => ⟨.bl _, H3, I', rfl, q H3 (e1.trans e2)⟩
theorem jc_notInN {P : Program} {w : World} {kvs : List (NestedKey × PyData)} {k : NestedKey} (hr : Room j X.A) (ha : JE X Φ a δ (.d k.data)) (hb : JR X Φ b δ (SK.nr P w kvs)) (hk : AskKey k) (hP : P = X.prog := by rfl) (hw : w = X.w := by rfl) : JC X Φ .NotIn a b δ (!(lookN kvs k).isSome) := fun H0 σ H1 sl Q q => by
  subst hP hw
  intro pins s I
  refine thn (ha.go sl I) fun v s1 ⟨x, H2, F, I2, r2, e1, i1⟩ => ?_
  refine thn (hb.go (sl.mono e1) I2) fun u s2 ⟨y, H3, G, I3, r3, e2, i2⟩ => ?_
  obtain ⟨p, rfl, _, hd⟩ := i2
  rw [ref_of r3]
  exact n_notIn (Room.u9 hr) I3 hd hk (i1.2.ex (.of e2)) r2 fun s' I' => ⟨.bl _, H3, I', rfl, q H3 (e1.trans e2)⟩
theorem rdN_type {pins : List (Addr × Obj)} {σ : L2.St} {H : Hp} {s : Shared} {p : Addr} {kvs : List (NestedKey × PyData)} (I : L2.Inv X pins σ H s) (h : RdN X.prog X.w H p kvs) : s.TypeIs (.ref p) "dict" := by
  obtain ⟨_, raw, rd, rk⟩ := h
  obtain ⟨xs, rx, hm⟩ := RdN.at_ I rd rk
  exact hm.typeIs
/-- d[k], there -/
theorem je_getN {P : Program} {w : World} {kvs : List (NestedKey × PyData)} {k : NestedKey} {d : PyData} (hr : Room j X.A) (ha : JR X Φ a δ (SK.nr P w kvs)) (hb : JE X Φ b δ (.d k.data)) (hk : TupKey k) (l : lookN kvs k = some d) (hs : NoSl b := by exact fun _ _ => rfl) (hP : P = X.prog := by rfl) (hw : w = X.w := by rfl) : JE X Φ (.Subscript a b pos) δ (.d d) := fun H0 σ H1 sl Q q => by
  subst hP hw
  intro pins s I
  refine subD_of PySem.F.slot_dict_getitem.lookup hs (thn (ha.go sl I) fun u s1 ⟨x, H2, G, I2, r2, e1, i1⟩ => thn (hb.go (sl.mono e1) I2) fun iv s2 ⟨y, H3, F, I3, r3, e2, i2⟩ => ?_)
  obtain ⟨p, rfl, rfl, hd⟩ := (SK.nr X.prog X.w kvs).ex i1 e2
  rw [ref_of r2]
  exact ⟨rdN_type I3 hd, n_get (Room.u9 hr) I3 hd hk i2.2 r3 l fun v w' s' I' dv rv => ⟨v, H3, I', rv, q v H3 [] (e1.trans e2) ⟨rfl, dv⟩⟩⟩
/-- a change of the own object of a slot -/
theorem slUpdN {H0 H : Hp} {σ : L2.St} (sl : Sl H0 Φ H σ δ) {i0 : Nat} {S : SK} (hk : δ[i0]? = some (some (.o S))) {p : Addr} {o : HO} {T : SK} (hv : ∀ v F, σ[i0]? = some (some v) → S.is H v F → v = .ref p ∧ F = [p])
    (hT : T.is (upd H p o) (.ref p) [p]) (nt : ∀ vs, o ≠ .tup vs) : Sl H0 Φ (upd H p o) σ (δ.set i0 (some (.o T))) :=
  sl.upd hk fun v F hs is h0 => by
    obtain ⟨rfl, rfl⟩ := hv v F hs is.1
    refine ⟨fun a u na z => by rw [upd_ne (fun y => na (by rw [y]; exact List.mem_cons_self))]; exact z, [p], ⟨hT, fun a ha => ?_⟩, fun a ha => .inl ha⟩
    obtain rfl : a = p := by simpa using ha
    exact ⟨h0 _ List.mem_cons_self, fun vs z => by rw [upd_same] at z; cases z; exact nt vs rfl⟩
/-- x[k] = v, x an own dict's name -/
theorem jp_putN {i0 : Nat} {x : Str} {p1 p2 : Pos} {kvs : List (NestedKey × PyData)} {k : NestedKey} {d : PyData} {P : Program} {w : World} (hr : Room j X.A) (hk0 : δ[i0]? = some (some (.o (SK.n P w kvs)))) (hv : JE X Φ e δ (.d d)) (hb : JE X Φ b δ (.d k.data)) (hk : TupKey k) (hz : kvs.length ≤ 1000000) (hn : E.nx (δ.set i0 (some (.o (SK.n P w (putN kvs k d))))))
    (hN : X.N[i0]? = some x := by rfl) (hvis : Vis X.env.scope x := by first | exact Or.inl rfl | exact Or.inr (Or.inl rfl) | exact Or.inr (Or.inr rfl)) (h1 : (x == ("__debug__" : Str)) = false := by decide) (h2 : (x == ("__classdict__" : Str)) = false := by decide)
    (hs : swapsWith e (some (.Subscript (.Name x p1) b p2)) pos.line X.env = pure false := by rfl) (hP : P = X.prog := by rfl) (hw : w = X.w := by rfl) : JP X Φ (.Assign [.Subscript (.Name x p1) b p2] e pos) δ E := fun H0 σ H1 D sl g => by
  subst hP hw
  intro pins s I
  refine wpAny_Assign_Subscript (thn (hv.go sl I) fun r s1 ⟨v, H2, F, I2, rv, e1, i1⟩ => ?_) hs
  obtain ⟨Fs, f⟩ := (sl.mono e1).at_
  obtain ⟨o, hso, hio⟩ := f.some_ i0 _ hk0
  refine thn ((pe_var hN hvis h1 h2).run pins s1 σ H2 (fun v H => v = o ∧ H = H2) I2 ⟨o, hso, rfl, rfl⟩) fun u s2 ⟨v2, H2', I3, r3, e3, e4⟩ => ?_
  subst e3 e4
  refine thn (hb.go (sl.mono e1) I3) fun iv s3 ⟨y, H4, G, I4, r4, e5, i4⟩ => ?_
  obtain ⟨⟨p, rfl, eF, hd⟩, nw⟩ := hio.ex e5
  rw [ref_of r3]
  refine n_set (Room.u9 hr) I4 hd hk i4.2 r4 (i1.2.ex (.of e5)) rv (by rw [sizeLine_eq]; omega) fun ob s' I' isn => ?_
  have hob : ∀ vs, ob ≠ .tup vs := fun vs z => by
    obtain ⟨_, raw, q, _⟩ := isn
    rw [upd_same, z] at q
    cases q
  refine ⟨σ, _, I', g.nx _ _ _ (slUpdN (sl.mono (e1.trans e5)) hk0 (p := p) (T := SK.n X.prog X.w (putN kvs k d)) (fun v F hs' is => ?_) ⟨p, rfl, rfl, isn⟩ hob) hn⟩
  rw [hso] at hs'
  cases hs'
  obtain ⟨p', z1, z2, _⟩ := is
  cases z1
  exact ⟨rfl, z2⟩
/-- del x[k] -/
theorem jp_delN {i0 : Nat} {x : Str} {p1 p2 : Pos} {kvs : List (NestedKey × PyData)} {k : NestedKey} {d : PyData} {P : Program} {w : World} (hr : Room j X.A) (hk0 : δ[i0]? = some (some (.o (SK.n P w kvs)))) (hb : JE X Φ b δ (.d k.data)) (hk : TupKey k) (l : lookN kvs k = some d) (hz : kvs.length ≤ 1000000) (hn : E.nx (δ.set i0 (some (.o (SK.n P w (dropN kvs k))))))
    (hN : X.N[i0]? = some x := by rfl) (hvis : Vis X.env.scope x := by first | exact Or.inl rfl | exact Or.inr (Or.inl rfl) | exact Or.inr (Or.inr rfl)) (h1 : (x == ("__debug__" : Str)) = false := by decide) (h2 : (x == ("__classdict__" : Str)) = false := by decide)
    (hP : P = X.prog := by rfl) (hw : w = X.w := by rfl) : JP X Φ (.Delete [.Subscript (.Name x p1) b p2] pos) δ E := fun H0 σ H1 D sl g => by
  subst hP hw
  intro pins s I
  obtain ⟨Fs, f⟩ := sl.at_
  obtain ⟨o, hso, hio⟩ := f.some_ i0 _ hk0
  refine wpAny_Delete (wpAny_deleteEach_cons (wpAny_delete_Subscript (thn ((pe_var hN hvis h1 h2).run pins s σ H1 (fun v H => v = o ∧ H = H1) I ⟨o, hso, rfl, rfl⟩) fun u s2 ⟨v2, H2', I3, r3, e3, e4⟩ => ?_)))
  subst e3 e4
  refine thn (hb.go sl I3) fun iv s3 ⟨y, H4, G, I4, r4, e5, i4⟩ => ?_
  obtain ⟨⟨p, rfl, eF, hd⟩, nw⟩ := hio.ex e5
  rw [ref_of r3]
  refine n_del (Room.u9 hr) I4 hd hk i4.2 r4 l (by rw [sizeLine_eq]; omega) fun ob s' I' isn => wpAny_deleteEach_nil ?_
  have hob : ∀ vs, ob ≠ .tup vs := fun vs z => by
    obtain ⟨_, raw, q, _⟩ := isn
    rw [upd_same, z] at q
    cases q
  refine ⟨σ, _, I', g.nx _ _ _ (slUpdN (sl.mono e5) hk0 (p := p) (T := SK.n X.prog X.w (dropN kvs k)) (fun v F hs' is => ?_) ⟨p, rfl, rfl, isn⟩ hob) hn⟩
  rw [hso] at hs'
  cases hs'
  obtain ⟨p', z1, z2, _⟩ := is
  cases z1
  exact ⟨rfl, z2⟩
/-- x.pop(k) as a statement -/
theorem jp_popN {i0 : Nat} {x : Str} {p1 apos cpos : Pos} {kvs : List (NestedKey × PyData)} {k : NestedKey} {d : PyData} {P : Program} {w : World} (hr : Room j X.A) (hk0 : δ[i0]? = some (some (.o (SK.n P w kvs)))) (hb : JE X Φ b δ (.d k.data)) (hk : TupKey k) (l : lookN kvs k = some d) (hz : kvs.length ≤ 1000000) (hn : E.nx (δ.set i0 (some (.o (SK.n P w (dropN kvs k))))))
    (m : M1 X (.Name x p1) "pop" apos b cpos := by exact ⟨rfl, rfl, rfl, rfl⟩) (hN : X.N[i0]? = some x := by rfl) (hvis : Vis X.env.scope x := by first | exact Or.inl rfl | exact Or.inr (Or.inl rfl) | exact Or.inr (Or.inr rfl)) (h1 : (x == ("__debug__" : Str)) = false := by decide) (h2 : (x == ("__classdict__" : Str)) = false := by decide)
    (hs : swapsWith (.Call (.Attribute (.Name x p1) "pop" apos) [b] [] cpos) none pos.line X.env = pure false := by rfl) (hP : P = X.prog := by rfl) (hw : w = X.w := by rfl) : JP X Φ (.Expr (.Call (.Attribute (.Name x p1) "pop" apos) [b] [] cpos) pos) δ E := fun H0 σ H1 D sl g => by
  subst hP hw
  refine s_of (ps_expr (te := fun σ' H' Q => σ' = σ ∧ H' = H1 ∧ ∀ v H2, D.nx σ H2 → Q v H2) ⟨fun pins s σ' H' Q I ⟨eσ, eH, q⟩ => ?_⟩ hs) ⟨rfl, rfl, fun v H2 z => z⟩
  subst eσ eH
  obtain ⟨Fs, f⟩ := sl.at_
  obtain ⟨o, hso, hio⟩ := f.some_ i0 _ hk0
  refine wpAny_Call_method m.base m.few m.line PySem.F.plainAttrs_dict PySem.F.slot_dict_pop PySem.F.type_dict_pop (thn ((pe_var hN hvis h1 h2).run pins s _ _ (fun v H => v = o ∧ H = H') I ⟨o, hso, rfl, rfl⟩) fun u s2 ⟨v2, H2', I3, r3, e3, e4⟩ => ?_)
  subst e3 e4
  obtain ⟨⟨p, rfl, eF, hd0⟩, nw⟩ := id hio
  rw [ref_of r3]
  obtain ⟨_, raw0, rd0, rk0⟩ := id hd0
  obtain ⟨xs0, rx0, hm0⟩ := RdN.at_ I3 (.inl rd0) rk0
  obtain ⟨ob0, es0, ep0, ho0, hx0, _⟩ := id hm0
  refine ⟨hm0.typeIs, fun a' e' => by cases e'; exact ⟨ob0, ho0, hx0.2.1⟩, ?_⟩
  rw [m.trees]
  refine Calls.callWith_builtin rfl (Calls.evalArgs_plain (Calls.spliced_cons (thn (hb.go sl I3) fun iv s3 ⟨y, H4, G, I4, r4, e5, i4⟩ => Calls.spliced_nil ?_)))
  have hd := hd0.ex (.of e5) (by obtain ⟨_, raw, z, _⟩ := hd0; rw [z, e5 _ _ z])
  refine n_pop (Room.u9 hr) I4 hd hk i4.2 r4 l (by rw [sizeLine_eq]; omega) fun ob v w' s' I' isn dv rv => ?_
  have hob : ∀ vs, ob ≠ .tup vs := fun vs z => by
    obtain ⟨_, raw, q, _⟩ := isn
    rw [upd_same, z] at q
    cases q
  refine ⟨v, _, I', rv, q _ _ (g.nx _ _ _ (slUpdN (sl.mono e5) hk0 (p := p) (T := SK.n X.prog X.w (dropN kvs k)) (fun v F hs' is => ?_) ⟨p, rfl, rfl, isn⟩ hob) hn)⟩
  rw [hso] at hs'
  cases hs'
  obtain ⟨p', z1, z2, _⟩ := is
  cases z1
  exact ⟨rfl, z2⟩
/-- {}, to be a dict with nested keys -/
theorem je_newN {P : Program} {w : World} (hP : P = X.prog := by rfl) (hw : w = X.w := by rfl) : JE X Φ (.Dict [] [] pos) δ (.o (SK.n P w [])) := fun H0 σ H1 sl Q q => by
  subst hP hw
  intro pins s I
  have hb := I.big
  have hs : (s.heap.objs.size == sysModules) = false := beq_false_of_ne (Nat.ne_of_gt hb)
  have hn : H1 s.heap.objs.size = none := I.hok.fresh (Nat.le_refl _)
  exact wpAny_Dict_empty ⟨.ref s.heap.objs.size, _, n_new (h' := s.heap) (t' := s.toks) I hs, rfl, q _ _ [s.heap.objs.size] (Evl.Ex.new hn) (is_n hn ⟨hs, [], upd_same, .nil⟩)⟩
/-- len(d) -/
theorem call_lenN {kvs : List (NestedKey × PyData)} : CallR X (.builtin "len") (fun xs H Q => ∃ p, xs = [.ref p] ∧ RdN X.prog X.w H p kvs ∧ kvs.length ≤ sizeLine ∧ Q (.int kvs.length) H) := by
  intro pins s σ H xs us Q I r h
  obtain ⟨p, rfl, hd, hz, q⟩ := h
  obtain ⟨u, rfl, rx⟩ := vals1 r
  rw [ref_of rx]
  exact n_len I hd hz fun t s' I' => ⟨.int _, H, I', ⟨t, rfl⟩, q⟩
theorem je_lenN {P : Program} {w : World} {kvs : List (NestedKey × PyData)} {p : Pos} (hm : X.mg "len" = none) (ha : JR X Φ a δ (SK.nr P w kvs)) (hz : kvs.length ≤ 1000000) (hg : Gl X "len" := by rfl) (hs : NS a := by exact fun _ _ => rfl) (hP : P = X.prog := by rfl) (hw : w = X.w := by rfl) : JE X Φ (.Call (.Name "len" p) [a] [] pos) δ (.d (.int (kvs.length : Nat))) := by
  subst hP hw
  exact je_callR (call_lenN (kvs := kvs)) hm PySem.boot_len ha (fun H v G Q is q => by
    obtain ⟨p, rfl, _, hd⟩ := is
    exact ⟨p, rfl, hd, by rw [sizeLine_eq]; omega, q _ H [] (Evl.Ex.refl H) ⟨rfl, .int _⟩⟩) liftd hg (hs := hs)
end
end Pq

namespace Pq
open PySem PySem.Spec L2
open PyProof.Rows hiding St
open Evl (Ex)

theorem ref_rel (p : Addr) : RelV (.ref p) (.ref p) := rfl
theorem vals_refsN : ∀ raw : Raw, Vals (raw.map fun q => V.ref q.2.1) (raw.map fun q => Value.ref q.2.1)
  | [] => .nil
  | _ :: r => .cons rfl (vals_refsN r)
theorem RK.keyD {H : Hp} : ∀ {raw : Raw} {kvs : List (NestedKey × PyData)}, RK H raw kvs → DtAll H (raw.map fun q => V.ref q.2.1) (kvs.map fun q => q.1.data)
  | _, _, .nil => .nil
  | _, _, .cons r t => .cons (by dsimp only; rw [← r.1]; exact r.2.2.1) (RK.keyD t)
/-! ### list(d.items()) -/
def putL : Hp → List Addr → List (List V) → Hp
  | H, a :: as, p :: kvs => putL (upd H a (.tup p)) as kvs
  | H, _, _ => H
theorem putL_off {b : Addr} : ∀ (as : List Addr) (vss : List (List V)) (H : Hp), b ∉ as → putL H as vss b = H b
  | [], _, _, _ => by unfold putL; rfl
  | _ :: _, [], _, _ => by unfold putL; rfl
  | a :: as, p :: vss, H, h => by
    show putL (upd H a (.tup p)) as vss b = H b
    rw [putL_off as vss _ (fun z => h (List.mem_cons_of_mem _ z)), upd_ne (fun z => h (by rw [z]; exact List.mem_cons_self))]
theorem putL_at : ∀ (as : List Addr) (vss : List (List V)) (H : Hp), as.length = vss.length → as.Nodup → ∀ (j : Nat) (a : Addr) (p : List V), as[j]? = some a → vss[j]? = some p → putL H as vss a = some (.tup p)
  | [], [], _, _, _, _, _, _, h, _ => by cases h
  | [], _ :: _, _, h, _, _, _, _, _, _ => by cases h
  | _ :: _, [], _, h, _, _, _, _, _, _ => by cases h
  | a :: as, p :: vss, H, h, hn, j, b, q, hb, hq => by
    have hn' := List.nodup_cons.mp hn
    cases j with
    | zero =>
      cases hb
      cases hq
      show putL (upd H a (.tup p)) as vss a = some (.tup p)
      rw [putL_off as vss _ hn'.1, upd_same]
    | succ j => exact putL_at as vss (upd H a (.tup p)) (Nat.succ.inj h) hn'.2 j b q (by simpa using hb) (by simpa using hq)
/-- the pair of an entry, as values -/
def pairV (q : NestedKey × Addr × V) : List V := [.ref q.2.1, q.2.2]
section
variable {X : Cx} {pins : List (Addr × Obj)} {σ : L2.St} {H : Hp} {s : Shared}
theorem laidN {raw : Raw} {kvs : List (NestedKey × PyData)} {h' : Heap} {tk : Nat} {es : Array DictEntry} {acc : Array Value} {c : Nat} {as : List Addr} (I : L2.Inv X pins σ H s) (hz : raw.length ≤ sizeLine) (rk : RK H raw kvs) (hen : ∀ (i : Nat) (q : NestedKey × Addr × V), raw[i]? = some q → ∃ en : DictEntry, es[i]? = some en ∧ en.key = .ref q.2.1 ∧ RelV q.2.2 en.val)
    (hk : ∀ b o, s.heap.get? b = some o → h'.get? b = some o) (hS : h'.get? s.heap.objs.size = some { cls := .type "list", dict := none, data := .seq acc c, slots := #[] }) (hl : as.length = raw.length) (hG : PySem.W.DilG es s.heap.objs.size h' as) (hacc : acc.toList = as.map Value.ref) :
    ∃ H' : Hp, Ex H H' ∧ H s.heap.objs.size = none ∧ H' s.heap.objs.size = some (.lst (as.map V.ref)) ∧ DtAll H' (as.map V.ref) (kvs.map fun p => .tuple [p.1.data, p.2]) ∧ L2.Inv X pins σ H' { s with heap := h', toks := tk } := by
  have hSn : s.heap.objs.size ∉ as := fun z => Nat.lt_irrefl _ (hG.above _ z)
  have nd : as.Nodup := List.Pairwise.imp (fun {a b} (h : a < b) => Nat.ne_of_lt h) hG.rise
  have new : ∀ t ∈ as, H t = none := fun t ht => I.hok.fresh (Nat.le_of_lt (hG.above t ht))
  have newS : H s.heap.objs.size = none := I.hok.fresh (Nat.le_refl _)
  have hlv : as.length = (raw.map pairV).length := by rw [List.length_map]; exact hl
  generalize hH' : putL (upd H s.heap.objs.size (.lst (as.map V.ref))) as (raw.map pairV) = H'
  have atP : ∀ (j : Nat) (a : Addr) (q : NestedKey × Addr × V), as[j]? = some a → raw[j]? = some q → H' a = some (.tup (pairV q)) := fun j a q h1 h2 => by
    rw [← hH']
    exact putL_at as (raw.map pairV) _ hlv nd j a (pairV q) h1 (by rw [List.getElem?_map, h2]; rfl)
  have off : ∀ b, b ∉ as → b ≠ s.heap.objs.size → H' b = H b := fun b h1 h2 => by rw [← hH', putL_off as _ _ h1, upd_ne h2]
  have kp : Ex H H' := fun b u e => by
    rw [off b (fun z => by rw [new b z] at e; cases e) (fun z => by rw [z, newS] at e; cases e)]
    exact e
  have eS : H' s.heap.objs.size = some (.lst (as.map V.ref)) := by rw [← hH', putL_off as _ _ hSn, upd_same]
  refine ⟨H', kp, newS, eS, ?_, ?_⟩
  · -- what the pairs stand for
    have key : ∀ (n : Nat) (as' : List Addr) (raw' : Raw) (kvs' : List (NestedKey × PyData)), as' = as.drop n → raw' = raw.drop n → as'.length = raw'.length → RK H raw' kvs' → DtAll H' (as'.map V.ref) (kvs'.map fun p => .tuple [p.1.data, p.2]) := by
      intro n as' raw' kvs' e1 e2 el rk'
      induction rk' generalizing n as' with
      | nil =>
        have : as' = [] := List.length_eq_zero_iff.mp el
        rw [this]
        exact .nil
      | @cons q p l1 l2 r t ih =>
        cases as' with
        | nil => cases el
        | cons a as' =>
          have g1 : as[n]? = some a := by
            have z := congrArg (·[0]?) e1
            simp only [List.getElem?_drop, List.getElem?_cons_zero] at z
            simpa using z.symm
          have g2 : raw[n]? = some q := by
            have z := congrArg (·[0]?) e2
            simp only [List.getElem?_drop, List.getElem?_cons_zero] at z
            simpa using z.symm
          have d1 : as' = as.drop (n + 1) := by
            have z := congrArg List.tail e1
            simpa using z
          have d2 : l1 = raw.drop (n + 1) := by
            have z := congrArg List.tail e2
            simpa using z
          refine .cons (.tup (atP n a q g1 g2) (.cons ?_ (.cons (r.2.2.2.ex (.of kp)) .nil))) (ih (n + 1) as' d1 d2 (by simpa using el))
          rw [← r.1]
          exact r.2.2.1.ex (.of kp)
    exact key 0 as raw kvs rfl rfl hl rk
  · refine I.call' (ch := []) rfl ⟨fun b o q _ _ _ => hk b o q, fun b o q _ _ _ => ⟨o.slots, hk b o q⟩, fun b o q n _ => ?_, fun b o q _ => ⟨o, hk b o q⟩, fun b xs q => kp b _ q, fun b o u q => kp b _ q, fun b ps q => ⟨#[], by rw [kp b _ q]; simp⟩⟩ (fun b u q => ?_) I.bare fun b z => by simp at z
    · rw [off b (fun z => absurd (Heap.lt_size q) (Nat.not_lt.mpr (Nat.le_of_lt (hG.above b z)))) (Nat.ne_of_lt (Heap.lt_size q))]
      exact n
    · by_cases hb : b ∈ as
      · obtain ⟨j, hj⟩ := List.mem_iff_getElem?.mp hb
        have jl : j < raw.length := by rw [← hl]; exact (List.getElem?_eq_some_iff.mp hj).1
        have hq := List.getElem?_eq_getElem jl
        rw [atP j b _ hj hq] at q
        cases q
        obtain ⟨hjs, f3⟩ := hG.pairs j b hj
        obtain ⟨en, g1, g2, g3⟩ := hen j _ hq
        have ge : es[j] = en := by
          rw [Array.getElem?_eq_getElem hjs] at g1
          exact Option.some.inj g1
        rw [ge] at f3
        exact ⟨by show 2 ≤ sizeLine; decide, [en.key, en.val], .cons (by rw [g2]; rfl) (.cons g3 .nil), ⟨_, f3, rfl, _, rfl⟩⟩
      · by_cases hb2 : b = s.heap.objs.size
        · rw [hb2] at q ⊢
          rw [eS] at q
          cases q
          refine ⟨by rw [List.length_map]; omega, acc.toList, c, by rw [hacc]; exact LiI.vals_refs as, ?_⟩
          rw [Array.toArray_toList]
          exact hS
        · rw [off b hb hb2] at q
          exact (I.hok b u q).stay (fun d v _ y => hk d v y) (fun d y => kp d _ y) fun d xs y => kp d _ y
theorem entriesN {raw : Raw} {d : Addr} (I : L2.Inv X pins σ H s) (h : Rd H d (NObj X.prog X.w d raw)) : ∃ es ep, s.heap.DictRaw d es ep ∧ es.size = raw.length ∧ ∀ (i : Nat) (q : NestedKey × Addr × V), raw[i]? = some q → ∃ en : DictEntry, es[i]? = some en ∧ en.key = .ref q.2.1 ∧ RelV q.2.2 en.val := by
  obtain ⟨xs, rx, o, es, ep, ho, hx, hdt, he, _⟩ := RdN.phi I h
  refine ⟨es, ep, ⟨o, ho, hx, hdt⟩, ?_, fun i q e => ?_⟩
  · rw [size_of_entries he, ← rx.len]
  · obtain ⟨b, hb, e1, e2, e3⟩ := L2.paired_get rx e
    have z := entry_at he i
    rw [hb] at z
    exact ⟨_, z, by rw [e2]; rfl, e3⟩
end
section
variable {X : Cx} {Φ : Lk} {δ : Slots} {E : En} {e a b c : Expr} {es : List Expr} {pos : Pos} {st : Stmt} {sts rest : List Stmt} {j : Nat}
theorem je_listItems {P : Program} {w : World} {kvs : List (NestedKey × PyData)} {p apos cpos : Pos} (hm : X.mg "list" = none) (ha : JR X Φ e δ (SK.nr P w kvs)) (hz : kvs.length ≤ 1000000) (hg : Gl X "list" := by rfl) (hc : X.calm = true := by rfl) (hbase : attributeBase e "items" X.env (eval e X.env) = eval e X.env := by rfl) (hline : (apos.endLine == cpos.line) = true := by rfl)
    (hs : starEach [.Call (.Attribute e "items" apos) [] [] cpos] X.env = (false, eval (.Call (.Attribute e "items" apos) [] [] cpos) X.env) :: starEach [] X.env := by rfl) (hP : P = X.prog := by rfl) (hw : w = X.w := by rfl) :
    JE X Φ (.Call (.Name "list" p) [.Call (.Attribute e "items" apos) [] [] cpos] [] pos) δ (.o (SK.l (kvs.map fun p => .tuple [p.1.data, p.2]))) := fun H0 σ H1 sl Q q => by
  subst hP hw
  intro pins s I
  refine wpAny_Call_Name_kw (ld_blt I hg hm (by decide +kernel : bootBuiltins "list" = some (.type "list")) ?_)
  refine PyProof.Rows.callWith_type1 ?_ hs rfl
  rw [hs]
  show wpAny _ _ (spliced ((false, eval (.Call (.Attribute e "items" apos) [] [] cpos) X.env) :: backTo pos (starEach [] X.env))) _ _ s
  refine Calls.spliced_cons ?_
  refine wpAny_Call_method (T := "dict") (id := "dict.items") hbase rfl hline F.plainAttrs_dict F.slot_dict_items F.type_dict_items (thn (ha.go sl I) fun u s1 ⟨x, H2, G, I1, rx, e1, i1⟩ => ?_)
  obtain ⟨d, rfl, _, hsys, raw, rd, rk⟩ := i1
  rw [ref_of rx]
  obtain ⟨es, ep, hraw, hsz, hen⟩ := entriesN I1 rd
  have I2 : L2.Inv X pins σ H2 { s1 with heap := s1.heap.push { cls := .type "dict_items", data := .fields #[.ref d] } } := I1.kept (t' := s1.toks) fun b ob q => Heap.get?_push_of_some _ q
  obtain ⟨od, hod, hxd, hdd⟩ := id hraw
  refine ⟨hraw.typeIs, fun a' e' => by cases e'; exact ⟨od, hod, hxd.2.1⟩, ?_⟩
  show wpAny _ _ (callWith cpos (.builtin "dict.items") [.ref d] [] []) _ X.xe s1
  refine method_meetsIn F.slot_dict_items F.entry_dict_items rfl (PySem.evalArgs_none ⟨rfl, hraw.typeIs, F.args_dict_items_1 _, _, meets_dict_items_raw d hsys, ⟨es, ep, hraw⟩, ?_⟩)
  refine Calls.spliced_nil ?_
  have lk := rk.len
  refine PySem.W.dil_call (es := es) (ep := ep) (I1.ok.hd hc) ⟨_, Heap.get?_push_size _ rfl, rfl, rfl⟩ (hraw.at fun o e => Heap.get?_push_of_some _ e) (by rw [hsz, sizeLine_eq]; omega) fun h' tk acc c as hk hS hl hG hacc => ?_
  obtain ⟨H', k1, k2, k3, k4, J⟩ := laidN (tk := tk) I2 (by rw [sizeLine_eq]; omega) rk hen hk hS (by rw [hl, hsz]) hG hacc
  exact ⟨_, H', J, ref_rel _, q _ H' _ (e1.trans k1) (is_l (Evl.fresh_back e1 k2) k3 k4)⟩
/-- list(d) -/
theorem call_listN {kvs : List (NestedKey × PyData)} (hc : X.calm = true) : CallR X (.type "list") (fun xs H Q => ∃ p, xs = [.ref p] ∧ RdN X.prog X.w H p kvs ∧ kvs.length ≤ sizeLine ∧ ∀ l vs, H l = none → DtAll H vs (kvs.map fun q => q.1.data) → Q (.ref l) (upd H l (.lst vs))) := by
  intro pins s σ H xs us Q I r h
  obtain ⟨p, rfl, hd, hz, q⟩ := h
  obtain ⟨u, rfl, rx⟩ := vals1 r
  rw [ref_of rx]
  obtain ⟨hsys, raw, rd, rk⟩ := hd
  obtain ⟨es, ep, hraw, hsz, hen⟩ := entriesN I rd
  have lk := rk.len
  refine PySem.W.kdl_call (KdlSrc.rawDict hsys) (I.ok.hd hc) hraw (by rw [hsz]; omega) fun h' tk acc c hk hS hit => ?_
  have hn : H s.heap.objs.size = none := I.hok.fresh (Nat.le_refl _)
  have eacc : acc.toList = raw.map fun q => Value.ref q.2.1 := by
    apply List.ext_getElem?
    intro i
    rw [Array.getElem?_toList, List.getElem?_map]
    by_cases hi : i < raw.length
    · have hq := List.getElem?_eq_getElem hi
      obtain ⟨en, g1, g2, _⟩ := hen i _ hq
      have ha : i < acc.size := by rw [hit.1, hsz]; exact hi
      obtain ⟨hie, ge⟩ := hit.2 i _ (Array.getElem?_eq_getElem ha)
      rw [Array.getElem?_eq_getElem ha, ge, hq]
      rw [Array.getElem?_eq_getElem hie] at g1
      rw [Option.some.inj g1, g2]
      rfl
    · rw [List.getElem?_eq_none (by omega), Array.getElem?_eq_none (by rw [hit.1, hsz]; omega)]
      rfl
  have hv : Vals (raw.map fun q => V.ref q.2.1) acc.toList := by
    rw [eacc]
    exact vals_refsN raw
  have hd : DtAll H (raw.map fun q => V.ref q.2.1) (kvs.map fun q => q.1.data) := by
    exact rk.keyD
  refine ⟨.ref s.heap.objs.size, _, I.laid (a := s.heap.objs.size) (o := .lst (raw.map fun q => V.ref q.2.1)) hk (Nat.le_refl _) ⟨by rw [List.length_map]; omega, acc.toList, c, hv, ?_⟩, rfl, q _ _ hn hd⟩
  rw [Array.toArray_toList]
  exact hS
theorem je_listN {P : Program} {w : World} {kvs : List (NestedKey × PyData)} {p : Pos} (hm : X.mg "list" = none) (ha : JR X Φ a δ (SK.nr P w kvs)) (hz : kvs.length ≤ 1000000) (hc : X.calm = true := by rfl) (hg : Gl X "list" := by rfl) (hs : NS a := by exact fun _ _ => rfl) (hP : P = X.prog := by rfl) (hw : w = X.w := by rfl) : JE X Φ (.Call (.Name "list" p) [a] [] pos) δ (.o (SK.l (kvs.map fun q => q.1.data))) := by
  subst hP hw
  exact je_callTR (call_listN (kvs := kvs) hc) hm (by decide +kernel) ha (fun H v G Q is q => by
    obtain ⟨p, rfl, _, hd⟩ := is
    exact ⟨p, rfl, hd, by rw [sizeLine_eq]; omega, fun l vs hl hv => q _ _ [l] (Evl.Ex.new hl) (is_l hl upd_same (hv.ex (.of (Evl.Ex.new hl))))⟩) lifto hg (hs := hs)
end
end Pq

namespace Pq
open PySem PySem.Spec L2
open PyProof.Rows hiding St
open Evl (Ex)

theorem tuple_mul1 (l : Addr) (items : Array Value) (n : Nat) (dd : Option Addr) (sl : Array (Option Value)) (u : Tok) :
    Meets (Builtin.«tuple.__mul__» ⟨[.ref l, .int 1 u], []⟩) (fun _ R s => s.heap.get? l = some { cls := .type "tuple", dict := dd, data := .seq items n, slots := sl } ∧ R (.ok (.ret (.ref l))) s) :=
  .of_wp fun prog w A R s h => by
    obtain ⟨hp, g, d, tk, os⟩ := s
    obtain ⟨hl, h⟩ := h
    have f1 := AutoSeq1.idx_int
    have c1 : (items.isEmpty || (1 : Int) == 1) = true := by simp
    wp_walk using wpAny_loadPart' hl
    repeat (first
      | (refine wpAny_ite_true (decide_eq_true c1) ?_; wp_walk using wpAny_loadPart' hl)
      | (refine wpAny_ite_false (decide_eq_false (by decide)) ?_; wp_walk using wpAny_loadPart' hl))
    exact ⟨_, rfl, h⟩
theorem tuple_mul0 (l : Addr) (items : Array Value) (n : Nat) (dd : Option Addr) (sl : Array (Option Value)) (u : Tok) (hi : items.isEmpty = false) :
    Meets (Builtin.«tuple.__mul__» ⟨[.ref l, .int 0 u], []⟩) (fun _ R s => s.heap.get? l = some { cls := .type "tuple", dict := dd, data := .seq items n, slots := sl } ∧
      R (.ok (.ret (Value.ref s.heap.objs.size))) { s with heap := s.heap.push { cls := Value.type "tuple", data := Data.seq #[] }, toks := s.toks }) :=
  .of_wp fun prog w A R s h => by
    obtain ⟨hp, g, d, tk, os⟩ := s
    obtain ⟨hl, h⟩ := h
    have f1 := AutoSeq1.idx_int
    have c1 : (items.isEmpty || (0 : Int) == 1) = false := by rw [hi]; rfl
    have c2 : (decide ((0 : Int) ≤ 0) || items.isEmpty) = true := by rw [hi]; rfl
    wp_walk using wpAny_loadPart' hl
    repeat (first
      | (refine wpAny_ite_false (decide_eq_false (by rw [c1]; exact Bool.false_ne_true)) ?_; wp_walk using wpAny_loadPart' hl)
      | (refine wpAny_ite_true (decide_eq_true c2) ?_; wp_walk using wpAny_loadPart' hl)
      | (refine wpAny_ite_false (decide_eq_false (by decide)) ?_; wp_walk using wpAny_loadPart' hl))
    exact ⟨_, rfl, h⟩
end Pq

namespace Pq
open PySem PySem.Spec L2
open PyProof.Rows hiding St
open Evl (Ex)

section
variable {X : Cx}
/-- tuple * a small number -/
theorem op_repA {ds : List PyData} {k : Int} : OpR X (binaryOp .Mult) (fun x y H Q => Dt H x (.tuple ds) ∧ y = .int k ∧ ds ≠ [] ∧ 0 ≤ k ∧ k ≤ 1000 ∧ ds.length ≤ 1000 ∧ ∀ v H', Ex H H' → Dt H' v (.tuple (List.replicate k.toNat ds).flatten) → Q v H') := by
  intro pins s σ H x y v u Q I rx ry h
  obtain ⟨dx, rfl, hne, k0, k1, hz, q⟩ := h
  obtain ⟨l, vs, rfl, hl, hd⟩ := dt_tup dx
  have hvn : vs ≠ [] := fun e => hne (by
    have z := hd.length
    rw [e] at z
    exact List.eq_nil_of_length_eq_zero z.symm)
  by_cases h2 : 2 ≤ k
  · refine op_repT pins s σ H _ _ v u Q I rx ry ⟨l, k, vs, rfl, rfl, SqT.of hl, hvn, h2, k1, by rw [hd.length]; exact hz, fun p hp => q _ _ (Evl.Ex.new hp) ?_⟩
    refine .tup upd_same ?_
    have rep : ∀ m : Nat, DtAll H (List.replicate m vs).flatten (List.replicate m ds).flatten := by
      intro m
      induction m with
      | zero => exact .nil
      | succ m ih =>
        rw [List.replicate_succ, List.replicate_succ, List.flatten_cons, List.flatten_cons]
        exact hd.append ih
    exact (rep k.toNat).ex (.of (Evl.Ex.new hp))
  · cases rx
    obtain ⟨t, rfl⟩ := ry
    obtain ⟨its, r, ⟨⟨cls, dd, data, sl⟩, ho, hc, n, hdt⟩, hs⟩ := I.tuple (SqT.of (K := X.K) hl)
    simp only at hc hdt
    subst hc hdt
    have hi : its.toArray.isEmpty = false := by
      cases its with
      | nil => cases r; exact absurd rfl hvn
      | cons a b => rfl
    rcases (show k = 0 ∨ k = 1 by omega) with rfl | rfl
    · refine wpAny_binaryOp_repeat_ref (T := "tuple") (U := "int") (by decide) ⟨_, ho, rfl⟩ (fun s' => typeIs_int s' 0 t) noFill_tuple_mul F.fills_int_mul F.slot_int_rmul repeat_tuple F.slot_int_index.lookup
        (call_meets F.slot_int_rmul (typeIs_int s 0 t) F.entry_int_rmul (F.args_int_rmul_2 _ _) (int_rmul_tuple 0 t l its.toArray n dd sl)
          ⟨ho, rfl, ⟨_, ho, rfl⟩, call_meets F.slot_tuple_mul ⟨_, ho, rfl⟩ F.entry_tuple_mul (F.args_tuple_mul_2 _ _) (tuple_mul0 l its.toArray n dd sl t hi) ⟨ho, ?_⟩⟩)
      have hn := I.hok.fresh (Nat.le_refl s.heap.objs.size)
      refine ⟨.ref s.heap.objs.size, _, I.laid (t' := s.toks) (o := .tup []) (fun b ob q => Heap.get?_push_of_some _ q) (Nat.le_refl _) ⟨Nat.zero_le _, [], .nil, IsTup.new _ _⟩, rfl, q _ _ (Evl.Ex.new hn) (.tup upd_same .nil)⟩
    · refine wpAny_binaryOp_repeat_ref (T := "tuple") (U := "int") (by decide) ⟨_, ho, rfl⟩ (fun s' => typeIs_int s' 1 t) noFill_tuple_mul F.fills_int_mul F.slot_int_rmul repeat_tuple F.slot_int_index.lookup
        (call_meets F.slot_int_rmul (typeIs_int s 1 t) F.entry_int_rmul (F.args_int_rmul_2 _ _) (int_rmul_tuple 1 t l its.toArray n dd sl)
          ⟨ho, rfl, ⟨_, ho, rfl⟩, call_meets F.slot_tuple_mul ⟨_, ho, rfl⟩ F.entry_tuple_mul (F.args_tuple_mul_2 _ _) (tuple_mul1 l its.toArray n dd sl t) ⟨ho, ?_⟩⟩)
      refine ⟨.ref l, H, I, rfl, q _ H (Evl.Ex.refl H) ?_⟩
      show Dt H (.ref l) (.tuple (List.replicate 1 ds).flatten)
      rw [show (List.replicate 1 ds).flatten = ds by simp]
      exact dx
/-- sum of a tuple of numbers -/
theorem cr_sumT (hc : X.calm = true) {ns : List Int} : CallR X (.builtin "sum") (fun vs H Q => ∃ v, vs = [v] ∧ Dt H v (.tuple (ns.map .int)) ∧ Q (.int ns.sum) H) := by
  intro pins s σ H vs us Q I r h
  obtain ⟨v, rfl, dv, q⟩ := h
  obtain ⟨u, rfl, rx⟩ := vals1 r
  obtain ⟨l, vs, rfl, hl, hd⟩ := dt_tup dv
  cases rx
  obtain ⟨its, rv, ht, _⟩ := I.tuple (SqT.of (K := X.K) hl)
  rw [DtAll.ints hd] at rv
  have hi := Vals.ints rv
  obtain ⟨xs, e⟩ := hi.allInts.items
  have hn : numsOf (intItems xs).toList = ns := by rw [← e]; exact hi.numsOf
  rw [nums_intItems] at hn
  rw [e] at ht
  refine PySem.W.ktm_sumG (I.ok.hd hc) ht fun h' tk t' hk => ?_
  rw [preSum_eq, List.take_of_length_le (by simp), hn]
  exact ⟨.int _, H, I.kept hk, ⟨_, rfl⟩, q⟩
/-! ### types -/
def tyD : PyData → String
  | .none => "NoneType"
  | .bool _ => "bool"
  | .int _ => "int"
  | .str _ => "str"
  | .list _ => "list"
  | .tuple _ => "tuple"
  | .dict _ => "dict"
theorem dt_ty {K : PySem.W.Frag} {H : Hp} {v : V} {d : PyData} (h : Dt H v d) : TyX K H v (.type (tyD d)) := by
  cases h with
  | non => exact .base .non
  | bl b => exact .base (.bl b)
  | int i => exact .base (.int i)
  | str x => exact .base (.str x)
  | tup h1 h2 => exact .base (.tup h1)
end
mutual
theorem Dp.mono {K : PySem.W.Frag} {H H' : Hp} (e : Ex H H') : ∀ (d : PyData) (v : V), Dp K H v d → Dp K H' v d
  | .none, _, h => by cases h; exact .non
  | .bool _, _, h => by cases h; exact .bl _
  | .int _, _, h => by cases h; exact .int _
  | .str _, _, h => by cases h; exact .str _
  | .tuple ds, _, h => by
    cases h with
    | tup h1 h2 => exact .tup (Evl.ex_t e h1) (DpAll.mono e ds _ h2)
  | .list ds, _, h => by
    cases h with
    | lst h1 h2 => exact .lst (Evl.ex_l e h1) (DpAll.mono e ds _ h2)
  | .dict _, _, h => by cases h
theorem DpAll.mono {K : PySem.W.Frag} {H H' : Hp} (e : Ex H H') : ∀ (ds : List PyData) (vs : List V), DpAll K H vs ds → DpAll K H' vs ds
  | [], _, h => by cases h; exact .nil
  | d :: ds, _, h => by
    cases h with
    | cons h1 h2 => exact .cons (Dp.mono e d _ h1) (DpAll.mono e ds _ h2)
end
/-- e gives something that reads as d, a list at most on the outside -/
def JDp (X : Cx) (Φ : Lk) (e : Expr) (δ : Slots) (d : PyData) : Prop := ∀ (H0 : Hp) (σ : L2.St) (H1 : Hp), Sl H0 Φ H1 σ δ → ∀ Q : VK, (∀ v H2, Ex H1 H2 → Dp X.K H2 v d → Q v H2) → wE X e σ H1 Q
section
variable {X : Cx} {Φ : Lk} {δ : Slots} {E : En} {e a b c : Expr} {es : List Expr} {pos : Pos} {st : Stmt} {sts rest : List Stmt} {j : Nat}
theorem jdp_d {d : PyData} (h : JE X Φ e δ (.d d)) : JDp X Φ e δ d := fun H0 σ H1 sl Q q => h H0 σ H1 sl Q fun v H2 F e1 i1 => q v H2 e1 (Dt.dp d v i1.2)
theorem jdp_l {ds : List PyData} (h : JR X Φ e δ (SK.l ds)) : JDp X Φ e δ (.list ds) := fun H0 σ H1 sl Q q => h H0 σ H1 sl Q fun v H2 G e1 ⟨p, vs, e2, _, hp, hd⟩ => q v H2 e1 (by rw [e2]; exact .lst (SqL.of hp) (DtAll.dp ds vs hd))
theorem je_rep {ds : List PyData} {k : Int} (ha : JE X Φ a δ (.d (.tuple ds))) (hb : JE X Φ b δ (.d (.int k))) (hne : ds ≠ []) (k0 : 0 ≤ k) (k1 : k ≤ 1000) (hz : ds.length ≤ 1000) : JE X Φ (.BinOp a .Mult b pos) δ (.d (.tuple (List.replicate k.toNat ds).flatten)) :=
  je_op2 (op_repA (ds := ds) (k := k)) ha hb fun H v u Q dv du q => ⟨dv, dt_int du, hne, k0, k1, hz, fun w H' e d => q w H' e d⟩
theorem je_sumT {ns : List Int} {p : Pos} (hm : X.mg "sum" = none) (ha : JE X Φ a δ (.d (.tuple (ns.map .int)))) (hc : X.calm = true := by rfl) (hg : Gl X "sum" := by rfl) (hs : NS a := by exact fun _ _ => rfl) : JE X Φ (.Call (.Name "sum" p) [a] [] pos) δ (.d (.int ns.sum)) :=
  je_call1 (cr_sumT hc (ns := ns)) hm (by decide +kernel) ha (fun H v Q dv q => ⟨v, rfl, dv, q _ H (Evl.Ex.refl H) (.int _)⟩) hg (hs := hs)
/-- isinstance(x, T), T a built-in type -/
theorem je_isi {d : PyData} {T : Str} {tn : String} {k : Bool} {p p2 : Pos} (hm : X.mg "isinstance" = none) (hmT : X.mg T = none) (hbT : bootBuiltins T = some (.type tn)) (hk : kitB (tyD d) tn = some k) (ha : JE X Φ a δ (.d d))
    (hg : Gl X "isinstance" := by rfl) (hgT : Gl X T := by rfl) (hnT : T ≠ "__name__" := by decide) (hdT : (T == ("__debug__" : Str)) = false := by decide) (hs : NS a := by exact fun _ _ => rfl) : JE X Φ (.Call (.Name "isinstance" p) [a, .Name T p2] [] pos) δ (.d (.bool k)) := fun H0 σ H1 sl Q q => by
  refine e_of (pe_callB call_isi hg hm (by decide +kernel) (pa_cons pe_w (pa_cons (pe_bltn (v := .ty tn) hgT hmT hbT rfl hnT hdT) pa_nil) (hs _ _)) (he := hs _ _)) ?_
  exact ha H0 σ H1 sl _ fun v H2 F e1 i1 => ⟨v, .ty tn, .type (tyD d), .type tn, k, rfl, .ty tn, dt_ty i1.2, kit_ty hk, q _ H2 [] e1 ⟨rfl, .bl _⟩⟩
/-! ### data compared -/
theorem jc_P {op : CmpOp} {r : R2} {x y : PyData} {k : Bool} (ho : OpR X (compareOp op) r) (ha : JDp X Φ a δ x) (hb : JDp X Φ b δ y)
    (hr : ∀ H v u (Q : VK), Dp X.K H v x → Dp X.K H u y → Q (.bl k) H → r v u H Q) : JC X Φ op a b δ k := fun H0 σ H1 sl Q q => by
  refine c_of (pc_op ho pe_w pe_w) ?_
  refine ha H0 σ H1 sl _ fun v H2 e1 i1 => ?_
  refine hb H0 σ H2 (sl.mono e1) _ fun u H3 e2 i2 => ?_
  exact hr H3 v u Q (Dp.mono e2 _ _ i1) i2 (q H3 (e1.trans e2))
theorem jc_eqD {x y : PyData} (hr : Room j X.A) (ha : JDp X Φ a δ x) (hb : JDp X Φ b δ y) (sx : SeqAt.shaped x = true) (sy : SeqAt.shaped y = true) : JC X Φ .Eq a b δ (PyData.eqv x y) :=
  jc_P (op_eqD hr.units) ha hb fun H v u Q dv du q => ⟨x, y, dv, du, sx, sy, q⟩
theorem jc_neD {x y : PyData} (hr : Room j X.A) (ha : JDp X Φ a δ x) (hb : JDp X Φ b δ y) (sx : SeqAt.shaped x = true) (sy : SeqAt.shaped y = true) : JC X Φ .NotEq a b δ (!PyData.eqv x y) :=
  jc_P (op_neD hr.units) ha hb fun H v u Q dv du q => ⟨x, y, dv, du, sx, sy, q⟩
theorem units65 {A : Around} {j : Nat} (hr : Room j A) : A.units + 65 < cLine := by
  have := hr.units
  have := hr.un
  omega
theorem jc_inL {x : PyData} {ds : List PyData} (hr : Room j X.A) (ha : JDp X Φ a δ x) (hb : JDp X Φ b δ (.list ds)) (sx : SeqAt.shaped x = true) (sy : SeqAt.shaped (.list ds) = true) : JC X Φ .In a b δ (ds.any fun z => PyData.eqv z x) :=
  jc_P (op_inD (units65 hr)) ha hb fun H v u Q dv du q => ⟨x, ds, dv, du, sx, sy, q⟩
theorem op_inT (hu : X.A.units + 65 < cLine) (neg : Bool) : OpR X (compareOp (if neg then .NotIn else .In)) (fun x y H Q => ∃ d ds, Dp X.K H x d ∧ Dp X.K H y (.tuple ds) ∧ SeqAt.shaped d = true ∧ SeqAt.shaped (.tuple ds) = true ∧ Q (.bl (if neg then !ds.any fun z => PyData.eqv z d else ds.any fun z => PyData.eqv z d)) H) := by
  intro pins s σ H x y v u Q I rx ry h
  obtain ⟨d, ds, hd, he, sd, se, q⟩ := h
  obtain ⟨as, r1⟩ := Dp.reads I d x v hd rx
  obtain ⟨bs, r2⟩ := Dp.reads I (.tuple ds) y u he ry
  have l2 : PyData.canLayAll0 ds = true := by
    have z := SeqAt.canLay_of_shaped se
    simpa only [PyData.canLay0] using z
  have rm : X.A.units + 1 + min (PyData.depthAll ds) d.depth < cLine := by
    have z := SeqAt.depth_of_shaped sd
    have z2 : min (PyData.depthAll ds) d.depth ≤ d.depth := Nat.min_le_right _ _
    omega
  cases neg with
  | true => exact SeqAt.notIn_tuple_reads r2 r1 l2 (SeqAt.canLay_of_shaped sd) rm ⟨.bl _, H, I, rfl, q⟩
  | false => exact SeqAt.in_tuple_reads r2 r1 l2 (SeqAt.canLay_of_shaped sd) rm ⟨.bl _, H, I, rfl, q⟩
theorem jc_inT {x : PyData} {ds : List PyData} (hr : Room j X.A) (ha : JDp X Φ a δ x) (hb : JDp X Φ b δ (.tuple ds)) (sx : SeqAt.shaped x = true) (sy : SeqAt.shaped (.tuple ds) = true) : JC X Φ .In a b δ (ds.any fun z => PyData.eqv z x) :=
  jc_P (op_inT (units65 hr) false) ha hb fun H v u Q dv du q => ⟨x, ds, dv, du, sx, sy, q⟩
theorem jc_notInT {x : PyData} {ds : List PyData} (hr : Room j X.A) (ha : JDp X Φ a δ x) (hb : JDp X Φ b δ (.tuple ds)) (sx : SeqAt.shaped x = true) (sy : SeqAt.shaped (.tuple ds) = true) : JC X Φ .NotIn a b δ (!ds.any fun z => PyData.eqv z x) :=
  jc_P (op_inT (units65 hr) true) ha hb fun H v u Q dv du q => ⟨x, ds, dv, du, sx, sy, q⟩
/-- x < y of alike data -/
theorem op_ltD {x y : PyData} : OpR X (compareOp .Lt) (fun v u H Q => Dp X.K H v x ∧ Dp X.K H u y ∧ PySem.W.alike x y = true ∧ x ≠ .none ∧ X.A.units + min x.depth y.depth < cLine ∧ Q (.bl (PySem.W.dataLt x y)) H) := by
  intro pins s σ H v u v' u' Q I rv ru h
  obtain ⟨hx, hy, al, nn, hu, q⟩ := h
  obtain ⟨as, r1⟩ := Dp.reads I x v v' hx rv
  obtain ⟨bs, r2⟩ := Dp.reads I y u u' hy ru
  exact PySem.W.rcLt_alike x y X.A s v' u' as bs r1 r2 al nn hu _ _ _ _ ⟨.bl _, H, I, rfl, q⟩
theorem jc_ltD {x y : PyData} (hr : Room j X.A) (ha : JDp X Φ a δ x) (hb : JDp X Φ b δ y) (al : PySem.W.alike x y = true) (nn : x ≠ .none) (hd : x.depth ≤ 64) : JC X Φ .Lt a b δ (PySem.W.dataLt x y) :=
  jc_P op_ltD ha hb fun H v u Q dv du q => ⟨dv, du, al, nn, by have := hr.units; have z : min x.depth y.depth ≤ x.depth := Nat.min_le_left _ _; omega, q⟩
end
end Pq

namespace Pq
open PySem PySem.Spec L2
open PyProof.Rows hiding St
open Evl (Ex)

/-! ### sorted -/
theorem each_of {X : Cx} {pins : List (Addr × Obj)} {σ : L2.St} {H : Hp} {s : Shared} (I : L2.Inv X pins σ H s) : ∀ {vs : List V} {ds : List PyData} {us : List Value}, DtAll H vs ds → Vals vs us →
    PySem.W.EachIs (fun u d => ∃ v, Dt H v d ∧ RelV v u) us ds ∧ PySem.W.EachIs (fun u d => ∃ as, Reads s.heap u (id d) as) us ds
  | _, _, _, .nil, .nil => ⟨.nil, .nil⟩
  | _, _, _, .cons a t, .cons r rs => by
    obtain ⟨h1, h2⟩ := each_of I t rs
    exact ⟨.cons ⟨_, a, r⟩ h1, .cons (Dp.reads I _ _ _ (Dt.dp _ _ a) r) h2⟩
theorem each_back {H : Hp} : ∀ {us : List Value} {ds : List PyData}, PySem.W.EachIs (fun u d => ∃ v, Dt H v d ∧ RelV v u) us ds → ∃ vs, Vals vs us ∧ DtAll H vs ds
  | _, _, .nil => ⟨[], .nil, .nil⟩
  | _, _, .cons ⟨v, a, r⟩ t => by
    obtain ⟨vs, h1, h2⟩ := each_back t
    exact ⟨v :: vs, .cons r h1, .cons a h2⟩
/-- the one order -/
abbrev sortD (ds : List PyData) : List PyData := ds.mergeSort (PySem.W.dataLe false id)
theorem cr_sortedD {X : Cx} {ds : List PyData} (hal : PySem.W.AllAlike ds) (hk : PySem.W.Sortable ds) (hz : ds.length ≤ 1000000) (hu : ∀ d ∈ ds, X.A.units + 2 + d.depth < cLine) :
    CallR X (.builtin "sorted") (fun xs H Q => ∃ p vs, xs = [.ref p] ∧ H p = some (.lst vs) ∧ DtAll H vs ds ∧ ∀ l ws, H l = none → DtAll H ws (sortD ds) → Q (.ref l) (upd H l (.lst ws))) := by
  intro pins s σ H xs us Q I r h
  obtain ⟨p, vs, rfl, hp, hd, q⟩ := h
  obtain ⟨u, rfl, rx⟩ := vals1 r
  obtain rfl : u = Value.ref p := rx
  obtain ⟨its, rv, hl, _⟩ := I.list (SqL.of (K := X.K) hp)
  obtain ⟨e1, e2⟩ := each_of I hd rv
  refine PySem.W.sorted_data (enc := id) (bs := ds) hl.isList e1 e2 (by rw [List.map_id]; exact hal) (by rw [List.map_id]; exact hk) (by rw [sizeLine_eq]; omega) (fun d hd' => hu d hd') fun out ho eo => ?_
  obtain ⟨ws, w1, w2⟩ := each_back eo
  obtain ⟨c, hc⟩ := sortedAll_at s.heap its out.toArray
  have hn : H (s.heap.objs.size + 1) = none := I.hok.fresh (Nat.le_succ _)
  have lw : ws.length = ds.length := by
    have z := w1.length
    omega
  refine ⟨.ref (s.heap.objs.size + 1), _, I.laid (t' := s.toks) (a := s.heap.objs.size + 1) (o := .lst ws) (fun b o q => sortedAll_old q) (Nat.le_succ _) ⟨by rw [lw, sizeLine_eq]; omega, out, c, w1, hc⟩, rfl, q _ ws hn w2⟩
section
variable {X : Cx} {Φ : Lk} {δ : Slots} {E : En} {e a b c : Expr} {es : List Expr} {pos : Pos} {st : Stmt} {sts rest : List Stmt} {j : Nat}
theorem je_sorted {ds : List PyData} {p : Pos} (hr : Room j X.A) (hm : X.mg "sorted" = none) (ha : JR X Φ a δ (SK.l ds)) (hal : PySem.W.AllAlike ds) (hk : PySem.W.Sortable ds) (hz : ds.length ≤ 1000000) (hd : ∀ d ∈ ds, d.depth ≤ 60) (hg : Gl X "sorted" := by rfl) (hs : NS a := by exact fun _ _ => rfl) : JE X Φ (.Call (.Name "sorted" p) [a] [] pos) δ (.o (SK.l (sortD ds))) :=
  je_callR (cr_sortedD hal hk hz (fun d q => by have := hd d q; have := hr.units; omega)) hm (by decide +kernel) ha (fun H v G Q is q => by
    obtain ⟨p, vs, rfl, _, hp, hds⟩ := is
    exact ⟨p, vs, rfl, hp, hds, fun l ws hl hw => q _ _ [l] (Evl.Ex.new hl) (is_l hl upd_same (hw.ex (.of (Evl.Ex.new hl))))⟩) lifto hg (hs := hs)

/-! ### an own list grows -/
theorem JE.wp {k : Kd} (h : JE X Φ e δ k) {H0 : Hp} {σ : L2.St} {H1 : Hp} (sl : Sl H0 Φ H1 σ δ) (Q : VK) (q : ∀ v H2 F, Ex H1 H2 → Is H1 H2 k v F → Q v H2) : wE X e σ H1 Q := h H0 σ H1 sl Q q
theorem jp_append {i0 : Nat} {x : Str} {p1 apos cpos : Pos} {ds : List PyData} {d : PyData} (hk0 : δ[i0]? = some (some (.o (SK.l ds)))) (hb : JE X Φ b δ (.d d)) (hz : ds.length < 1000000) (hn : E.nx (δ.set i0 (some (.o (SK.l (ds ++ [d]))))))
    (hN : X.N[i0]? = some x := by rfl) (hvis : Vis X.env.scope x := by first | exact Or.inl rfl | exact Or.inr (Or.inl rfl) | exact Or.inr (Or.inr rfl)) (h1 : (x == ("__debug__" : Str)) = false := by decide) (h2 : (x == ("__classdict__" : Str)) = false := by decide)
    (hbase : attributeBase (.Name x p1) "append" X.env (eval (.Name x p1) X.env) = eval (.Name x p1) X.env := by rfl)
    (hfew : ((backTo cpos (starEach [b] X.env)).all (fun x => !x.1) && (backToKw cpos (keywordEach [] X.env)).all (fun x => x.1.isSome) && decide (([b] : List Expr).length + ([] : List Keyword).length + (if ([] : List Keyword).isEmpty then 0 else 1) < 30)) = true := by rfl)
    (hline : (apos.endLine == cpos.line) = true := by rfl) (hsb : NS b := by exact fun _ _ => rfl)
    (hs : swapsWith (.Call (.Attribute (.Name x p1) "append" apos) [b] [] cpos) none pos.line X.env = pure false := by rfl) : JP X Φ (.Expr (.Call (.Attribute (.Name x p1) "append" apos) [b] [] cpos) pos) δ E := fun H0 σ H1 D sl g => by
  refine s_of (ps_expr (pe_bm PySem.F.plainAttrs_list PySem.F.slot_list_append PySem.F.type_list_append mt_append (pe_var hN hvis h1 h2) (pa_cons pe_w pa_nil (hsb _ _)) hbase hfew hline (hsb _ _) rfl) hs) ?_
  obtain ⟨F, f⟩ := sl.at_
  obtain ⟨v, hv0, hi⟩ := f.some_ i0 _ hk0
  obtain ⟨⟨p, vs, rfl, eF, hp, hds⟩, nw⟩ := hi
  refine ⟨_, hv0, .inl ⟨rfl, _, SqL.of hp⟩, hb H0 σ H1 sl _ fun u H2 G e1 i1 => ?_⟩
  have hp2 := e1 _ _ hp
  have te : TEx H2 (upd H2 p (.lst (vs ++ [u]))) := (TEx.refl H2).upd (fun ws z => by rw [hp2] at z; cases z)
  refine ⟨p, vs, u, rfl, rfl, hp2, by rw [hds.length, sizeLine_eq]; omega, g.nx _ _ _ (slUpdN (sl.mono e1) hk0 (T := SK.l (ds ++ [d])) (fun w F' hs' is => ?_) ⟨p, _, rfl, rfl, upd_same, ((hds.ex (.of e1)).append (.cons i1.2 .nil)).ex te⟩ (fun ws z => nomatch z)) hn⟩
  rw [hv0] at hs'
  cases hs'
  obtain ⟨p', ws, z1, z2, _⟩ := is
  cases z1
  exact ⟨rfl, z2⟩
theorem jp_extend {i0 : Nat} {x : Str} {p1 apos cpos : Pos} {ds es' : List PyData} (hk0 : δ[i0]? = some (some (.o (SK.l ds)))) (hb : JE X Φ b δ (.o (SK.l es'))) (hz : ds.length + es'.length ≤ 1000000) (hn : E.nx (δ.set i0 (some (.o (SK.l (ds ++ es'))))))
    (hN : X.N[i0]? = some x := by rfl) (hvis : Vis X.env.scope x := by first | exact Or.inl rfl | exact Or.inr (Or.inl rfl) | exact Or.inr (Or.inr rfl)) (h1 : (x == ("__debug__" : Str)) = false := by decide) (h2 : (x == ("__classdict__" : Str)) = false := by decide)
    (hbase : attributeBase (.Name x p1) "extend" X.env (eval (.Name x p1) X.env) = eval (.Name x p1) X.env := by rfl)
    (hfew : ((backTo cpos (starEach [b] X.env)).all (fun x => !x.1) && (backToKw cpos (keywordEach [] X.env)).all (fun x => x.1.isSome) && decide (([b] : List Expr).length + ([] : List Keyword).length + (if ([] : List Keyword).isEmpty then 0 else 1) < 30)) = true := by rfl)
    (hline : (apos.endLine == cpos.line) = true := by rfl) (hsb : NS b := by exact fun _ _ => rfl)
    (hs : swapsWith (.Call (.Attribute (.Name x p1) "extend" apos) [b] [] cpos) none pos.line X.env = pure false := by rfl) : JP X Φ (.Expr (.Call (.Attribute (.Name x p1) "extend" apos) [b] [] cpos) pos) δ E := fun H0 σ H1 D sl g => by
  refine s_of (ps_expr (pe_bm PySem.F.plainAttrs_list PySem.F.slot_list_extend PySem.F.type_list_extend mt_extend (pe_var hN hvis h1 h2) (pa_cons pe_w pa_nil (hsb _ _)) hbase hfew hline (hsb _ _) rfl) hs) ?_
  obtain ⟨F, f⟩ := sl.at_
  obtain ⟨v, hv0, hi⟩ := f.some_ i0 _ hk0
  obtain ⟨⟨p, vs, rfl, eF, hp, hds⟩, nw⟩ := hi
  refine ⟨_, hv0, .inl ⟨rfl, _, SqL.of hp⟩, hb H0 σ H1 sl _ fun u H2 G e1 i1 => ?_⟩
  obtain ⟨⟨p2, vs2, rfl, rfl, hp2, hds2⟩, nw2⟩ := i1
  have hpp := e1 _ _ hp
  have te : TEx H2 (upd H2 p (.lst (vs ++ vs2))) := (TEx.refl H2).upd (fun ws z => by rw [hpp] at z; cases z)
  refine ⟨p, p2, vs, vs2, rfl, rfl, hpp, hp2, by rw [hds.length, hds2.length, sizeLine_eq]; omega, g.nx _ _ _ (slUpdN (sl.mono e1) hk0 (T := SK.l (ds ++ es')) (fun w F' hs' is => ?_) ⟨p, _, rfl, rfl, upd_same, ((hds.ex (.of e1)).append hds2).ex te⟩ (fun ws z => nomatch z)) hn⟩
  rw [hv0] at hs'
  cases hs'
  obtain ⟨p', ws, z1, z2, _⟩ := is
  cases z1
  exact ⟨rfl, z2⟩
/-! ### a comprehension with two fors -/
structure Lc2Turn (X : Cx) (scope : Scope) (vs vs1 : List Nat) (Φ : Lk) (δ : Slots) (tg tg1 iter1 elt : Expr) (d : PyData) (ds1 : List PyData) (g : PyData → PyData) : Prop where
  out : ∃ (js : List Nat) (es : List PyData) (js1 : List Nat) (es1 : PyData → List PyData), (∀ j ∈ js, j ∈ vs) ∧ (∀ j ∈ js1, j ∈ vs1) ∧ ∀ (s : Shared) (H : Hp) (C : Addr) (cl : List (Str × Addr)) (fp : List Addr),
    TgOk (X.blk s H scope (compEnvC scope cl C X.env) fp) tg js es d ∧ JI (X.blk s H scope (compEnvC scope cl C X.env) fp) Φ tg1 iter1 (setδ (wipeD δ vs) js es) ds1 ∧
      ∀ d1 ∈ ds1, TgOk (X.blk s H scope (compEnvC scope cl C X.env) fp) tg1 js1 (es1 d1) d1 ∧ JE (X.blk s H scope (compEnvC scope cl C X.env) fp) Φ elt (setδ (wipeD (setδ (wipeD δ vs) js es) vs1) js1 (es1 d1)) (.d (g d1))
def iAll (X : Cx) (scope : Scope) (tg iter : Expr) : TI := fun σ H R => ∀ (s : Shared) (Hh : Hp) (C : Addr) (cl : List (Str × Addr)) (fp : List Addr), wI (X.blk s Hh scope (compEnvC scope cl C X.env) fp) tg iter σ H R
end
end Pq

namespace Pq
open PySem PySem.Spec L2
open PyProof.Rows hiding St
open Evl (Ex)

theorem flat_take {α β : Type} (F : α → List β) {ds : List α} {i : Nat} {d : α} (h : ds[i]? = some d) : (ds.take (i + 1)).flatMap F = (ds.take i).flatMap F ++ F d := by
  have e : ds.take (i + 1) = ds.take i ++ [d] := by
    rw [List.take_add_one, h]
    rfl
  rw [e, List.flatMap_append]
  simp
theorem flat_le {α β : Type} (F : α → List β) {ds : List α} {i : Nat} {d : α} (h : ds[i]? = some d) : ((ds.take i).flatMap F).length + (F d).length ≤ (ds.flatMap F).length := by
  have e : ds = ds.take (i + 1) ++ ds.drop (i + 1) := (List.take_append_drop _ _).symm
  have z : (ds.flatMap F).length = ((ds.take (i + 1)).flatMap F).length + ((ds.drop (i + 1)).flatMap F).length := by
    conv => lhs; rw [e]
    rw [List.flatMap_append, List.length_append]
  rw [z, flat_take F h, List.length_append]
  omega
section
variable {X : Cx} {Φ : Lk} {δ : Slots} {E : En} {e a b c : Expr} {es : List Expr} {pos : Pos} {st : Stmt} {sts rest : List Stmt} {j : Nat}
theorem lc2_read {elt tg iter tg1 iter1 : Expr} {scope : Scope} {vs vs1 : List Nat} {ds : List PyData} {ds1 : PyData → List PyData} {g : PyData → PyData → PyData} (hi : JIx X Φ tg iter δ ds)
    (ht : ∀ d ∈ ds, Lc2Turn X scope vs vs1 Φ δ tg tg1 iter1 elt d (ds1 d) (g d)) (hz : (ds.flatMap fun d => (ds1 d).map (g d)).length ≤ 1000000) {H0 : Hp} {σ : L2.St} {H1 : Hp} (sl : Sl H0 Φ H1 σ δ) {Q : VK}
    (q : ∀ v H2 F, Ex H1 H2 → Is H1 H2 (.o (SK.l (ds.flatMap fun d => (ds1 d).map (g d)))) v F → Q v H2) :
    tLc2 (wI X tg iter) (gAll X scope tg) tYes (iAll X scope tg1 iter1) (gAll X scope tg1) tYes (eAll X scope elt) vs vs1 σ H1 Q := by
  refine hi H0 σ H1 sl _ fun J H2 Src e1 ok stab s2 => ?_
  intro D hD
  have srcOf : ∀ {H}, Ex H2 H → Src H := fun {H} ex => stab _ _ s2 ex
  refine ⟨fun i m H => m = ds.length - i ∧ i ≤ ds.length ∧ Ex H2 H ∧ ∃ acc, H D = some (.lst acc) ∧ DtAll H acc ((ds.take i).flatMap fun d => (ds1 d).map (g d)), ⟨ds.length, by simp, Nat.zero_le _, Evl.Ex.new hD, [], upd_same, by simp; exact .nil⟩, ?_⟩
  rintro i m H ⟨rfl, hi', ex, acc, hDa, hacc⟩
  by_cases hlt : i < ds.length
  · refine .inr ⟨ok.go i H (srcOf ex) hlt, fun H' => (i + 1) ≤ ds.length ∧ Ex H2 H' ∧ ∃ acc, H' D = some (.lst acc) ∧ DtAll H' acc ((ds.take (i + 1)).flatMap fun d => (ds1 d).map (g d)), fun H' ⟨z1, z2, z3⟩ => ⟨ds.length - (i + 1), by omega, rfl, z1, z2, z3⟩, fun x H' y => ?_⟩
    obtain ⟨exy, d, hd, dd⟩ := ok.yld i H x H' (srcOf ex) hlt y
    obtain ⟨js, es, js1, es1, hjs, hjs1, turn⟩ := (ht d (List.mem_of_getElem? hd)).out
    have exH : Ex H2 H' := ex.trans exy
    have hfl := flat_le (fun d => (ds1 d).map (g d)) hd
    rw [flat_take _ hd]
    intro s Hh C cl fp
    obtain ⟨tg1', _, _⟩ := turn s Hh C cl fp
    refine tg1'.run _ H' x _ dd fun ws hws hl => ⟨wipe_set σ vs js ws hjs, ?_⟩
    have sl2 : Sl H0 Φ H' (setσ (L2.wipe σ vs) js ws) (setδ (wipeD δ vs) js es) := setSl ((sl.mono (e1.trans exH)).wipe vs) hws
    show iAll X scope tg1 iter1 _ H' _
    intro s Hh C cl fp
    obtain ⟨_, ji, _⟩ := turn s Hh C cl fp
    refine ji H0 _ H' sl2 _ fun J1 H4 Src1 Ψ e4 ok1 ln st1 => ?_
    have hD3 : H' D = some (.lst acc) := exy _ _ hDa
    have hD4 : H4 D = some (.lst acc) := e4 _ _ hD3
    have nΨ : ∀ q ∈ Ψ, q.1 ≠ D := fun q hq z => by
      rcases (ln q hq).2 with y | ⟨ts, y⟩
      · rw [z, hD3] at y; cases y
      · rw [z, hD4] at y; cases y
    generalize hσ2 : setσ (L2.wipe σ vs) js ws = σ2 at sl2 ⊢
    refine ⟨fun k m H => m = (ds1 d).length - k ∧ k ≤ (ds1 d).length ∧ TEx H4 H ∧ (∀ q ∈ Ψ, q.2.is H (.ref q.1) [q.1]) ∧ Ex H2 H ∧ ∃ acc, H D = some (.lst acc) ∧ DtAll H acc ((ds.take i).flatMap (fun d => (ds1 d).map (g d)) ++ ((ds1 d).take k).map (g d)),
      ⟨(ds1 d).length, by simp, Nat.zero_le _, TEx.refl _, fun q hq => (ln q hq).1, exH.trans e4, acc, hD4, by simpa using hacc.ex (.of (exy.trans e4))⟩, ?_⟩
    rintro k m Hk ⟨rfl, hk', tek, sk, exk, acck, hDk, hacck⟩
    by_cases hlt1 : k < (ds1 d).length
    · refine .inr ⟨ok1.go k Hk (st1 Hk sk) hlt1, fun H' => (k + 1) ≤ (ds1 d).length ∧ TEx H4 H' ∧ (∀ q ∈ Ψ, q.2.is H' (.ref q.1) [q.1]) ∧ Ex H2 H' ∧ ∃ acc, H' D = some (.lst acc) ∧ DtAll H' acc ((ds.take i).flatMap (fun d => (ds1 d).map (g d)) ++ ((ds1 d).take (k + 1)).map (g d)),
        fun H' ⟨z1, z0, z2, z3, z4⟩ => ⟨(ds1 d).length - (k + 1), by omega, rfl, z1, z0, z2, z3, z4⟩, fun x1 H5 y1 => ?_⟩
      obtain ⟨ex5, d1, hd1, dd1⟩ := ok1.yld k Hk x1 H5 (st1 Hk sk) hlt1 y1
      intro s Hh C cl fp
      obtain ⟨_, _, tt⟩ := turn s Hh C cl fp
      obtain ⟨tg1'', _⟩ := tt d1 (List.mem_of_getElem? hd1)
      refine tg1''.run _ H5 x1 _ dd1 fun ws1 hws1 hl1 => ⟨wipe_set σ2 vs1 js1 ws1 hjs1, ?_⟩
      have ex25 : Ex H2 H5 := exk.trans ex5
      have sl5 : Sl H0 Φ H5 σ2 (setδ (wipeD δ vs) js es) := by
        rw [← hσ2]
        exact setSl ((sl.mono (e1.trans ex25)).wipe vs) (hws.ex (((TEx.of e4).trans tek).trans (.of ex5)))
      have sl6 := setSl (js := js1) (sl5.wipe vs1) hws1
      show eAll X scope elt _ H5 _
      intro s Hh C cl fp
      obtain ⟨_, _, tt⟩ := turn s Hh C cl fp
      obtain ⟨_, el⟩ := tt d1 (List.mem_of_getElem? hd1)
      refine el H0 _ H5 sl6 _ fun v H6 F e6 i6 => ?_
      have hD6 : H6 D = some (.lst acck) := e6 _ _ (ex5 _ _ hDk)
      have te : TEx H6 (upd H6 D (.lst (acck ++ [v]))) := (TEx.refl H6).upd (fun ws z => by rw [hD6] at z; cases z)
      have out : (ds.take i).flatMap (fun d => (ds1 d).map (g d)) ++ ((ds1 d).take (k + 1)).map (g d) = ((ds.take i).flatMap (fun d => (ds1 d).map (g d)) ++ ((ds1 d).take k).map (g d)) ++ [g d d1] := by
        rw [List.take_add_one, hd1]
        simp
      refine ⟨acck, hD6, ?_, hlt1, (tek.trans (.of (ex5.trans e6))).trans te, fun q hq => ?_, Evl.Ex.mut (ex25.trans e6) hD, _, upd_same, ?_⟩
      · have l1 := hacck.length
        have l2 : ((ds1 d).take k).length ≤ (ds1 d).length := by rw [List.length_take]; omega
        rw [List.length_append, List.length_map] at l1
        rw [List.length_map] at hfl
        have l3 : ((ds1 d).take k).length < (ds1 d).length := by rw [List.length_take]; omega
        rw [sizeLine_eq]
        omega
      · refine q.2.stay (q.2.ex (sk q hq) (ex5.trans e6)) te fun a ha => ?_
        obtain rfl : a = q.1 := by simpa using ha
        rw [upd_ne (nΨ q hq)]
      · rw [out]
        exact ((hacck.ex (.of (ex5.trans e6))).append (.cons i6.2 .nil)).ex te
    · obtain rfl : k = (ds1 d).length := by omega
      rw [List.take_length] at hacck
      exact .inl ⟨ok1.stop Hk (st1 Hk sk), hlt, exk, acck, hDk, hacck⟩
  · obtain rfl : i = ds.length := by omega
    rw [List.take_length] at hacc
    exact .inl ⟨ok.stop H (srcOf ex), q _ H [D] (e1.trans ex) (is_l (Evl.fresh_back e1 hD) hDa hacc)⟩
theorem jp_setLc2 {i : Nat} {y : Str} {py : Pos} {spos : Pos} {elt tg iter tg1 iter1 : Expr} {scope : Scope} {own : List (Str × Nat)} {vs1 : List Nat} {ds : List PyData} {ds1 : PyData → List PyData} {g : PyData → PyData → PyData} (ok : BlkOk X.N X.env.scope scope own) (hv : ∀ i ∈ vs1, i ∈ own.map (·.2)) (hN : X.N.Nodup) (hi : JIx X Φ tg iter δ ds)
    (ht : ∀ d ∈ ds, Lc2Turn X scope (own.map (·.2)) vs1 Φ δ tg tg1 iter1 elt d (ds1 d) (g d)) (hz : (ds.flatMap fun d => (ds1 d).map (g d)).length ≤ 1000000) (hn : E.nx (δ.set i (some (.o (SK.l (ds.flatMap fun d => (ds1 d).map (g d))))))) (hsw : swapsWith (.ListComp elt [⟨tg, iter, [], 0⟩, ⟨tg1, iter1, [], 0⟩] scope pos) (some (.Name y py)) spos.line X.env = pure true)
    (hy : X.N[i]? = some y := by rfl) (hyl : X.env.scope.names.lookup y = some .local := by rfl) (hc : X.calm = true := by rfl) (hs : ∀ x, foldedSetIterable iter X.env x = pure x := by intro _; rfl) (hs1 : ∀ env x, foldedSetIterable iter1 env x = pure x := by intro _ _; rfl) :
    JP X Φ (.Assign [.Name y py] (.ListComp elt [⟨tg, iter, [], 0⟩, ⟨tg1, iter1, [], 0⟩] scope pos) spos) δ E := fun H0 σ H1 D sl g' =>
  s_of (ps_setLc2 hc hN hy hyl hsw pi_w ok hv (fun s H C cl fp => ⟨fun pins s' σ' H' v u Q' I r h => h s H C cl fp pins s' u I r⟩) (fun s H C cl fp => pts_nil)
    (fun s H C cl fp => ⟨fun pins s' σ' H' R' I h => h s H C cl fp pins s' I⟩) (fun s H C cl fp => ⟨fun pins s' σ' H' v u Q' I r h => h s H C cl fp pins s' u I r⟩) (fun s H C cl fp => pts_nil) (fun s H C cl fp => ⟨fun pins s' σ' H' Q' I h => h s H C cl fp pins s' I⟩) hs hs1)
    (lc2_read hi ht hz sl fun v H2 F e1 i1 => g'.nx _ _ _ (sl.set_new e1 (i1.lift (k := .o _) trivial sl.ex) i1.fresh) hn)
end
end Pq

namespace Pq
open PySem PySem.Spec L2
open PyProof.Rows hiding St
open Evl (Ex)

/-! ### a def's body keeps its promise -/
def startD (N : List Str) (ks : List Kd) : Slots := ks.map some ++ List.replicate (N.length - ks.length) none
def retE (r : Kd) : En := ⟨fun _ => r = .d .none, fun k => k = r, fun _ => False, fun _ => False⟩
/-- the context of a def's body -/
abbrev bx (P : Program) (w : World) (K : PySem.W.Frag) (mg : Str → Option Value) (base : Heap) (N : List Str) (qual : Str) (st : Stmt) (f : Addr) (cdv : Value) (A : Around) (outer : List Env) (s : Shared) (H : Hp) (E : XK) : Cx :=
  (cxOf CX0 P w K mg base N qual (defScope st) f cdv A outer s H E).nox
theorem AsAll.get {H : Hp} : ∀ {ks : List Kd} {vs : List V}, AsAll H ks vs → ∀ {i : Nat} {k : Kd}, ks[i]? = some k → ∃ v, vs[i]? = some v ∧ Is H H k v []
  | _, _, .nil, i, k, h => by simp at h
  | _, _, .cons r t, 0, k, h => by
    simp at h
    subst h
    exact ⟨_, rfl, r⟩
  | _, _, .cons r t, i + 1, k, h => by
    obtain ⟨v, h1, h2⟩ := AsAll.get t (i := i) (k := k) (by simpa using h)
    exact ⟨v, by simpa using h1, h2⟩
theorem AsAll.len {H : Hp} {ks : List Kd} {vs : List V} (h : AsAll H ks vs) : ks.length = vs.length := Paired.length h
theorem start_sl {H : Hp} {N : List Str} {ks : List Kd} {vs : List V} (h : AsAll H ks vs) : Sl H [] H (L2.start N vs) (startD N ks) := by
  have hl := h.len
  refine ⟨Evl.Ex.refl H, by simp [L2.start, startD, hl], fun _ => [], fun i k q => ?_, fun _ _ => rfl, (fun i j a ne ha => nomatch ha), (fun q hq => nomatch hq)⟩
  unfold startD at q
  by_cases hi : i < ks.length
  · rw [List.getElem?_append_left (by simpa using hi), List.getElem?_map] at q
    cases e : ks[i]? with
    | none => rw [e] at q; cases q
    | some k' =>
      rw [e] at q
      cases q
      obtain ⟨v, h1, h2⟩ := h.get e
      refine ⟨v, ?_, h2⟩
      unfold L2.start
      rw [List.getElem?_append_left (by simp; omega), List.getElem?_map, h1]
      rfl
  · rw [List.getElem?_append_right (by simp; omega)] at q
    have z := List.mem_of_getElem? q
    rw [List.mem_replicate] at z
    cases z.2
section
variable {P : Program} {w : World} {K : PySem.W.Frag} {mg : Str → Option Value} {base : Heap}
theorem fn_ok {x qual : Str} {st : Stmt} {f : Addr} {fd : FuncData} {N ps : List Str} {k : Nat} {S : Rl} (F : Fun K x qual st f fd) (sc : FnScope N ps (defScope st)) (hS : ∀ ks r, S ks r → ks.length = ps.length)
    (body : ∀ (cdv : Value) (A : Around) (outer : List Env) (s : Shared) (H : Hp) (E : XK) (ks : List Kd) (r : Kd), Room k (bx P w K mg base N qual st f cdv A outer s H E).A → S ks r → JS (bx P w K mg base N qual st f cdv A outer s H E) [] (defBody st) (startD N ks) (retE r)) :
    FnOk P w K mg base CX0 (k + 1) f fd ps (spF S) := by
  refine F.ok sc (fun vs H Q E h => ?_) (fun cdv A outer s H vs Q E hr h => ?_)
  · obtain ⟨ks, r, h1, _, h2, _⟩ := h
    rw [← h2.len]
    exact hS ks r h1
  · obtain ⟨ks, r, h1, ho, h2, q⟩ := h
    refine ⟨wSs (bx P w K mg base N qual st f cdv A outer s H E) (defBody st), pss_w, ?_⟩
    refine body cdv A outer s H E ks r hr h1 H _ H _ (start_sl h2) ⟨fun σ H' δ sl e => ?_, fun v H' k F ⟨σ, δ, sl⟩ is e => ?_, fun _ _ _ _ z => z.elim, fun _ _ _ _ z => z.elim⟩
    · have e : r = .d .none := e
      subst e
      exact q .non H' [] sl.ex ⟨rfl, .non⟩
    · have e : k = r := e
      subst e
      exact q v H' F sl.ex is
theorem Has.mono {j k : Nat} {x : Str} {ps : List Str} {sp : Sp} (h : Has P w K mg base j x ps sp) (hjk : j ≤ k) : Has P w K mg base k x ps sp := by
  obtain ⟨f, fd, a, b⟩ := h.out
  exact ⟨f, fd, a.mono hjk, b⟩
end
section
variable {X : Cx} {Φ : Lk} {δ : Slots} {E : En} {e a b c : Expr} {es : List Expr} {pos : Pos}
theorem je_nm {i : Nat} {x : Str} {d : PyData} (hN : X.N[i]? = some x) (hd : δ[i]? = some (some (.d d))) (hv : Vis X.env.scope x := by first | exact Or.inl rfl | exact Or.inr (Or.inl rfl) | exact Or.inr (Or.inr rfl))
    (h1 : (x == ("__debug__" : Str)) = false := by decide) (h2 : (x == ("__classdict__" : Str)) = false := by decide) : JE X Φ (.Name x pos) δ (.d d) := je_vd hd hN hv h1 h2
theorem je_cat {ds es' : List PyData} (ha : JE X Φ a δ (.d (.tuple ds))) (hb : JE X Φ b δ (.d (.tuple es'))) (hz : ds.length + es'.length ≤ 1000000) : JE X Φ (.BinOp a .Add b pos) δ (.d (.tuple (ds ++ es'))) :=
  je_op2 op_catA ha hb fun H v u Q dv du q => by
    obtain ⟨p, vs, rfl, hp, hd⟩ := dt_tup dv
    obtain ⟨p', vs', rfl, hp', hd'⟩ := dt_tup du
    refine ⟨p, p', vs, vs', rfl, rfl, SqT.of hp, SqT.of hp', by rw [hd.length, hd'.length, sizeLine_eq]; omega, fun e0 => ?_, fun e0 e1 => ?_, fun _ _ t ht => ?_⟩
    · subst e0
      cases hd
      exact q _ H (Evl.Ex.refl H) (.tup hp' hd')
    · subst e1
      cases hd'
      rw [List.append_nil] at q
      exact q _ H (Evl.Ex.refl H) (.tup hp hd)
    · exact q _ _ (Evl.Ex.new ht) (.tup upd_same ((hd.append hd').ex (.of (Evl.Ex.new ht))))
end
/-! ### the text by places -/
def top (i : Nat) : Stmt := PySem.Challenge.pw_pumphouse_k77_whole_game_beside_the_rule.main.body.getD i (.Pass ⟨0, 0, 0, 0⟩)
/-- what the module's names hold -/
structure Txt (mg : Str → Option Value) : Prop where
  isinstance : mg "isinstance" = none
  int : mg "int" = none
  bool : mg "bool" = none
  tuple : mg "tuple" = none
  str : mg "str" = none
  list : mg "list" = none
  dict : mg "dict" = none
  len : mg "len" = none
  all : mg "all" = none
  any : mg "any" = none
  sum : mg "sum" = none
  min : mg "min" = none
  max : mg "max" = none
  range : mg "range" = none
  sorted : mg "sorted" = none
  zip : mg "zip" = none
  MOST_TOP : ∃ t, mg "MOST_TOP" = some (.int 200 t)
  MOST_DRAIN : ∃ t, mg "MOST_DRAIN" = some (.int 50 t)
  MOST_AGE : ∃ t, mg "MOST_AGE" = some (.int 5 t)
  MOST_STARTS : ∃ t, mg "MOST_STARTS" = some (.int 5 t)
  MOST_STEP : ∃ t, mg "MOST_STEP" = some (.int 20 t)
  MOST_LAG : ∃ t, mg "MOST_LAG" = some (.int 3 t)
  MOST_NUMBER : ∃ t, mg "MOST_NUMBER" = some (.int 50 t)
  MOST_COUNT : ∃ t, mg "MOST_COUNT" = some (.int 1000 t)
  MOST_INFLOW : ∃ t, mg "MOST_INFLOW" = some (.int 300 t)
  MOST_STATES : ∃ t, mg "MOST_STATES" = some (.int 20000 t)
  MOST_PUMPS : ∃ t, mg "MOST_PUMPS" = some (.int 12 t)
  OVER : ∃ t, mg "OVER" = some (.str "over" t)
  DRY : ∃ t, mg "DRY" = some (.str "dry" t)
  SAFE : ∃ t, mg "SAFE" = some (.str "safe" t)
  BOTH : ∃ t, mg "BOTH" = some (.str "both" t)
  HELD : ∃ t, mg "HELD" = some (.str "held" t)
  LOST : ∃ t, mg "LOST" = some (.str "lost" t)

end Pq

namespace Pq
open PySem PySem.Spec L2
open PyProof.Rows hiding St
open Evl (Ex)

/-! ### the data, typed -/
structure Wl where
  top : Int
  drain : Int
  on : Int
  off : Int
  run : Int
  rest : Int
  starts : Int
  step : Int
  lag : Int
structure Wl.Ok (W : Wl) : Prop where
  top1 : 1 ≤ W.top
  top2 : W.top ≤ 5
  drain1 : 1 ≤ W.drain
  drain2 : W.drain ≤ 3
  on1 : 1 ≤ W.on
  on2 : W.on ≤ W.top
  off1 : 0 ≤ W.off
  off2 : W.off ≤ W.on - 1
  run1 : 1 ≤ W.run
  run2 : W.run ≤ 3
  rest1 : 1 ≤ W.rest
  rest2 : W.rest ≤ 2
  starts1 : 1 ≤ W.starts
  starts2 : W.starts ≤ 5
  step1 : 1 ≤ W.step
  step2 : W.step ≤ 2
  lag1 : 0 ≤ W.lag
  lag2 : W.lag ≤ 1
/-- a tuple of numbers -/
abbrev iL (l : List Int) : PyData := .tuple (l.map .int)
def wD (W : Wl) : PyData := .tuple [.int W.top, .int W.drain, .int W.on, .int W.off, .int W.run, .int W.rest, .int W.starts, .int W.step, .int W.lag]
/-- a place of the game -/
structure Pl where
  lv : Int
  on : List Int
  off : List Int
  ready : Int
  deriving DecidableEq
def pD (p : Pl) : PyData := .tuple [.int p.lv, iL p.on, iL p.off, .int p.ready]
/-- a state of the rule -/
structure Ss where
  lv : Int
  past : List Int
  on : List Int
  off : List Int
  ready : Int
  deriving DecidableEq
def sD (s : Ss) : PyData := .tuple [.int s.lv, iL s.past, iL s.on, iL s.off, .int s.ready]
def dD (d : Int × Int) : PyData := .tuple [.int d.1, .int d.2]
inductive Res (α : Type) where
  | over
  | dry
  | at (x : α)
  deriving DecidableEq
def rD {α : Type} (e : α → PyData) : Res α → PyData
  | .over => .str "over"
  | .dry => .str "dry"
  | .at x => e x
/-- a relation of arguments and answers, given by a parameter -/
def RL {α : Type} (pre : α → Prop) (ks : α → List Kd) (r : α → Kd) : Rl := fun l a => ∃ x : α, pre x ∧ l = ks x ∧ a = r x
theorem RL.len {α : Type} {pre : α → Prop} {ks : α → List Kd} {r : α → Kd} {ps : List Str} (h : ∀ x, (ks x).length = ps.length) : ∀ l a, RL pre ks r l a → l.length = ps.length := fun l a ⟨x, _, e, _⟩ => by rw [e, h]
/-! ### what the rule's functions compute -/
def seenM (W : Wl) (lv : Int) (past : List Int) : Int :=
  let f := if 0 < W.lag then past.headD 0 else lv
  f - f % W.step
def movesM (W : Wl) (s : Ss) : Int × Int :=
  if W.on ≤ seenM W s.lv s.past then (min W.starts s.ready, 0) else (0, if seenM W s.lv s.past ≤ W.off then s.on.getLastD 0 else 0)
def agedOn (a b : Int) : List Int → List Int
  | [] => []
  | [r] => [a + r - b]
  | r :: q :: t => a :: agedOn r b (q :: t)
def agedOff (b : Int) (off : List Int) : List Int := (b :: off).dropLast
def agedReady (a b : Int) (off : List Int) (ready : Int) : Int := ready - a + (b :: off).getLastD 0
def nextLv (W : Wl) (lv : Int) (on : List Int) (inflow : Int) : Int := lv + inflow - W.drain * on.sum
def ledTo (W : Wl) (s : Ss) (a b inflow : Int) : Res Ss × Int :=
  let on := agedOn a b s.on
  let lv := nextLv W s.lv on inflow
  let busy := s.on.sum + s.off.sum + a
  if W.top < lv then (.over, busy) else if lv < 0 then (.dry, busy) else
    (.at ⟨lv, if 0 < W.lag then s.past.drop 1 ++ [s.lv] else [], on, agedOff b s.off, agedReady a b s.off s.ready⟩, busy)
def ledBy (W : Wl) (p : Pl) (d : Int × Int) (inflow : Int) : Res Pl :=
  let on := agedOn d.1 d.2 p.on
  let lv := nextLv W p.lv on inflow
  if W.top < lv then .over else if lv < 0 then .dry else .at ⟨lv, on, agedOff d.2 p.off, agedReady d.1 d.2 p.off p.ready⟩
/-! ### small rules -/
section
variable {X : Cx} {Φ : Lk} {δ : Slots} {E : En} {e a b c : Expr} {es : List Expr} {pos : Pos}
theorem je_ite {c : Expr} {k : Bool} {x y : PyData} (h : JT X Φ c δ k) (h1 : k = true → JE X Φ a δ (.d x)) (h2 : k = false → JE X Φ b δ (.d y)) : JE X Φ (.IfExp c a b pos) δ (.d (if k = true then x else y)) := by
  refine je_ifd h (fun e => ?_) (fun e => ?_)
  · rw [if_pos e]; exact h1 e
  · rw [if_neg (by rw [e]; decide)]; exact h2 e
end
section
variable {X : Cx} {Φ : Lk} {δ : Slots} {E : En} {e a b c : Expr} {es : List Expr} {pos : Pos} {st : Stmt} {sts rest : List Stmt}
theorem je_isL {ds es' : List PyData} (h : JE X Φ e δ (.o (SK.l ds))) (q : ds = es') : JE X Φ e δ (.o (SK.l es')) := q ▸ h
theorem jr_isL {ds es' : List PyData} (h : JR X Φ e δ (SK.l ds)) (q : ds = es') : JR X Φ e δ (SK.l es') := q ▸ h
open Classical in
/-- a function of the members, read at what stands for them -/
noncomputable def viaE {α β : Type} [Inhabited β] (l : List α) (e' : α → PyData) (f : α → β) (d : PyData) : β := if h : ∃ x, x ∈ l ∧ e' x = d then f h.choose else default
theorem viaE_at {α β : Type} [Inhabited β] {l : List α} {e' : α → PyData} (he : ∀ x ∈ l, ∀ y ∈ l, e' x = e' y → x = y) (f : α → β) {x : α} (hx : x ∈ l) : viaE l e' f (e' x) = f x := by
  unfold viaE
  have h : ∃ y, y ∈ l ∧ e' y = e' x := ⟨x, hx, rfl⟩
  rw [dif_pos h, he _ h.choose_spec.1 _ hx h.choose_spec.2]
instance : Inhabited PyData := ⟨.none⟩
theorem lcOut_via {α : Type} {l : List α} {e' : α → PyData} (he : ∀ x ∈ l, ∀ y ∈ l, e' x = e' y → x = y) (f : α → Bool) (g : α → PyData) : lcOut (viaE l e' f) (viaE l e' g) (l.map e') = (l.filter f).map g := by
  have key : ∀ l' : List α, (∀ x ∈ l', x ∈ l) → ((l'.map e').filter (viaE l e' f)).map (viaE l e' g) = (l'.filter f).map g := by
    intro l'
    induction l' with
    | nil => intro _; rfl
    | cons x t ih =>
      intro hx
      have h1 := hx x List.mem_cons_self
      have h2 := ih fun y hy => hx y (List.mem_cons_of_mem _ hy)
      rw [List.map_cons, List.filter_cons, List.filter_cons, viaE_at he f h1]
      by_cases hf : f x = true
      · rw [if_pos hf, if_pos hf, List.map_cons, List.map_cons, viaE_at he g h1, h2]
      · rw [if_neg hf, if_neg hf, h2]
  exact key l fun _ h => h
theorem je_lcT {elt tg iter : Expr} {ifs : List Expr} {scope : Scope} {own : List (Str × Nat)} {α : Type} {l : List α} {e' : α → PyData} {f : α → Bool} {g : α → PyData} (he : ∀ x ∈ l, ∀ y ∈ l, e' x = e' y → x = y) (ok : BlkOk X.N X.env.scope scope own) (hN : X.N.Nodup) (hi : JIx X Φ tg iter δ (l.map e'))
    (ht : ∀ x ∈ l, LcTurn X scope (own.map (·.2)) Φ δ tg ifs elt (e' x) (f x) (g x)) (hz : l.length ≤ 1000000) (hc : X.calm = true := by rfl) (hs : ∀ x, foldedSetIterable iter X.env x = pure x := by intro _; rfl) :
    JE X Φ (.ListComp elt [⟨tg, iter, ifs, 0⟩] scope pos) δ (.o (SK.l ((l.filter f).map g))) := by
  rw [← lcOut_via he f g]
  refine je_lc ok hN hi (fun d hd => ?_) (by simpa using hz) hc hs
  obtain ⟨x, hx, rfl⟩ := List.mem_map.mp hd
  rw [viaE_at he f hx, viaE_at he g hx]
  exact ht x hx
theorem jp_setLcT {i : Nat} {y : Str} {py : Pos} {spos : Pos} {elt tg iter : Expr} {ifs : List Expr} {scope : Scope} {own : List (Str × Nat)} {α : Type} {l : List α} {e' : α → PyData} {f : α → Bool} {g : α → PyData} (he : ∀ x ∈ l, ∀ y ∈ l, e' x = e' y → x = y) (ok : BlkOk X.N X.env.scope scope own) (hN : X.N.Nodup) (hi : JIx X Φ tg iter δ (l.map e'))
    (ht : ∀ x ∈ l, LcTurn X scope (own.map (·.2)) Φ δ tg ifs elt (e' x) (f x) (g x)) (hz : l.length ≤ 1000000) (hn : E.nx (δ.set i (some (.o (SK.l ((l.filter f).map g)))))) (hsw : swapsWith (.ListComp elt [⟨tg, iter, ifs, 0⟩] scope pos) (some (.Name y py)) spos.line X.env = pure true := by rfl)
    (hy : X.N[i]? = some y := by rfl) (hyl : X.env.scope.names.lookup y = some .local := by rfl) (hc : X.calm = true := by rfl) (hs : ∀ x, foldedSetIterable iter X.env x = pure x := by intro _; rfl) :
    JP X Φ (.Assign [.Name y py] (.ListComp elt [⟨tg, iter, ifs, 0⟩] scope pos) spos) δ E := by
  rw [← lcOut_via he f g] at hn
  refine jp_setLc ok hN hi (fun d hd => ?_) (by simpa using hz) hn hsw hy hyl hc hs
  obtain ⟨x, hx, rfl⟩ := List.mem_map.mp hd
  rw [viaE_at he f hx, viaE_at he g hx]
  exact ht x hx
end
theorem filtT {α : Type} (l : List α) : l.filter (fun _ => true) = l := List.filter_eq_self.mpr fun _ _ => rfl
theorem intInj {l : List Int} : ∀ x ∈ l, ∀ y ∈ l, PyData.int x = PyData.int y → x = y := fun _ _ _ _ h => by injection h
theorem iLInj {l : List (List Int)} : ∀ x ∈ l, ∀ y ∈ l, iL x = iL y → x = y := fun x _ y _ h => by
  injection h with h
  exact (List.map_inj_right (fun a b h => by injection h)).mp h
theorem idInj {l : List PyData} : ∀ x ∈ l, ∀ y ∈ l, id x = id y → x = y := fun _ _ _ _ h => h
theorem at0 {l : List Int} (h : l ≠ []) : atI (l.map PyData.int) 0 = some (.int (l.headD 0)) := by
  cases l with
  | nil => exact absurd rfl h
  | cons x t =>
    have e : ixN (t.length + 1) 0 = some 0 := by
      unfold ixN
      rw [if_pos (by omega), if_pos (by omega)]
      rfl
    unfold atI
    rw [List.length_map, List.length_cons, e]
    rfl
theorem atLast {l : List Int} (h : l ≠ []) : atI (l.map PyData.int) (-1) = some (.int (l.getLastD 0)) := by
  have hl : 0 < l.length := List.length_pos_iff.mpr h
  have e : ixN l.length (-1) = some (l.length - 1) := by
    unfold ixN
    rw [if_neg (by omega), if_pos (by omega)]
    congr 1
    omega
  unfold atI
  rw [List.length_map, e]
  simp only [Option.bind_some, List.getElem?_map]
  rw [← List.getLast?_eq_getElem?, List.getLastD_eq_getLast?, List.getLast?_eq_some_getLast h]
  rfl
end Pq

namespace Pq
open PySem PySem.Spec L2
open PyProof.Rows hiding St
open Evl (Ex)

def loB (i : Int) : PyData → Bool
  | .int l => decide (l ≤ i)
  | _ => true
def hiB (i : Int) : PyData → Bool
  | .int l => decide (i ≤ l)
  | _ => true
def BdOk (d : PyData) : Prop := d = .none ∨ ∃ l, d = .int l
def s_is_whole : Rl := RL (fun (x : Int × PyData × PyData) => match x with | (_, lo, hi) => BdOk lo ∧ BdOk hi) (fun (i, lo, hi) => [.d (.int i), .d lo, .d hi]) (fun (i, lo, hi) => .d (.bool (loB i lo && hiB i hi)))
theorem wh {i lo hi : Int} (h1 : lo ≤ i) (h2 : i ≤ hi) : s_is_whole [.d (.int i), .d (.int lo), .d (.int hi)] (.d (.bool true)) :=
  ⟨(i, .int lo, .int hi), ⟨.inr ⟨_, rfl⟩, .inr ⟨_, rfl⟩⟩, rfl, by simp [loB, hiB, h1, h2]⟩
theorem whN {i lo : Int} (h1 : lo ≤ i) : s_is_whole [.d (.int i), .d (.int lo), .d .none] (.d (.bool true)) :=
  ⟨(i, .int lo, .none), ⟨.inr ⟨_, rfl⟩, .inl rfl⟩, rfl, by simp [loB, hiB, h1]⟩
/-- a def that answers one thing when its arguments are right -/
def s_wrong_part : Rl := RL Wl.Ok (fun W => [.d (wD W)]) (fun _ => .d .none)
def s_need_well : Rl := RL Wl.Ok (fun W => [.d (wD W)]) (fun W => .d (wD W))
def s_is_number : Rl := RL (fun n : Int => 0 ≤ n ∧ n ≤ 50) (fun n => [.d (.int n)]) (fun _ => .d (.bool true))
def s_need_number : Rl := RL (fun n : Int => 0 ≤ n ∧ n ≤ 50) (fun n => [.d (.int n)]) (fun _ => .d .none)
def s_are_counts : Rl := RL (fun l : List Int => l.length ≤ 1000000 ∧ ∀ i ∈ l, 0 ≤ i ∧ i ≤ 1000) (fun l => [.d (iL l), .d (.int l.length)]) (fun _ => .d (.bool true))
def s_is_inflow : Rl := RL (fun n : Int => 0 ≤ n ∧ n ≤ 300) (fun n => [.d (.int n)]) (fun _ => .d (.bool true))
def s_is_range : Rl := RL (fun (x : (Int × Int) × Int) => match x with | ((a, b), m) => 0 ≤ a ∧ a ≤ b ∧ b ≤ m) (fun (r, m) => [.d (dD r), .d (.int m)]) (fun _ => .d (.bool true))
structure RgOk (r : Int × Int) : Prop where
  a : 0 ≤ r.1
  b : r.1 ≤ r.2
  c : r.2 ≤ 300
structure LvOk (W : Wl) (r : Int × Int) : Prop where
  a : 0 ≤ r.1
  b : r.1 ≤ r.2
  c : r.2 ≤ W.top
def cD (W : Wl) (r l : Int × Int) : PyData := .tuple [wD W, dD r, dD l]
def s_need_claim : Rl := RL (fun (x : Wl × (Int × Int) × (Int × Int)) => match x with | (W, r, l) => W.Ok ∧ RgOk r ∧ LvOk W l) (fun (W, r, l) => [.d (cD W r l)]) (fun (W, r, l) => .d (cD W r l))
def s_need_inflows : Rl := RL RgOk (fun r => [.d (dD r)]) (fun _ => .d .none)
def s_need_pumps : Rl := RL (fun (x : Wl × Int) => match x with | (W, n) => W.Ok ∧ 0 ≤ n ∧ n ≤ 12) (fun (W, n) => [.d (wD W), .d (.int n)]) (fun _ => .d .none)
/-- a place of n pumps -/
structure Pl.Ok (W : Wl) (n : Int) (p : Pl) : Prop where
  lv1 : 0 ≤ p.lv
  lv2 : p.lv ≤ W.top
  on : (p.on.length : Int) = W.run
  off : (p.off.length : Int) = W.rest - 1
  on0 : ∀ i ∈ p.on, 0 ≤ i ∧ i ≤ 12
  off0 : ∀ i ∈ p.off, 0 ≤ i ∧ i ≤ 12
  r0 : 0 ≤ p.ready
  sum : p.on.sum + p.off.sum + p.ready = n
  r1 : p.ready ≤ n
def s_is_place_of : Rl := RL (fun (x : Wl × Int × Pl) => match x with | (W, n, p) => W.Ok ∧ p.Ok W n) (fun (W, n, p) => [.d (wD W), .d (.int n), .d (pD p)]) (fun _ => .d (.bool true))
def s_need_place : Rl := RL (fun (x : Wl × Int × Pl) => match x with | (W, n, p) => W.Ok ∧ p.Ok W n) (fun (W, n, p) => [.d (wD W), .d (.int n), .d (pD p)]) (fun _ => .d .none)
def s_need_all : Rl := RL (fun (x : Wl × (Int × Int) × Int × Pl) => match x with | (W, r, n, p) => W.Ok ∧ RgOk r ∧ (0 ≤ n ∧ n ≤ 12) ∧ p.Ok W n) (fun (W, r, n, p) => [.d (wD W), .d (dD r), .d (.int n), .d (pD p)]) (fun _ => .d .none)
section
variable {P : Program} {w : World} {K : PySem.W.Frag} {mg : Str → Option Value} {base : Heap}
-- is_whole (top 18)
theorem ok_is_whole {k : Nat} {f : Addr} {fd : FuncData} (T : Txt mg) (F : Fun K "is_whole" "is_whole" (top 18) f fd) : FnOk P w K mg base CX0 (k + 1) f fd ["thing", "least", "most"] (spF s_is_whole) := by
  have sc : FnScope ["thing", "least", "most"] ["thing", "least", "most"] (defScope (top 18)) := ⟨rfl, rfl, rfl, by decide +kernel, rfl, by decide +kernel, by decide +kernel⟩
  have nd : (["thing", "least", "most"] : List Str).Nodup := by decide +kernel
  refine fn_ok F sc (RL.len fun _ => rfl) (fun cdv A outer s H E ks r hr hS => ?_)
  obtain ⟨⟨i, lo, hi⟩, ⟨hlo, hhi⟩, rfl, rfl⟩ := hS
  refine js_cons (jp_ifno (jt_is (jt_w (jw_or (jt_not (jt_val (je_isi (tn := "int") T.isinstance T.int (by decide +kernel) rfl (je_nm (i := 0) rfl rfl)))) fun _ => (jw_or1 (jt_val (je_isi (tn := "bool") T.isinstance T.bool (by decide +kernel) rfl (je_nm (i := 0) rfl rfl)))))) rfl) ?_)
  rcases hlo with rfl | ⟨l, rfl⟩ <;> rcases hhi with rfl | ⟨u, rfl⟩
  · refine js_one (jp_ret (je_is (je_and (je_is (y := .bool (true || true)) (je_or (l := true) (je_c (jc_isN (je_nm (i := 1) rfl rfl))) (fun z => nomatch z)) rfl) (fun _ => je_one (je_is (y := .bool (true || true)) (je_or (l := true) (je_c (jc_isN (je_nm (i := 2) rfl rfl))) (fun z => nomatch z)) rfl))) rfl) trivial rfl)
  · refine js_one (jp_ret (je_is (je_and (je_is (y := .bool (true || true)) (je_or (l := true) (je_c (jc_isN (je_nm (i := 1) rfl rfl))) (fun z => nomatch z)) rfl) (fun _ => je_one (je_is (y := .bool (false || decide (i ≤ u))) (je_or (l := decide (i ≤ u)) (je_c (jc_isN (je_nm (i := 2) rfl rfl))) (fun z => je_one (je_c (jc_le (je_nm (i := 0) rfl rfl) (je_nm (i := 2) rfl rfl))))) rfl))) rfl) trivial rfl)
  · refine js_one (jp_ret (je_is (je_and (je_is (y := .bool (false || decide (l ≤ i))) (je_or (l := decide (l ≤ i)) (je_c (jc_isN (je_nm (i := 1) rfl rfl))) (fun z => je_one (je_c (jc_ge (je_nm (i := 0) rfl rfl) (je_nm (i := 1) rfl rfl))))) rfl) (fun _ => je_one (je_is (y := .bool (true || true)) (je_or (l := true) (je_c (jc_isN (je_nm (i := 2) rfl rfl))) (fun z => nomatch z)) rfl))) rfl) trivial rfl)
  · refine js_one (jp_ret (je_is (je_and (je_is (y := .bool (false || decide (l ≤ i))) (je_or (l := decide (l ≤ i)) (je_c (jc_isN (je_nm (i := 1) rfl rfl))) (fun z => je_one (je_c (jc_ge (je_nm (i := 0) rfl rfl) (je_nm (i := 1) rfl rfl))))) rfl) (fun _ => je_one (je_is (y := .bool (false || decide (i ≤ u))) (je_or (l := decide (i ≤ u)) (je_c (jc_isN (je_nm (i := 2) rfl rfl))) (fun z => je_one (je_c (jc_le (je_nm (i := 0) rfl rfl) (je_nm (i := 2) rfl rfl))))) rfl))) rfl) trivial rfl)

-- wrong_part (top 19)
theorem ok_wrong_part {k : Nat} {f : Addr} {fd : FuncData} (T : Txt mg) (h_is_whole : Has P w K mg base k "is_whole" ["thing", "least", "most"] (spF s_is_whole)) (F : Fun K "wrong_part" "wrong_part" (top 19) f fd) : FnOk P w K mg base CX0 (k + 1) f fd ["thing"] (spF s_wrong_part) := by
  have sc : FnScope ["thing", "top", "drain", "on", "off", "run", "rest", "starts", "step", "lag"] ["thing"] (defScope (top 19)) := ⟨rfl, rfl, rfl, by decide +kernel, rfl, by decide +kernel, by decide +kernel⟩
  have nd : (["thing", "top", "drain", "on", "off", "run", "rest", "starts", "step", "lag"] : List Str).Nodup := by decide +kernel
  refine fn_ok F sc (RL.len fun _ => rfl) (fun cdv A outer s H E ks r hr hS => ?_)
  obtain ⟨W, ⟨t1, t2, d1, d2, o1, o2, f1, f2, r1, r2, q1, q2, s1, s2, e1, e2, g1, g2⟩, rfl, rfl⟩ := hS
  refine js_cons (jp_asg (je_nm (i := 0) rfl rfl) (tg_tup (nm_cons (i := 1) nd (nm_cons (i := 2) nd (nm_cons (i := 3) nd (nm_cons (i := 4) nd (nm_cons (i := 5) nd (nm_cons (i := 6) nd (nm_cons (i := 7) nd (nm_cons (i := 8) nd (nm_cons (i := 9) nd nm_nil))))))))) rfl) ?_)
  refine js_cons (jp_ifno (jt_is (jt_not (jt_val (je_call h_is_whole hr (ja_cons (jg_d (je_nm (i := 1) rfl rfl)) (ja_cons (jg_d je_int) (ja_cons (jg_d (je_gi T.MOST_TOP)) ja_nil))) (wh (by omega) (by omega)) trivial))) rfl) ?_)
  refine js_cons (jp_ifno (jt_is (jt_not (jt_val (je_call h_is_whole hr (ja_cons (jg_d (je_nm (i := 2) rfl rfl)) (ja_cons (jg_d je_int) (ja_cons (jg_d (je_gi T.MOST_DRAIN)) ja_nil))) (wh (by omega) (by omega)) trivial))) rfl) ?_)
  refine js_cons (jp_ifno (jt_is (jt_not (jt_val (je_call h_is_whole hr (ja_cons (jg_d (je_nm (i := 3) rfl rfl)) (ja_cons (jg_d je_int) (ja_cons (jg_d (je_nm (i := 1) rfl rfl)) ja_nil))) (wh (by omega) (by omega)) trivial))) rfl) ?_)
  refine js_cons (jp_ifno (jt_is (jt_not (jt_val (je_call h_is_whole hr (ja_cons (jg_d (je_nm (i := 4) rfl rfl)) (ja_cons (jg_d je_int) (ja_cons (jg_d (je_sub (je_nm (i := 3) rfl rfl) je_int)) ja_nil))) (wh (by omega) (by omega)) trivial))) rfl) ?_)
  refine js_cons (jp_ifno (jt_is (jt_not (jt_val (je_call h_is_whole hr (ja_cons (jg_d (je_nm (i := 5) rfl rfl)) (ja_cons (jg_d je_int) (ja_cons (jg_d (je_gi T.MOST_AGE)) ja_nil))) (wh (by omega) (by omega)) trivial))) rfl) ?_)
  refine js_cons (jp_ifno (jt_is (jt_not (jt_val (je_call h_is_whole hr (ja_cons (jg_d (je_nm (i := 6) rfl rfl)) (ja_cons (jg_d je_int) (ja_cons (jg_d (je_gi T.MOST_AGE)) ja_nil))) (wh (by omega) (by omega)) trivial))) rfl) ?_)
  refine js_cons (jp_ifno (jt_is (jt_not (jt_val (je_call h_is_whole hr (ja_cons (jg_d (je_nm (i := 7) rfl rfl)) (ja_cons (jg_d je_int) (ja_cons (jg_d (je_gi T.MOST_STARTS)) ja_nil))) (wh (by omega) (by omega)) trivial))) rfl) ?_)
  refine js_cons (jp_ifno (jt_is (jt_not (jt_val (je_call h_is_whole hr (ja_cons (jg_d (je_nm (i := 8) rfl rfl)) (ja_cons (jg_d je_int) (ja_cons (jg_d (je_gi T.MOST_STEP)) ja_nil))) (wh (by omega) (by omega)) trivial))) rfl) ?_)
  refine js_one (jp_ret (je_is (je_ite (jt_val (je_call h_is_whole hr (ja_cons (jg_d (je_nm (i := 9) rfl rfl)) (ja_cons (jg_d je_int) (ja_cons (jg_d (je_gi T.MOST_LAG)) ja_nil))) (wh (by omega) (by omega)) trivial)) (fun h => je_non) (fun h => je_str)) rfl) trivial rfl)

-- need_well (top 20)
theorem ok_need_well {k : Nat} {f : Addr} {fd : FuncData} (T : Txt mg) (h_wrong_part : Has P w K mg base k "wrong_part" ["thing"] (spF s_wrong_part)) (F : Fun K "need_well" "need_well" (top 20) f fd) : FnOk P w K mg base CX0 (k + 1) f fd ["thing"] (spF s_need_well) := by
  have sc : FnScope ["thing", "part"] ["thing"] (defScope (top 20)) := ⟨rfl, rfl, rfl, by decide +kernel, rfl, by decide +kernel, by decide +kernel⟩
  have nd : (["thing", "part"] : List Str).Nodup := by decide +kernel
  refine fn_ok F sc (RL.len fun _ => rfl) (fun cdv A outer s H E ks r hr hS => ?_)
  obtain ⟨W, ok, rfl, rfl⟩ := hS
  refine js_cons (jp_ifno (jt_is (jt_w (jw_or (jt_not (jt_val (je_isi (tn := "tuple") T.isinstance T.tuple (by decide +kernel) rfl (je_nm (i := 0) rfl rfl)))) fun _ => (jw_or1 (jt_c (jc_neI (je_lenT T.len (je_nm (i := 0) rfl rfl)) je_int))))) rfl) ?_)
  refine js_cons (jp_set (i := 1) (je_call h_wrong_part hr (ja_cons (jg_d (je_nm (i := 0) rfl rfl)) ja_nil) ⟨W, ok, rfl, rfl⟩ trivial) trivial ?_ nd)
  refine js_cons (jp_ifno (jt_is (jt_c (jc_notN (je_nm (i := 1) rfl rfl))) rfl) ?_)
  refine js_one (jp_ret (je_is (je_nm (i := 0) rfl rfl) rfl) trivial rfl)

-- is_number (top 21)
theorem ok_is_number {k : Nat} {f : Addr} {fd : FuncData} (T : Txt mg) (h_is_whole : Has P w K mg base k "is_whole" ["thing", "least", "most"] (spF s_is_whole)) (F : Fun K "is_number" "is_number" (top 21) f fd) : FnOk P w K mg base CX0 (k + 1) f fd ["thing"] (spF s_is_number) := by
  have sc : FnScope ["thing"] ["thing"] (defScope (top 21)) := ⟨rfl, rfl, rfl, by decide +kernel, rfl, by decide +kernel, by decide +kernel⟩
  have nd : (["thing"] : List Str).Nodup := by decide +kernel
  refine fn_ok F sc (RL.len fun _ => rfl) (fun cdv A outer s H E ks r hr hS => ?_)
  obtain ⟨n, ⟨n0, n1⟩, rfl, rfl⟩ := hS
  refine js_one (jp_ret (je_is (je_or (je_c (jc_isN (je_nm (i := 0) rfl rfl))) fun _ => (je_one (je_call h_is_whole hr (ja_cons (jg_d (je_nm (i := 0) rfl rfl)) (ja_cons (jg_d je_int) (ja_cons (jg_d (je_gi T.MOST_NUMBER)) ja_nil))) (wh (by omega) (by omega)) trivial))) rfl) trivial rfl)

-- need_number (top 22)
theorem ok_need_number {k : Nat} {f : Addr} {fd : FuncData} (T : Txt mg) (h_is_number : Has P w K mg base k "is_number" ["thing"] (spF s_is_number)) (F : Fun K "need_number" "need_number" (top 22) f fd) : FnOk P w K mg base CX0 (k + 1) f fd ["number"] (spF s_need_number) := by
  have sc : FnScope ["number"] ["number"] (defScope (top 22)) := ⟨rfl, rfl, rfl, by decide +kernel, rfl, by decide +kernel, by decide +kernel⟩
  have nd : (["number"] : List Str).Nodup := by decide +kernel
  refine fn_ok F sc (RL.len fun _ => rfl) (fun cdv A outer s H E ks r hr hS => ?_)
  obtain ⟨n, ok, rfl, rfl⟩ := hS
  refine js_one (jp_ifno (jt_is (jt_not (jt_val (je_call h_is_number hr (ja_cons (jg_d (je_nm (i := 0) rfl rfl)) ja_nil) ⟨n, ok, rfl, rfl⟩ trivial))) rfl) rfl)

-- are_counts (top 23)
theorem ok_are_counts {k : Nat} {f : Addr} {fd : FuncData} (T : Txt mg) (h_is_whole : Has P w K mg base k "is_whole" ["thing", "least", "most"] (spF s_is_whole)) (F : Fun K "are_counts" "are_counts" (top 23) f fd) : FnOk P w K mg base CX0 (k + 1) f fd ["thing", "many"] (spF s_are_counts) := by
  have sc : FnScope ["thing", "many", "count"] ["thing", "many"] (defScope (top 23)) := ⟨rfl, rfl, rfl, by decide +kernel, rfl, by decide +kernel, by decide +kernel⟩
  have nd : (["thing", "many", "count"] : List Str).Nodup := by decide +kernel
  refine fn_ok F sc (RL.len fun _ => rfl) (fun cdv A outer s H E ks r hr hS => ?_)
  obtain ⟨l, ⟨hl, ok⟩, rfl, rfl⟩ := hS
  refine js_cons (jp_ifno (jt_is (jt_w (jw_or (jt_not (jt_val (je_isi (tn := "tuple") T.isinstance T.tuple (by decide +kernel) rfl (je_nm (i := 0) rfl rfl)))) fun _ => (jw_or1 (jt_c (jc_neI (je_lenT T.len (je_nm (i := 0) rfl rfl)) (je_nm (i := 1) rfl rfl)))))) (by simp)) ?_)
  refine js_one (jp_ret (je_is (je_all (bs := l.map fun _ => true) T.all (jr_new (je_isL (je_lcT (l := l) (e' := .int) (f := fun _ => true) (g := fun _ => .bool true) intInj (blkOk_by (own := [("count", 2)]) rfl) nd (jix (ji_tup (je_nm (i := 0) rfl rfl))) (fun i hi => ?_) hl) ?_))) ?_) trivial rfl)
  · have := ok i hi
    exact ⟨[2], _, by decide, fun s H C cl fp => ⟨tg_name (i := 2) nd, jts_nil, fun _ => je_call h_is_whole hr (ja_cons (jg_d (je_nm (i := 2) rfl rfl)) (ja_cons (jg_d je_int) (ja_cons (jg_d (je_gi T.MOST_COUNT)) ja_nil))) (wh (by omega) (by omega)) trivial⟩⟩
  · rw [filtT, List.map_map]
    rfl
  · simp
-- is_inflow (top 29)
theorem ok_is_inflow {k : Nat} {f : Addr} {fd : FuncData} (T : Txt mg) (h_is_whole : Has P w K mg base k "is_whole" ["thing", "least", "most"] (spF s_is_whole)) (F : Fun K "is_inflow" "is_inflow" (top 29) f fd) : FnOk P w K mg base CX0 (k + 1) f fd ["thing"] (spF s_is_inflow) := by
  have sc : FnScope ["thing"] ["thing"] (defScope (top 29)) := ⟨rfl, rfl, rfl, by decide +kernel, rfl, by decide +kernel, by decide +kernel⟩
  have nd : (["thing"] : List Str).Nodup := by decide +kernel
  refine fn_ok F sc (RL.len fun _ => rfl) (fun cdv A outer s H E ks r hr hS => ?_)
  obtain ⟨n, ⟨n0, n1⟩, rfl, rfl⟩ := hS
  refine js_one (jp_ret (je_is (je_call h_is_whole hr (ja_cons (jg_d (je_nm (i := 0) rfl rfl)) (ja_cons (jg_d je_int) (ja_cons (jg_d (je_gi T.MOST_INFLOW)) ja_nil))) (wh (by omega) (by omega)) trivial) rfl) trivial rfl)

-- is_range (top 34)
theorem ok_is_range {k : Nat} {f : Addr} {fd : FuncData} (T : Txt mg) (h_is_whole : Has P w K mg base k "is_whole" ["thing", "least", "most"] (spF s_is_whole)) (F : Fun K "is_range" "is_range" (top 34) f fd) : FnOk P w K mg base CX0 (k + 1) f fd ["thing", "most"] (spF s_is_range) := by
  have sc : FnScope ["thing", "most"] ["thing", "most"] (defScope (top 34)) := ⟨rfl, rfl, rfl, by decide +kernel, rfl, by decide +kernel, by decide +kernel⟩
  have nd : (["thing", "most"] : List Str).Nodup := by decide +kernel
  refine fn_ok F sc (RL.len fun _ => rfl) (fun cdv A outer s H E ks r hr hS => ?_)
  obtain ⟨⟨⟨lo, hi⟩, m⟩, ⟨h1, h2, h3⟩, rfl, rfl⟩ := hS
  refine js_cons (jp_ifno (jt_is (jt_w (jw_or (jt_not (jt_val (je_isi (tn := "tuple") T.isinstance T.tuple (by decide +kernel) rfl (je_nm (i := 0) rfl rfl)))) fun _ => (jw_or (jt_c (jc_neI (je_lenT T.len (je_nm (i := 0) rfl rfl)) je_int)) fun _ => (jw_or1 (jt_not (jt_val (je_call h_is_whole hr (ja_cons (jg_d (je_ix (je_nm (i := 0) rfl rfl) je_int rfl)) (ja_cons (jg_d je_int) (ja_cons (jg_d (je_nm (i := 1) rfl rfl)) ja_nil))) (wh (by omega) (by omega)) trivial))))))) rfl) ?_)
  refine js_one (jp_ret (je_is (je_call h_is_whole hr (ja_cons (jg_d (je_ix (je_nm (i := 0) rfl rfl) je_int rfl)) (ja_cons (jg_d (je_ix (je_nm (i := 0) rfl rfl) je_int rfl)) (ja_cons (jg_d (je_nm (i := 1) rfl rfl)) ja_nil))) (wh (by omega) (by omega)) trivial) rfl) trivial rfl)

-- need_claim (top 35)
theorem ok_need_claim {k : Nat} {f : Addr} {fd : FuncData} (T : Txt mg) (h_wrong_part : Has P w K mg base k "wrong_part" ["thing"] (spF s_wrong_part)) (h_is_range : Has P w K mg base k "is_range" ["thing", "most"] (spF s_is_range)) (F : Fun K "need_claim" "need_claim" (top 35) f fd) : FnOk P w K mg base CX0 (k + 1) f fd ["thing"] (spF s_need_claim) := by
  have sc : FnScope ["thing"] ["thing"] (defScope (top 35)) := ⟨rfl, rfl, rfl, by decide +kernel, rfl, by decide +kernel, by decide +kernel⟩
  have nd : (["thing"] : List Str).Nodup := by decide +kernel
  refine fn_ok F sc (RL.len fun _ => rfl) (fun cdv A outer s H E ks r hr hS => ?_)
  obtain ⟨⟨W, r, l⟩, ⟨ok, ⟨ra, rb, rc⟩, ⟨la, lb, lc⟩⟩, rfl, rfl⟩ := hS
  refine js_cons (jp_ifno (jt_is (jt_w (jw_or (jt_not (jt_val (je_isi (tn := "tuple") T.isinstance T.tuple (by decide +kernel) rfl (je_nm (i := 0) rfl rfl)))) fun _ => (jw_or1 (jt_c (jc_neI (je_lenT T.len (je_nm (i := 0) rfl rfl)) je_int))))) rfl) ?_)
  refine js_cons (jp_ifno (jt_is (jt_w (jw_or (jt_not (jt_val (je_isi (tn := "tuple") T.isinstance T.tuple (by decide +kernel) rfl (je_ix (je_nm (i := 0) rfl rfl) je_int rfl)))) fun _ => (jw_or (jt_c (jc_neI (je_lenT T.len (je_ix (je_nm (i := 0) rfl rfl) je_int rfl)) je_int)) fun _ => (jw_or1 (jt_c (jc_notN (je_call h_wrong_part hr (ja_cons (jg_d (je_ix (je_nm (i := 0) rfl rfl) je_int rfl)) ja_nil) ⟨W, ok, rfl, rfl⟩ trivial))))))) rfl) ?_)
  refine js_cons (jp_ifno (jt_is (jt_not (jt_val (je_call h_is_range hr (ja_cons (jg_d (je_ix (je_nm (i := 0) rfl rfl) je_int rfl)) (ja_cons (jg_d (je_gi T.MOST_INFLOW)) ja_nil)) ⟨(r, 300), ⟨ra, rb, rc⟩, rfl, rfl⟩ trivial))) rfl) ?_)
  refine js_cons (jp_ifno (jt_is (jt_not (jt_val (je_call h_is_range hr (ja_cons (jg_d (je_ix (je_nm (i := 0) rfl rfl) je_int rfl)) (ja_cons (jg_d (je_ix (je_ix (je_nm (i := 0) rfl rfl) je_int rfl) je_int rfl)) ja_nil)) ⟨(l, W.top), ⟨la, lb, lc⟩, rfl, rfl⟩ trivial))) rfl) ?_)
  refine js_one (jp_ret (je_is (je_nm (i := 0) rfl rfl) rfl) trivial rfl)

-- need_inflows (top 43)
theorem ok_need_inflows {k : Nat} {f : Addr} {fd : FuncData} (T : Txt mg) (h_is_range : Has P w K mg base k "is_range" ["thing", "most"] (spF s_is_range)) (F : Fun K "need_inflows" "need_inflows" (top 43) f fd) : FnOk P w K mg base CX0 (k + 1) f fd ["inflows"] (spF s_need_inflows) := by
  have sc : FnScope ["inflows"] ["inflows"] (defScope (top 43)) := ⟨rfl, rfl, rfl, by decide +kernel, rfl, by decide +kernel, by decide +kernel⟩
  have nd : (["inflows"] : List Str).Nodup := by decide +kernel
  refine fn_ok F sc (RL.len fun _ => rfl) (fun cdv A outer s H E ks r hr hS => ?_)
  obtain ⟨r, ⟨ra, rb, rc⟩, rfl, rfl⟩ := hS
  refine js_one (jp_ifno (jt_is (jt_not (jt_val (je_call h_is_range hr (ja_cons (jg_d (je_nm (i := 0) rfl rfl)) (ja_cons (jg_d (je_gi T.MOST_INFLOW)) ja_nil)) ⟨(r, 300), ⟨ra, rb, rc⟩, rfl, rfl⟩ trivial))) rfl) rfl)

-- need_pumps (top 48)
theorem ok_need_pumps {k : Nat} {f : Addr} {fd : FuncData} (T : Txt mg) (h_need_well : Has P w K mg base k "need_well" ["thing"] (spF s_need_well)) (h_is_whole : Has P w K mg base k "is_whole" ["thing", "least", "most"] (spF s_is_whole)) (F : Fun K "need_pumps" "need_pumps" (top 48) f fd) : FnOk P w K mg base CX0 (k + 1) f fd ["well", "number"] (spF s_need_pumps) := by
  have sc : FnScope ["well", "number"] ["well", "number"] (defScope (top 48)) := ⟨rfl, rfl, rfl, by decide +kernel, rfl, by decide +kernel, by decide +kernel⟩
  have nd : (["well", "number"] : List Str).Nodup := by decide +kernel
  refine fn_ok F sc (RL.len fun _ => rfl) (fun cdv A outer s H E ks r hr hS => ?_)
  obtain ⟨⟨W, n⟩, ⟨ok, n0, n1⟩, rfl, rfl⟩ := hS
  refine js_cons (jp_expr (je_call h_need_well hr (ja_cons (jg_d (je_nm (i := 0) rfl rfl)) ja_nil) ⟨W, ok, rfl, rfl⟩ trivial) ?_)
  refine js_one (jp_ifno (jt_is (jt_not (jt_val (je_call h_is_whole hr (ja_cons (jg_d (je_nm (i := 1) rfl rfl)) (ja_cons (jg_d je_int) (ja_cons (jg_d (je_gi T.MOST_PUMPS)) ja_nil))) (wh (by omega) (by omega)) trivial))) rfl) rfl)

-- is_place_of (top 49)
theorem ok_is_place_of {k : Nat} {f : Addr} {fd : FuncData} (T : Txt mg) (h_is_whole : Has P w K mg base k "is_whole" ["thing", "least", "most"] (spF s_is_whole)) (h_are_counts : Has P w K mg base k "are_counts" ["thing", "many"] (spF s_are_counts)) (F : Fun K "is_place_of" "is_place_of" (top 49) f fd) : FnOk P w K mg base CX0 (k + 1) f fd ["well", "number", "thing"] (spF s_is_place_of) := by
  have sc : FnScope ["well", "number", "thing"] ["well", "number", "thing"] (defScope (top 49)) := ⟨rfl, rfl, rfl, by decide +kernel, rfl, by decide +kernel, by decide +kernel⟩
  have nd : (["well", "number", "thing"] : List Str).Nodup := by decide +kernel
  refine fn_ok F sc (RL.len fun _ => rfl) (fun cdv A outer s H E ks r hr hS => ?_)
  obtain ⟨⟨W, n, p⟩, ⟨⟨t1, t2, dd1, dd2, oo1, oo2, ff1, ff2, rr1, rr2, q1, q2, s1, s2, e1, e2, g1, g2⟩, ⟨v1, v2, o1, f1, o0, f0, r0, sm, r1⟩⟩, rfl, rfl⟩ := hS
  refine js_cons (jp_ifno (jt_is (jt_w (jw_or (jt_not (jt_val (je_isi (tn := "tuple") T.isinstance T.tuple (by decide +kernel) rfl (je_nm (i := 2) rfl rfl)))) fun _ => (jw_or (jt_c (jc_neI (je_lenT T.len (je_nm (i := 2) rfl rfl)) je_int)) fun _ => (jw_or1 (jt_not (jt_val (je_call h_is_whole hr (ja_cons (jg_d (je_ix (je_nm (i := 2) rfl rfl) je_int rfl)) (ja_cons (jg_d je_int) (ja_cons (jg_d (je_ix (je_nm (i := 0) rfl rfl) je_int rfl)) ja_nil))) (wh (by omega) (by omega)) trivial))))))) rfl) ?_)
  refine js_cons (jp_ifno (jt_is (jt_w (jw_or (jt_not (jt_val (je_call h_are_counts hr (ja_cons (jg_d (je_ix (je_nm (i := 2) rfl rfl) je_int rfl)) (ja_cons (jg_d (je_ix (je_nm (i := 0) rfl rfl) je_int rfl)) ja_nil)) ⟨p.on, ⟨by omega, fun i h => by have := o0 i h; omega⟩, by rw [← o1], rfl⟩ trivial))) fun _ => (jw_or (jt_not (jt_val (je_call h_are_counts hr (ja_cons (jg_d (je_ix (je_nm (i := 2) rfl rfl) je_int rfl)) (ja_cons (jg_d (je_sub (je_ix (je_nm (i := 0) rfl rfl) je_int rfl) je_int)) ja_nil)) ⟨p.off, ⟨by omega, fun i h => by have := f0 i h; omega⟩, by rw [← f1], rfl⟩ trivial))) fun _ => (jw_or1 (jt_not (jt_val (je_call h_is_whole hr (ja_cons (jg_d (je_ix (je_nm (i := 2) rfl rfl) je_int rfl)) (ja_cons (jg_d je_int) (ja_cons (jg_d (je_nm (i := 1) rfl rfl)) ja_nil))) (wh (by omega) (by omega)) trivial))))))) rfl) ?_)
  refine js_one (jp_ret (je_is (je_c (jc_eqI (je_add (je_add (je_sumT T.sum (je_is (je_ix (je_nm (i := 2) rfl rfl) je_int rfl) rfl)) (je_sumT T.sum (je_is (je_ix (je_nm (i := 2) rfl rfl) je_int rfl) rfl))) (je_ix (je_nm (i := 2) rfl rfl) je_int rfl)) (je_nm (i := 1) rfl rfl))) (by simp only [sm, decide_true])) trivial rfl)

-- need_place (top 53)
theorem ok_need_place {k : Nat} {f : Addr} {fd : FuncData} (T : Txt mg) (h_is_place_of : Has P w K mg base k "is_place_of" ["well", "number", "thing"] (spF s_is_place_of)) (F : Fun K "need_place" "need_place" (top 53) f fd) : FnOk P w K mg base CX0 (k + 1) f fd ["well", "number", "place"] (spF s_need_place) := by
  have sc : FnScope ["well", "number", "place"] ["well", "number", "place"] (defScope (top 53)) := ⟨rfl, rfl, rfl, by decide +kernel, rfl, by decide +kernel, by decide +kernel⟩
  have nd : (["well", "number", "place"] : List Str).Nodup := by decide +kernel
  refine fn_ok F sc (RL.len fun _ => rfl) (fun cdv A outer s H E ks r hr hS => ?_)
  obtain ⟨⟨W, n, p⟩, ok, rfl, rfl⟩ := hS
  refine js_one (jp_ifno (jt_is (jt_not (jt_val (je_call h_is_place_of hr (ja_cons (jg_d (je_nm (i := 0) rfl rfl)) (ja_cons (jg_d (je_nm (i := 1) rfl rfl)) (ja_cons (jg_d (je_nm (i := 2) rfl rfl)) ja_nil))) ⟨(W, n, p), ok, rfl, rfl⟩ trivial))) rfl) rfl)

-- need_all (top 60)
theorem ok_need_all {k : Nat} {f : Addr} {fd : FuncData} (T : Txt mg) (h_need_well : Has P w K mg base k "need_well" ["thing"] (spF s_need_well)) (h_need_inflows : Has P w K mg base k "need_inflows" ["inflows"] (spF s_need_inflows)) (h_need_pumps : Has P w K mg base k "need_pumps" ["well", "number"] (spF s_need_pumps)) (h_need_place : Has P w K mg base k "need_place" ["well", "number", "place"] (spF s_need_place)) (F : Fun K "need_all" "need_all" (top 60) f fd) : FnOk P w K mg base CX0 (k + 1) f fd ["well", "inflows", "number", "place"] (spF s_need_all) := by
  have sc : FnScope ["well", "inflows", "number", "place"] ["well", "inflows", "number", "place"] (defScope (top 60)) := ⟨rfl, rfl, rfl, by decide +kernel, rfl, by decide +kernel, by decide +kernel⟩
  have nd : (["well", "inflows", "number", "place"] : List Str).Nodup := by decide +kernel
  refine fn_ok F sc (RL.len fun _ => rfl) (fun cdv A outer s H E ks r hr hS => ?_)
  obtain ⟨⟨W, r, n, p⟩, ⟨ok, rg, nn, pp⟩, rfl, rfl⟩ := hS
  refine js_cons (jp_expr (je_call h_need_well hr (ja_cons (jg_d (je_nm (i := 0) rfl rfl)) ja_nil) ⟨W, ok, rfl, rfl⟩ trivial) ?_)
  refine js_cons (jp_expr (je_call h_need_inflows hr (ja_cons (jg_d (je_nm (i := 1) rfl rfl)) ja_nil) ⟨r, rg, rfl, rfl⟩ trivial) ?_)
  refine js_cons (jp_expr (je_call h_need_pumps hr (ja_cons (jg_d (je_nm (i := 0) rfl rfl)) (ja_cons (jg_d (je_nm (i := 2) rfl rfl)) ja_nil)) ⟨(W, n), ⟨ok, nn⟩, rfl, rfl⟩ trivial) ?_)
  refine js_one (jp_expr (je_call h_need_place hr (ja_cons (jg_d (je_nm (i := 0) rfl rfl)) (ja_cons (jg_d (je_nm (i := 2) rfl rfl)) (ja_cons (jg_d (je_nm (i := 3) rfl rfl)) ja_nil))) ⟨(W, n, p), ⟨ok, pp⟩, rfl, rfl⟩ trivial) rfl)

end
end Pq

namespace Pq
open PySem PySem.Spec L2
open PyProof.Rows hiding St
open Evl (Ex)

/-! ### what the small functions answer -/
structure Ss.Sh (W : Wl) (s : Ss) : Prop where
  past : (s.past.length : Int) = W.lag
  on : (s.on.length : Int) = W.run
  off : (s.off.length : Int) = W.rest - 1
def begunM (W : Wl) (n lv : Int) : Ss := ⟨lv, List.replicate W.lag.toNat lv, List.replicate W.run.toNat 0, List.replicate (W.rest - 1).toNat 0, n⟩
def s_begun_with : Rl := RL (fun (x : Wl × Int × Int) => match x with | (W, n, lv) => W.Ok) (fun (W, n, lv) => [.d (wD W), .d (.int n), .d (.int lv)]) (fun (W, n, lv) => .d (sD (begunM W n lv)))
def s_seen_of : Rl := RL (fun (x : Wl × Int × List Int) => match x with | (W, lv, past) => W.Ok ∧ (past.length : Int) = W.lag) (fun (W, lv, past) => [.d (wD W), .d (.int lv), .d (iL past)]) (fun (W, lv, past) => .d (.int (seenM W lv past)))
def s_moves_of : Rl := RL (fun (x : Wl × Ss) => match x with | (W, s) => W.Ok ∧ s.Sh W) (fun (W, s) => [.d (wD W), .d (sD s)]) (fun (W, s) => .d (dD (movesM W s)))
def s_aged : Rl := RL (fun (x : Wl × List Int × List Int × Int × Int × Int) => match x with | (W, on, off, rd, a, b) => W.Ok ∧ (on.length : Int) = W.run ∧ (off.length : Int) = W.rest - 1)
  (fun (W, on, off, rd, a, b) => [.d (wD W), .d (iL on), .d (iL off), .d (.int rd), .d (.int a), .d (.int b)]) (fun (W, on, off, rd, a, b) => .d (.tuple [iL (agedOn a b on), iL (agedOff b off), .int (agedReady a b off rd)]))
def ltD (r : Res Ss × Int) : PyData := .tuple [rD sD r.1, .int r.2]
def s_led_to : Rl := RL (fun (x : Wl × Ss × Int × Int × Int) => match x with | (W, s, a, b, i) => W.Ok ∧ s.Sh W)
  (fun (W, s, a, b, i) => [.d (wD W), .d (sD s), .d (.int a), .d (.int b), .d (.int i)]) (fun (W, s, a, b, i) => .d (ltD (ledTo W s a b i)))
/-- a place's shape -/
structure Pl.Sh (W : Wl) (p : Pl) : Prop where
  on : (p.on.length : Int) = W.run
  off : (p.off.length : Int) = W.rest - 1
def s_led_by : Rl := RL (fun (x : Wl × Pl × (Int × Int) × Int) => match x with | (W, p, d, i) => W.Ok ∧ p.Sh W)
  (fun (W, p, d, i) => [.d (wD W), .d (pD p), .d (dD d), .d (.int i)]) (fun (W, p, d, i) => .d (rD pD (ledBy W p d i)))
/-- lo, lo + 1, .., n of them -/
def rngI (lo : Int) (n : Nat) : List Int := (List.range n).map fun (i : Nat) => lo + (i : Int)
theorem rngI_map (lo : Int) (n : Nat) : rngD lo n = (rngI lo n).map PyData.int := by simp [rngD, rngI]
theorem mem_rngI {lo i : Int} {n : Nat} : i ∈ rngI lo n ↔ lo ≤ i ∧ i < lo + n := by
  unfold rngI
  rw [List.mem_map]
  constructor
  · rintro ⟨j, hj, rfl⟩
    rw [List.mem_range] at hj
    omega
  · rintro ⟨h1, h2⟩
    exact ⟨(i - lo).toNat, by rw [List.mem_range]; omega, by omega⟩
/-- lo .. hi -/
def rngC (r : Int × Int) : List Int := rngI r.1 (r.2 + 1 - r.1).toNat
theorem mem_rngC {r : Int × Int} {i : Int} : i ∈ rngC r ↔ r.1 ≤ i ∧ i ≤ r.2 := by
  unfold rngC
  rw [mem_rngI]
  omega
theorem rngC_len {r : Int × Int} : (rngC r).length = (r.2 + 1 - r.1).toNat := by simp [rngC, rngI]
def beatsM (W : Wl) (s : Ss) (r : Int × Int) : List (Int × Res Ss × Int) := (rngC r).map fun i => (i, ledTo W s (movesM W s).1 (movesM W s).2 i)
def btD (x : Int × Res Ss × Int) : PyData := .tuple [.int x.1, rD sD x.2.1, .int x.2.2]
def s_beats_of : Rl := RL (fun (x : Wl × Ss × Int × Int) => match x with | (W, s, r) => W.Ok ∧ s.Sh W ∧ RgOk r) (fun (W, s, r) => [.d (wD W), .d (sD s), .d (dD r)]) (fun (W, s, r) => .o (SK.l ((beatsM W s r).map btD)))
def begunL (W : Wl) (n : Int) (l : Int × Int) : List Ss := (rngC l).map fun lv => begunM W n lv
def s_begun_states : Rl := RL (fun (x : Wl × (Int × Int) × (Int × Int) × Int) => match x with | (W, r, l, n) => W.Ok ∧ LvOk W l) (fun (W, r, l, n) => [.d (cD W r l), .d (.int n)]) (fun (W, r, l, n) => .o (SK.l ((begunL W n l).map sD)))
def deedsM (W : Wl) (p : Pl) : List (Int × Int) := (rngI 0 (min W.starts p.ready + 1).toNat).flatMap fun a => (rngI 0 (p.on.getLastD 0 + 1).toNat).map fun b => (a, b)
def s_deeds_of : Rl := RL (fun (x : Wl × Pl) => match x with | (W, p) => W.Ok ∧ p.Sh W ∧ 0 ≤ p.ready ∧ 0 ≤ p.on.getLastD 0 ∧ p.on.getLastD 0 ≤ 100) (fun (W, p) => [.d (wD W), .d (pD p)]) (fun (W, p) => .o (SK.l ((deedsM W p).map dD)))
def s_is_deed_of : Rl := RL (fun (x : Wl × Pl × Int × Int) => match x with | (W, p, d) => W.Ok ∧ p.Sh W ∧ 0 ≤ p.ready ∧ 0 ≤ p.on.getLastD 0 ∧ p.on.getLastD 0 ≤ 100 ∧ d ∈ deedsM W p) (fun (W, p, d) => [.d (wD W), .d (pD p), .d (dD d)]) (fun _ => .d (.bool true))
/-- a place as a key -/
def kP (p : Pl) : NestedKey := .tup [.num p.lv, .tup (p.on.map .num), .tup (p.off.map .num), .num p.ready]
theorem datas_num : ∀ l : List Int, NestedKey.datas (l.map .num) = l.map .int
  | [] => rfl
  | i :: l => by
    show NestedKey.data (.num i) :: NestedKey.datas (l.map .num) = _
    rw [datas_num l]
    rfl
theorem kP_data (p : Pl) : (kP p).data = pD p := by
  show PyData.tuple [.int p.lv, .tuple (NestedKey.datas (p.on.map .num)), .tuple (NestedKey.datas (p.off.map .num)), .int p.ready] = _
  rw [datas_num, datas_num]
  rfl
def kR : Res Pl → NestedKey
  | .over => .text "over"
  | .dry => .text "dry"
  | .at p => kP p
theorem kR_data (r : Res Pl) : (kR r).data = rD pD r := by
  cases r with
  | over => rfl
  | dry => rfl
  | «at» p => exact kP_data p
theorem depths_num : ∀ l : List Int, NestedKey.depthAll (l.map .num) = 0
  | [] => rfl
  | i :: l => by
    show max 0 (NestedKey.depthAll (l.map .num)) = 0
    rw [depths_num l]
    rfl
theorem kP_tup (p : Pl) : TupKey (kP p) := by
  refine ⟨⟨_, rfl⟩, ?_⟩
  show max 0 (max (NestedKey.depthAll (p.on.map .num) + 1) (max (NestedKey.depthAll (p.off.map .num) + 1) (max 0 0))) + 1 ≤ 8
  rw [depths_num, depths_num]
  decide
theorem kR_ask (r : Res Pl) : AskKey (kR r) := by
  cases r with
  | over => exact .inr ⟨_, rfl⟩
  | dry => exact .inr ⟨_, rfl⟩
  | «at» p => exact .inl (kP_tup p)
def keepsM (W : Wl) (r : Int × Int) (p : Pl) (d : Int × Int) (has : NestedKey → Bool) : Bool := (rngC r).all fun i => has (kR (ledBy W p d i))
def s_does_keep (P : Program) (w : World) : Rl := RL (fun (x : Wl × (Int × Int) × Pl × (Int × Int) × List (NestedKey × PyData)) => match x with | (W, r, p, d, kvs) => W.Ok ∧ RgOk r ∧ p.Sh W)
  (fun (W, r, p, d, kvs) => [.d (wD W), .d (dD r), .d (pD p), .d (dD d), .bo (SK.nr P w kvs)]) (fun (W, r, p, d, kvs) => .d (.bool (keepsM W r p d fun k => (lookN kvs k).isSome)))
theorem minI {a b : Int} : (if b < a then b else a) = min a b := by
  by_cases h : b < a
  · rw [if_pos h]; omega
  · rw [if_neg h]; omega
theorem ite_res {c : Prop} [Decidable c] {p : Pl} : (if c then PyData.str "dry" else pD p) = rD pD (if c then .dry else .at p) := by
  by_cases h : c
  · rw [if_pos h, if_pos h]; rfl
  · rw [if_neg h, if_neg h]; rfl
theorem cutD_len {ds : List PyData} {l u : Option Int} : (cutD ds l u).length ≤ ds.length := by
  unfold cutD
  rw [List.length_take, List.length_drop]
  omega
theorem past_eq {W : Wl} {s : Ss} (ok : W.Ok) (hs : s.Sh W) : (if decide (0 < W.lag) = true then cutD (List.map PyData.int s.past) (some 1) none ++ [PyData.int s.lv] else []) = (if 0 < W.lag then s.past.drop 1 ++ [s.lv] else []).map PyData.int := by
  obtain ⟨lv, past, on, off, ready⟩ := s
  have h1 : (past.length : Int) = W.lag := hs.past
  have h2 := ok.lag2
  show (if decide (0 < W.lag) = true then cutD (List.map PyData.int past) (some 1) none ++ [PyData.int lv] else []) = (if 0 < W.lag then past.drop 1 ++ [lv] else []).map PyData.int
  by_cases z : 0 < W.lag
  · rw [if_pos (decide_eq_true z), if_pos z]
    rcases past with _ | ⟨x, _ | ⟨y, t⟩⟩
    · simp at h1; omega
    · rfl
    · simp at h1; omega
  · rw [if_neg (by simpa using z), if_neg z]
    rfl
theorem led_eq {W : Wl} {p : Pl} {d : Int × Int} {i : Int} (h : ¬ W.top < p.lv + i - W.drain * (agedOn d.1 d.2 p.on).sum) : (if decide (p.lv + i - W.drain * (agedOn d.1 d.2 p.on).sum < 0) = true then PyData.str "dry" else .tuple [.int (p.lv + i - W.drain * (agedOn d.1 d.2 p.on).sum), iL (agedOn d.1 d.2 p.on), iL (agedOff d.2 p.off), .int (agedReady d.1 d.2 p.off p.ready)]) = rD pD (ledBy W p d i) := by
  unfold ledBy nextLv
  simp only []
  rw [if_neg h]
  by_cases z : (p.lv + i - W.drain * (agedOn d.1 d.2 p.on).sum) < 0
  · rw [if_pos (decide_eq_true z), if_pos z]; rfl
  · rw [if_neg (by simpa using z), if_neg z]; rfl
section
variable {X : Cx} {Φ : Lk} {δ : Slots} {e a b c : Expr} {pos : Pos}
theorem je_iteI {c : Expr} {k : Bool} {x y : Int} (h : JT X Φ c δ k) (h1 : k = true → JE X Φ a δ (.d (.int x))) (h2 : k = false → JE X Φ b δ (.d (.int y))) : JE X Φ (.IfExp c a b pos) δ (.d (.int (if k = true then x else y))) := by
  refine je_is (je_ite h h1 h2) ?_
  cases k <;> rfl
theorem je_iteT {c : Expr} {k : Bool} {x y : List PyData} (h : JT X Φ c δ k) (h1 : k = true → JE X Φ a δ (.d (.tuple x))) (h2 : k = false → JE X Φ b δ (.d (.tuple y))) : JE X Φ (.IfExp c a b pos) δ (.d (.tuple (if k = true then x else y))) := by
  refine je_is (je_ite h h1 h2) ?_
  cases k <;> rfl
end
theorem cmulL {i j : Int} (h1 : 0 ≤ i) (h2 : i ≤ 1000) : CMul i j := .inl (by omega)
theorem flat_rep {α : Type} (x : α) : ∀ n : Nat, (List.replicate n [x]).flatten = List.replicate n x
  | 0 => rfl
  | n + 1 => by
    rw [List.replicate_succ, List.replicate_succ, List.flatten_cons, flat_rep x n]
    rfl
theorem dDInj {l : List (Int × Int)} : ∀ x ∈ l, ∀ y ∈ l, dD x = dD y → x = y := fun x _ y _ h => by
  injection h with h
  injection h with h1 h2
  injection h2 with h2 _
  injection h1 with h1
  injection h2 with h2
  exact Prod.ext h1 h2
theorem ji_is {X : Cx} {Φ : Lk} {tg e : Expr} {δ : Slots} {ds es : List PyData} (h : JI X Φ tg e δ ds) (q : ds = es) : JI X Φ tg e δ es := q ▸ h
section
variable {P : Program} {w : World} {K : PySem.W.Frag} {mg : Str → Option Value} {base : Heap}
-- begun_with (top 24)
theorem ok_begun_with {k : Nat} {f : Addr} {fd : FuncData} (T : Txt mg) (F : Fun K "begun_with" "begun_with" (top 24) f fd) : FnOk P w K mg base CX0 (k + 1) f fd ["well", "number", "level"] (spF s_begun_with) := by
  have sc : FnScope ["well", "number", "level"] ["well", "number", "level"] (defScope (top 24)) := ⟨rfl, rfl, rfl, by decide +kernel, rfl, by decide +kernel, by decide +kernel⟩
  have nd : (["well", "number", "level"] : List Str).Nodup := by decide +kernel
  refine fn_ok F sc (RL.len fun _ => rfl) (fun cdv A outer s H E ks r hr hS => ?_)
  obtain ⟨⟨W, n, lv⟩, ⟨t1, t2, d1, d2, o1, o2, f1, f2, r1, r2, q1, q2, s1, s2, e1, e2, g1, g2⟩, rfl, rfl⟩ := hS
  refine js_one (jp_ret (je_is (je_tup (jds_cons (je_nm (i := 2) rfl rfl) (jds_cons (je_rep (je_tup (jds_cons (je_nm (i := 2) rfl rfl) jds_nil) (hz := by simp)) (je_ix (je_nm (i := 0) rfl rfl) je_int rfl) (by simp) (by omega) (by omega) (by simp)) (jds_cons (je_rep (je_tup (jds_cons je_int jds_nil) (hz := by simp)) (je_ix (je_nm (i := 0) rfl rfl) je_int rfl) (by simp) (by omega) (by omega) (by simp)) (jds_cons (je_rep (je_tup (jds_cons je_int jds_nil) (hz := by simp)) (je_sub (je_ix (je_nm (i := 0) rfl rfl) je_int rfl) je_int) (by simp) (by omega) (by omega) (by simp)) (jds_cons (je_nm (i := 1) rfl rfl) jds_nil))))) (hz := by simp)) (by unfold begunM sD; simp only [flat_rep, iL, List.map_replicate])) trivial rfl)

-- seen_of (top 25)
theorem ok_seen_of {k : Nat} {f : Addr} {fd : FuncData} (T : Txt mg) (F : Fun K "seen_of" "seen_of" (top 25) f fd) : FnOk P w K mg base CX0 (k + 1) f fd ["well", "level", "past"] (spF s_seen_of) := by
  have sc : FnScope ["well", "level", "past", "found"] ["well", "level", "past"] (defScope (top 25)) := ⟨rfl, rfl, rfl, by decide +kernel, rfl, by decide +kernel, by decide +kernel⟩
  have nd : (["well", "level", "past", "found"] : List Str).Nodup := by decide +kernel
  refine fn_ok F sc (RL.len fun _ => rfl) (fun cdv A outer s H E ks r hr hS => ?_)
  obtain ⟨⟨W, lv, past⟩, ⟨⟨t1, t2, d1, d2, o1, o2, f1, f2, r1, r2, q1, q2, s1, s2, e1, e2, g1, g2⟩, hl⟩, rfl, rfl⟩ := hS
  refine js_cons (jp_set (i := 3) (je_iteI (jt_c (jc_gt (je_ix (je_nm (i := 0) rfl rfl) je_int rfl) je_int)) (fun h => (je_ix (je_nm (i := 2) rfl rfl) je_int (at0 (by intro z; subst z; have := of_decide_eq_true h; simp at hl; omega)))) (fun h => (je_nm (i := 1) rfl rfl))) trivial ?_ nd)
  refine js_one (jp_ret (je_is (je_sub (je_nm (i := 3) rfl rfl) (je_mod (je_intI T.int (je_nm (i := 3) rfl rfl)) (je_ix (je_nm (i := 0) rfl rfl) je_int rfl) (by omega))) ?_) trivial rfl)
  have e : (PyData.int ((if decide (0 < W.lag) = true then past.headD 0 else lv) - (if decide (0 < W.lag) = true then past.headD 0 else lv) % W.step)) = .int (seenM W lv past) := by
    unfold seenM
    by_cases z : 0 < W.lag <;> simp [z]
  exact e

-- moves_of (top 26)
theorem ok_moves_of {k : Nat} {f : Addr} {fd : FuncData} (T : Txt mg) (h_seen_of : Has P w K mg base k "seen_of" ["well", "level", "past"] (spF s_seen_of)) (F : Fun K "moves_of" "moves_of" (top 26) f fd) : FnOk P w K mg base CX0 (k + 1) f fd ["well", "state"] (spF s_moves_of) := by
  have sc : FnScope ["well", "state", "seen"] ["well", "state"] (defScope (top 26)) := ⟨rfl, rfl, rfl, by decide +kernel, rfl, by decide +kernel, by decide +kernel⟩
  have nd : (["well", "state", "seen"] : List Str).Nodup := by decide +kernel
  refine fn_ok F sc (RL.len fun _ => rfl) (fun cdv A outer s H E ks r hr hS => ?_)
  obtain ⟨⟨W, s⟩, ⟨ok, hs⟩, rfl, rfl⟩ := hS
  refine js_cons (jp_set (i := 2) (je_call h_seen_of hr (ja_cons (jg_d (je_nm (i := 0) rfl rfl)) (ja_cons (jg_d (je_ix (je_nm (i := 1) rfl rfl) je_int rfl)) (ja_cons (jg_d (je_ix (je_nm (i := 1) rfl rfl) je_int rfl)) ja_nil))) ⟨(W, s.lv, s.past), ⟨ok, hs.past⟩, rfl, rfl⟩ trivial) trivial ?_ nd)
  refine js_cons (jp_if (jt_c (jc_ge (je_nm (i := 2) rfl rfl) (je_ix (je_nm (i := 0) rfl rfl) je_int rfl))) (fun h => ?_) (fun h => ?_))
  ·
    refine js_one (jp_ret (je_is (je_tup (jds_cons (je_iteI (jt_c (jc_isN (je_ix (je_nm (i := 1) rfl rfl) je_int rfl))) (fun h => (je_ix (je_nm (i := 0) rfl rfl) je_int rfl)) (fun h => (je_min T.min (je_ix (je_nm (i := 0) rfl rfl) je_int rfl) (je_ix (je_nm (i := 1) rfl rfl) je_int rfl)))) (jds_cons je_int jds_nil)) (hz := by simp)) (by unfold movesM; rw [if_pos (of_decide_eq_true h)]; show PyData.tuple [.int (if s.ready < W.starts then s.ready else W.starts), .int 0] = _; rw [minI]; rfl)) trivial rfl)
  refine js_nil ?_
  refine js_one (jp_ret (je_is (je_tup (jds_cons je_int (jds_cons (je_iteI (jt_c (jc_le (je_nm (i := 2) rfl rfl) (je_ix (je_nm (i := 0) rfl rfl) je_int rfl))) (fun h => (je_ix (je_ix (je_nm (i := 1) rfl rfl) je_int rfl) (je_usub je_int) (atLast (by intro z; have q := hs.on; rw [z] at q; have := ok.run1; simp at q; omega)))) (fun h => je_int)) jds_nil)) (hz := by simp)) (by unfold movesM; rw [if_neg (of_decide_eq_false h)]; simp only [decide_eq_true_eq]; rfl)) trivial rfl)

-- aged (top 27)
theorem ok_aged {k : Nat} {f : Addr} {fd : FuncData} (T : Txt mg) (F : Fun K "aged" "aged" (top 27) f fd) : FnOk P w K mg base CX0 (k + 1) f fd ["well", "running", "resting", "ready", "started", "stopped"] (spF s_aged) := by
  have sc : FnScope ["well", "running", "resting", "ready", "started", "stopped", "on", "off"] ["well", "running", "resting", "ready", "started", "stopped"] (defScope (top 27)) := ⟨rfl, rfl, rfl, by decide +kernel, rfl, by decide +kernel, by decide +kernel⟩
  have nd : (["well", "running", "resting", "ready", "started", "stopped", "on", "off"] : List Str).Nodup := by decide +kernel
  refine fn_ok F sc (RL.len fun _ => rfl) (fun cdv A outer s H E ks r hr hS => ?_)
  obtain ⟨⟨W, on, off, rd, a, b⟩, ⟨⟨t1, t2, d1, d2, o1, o2, f1, f2, r1, r2, q1, q2, s1, s2, e1, e2, g1, g2⟩, h1, h2⟩, rfl, rfl⟩ := hS
  rcases on with _ | ⟨x, _ | ⟨y, _ | ⟨z, _ | ⟨u, on⟩⟩⟩⟩
  · simp at h1; omega
  rotate_right
  · simp at h1; omega
  all_goals rcases off with _ | ⟨v, _ | ⟨u, off⟩⟩
  rotate_left 2
  · simp at h2; omega
  rotate_left 2
  · simp at h2; omega
  rotate_left 2
  · simp at h2; omega
  all_goals refine js_cons (jp_set (i := 6) (je_cat (je_tup (jds_cons (je_nm (i := 4) rfl rfl) jds_nil) (hz := by simp)) (je_nm (i := 1) rfl rfl) (by simp)) trivial ?_ nd)
  all_goals refine js_cons (jp_set (i := 6) (je_cat (je_slT (je_nm (i := 6) rfl rfl) .none (.some (je_usub je_int))) (je_tup (jds_cons (je_sub (je_add (je_ix (je_nm (i := 6) rfl rfl) (je_usub je_int) rfl) (je_ix (je_nm (i := 6) rfl rfl) (je_usub je_int) rfl)) (je_nm (i := 5) rfl rfl)) jds_nil) (hz := by simp)) (Nat.le_of_ble_eq_true rfl)) trivial ?_ nd)
  all_goals refine js_cons (jp_set (i := 7) (je_cat (je_tup (jds_cons (je_nm (i := 5) rfl rfl) jds_nil) (hz := by simp)) (je_nm (i := 2) rfl rfl) (by simp)) trivial ?_ nd)
  all_goals refine js_one (jp_ret (je_is (je_tup (jds_cons (je_nm (i := 6) rfl rfl) (jds_cons (je_slT (je_nm (i := 7) rfl rfl) .none (.some (je_usub je_int))) (jds_cons (je_ite (jt_c (jc_isN (je_nm (i := 3) rfl rfl))) (fun h => je_non) (fun h => (je_add (je_sub (je_nm (i := 3) rfl rfl) (je_nm (i := 4) rfl rfl)) (je_ix (je_nm (i := 7) rfl rfl) (je_usub je_int) rfl)))) jds_nil))) (hz := by simp)) rfl) trivial rfl)

-- led_to (top 28)
theorem ok_led_to {k : Nat} {f : Addr} {fd : FuncData} (T : Txt mg) (h_aged : Has P w K mg base k "aged" ["well", "running", "resting", "ready", "started", "stopped"] (spF s_aged)) (F : Fun K "led_to" "led_to" (top 28) f fd) : FnOk P w K mg base CX0 (k + 1) f fd ["well", "state", "started", "stopped", "inflow"] (spF s_led_to) := by
  have sc : FnScope ["well", "state", "started", "stopped", "inflow", "on", "off", "ready", "level", "busy", "past"] ["well", "state", "started", "stopped", "inflow"] (defScope (top 28)) := ⟨rfl, rfl, rfl, by decide +kernel, rfl, by decide +kernel, by decide +kernel⟩
  have nd : (["well", "state", "started", "stopped", "inflow", "on", "off", "ready", "level", "busy", "past"] : List Str).Nodup := by decide +kernel
  refine fn_ok F sc (RL.len fun _ => rfl) (fun cdv A outer s H E ks r hr hS => ?_)
  obtain ⟨⟨W, s, a, b, i⟩, ⟨ok, hs⟩, rfl, rfl⟩ := hS
  refine js_cons (jp_asg (je_call h_aged hr (ja_cons (jg_d (je_nm (i := 0) rfl rfl)) (ja_cons (jg_d (je_ix (je_nm (i := 1) rfl rfl) je_int rfl)) (ja_cons (jg_d (je_ix (je_nm (i := 1) rfl rfl) je_int rfl)) (ja_cons (jg_d (je_ix (je_nm (i := 1) rfl rfl) je_int rfl)) (ja_cons (jg_d (je_nm (i := 2) rfl rfl)) (ja_cons (jg_d (je_nm (i := 3) rfl rfl)) ja_nil)))))) ⟨(W, s.on, s.off, s.ready, a, b), ⟨ok, hs.on, hs.off⟩, rfl, rfl⟩ trivial) (tg_tup (nm_cons (i := 5) nd (nm_cons (i := 6) nd (nm_cons (i := 7) nd nm_nil))) rfl) ?_)
  refine js_cons (jp_par (i := 8) (j := 9) (je_sub (je_add (je_ix (je_nm (i := 1) rfl rfl) je_int rfl) (je_nm (i := 4) rfl rfl)) (je_mul (je_ix (je_nm (i := 0) rfl rfl) je_int rfl) (je_sumT T.sum (je_is (je_nm (i := 5) rfl rfl) rfl)) (cmulL (by have := ok.drain1; omega) (by have := ok.drain2; omega)))) (je_add (je_add (je_sumT T.sum (je_is (je_ix (je_nm (i := 1) rfl rfl) je_int rfl) rfl)) (je_sumT T.sum (je_is (je_ix (je_nm (i := 1) rfl rfl) je_int rfl) rfl))) (je_nm (i := 2) rfl rfl)) trivial trivial ?_ nd)
  refine js_cons (jp_if (jt_c (jc_gt (je_nm (i := 8) rfl rfl) (je_ix (je_nm (i := 0) rfl rfl) je_int rfl))) (fun h => ?_) (fun h => ?_))
  ·
    refine js_one (jp_ret (je_is (je_tup (jds_cons (je_gs T.OVER) (jds_cons (je_nm (i := 9) rfl rfl) jds_nil)) (hz := by simp)) (by unfold ledTo nextLv; simp only []; rw [if_pos (of_decide_eq_true h)]; rfl)) trivial rfl)
  have h0 := h
  refine js_nil ?_
  refine js_cons (jp_if (jt_c (jc_lt (je_nm (i := 8) rfl rfl) je_int)) (fun h => ?_) (fun h => ?_))
  ·
    refine js_one (jp_ret (je_is (je_tup (jds_cons (je_gs T.DRY) (jds_cons (je_nm (i := 9) rfl rfl) jds_nil)) (hz := by simp)) (by unfold ledTo nextLv; simp only []; rw [if_neg (of_decide_eq_false h0), if_pos (of_decide_eq_true h)]; rfl)) trivial rfl)
  refine js_nil ?_
  refine js_cons (jp_set (i := 10) (je_iteT (jt_c (jc_gt (je_ix (je_nm (i := 0) rfl rfl) je_int rfl) je_int)) (fun h => (je_cat (je_slT (je_ix (je_nm (i := 1) rfl rfl) je_int rfl) (.some je_int) .none) (je_tup (jds_cons (je_ix (je_nm (i := 1) rfl rfl) je_int rfl) jds_nil) (hz := by simp)) (by have q := cutD_len (ds := s.past.map PyData.int) (l := some 1) (u := none); have := hs.past; have := ok.lag2; simp at q ⊢; omega))) (fun h => (je_tup jds_nil (hz := by simp)))) trivial ?_ nd)
  refine js_one (jp_ret (je_is (je_tup (jds_cons (je_tup (jds_cons (je_nm (i := 8) rfl rfl) (jds_cons (je_nm (i := 10) rfl rfl) (jds_cons (je_nm (i := 5) rfl rfl) (jds_cons (je_nm (i := 6) rfl rfl) (jds_cons (je_nm (i := 7) rfl rfl) jds_nil))))) (hz := by simp)) (jds_cons (je_nm (i := 9) rfl rfl) jds_nil)) (hz := by simp)) (by rw [past_eq ok hs]; unfold ledTo nextLv; simp only []; rw [if_neg (of_decide_eq_false h0), if_neg (of_decide_eq_false h)]; rfl)) trivial rfl)

-- led_by (top 52)
theorem ok_led_by {k : Nat} {f : Addr} {fd : FuncData} (T : Txt mg) (h_aged : Has P w K mg base k "aged" ["well", "running", "resting", "ready", "started", "stopped"] (spF s_aged)) (F : Fun K "led_by" "led_by" (top 52) f fd) : FnOk P w K mg base CX0 (k + 1) f fd ["well", "place", "deed", "inflow"] (spF s_led_by) := by
  have sc : FnScope ["well", "place", "deed", "inflow", "on", "off", "ready", "level"] ["well", "place", "deed", "inflow"] (defScope (top 52)) := ⟨rfl, rfl, rfl, by decide +kernel, rfl, by decide +kernel, by decide +kernel⟩
  have nd : (["well", "place", "deed", "inflow", "on", "off", "ready", "level"] : List Str).Nodup := by decide +kernel
  refine fn_ok F sc (RL.len fun _ => rfl) (fun cdv A outer s H E ks r hr hS => ?_)
  obtain ⟨⟨W, p, d, i⟩, ⟨ok, hs⟩, rfl, rfl⟩ := hS
  refine js_cons (jp_asg (je_call h_aged hr (ja_cons (jg_d (je_nm (i := 0) rfl rfl)) (ja_cons (jg_d (je_ix (je_nm (i := 1) rfl rfl) je_int rfl)) (ja_cons (jg_d (je_ix (je_nm (i := 1) rfl rfl) je_int rfl)) (ja_cons (jg_d (je_ix (je_nm (i := 1) rfl rfl) je_int rfl)) (ja_cons (jg_d (je_ix (je_nm (i := 2) rfl rfl) je_int rfl)) (ja_cons (jg_d (je_ix (je_nm (i := 2) rfl rfl) je_int rfl)) ja_nil)))))) ⟨(W, p.on, p.off, p.ready, d.1, d.2), ⟨ok, hs.on, hs.off⟩, rfl, rfl⟩ trivial) (tg_tup (nm_cons (i := 4) nd (nm_cons (i := 5) nd (nm_cons (i := 6) nd nm_nil))) rfl) ?_)
  refine js_cons (jp_set (i := 7) (je_sub (je_add (je_ix (je_nm (i := 1) rfl rfl) je_int rfl) (je_nm (i := 3) rfl rfl)) (je_mul (je_ix (je_nm (i := 0) rfl rfl) je_int rfl) (je_sumT T.sum (je_is (je_nm (i := 4) rfl rfl) rfl)) (cmulL (by have := ok.drain1; omega) (by have := ok.drain2; omega)))) trivial ?_ nd)
  refine js_cons (jp_if (jt_c (jc_gt (je_nm (i := 7) rfl rfl) (je_ix (je_nm (i := 0) rfl rfl) je_int rfl))) (fun h => ?_) (fun h => ?_))
  ·
    refine js_one (jp_ret (je_is (je_gs T.OVER) (by unfold ledBy nextLv; simp only []; rw [if_pos (of_decide_eq_true h)]; rfl)) trivial rfl)
  refine js_nil ?_
  refine js_one (jp_ret (je_is (je_ite (jt_c (jc_lt (je_nm (i := 7) rfl rfl) je_int)) (fun h => (je_gs T.DRY)) (fun h => (je_tup (jds_cons (je_nm (i := 7) rfl rfl) (jds_cons (je_nm (i := 4) rfl rfl) (jds_cons (je_nm (i := 5) rfl rfl) (jds_cons (je_nm (i := 6) rfl rfl) jds_nil)))) (hz := by simp)))) (led_eq (of_decide_eq_false h))) trivial rfl)

end
end Pq

namespace Pq
open PySem PySem.Spec L2
open PyProof.Rows hiding St
open Evl (Ex)

/-! ### data without surprises -/
structure Tm (n : Nat) (d : PyData) : Prop where
  lay : d.canLay0 = true
  dep : d.depth ≤ n
theorem Tm.mono {n m : Nat} {d : PyData} (h : Tm n d) (hn : n ≤ m) : Tm m d := ⟨h.lay, Nat.le_trans h.dep hn⟩
theorem Tm.int (i : Int) {n : Nat} : Tm n (.int i) := ⟨rfl, Nat.zero_le _⟩
theorem Tm.str {x : Str} (h : PyData.canLay0 (.str x) = true) {n : Nat} : Tm n (.str x) := ⟨h, Nat.zero_le _⟩
theorem layAll {n : Nat} : ∀ {ds : List PyData}, (∀ d ∈ ds, Tm n d) → PyData.canLayAll0 ds = true ∧ PyData.depthAll ds ≤ n
  | [], _ => ⟨rfl, Nat.zero_le _⟩
  | d :: ds, h => by
    have h1 := h d List.mem_cons_self
    have h2 := layAll fun x hx => h x (List.mem_cons_of_mem _ hx)
    refine ⟨?_, ?_⟩
    · show (PyData.canLay0 d && PyData.canLayAll0 ds) = true
      rw [h1.lay, h2.1]
      rfl
    · show max (PyData.depth d) (PyData.depthAll ds) ≤ n
      have := h1.dep
      omega
theorem Tm.tup {n : Nat} {ds : List PyData} (h : ∀ d ∈ ds, Tm n d) : Tm (n + 1) (.tuple ds) := ⟨(layAll h).1, Nat.succ_le_succ (layAll h).2⟩
theorem Tm.lst {n : Nat} {ds : List PyData} (h : ∀ d ∈ ds, Tm n d) : Tm (n + 1) (.list ds) := ⟨(layAll h).1, Nat.succ_le_succ (layAll h).2⟩
theorem Tm.shaped {n : Nat} {d : PyData} (h : Tm n d) (hn : n ≤ 64) : SeqAt.shaped d = true := by
  unfold SeqAt.shaped
  rw [h.lay, decide_eq_true (Nat.le_trans h.dep hn)]
  rfl
theorem tm_iL {l : List Int} {n : Nat} : Tm (n + 1) (iL l) := Tm.tup fun d hd => by
  obtain ⟨i, _, rfl⟩ := List.mem_map.mp hd
  exact Tm.int i
theorem tm_dD (d : Int × Int) : Tm 1 (dD d) := Tm.tup fun x hx => by
  simp only [List.mem_cons, List.not_mem_nil, or_false] at hx
  rcases hx with rfl | rfl <;> exact Tm.int _
theorem tm_pD (p : Pl) : Tm 2 (pD p) := Tm.tup fun x hx => by
  simp only [List.mem_cons, List.not_mem_nil, or_false] at hx
  rcases hx with rfl | rfl | rfl | rfl
  · exact Tm.int _
  · exact tm_iL
  · exact tm_iL
  · exact Tm.int _
theorem tm_sD (p : Ss) : Tm 2 (sD p) := Tm.tup fun x hx => by
  simp only [List.mem_cons, List.not_mem_nil, or_false] at hx
  rcases hx with rfl | rfl | rfl | rfl | rfl
  · exact Tm.int _
  · exact tm_iL
  · exact tm_iL
  · exact tm_iL
  · exact Tm.int _
theorem tm_rD {α : Type} {e : α → PyData} (he : ∀ x, Tm 2 (e x)) (r : Res α) : Tm 2 (rD e r) := by
  cases r with
  | over => exact Tm.str (by decide +kernel)
  | dry => exact Tm.str (by decide +kernel)
  | «at» x => exact he x
theorem Tm.eqv {n : Nat} {d : PyData} (h : Tm n d) : PyData.eqv d d = true := SeqAt.eqv_refl_plain d (PyData.plain_of_canLay0 d h.lay)
theorem get_map {α : Type} {e : α → PyData} {l : List α} {i : Nat} {d : PyData} (h : (l.map e)[i]? = some d) : ∃ x, l[i]? = some x ∧ d = e x := by
  rw [List.getElem?_map] at h
  cases q : l[i]? with
  | none => rw [q] at h; cases h
  | some x => rw [q] at h; cases h; exact ⟨x, rfl, rfl⟩
theorem flat_map_len {α β γ : Type} (m : List β) (g : α → β → γ) : ∀ l : List α, (l.flatMap fun a => m.map (g a)).length = l.length * m.length
  | [] => by simp
  | a :: l => by
    rw [List.flatMap_cons, List.length_append, flat_map_len m g l, List.length_map, List.length_cons, Nat.succ_mul, Nat.add_comm]
theorem rngI_len (lo : Int) (n : Nat) : (rngI lo n).length = n := by simp [rngI]
theorem deedsM_len {W : Wl} {p : Pl} (ok : W.Ok) (h : p.on.getLastD 0 ≤ 100) : (deedsM W p).length ≤ 1000 := by
  unfold deedsM
  rw [flat_map_len, rngI_len, rngI_len]
  have h1 : (min W.starts p.ready + 1).toNat ≤ 6 := by have := ok.starts2; omega
  have h2 : (p.on.getLastD 0 + 1).toNat ≤ 101 := by omega
  have := Nat.mul_le_mul h1 h2
  omega
def s_deeds : Rl := RL (fun (x : Wl × Int × Pl) => match x with | (W, n, p) => W.Ok ∧ p.Ok W n ∧ 0 ≤ n ∧ n ≤ 12) (fun (W, n, p) => [.d (wD W), .d (.int n), .d (pD p)]) (fun (W, n, p) => .d (.tuple ((deedsM W p).map dD)))
def s_led : Rl := RL (fun (x : Wl × Int × Pl × (Int × Int) × Int) => match x with | (W, n, p, d, i) => W.Ok ∧ p.Ok W n ∧ (0 ≤ n ∧ n ≤ 12) ∧ d ∈ deedsM W p ∧ 0 ≤ i ∧ i ≤ 300)
  (fun (W, n, p, d, i) => [.d (wD W), .d (.int n), .d (pD p), .d (dD d), .d (.int i)]) (fun (W, n, p, d, i) => .d (rD pD (ledBy W p d i)))
theorem last_bd {l : List Int} (h : ∀ i ∈ l, 0 ≤ i ∧ i ≤ 12) : 0 ≤ l.getLastD 0 ∧ l.getLastD 0 ≤ 100 := by
  rw [List.getLastD_eq_getLast?]
  cases e : l.getLast? with
  | none => exact ⟨Int.le_refl _, by decide⟩
  | some x =>
    have := h x (List.mem_of_getLast? e)
    simp only [Option.getD_some]
    omega
theorem Pl.Ok.sh {W : Wl} {n : Int} {p : Pl} (h : p.Ok W n) : p.Sh W := ⟨h.on, h.off⟩
theorem Pl.Ok.dp {W : Wl} {n : Int} {p : Pl} (ok : W.Ok) (h : p.Ok W n) : W.Ok ∧ p.Sh W ∧ 0 ≤ p.ready ∧ 0 ≤ p.on.getLastD 0 ∧ p.on.getLastD 0 ≤ 100 := ⟨ok, h.sh, h.r0, (last_bd h.on0).1, (last_bd h.on0).2⟩
/-- a dict of places and their ranks -/
def rkD (m : List (Pl × Int)) : List (NestedKey × PyData) := m.map fun q => (kP q.1, .int q.2)
def lookP {β : Type} (m : List (Pl × β)) (p : Pl) : Option β := (m.find? fun q => decide (q.1 = p)).map (·.2)
def losesAt (W : Wl) (p : Pl) (d : Int × Int) (m : List (Pl × Int)) (i : Int) : Bool :=
  match ledBy W p d i with
  | .at q => match lookP m q with
    | some s => decide (s < (lookP m p).getD 0)
    | none => false
  | _ => true
def losesM (W : Wl) (r : Int × Int) (p : Pl) (d : Int × Int) (m : List (Pl × Int)) : Bool := (rngC r).any fun i => losesAt W p d m i
def s_does_lose (P : Program) (w : World) : Rl := RL (fun (x : Wl × (Int × Int) × Pl × (Int × Int) × List (Pl × Int)) => match x with | (W, r, p, d, m) => W.Ok ∧ RgOk r ∧ p.Sh W ∧ ∃ s, lookP m p = some s)
  (fun (W, r, p, d, m) => [.d (wD W), .d (dD r), .d (pD p), .d (dD d), .bo (SK.nr P w (rkD m))]) (fun (W, r, p, d, m) => .d (.bool (losesM W r p d m)))
theorem num_inj {a b : List Int} (h : a.map NestedKey.num = b.map NestedKey.num) : a = b := (List.map_inj_right (fun _ _ h => by injection h)).mp h
theorem kP_inj {p q : Pl} (h : kP p = kP q) : p = q := by
  unfold kP at h
  injection h with h
  injection h with h1 h
  injection h with h2 h
  injection h with h3 h
  injection h with h4 _
  injection h1 with h1
  injection h2 with h2
  injection h3 with h3
  injection h4 with h4
  cases p
  cases q
  simp only [Pl.mk.injEq]
  exact ⟨h1, num_inj h2, num_inj h3, h4⟩
theorem kP_iff {p q : Pl} : kP p = kP q ↔ p = q := ⟨kP_inj, fun h => h ▸ rfl⟩
theorem look_map {β : Type} (m : List (Pl × β)) (f : β → PyData) (p : Pl) : lookN (m.map fun q => (kP q.1, f q.2)) (kP p) = (lookP m p).map f := by
  unfold lookN lookP
  induction m with
  | nil => rfl
  | cons q t ih =>
    rw [List.map_cons, List.find?_cons, List.find?_cons]
    by_cases e : q.1 = p
    · have e' : kP q.1 = kP p := by rw [e]
      simp only [e', e, decide_true]
      rfl
    · have e' : ¬ kP q.1 = kP p := fun z => e (kP_inj z)
      simp only [e', e, decide_false]
      exact ih
theorem look_rk (m : List (Pl × Int)) (p : Pl) : lookN (rkD m) (kP p) = (lookP m p).map .int := look_map m .int p
section
variable {P : Program} {w : World} {K : PySem.W.Frag} {mg : Str → Option Value} {base : Heap}
-- deeds_of (top 50)
theorem ok_deeds_of {k : Nat} {f : Addr} {fd : FuncData} (T : Txt mg) (F : Fun K "deeds_of" "deeds_of" (top 50) f fd) : FnOk P w K mg base CX0 (k + 1) f fd ["well", "place"] (spF s_deeds_of) := by
  have sc : FnScope ["well", "place", "found", "started", "stopped"] ["well", "place"] (defScope (top 50)) := ⟨rfl, rfl, rfl, by decide +kernel, rfl, by decide +kernel, by decide +kernel⟩
  have nd : (["well", "place", "found", "started", "stopped"] : List Str).Nodup := by decide +kernel
  refine fn_ok F sc (RL.len fun _ => rfl) (fun cdv A outer s H E ks r hr hS => ?_)
  obtain ⟨⟨W, p⟩, ⟨ok, hs, h0, h1, h2⟩, rfl, rfl⟩ := hS
  refine js_cons (jp_set (i := 2) (je_lst jds_nil (hz := by simp)) trivial ?_ nd)
  refine js_cons (jp_for (ji_is (ji_range1 (n := min W.starts p.ready + 1) T.range (je_is (je_add (je_min T.min (je_ix (je_nm (i := 0) rfl rfl) je_int rfl) (je_ix (je_nm (i := 1) rfl rfl) je_int rfl)) je_int) (by rw [minI])) (by have := ok.starts2; omega) (by have := ok.starts1; omega)) (rngI_map _ _))
    (fun i δ => ∃ x y, δ = [some (.d (wD W)), some (.d (pD p)), some (.o (SK.l ((((rngI 0 (min W.starts p.ready + 1).toNat).take i).flatMap fun a => (rngI 0 (p.on.getLastD 0 + 1).toNat).map fun b => (a, b)).map dD))), x, y]) ⟨none, none, rfl⟩ (fun Φ hΦ i d δ1 hd hI => ?_) (fun δ1 hI => ?_))
  · obtain ⟨x, y, rfl⟩ := hI
    obtain ⟨a, ha, rfl⟩ := get_map hd
    refine ⟨[3], _, tg_name (i := 3) nd, ?_⟩
    refine js_one (jp_extend (i0 := 2) rfl (je_lcT (l := rngI 0 (p.on.getLastD 0 + 1).toNat) (e' := .int) (f := fun _ => true) (g := fun b => dD (a, b)) intInj (blkOk_by (own := [("stopped", 4)]) rfl) nd (jix (ji_is (ji_range1 T.range (je_add (je_ix (je_ix (je_nm (i := 1) rfl rfl) je_int rfl) (je_usub je_int) (atLast (by intro z; have q := hs.on; rw [z] at q; have := ok.run1; simp at q; omega))) je_int) (by omega) (by omega)) (rngI_map _ _)))
      (fun b hb => ⟨[4], _, by decide, fun s H C cl fp => ⟨tg_name (i := 4) nd, jts_nil, fun _ => je_tup (jds_cons (je_nm (i := 3) rfl rfl) (jds_cons (je_nm (i := 4) rfl rfl) jds_nil)) (hz := by simp)⟩⟩) (by rw [rngI_len]; omega)) ?_ ?_)
    · have q := flat_le (fun a => (rngI 0 (p.on.getLastD 0 + 1).toNat).map fun b => (a, b)) ha
      have q2 : (deedsM W p).length ≤ 1000 := deedsM_len ok h2
      unfold deedsM at q2
      rw [filtT]
      simp only [List.length_map] at q ⊢
      omega
    · refine ⟨_, _, congrArg (fun l => [some (Kd.d (wD W)), some (Kd.d (pD p)), some (Kd.o (SK.l l)), _, _]) ?_⟩
      rw [filtT, flat_take _ ha, List.map_append, List.map_map]
      rfl
  obtain ⟨x, y, rfl⟩ := hI
  rw [List.length_map, List.take_length]
  exact js_one (jp_retO (i := 2) rfl rfl)

-- is_deed_of (top 51)
theorem ok_is_deed_of {k : Nat} {f : Addr} {fd : FuncData} (T : Txt mg) (h_is_whole : Has P w K mg base k "is_whole" ["thing", "least", "most"] (spF s_is_whole)) (h_deeds_of : Has P w K mg base k "deeds_of" ["well", "place"] (spF s_deeds_of)) (F : Fun K "is_deed_of" "is_deed_of" (top 51) f fd) : FnOk P w K mg base CX0 (k + 1) f fd ["well", "place", "thing"] (spF s_is_deed_of) := by
  have sc : FnScope ["well", "place", "thing", "one"] ["well", "place", "thing"] (defScope (top 51)) := ⟨rfl, rfl, rfl, by decide +kernel, rfl, by decide +kernel, by decide +kernel⟩
  have nd : (["well", "place", "thing", "one"] : List Str).Nodup := by decide +kernel
  refine fn_ok F sc (RL.len fun _ => rfl) (fun cdv A outer s H E ks r hr hS => ?_)
  obtain ⟨⟨W, p, d⟩, ⟨ok, hs, h0, h1, h2, hd⟩, rfl, rfl⟩ := hS
  have dpos : 0 ≤ d.1 ∧ 0 ≤ d.2 := by
    obtain ⟨a, ha, hb⟩ := List.mem_flatMap.mp hd
    obtain ⟨b, hb2, rfl⟩ := List.mem_map.mp hb
    exact ⟨(mem_rngI.mp ha).1, (mem_rngI.mp hb2).1⟩
  refine js_cons (jp_ifno (jt_is (jt_w (jw_or (jt_not (jt_val (je_isi (tn := "tuple") T.isinstance T.tuple (by decide +kernel) rfl (je_nm (i := 2) rfl rfl)))) fun _ => (jw_or1 (jt_not (jt_val (je_all (bs := [true, true]) T.all (jr_new (je_isL (je_lcT (l := [d.1, d.2]) (e' := .int) (f := fun _ => true) (g := fun _ => .bool true) intInj (blkOk_by (own := [("one", 3)]) rfl) nd (jix (ji_tup (je_nm (i := 2) rfl rfl)))
    (fun i hi => ⟨[3], _, by decide, fun s H C cl fp => ⟨(tg_name (i := 3) nd), jts_nil, fun _ => (je_call h_is_whole hr (ja_cons (jg_d (je_nm (i := 3) rfl rfl)) (ja_cons (jg_d je_int) (ja_cons (jg_d je_non) ja_nil))) (whN (by simp at hi; rcases hi with rfl | rfl <;> omega)) trivial)⟩⟩) (by simp)) rfl)))))))) rfl) ?_)
  refine js_one (jp_ret (je_is (je_c (jc_inL hr (jdp_d (je_nm (i := 2) rfl rfl)) (jdp_l (jr_new (je_call h_deeds_of hr (ja_cons (jg_d (je_nm (i := 0) rfl rfl)) (ja_cons (jg_d (je_nm (i := 1) rfl rfl)) ja_nil)) ⟨(W, p), ⟨ok, hs, h0, h1, h2⟩, rfl, rfl⟩ trivial))) ((tm_dD d).shaped (by decide)) ((Tm.lst (n := 1) fun x hx => ?_).shaped (by decide)))) ?_) trivial rfl)
  · obtain ⟨e, _, rfl⟩ := List.mem_map.mp hx
    exact tm_dD e
  · refine congrArg PyData.bool (List.any_eq_true.mpr ⟨dD d, List.mem_map_of_mem hd, (tm_dD d).eqv⟩)

-- beats_of (top 36)
theorem ok_beats_of {k : Nat} {f : Addr} {fd : FuncData} (T : Txt mg) (h_moves_of : Has P w K mg base k "moves_of" ["well", "state"] (spF s_moves_of)) (h_led_to : Has P w K mg base k "led_to" ["well", "state", "started", "stopped", "inflow"] (spF s_led_to)) (F : Fun K "beats_of" "beats_of" (top 36) f fd) : FnOk P w K mg base CX0 (k + 1) f fd ["well", "state", "inflows"] (spF s_beats_of) := by
  have sc : FnScope ["well", "state", "inflows", "started", "stopped", "inflow"] ["well", "state", "inflows"] (defScope (top 36)) := ⟨rfl, rfl, rfl, by decide +kernel, rfl, by decide +kernel, by decide +kernel⟩
  have nd : (["well", "state", "inflows", "started", "stopped", "inflow"] : List Str).Nodup := by decide +kernel
  refine fn_ok F sc (RL.len fun _ => rfl) (fun cdv A outer s H E ks r hr hS => ?_)
  obtain ⟨⟨W, s, r⟩, ⟨ok, hs, rg⟩, rfl, rfl⟩ := hS
  refine js_cons (jp_asg (je_call h_moves_of hr (ja_cons (jg_d (je_nm (i := 0) rfl rfl)) (ja_cons (jg_d (je_nm (i := 1) rfl rfl)) ja_nil)) ⟨(W, s), ⟨ok, hs⟩, rfl, rfl⟩ trivial) (tg_tup (nm_cons (i := 3) nd (nm_cons (i := 4) nd nm_nil)) rfl) ?_)
  refine js_one (jp_ret (je_isL (je_lcT (l := rngC r) (e' := .int) (f := fun _ => true) (g := fun i => btD (i, ledTo W s (movesM W s).1 (movesM W s).2 i)) intInj (blkOk_by (own := [("inflow", 5)]) rfl) nd (jix (ji_is (ji_range2 T.range (je_ix (je_nm (i := 2) rfl rfl) je_int rfl) (je_add (je_ix (je_nm (i := 2) rfl rfl) je_int rfl) je_int) (by have := rg.a; have := rg.b; have := rg.c; omega) (by have := rg.a; have := rg.b; have := rg.c; omega) (by have := rg.a; have := rg.b; have := rg.c; omega) (by have := rg.a; have := rg.b; have := rg.c; omega)) (rngI_map _ _)))
    (fun i hi => ⟨[5], _, by decide, fun s' H C cl fp => ⟨(tg_name (i := 5) nd), jts_nil, fun _ => (je_cat (je_tup (jds_cons (je_nm (i := 5) rfl rfl) jds_nil) (hz := by simp)) (je_call h_led_to hr (ja_cons (jg_d (je_nm (i := 0) rfl rfl)) (ja_cons (jg_d (je_nm (i := 1) rfl rfl)) (ja_cons (jg_d (je_nm (i := 3) rfl rfl)) (ja_cons (jg_d (je_nm (i := 4) rfl rfl)) (ja_cons (jg_d (je_nm (i := 5) rfl rfl)) ja_nil))))) ⟨(W, s, (movesM W s).1, (movesM W s).2, i), ⟨ok, hs⟩, rfl, rfl⟩ trivial) (by simp))⟩⟩) (by rw [rngC_len]; have := rg.a; have := rg.b; have := rg.c; omega)) (by rw [filtT, beatsM, List.map_map]; rfl)) trivial rfl)

-- begun_states (top 37)
theorem ok_begun_states {k : Nat} {f : Addr} {fd : FuncData} (T : Txt mg) (h_begun_with : Has P w K mg base k "begun_with" ["well", "number", "level"] (spF s_begun_with)) (F : Fun K "begun_states" "begun_states" (top 37) f fd) : FnOk P w K mg base CX0 (k + 1) f fd ["claim", "number"] (spF s_begun_states) := by
  have sc : FnScope ["claim", "number", "level"] ["claim", "number"] (defScope (top 37)) := ⟨rfl, rfl, rfl, by decide +kernel, rfl, by decide +kernel, by decide +kernel⟩
  have nd : (["claim", "number", "level"] : List Str).Nodup := by decide +kernel
  refine fn_ok F sc (RL.len fun _ => rfl) (fun cdv A outer s H E ks r hr hS => ?_)
  obtain ⟨⟨W, r, l, n⟩, ⟨ok, lv⟩, rfl, rfl⟩ := hS
  refine js_one (jp_ret (je_isL (je_lcT (l := rngC l) (e' := .int) (f := fun _ => true) (g := fun i => sD (begunM W n i)) intInj (blkOk_by (own := [("level", 2)]) rfl) nd (jix (ji_is (ji_range2 T.range (je_ix (je_ix (je_nm (i := 0) rfl rfl) je_int rfl) je_int rfl) (je_add (je_ix (je_ix (je_nm (i := 0) rfl rfl) je_int rfl) je_int rfl) je_int) (by have := lv.a; have := lv.b; have := lv.c; have := ok.top2; omega) (by have := lv.a; have := lv.b; have := lv.c; have := ok.top2; omega) (by have := lv.a; have := lv.b; have := lv.c; have := ok.top2; omega) (by have := lv.a; have := lv.b; have := lv.c; have := ok.top2; omega)) (rngI_map _ _)))
    (fun i hi => ⟨[2], _, by decide, fun s' H C cl fp => ⟨(tg_name (i := 2) nd), jts_nil, fun _ => (je_call h_begun_with hr (ja_cons (jg_d (je_ix (je_nm (i := 0) rfl rfl) je_int rfl)) (ja_cons (jg_d (je_nm (i := 1) rfl rfl)) (ja_cons (jg_d (je_nm (i := 2) rfl rfl)) ja_nil))) ⟨(W, n, i), ok, rfl, rfl⟩ trivial)⟩⟩) (by rw [rngC_len]; have := lv.a; have := lv.b; have := lv.c; have := ok.top2; omega)) (by rw [filtT, begunL, List.map_map]; rfl)) trivial rfl)

-- does_keep (top 58)
theorem ok_does_keep {k : Nat} {f : Addr} {fd : FuncData} (T : Txt mg) (h_led_by : Has P w K mg base k "led_by" ["well", "place", "deed", "inflow"] (spF s_led_by)) (F : Fun K "does_keep" "does_keep" (top 58) f fd) : FnOk P w K mg base CX0 (k + 1) f fd ["well", "inflows", "place", "deed", "known"] (spF (s_does_keep P w)) := by
  have sc : FnScope ["well", "inflows", "place", "deed", "known", "inflow"] ["well", "inflows", "place", "deed", "known"] (defScope (top 58)) := ⟨rfl, rfl, rfl, by decide +kernel, rfl, by decide +kernel, by decide +kernel⟩
  have nd : (["well", "inflows", "place", "deed", "known", "inflow"] : List Str).Nodup := by decide +kernel
  refine fn_ok F sc (RL.len fun _ => rfl) (fun cdv A outer s H E ks r hr hS => ?_)
  obtain ⟨⟨W, r, p, d, kvs⟩, ⟨ok, rg, hs⟩, rfl, rfl⟩ := hS
  refine js_one (jp_ret (je_is (je_all (bs := (rngC r).map fun i => (lookN kvs (kR (ledBy W p d i))).isSome) T.all (jr_new (je_isL (je_lcT (l := rngC r) (e' := .int) (f := fun _ => true) (g := fun i => .bool (lookN kvs (kR (ledBy W p d i))).isSome) intInj (blkOk_by (own := [("inflow", 5)]) rfl) nd (jix (ji_is (ji_range2 T.range (je_ix (je_nm (i := 1) rfl rfl) je_int rfl) (je_add (je_ix (je_nm (i := 1) rfl rfl) je_int rfl) je_int) (by have := rg.a; have := rg.b; have := rg.c; omega) (by have := rg.a; have := rg.b; have := rg.c; omega) (by have := rg.a; have := rg.b; have := rg.c; omega) (by have := rg.a; have := rg.b; have := rg.c; omega)) (rngI_map _ _)))
    (fun i hi => ⟨[5], _, by decide, fun s' H C cl fp => ⟨(tg_name (i := 5) nd), jts_nil, fun _ => (je_c (jc_inN (k := kR (ledBy W p d i)) hr (je_is (je_call h_led_by hr (ja_cons (jg_d (je_nm (i := 0) rfl rfl)) (ja_cons (jg_d (je_nm (i := 2) rfl rfl)) (ja_cons (jg_d (je_nm (i := 3) rfl rfl)) (ja_cons (jg_d (je_nm (i := 5) rfl rfl)) ja_nil)))) ⟨(W, p, d, i), ⟨ok, hs⟩, rfl, rfl⟩ trivial) (kR_data _).symm) (jr_vb (i := 4) rfl) (kR_ask _)))⟩⟩) (by rw [rngC_len]; have := rg.a; have := rg.b; have := rg.c; omega)) (by rw [filtT, List.map_map]; rfl)))) (by rw [keepsM, List.all_map]; rfl)) trivial rfl)

-- deeds (top 54)
theorem ok_deeds {k : Nat} {f : Addr} {fd : FuncData} (T : Txt mg) (h_need_pumps : Has P w K mg base k "need_pumps" ["well", "number"] (spF s_need_pumps)) (h_need_place : Has P w K mg base k "need_place" ["well", "number", "place"] (spF s_need_place)) (h_deeds_of : Has P w K mg base k "deeds_of" ["well", "place"] (spF s_deeds_of)) (F : Fun K "deeds" "deeds" (top 54) f fd) : FnOk P w K mg base CX0 (k + 1) f fd ["well", "number", "place"] (spF s_deeds) := by
  have sc : FnScope ["well", "number", "place"] ["well", "number", "place"] (defScope (top 54)) := ⟨rfl, rfl, rfl, by decide +kernel, rfl, by decide +kernel, by decide +kernel⟩
  have nd : (["well", "number", "place"] : List Str).Nodup := by decide +kernel
  refine fn_ok F sc (RL.len fun _ => rfl) (fun cdv A outer s H E ks r hr hS => ?_)
  obtain ⟨⟨W, n, p⟩, ⟨ok, hp, n0, n1⟩, rfl, rfl⟩ := hS
  refine js_cons (jp_expr (je_call h_need_pumps hr (ja_cons (jg_d (je_nm (i := 0) rfl rfl)) (ja_cons (jg_d (je_nm (i := 1) rfl rfl)) ja_nil)) ⟨(W, n), ⟨ok, n0, n1⟩, rfl, rfl⟩ trivial) ?_)
  refine js_cons (jp_expr (je_call h_need_place hr (ja_cons (jg_d (je_nm (i := 0) rfl rfl)) (ja_cons (jg_d (je_nm (i := 1) rfl rfl)) (ja_cons (jg_d (je_nm (i := 2) rfl rfl)) ja_nil))) ⟨(W, n, p), ⟨ok, hp⟩, rfl, rfl⟩ trivial) ?_)
  refine js_one (jp_ret (je_is (je_tupL T.tuple (jr_new (je_call h_deeds_of hr (ja_cons (jg_d (je_nm (i := 0) rfl rfl)) (ja_cons (jg_d (je_nm (i := 2) rfl rfl)) ja_nil)) ⟨(W, p), Pl.Ok.dp ok hp, rfl, rfl⟩ trivial))) rfl) trivial rfl)

-- led (top 55)
theorem ok_led {k : Nat} {f : Addr} {fd : FuncData} (T : Txt mg) (h_need_pumps : Has P w K mg base k "need_pumps" ["well", "number"] (spF s_need_pumps)) (h_need_place : Has P w K mg base k "need_place" ["well", "number", "place"] (spF s_need_place)) (h_is_deed_of : Has P w K mg base k "is_deed_of" ["well", "place", "thing"] (spF s_is_deed_of)) (h_is_inflow : Has P w K mg base k "is_inflow" ["thing"] (spF s_is_inflow)) (h_led_by : Has P w K mg base k "led_by" ["well", "place", "deed", "inflow"] (spF s_led_by)) (F : Fun K "led" "led" (top 55) f fd) : FnOk P w K mg base CX0 (k + 1) f fd ["well", "number", "place", "deed", "inflow"] (spF s_led) := by
  have sc : FnScope ["well", "number", "place", "deed", "inflow"] ["well", "number", "place", "deed", "inflow"] (defScope (top 55)) := ⟨rfl, rfl, rfl, by decide +kernel, rfl, by decide +kernel, by decide +kernel⟩
  have nd : (["well", "number", "place", "deed", "inflow"] : List Str).Nodup := by decide +kernel
  refine fn_ok F sc (RL.len fun _ => rfl) (fun cdv A outer s H E ks r hr hS => ?_)
  obtain ⟨⟨W, n, p, d, i⟩, ⟨ok, hp, ⟨n0, n1⟩, hd, hi⟩, rfl, rfl⟩ := hS
  refine js_cons (jp_expr (je_call h_need_pumps hr (ja_cons (jg_d (je_nm (i := 0) rfl rfl)) (ja_cons (jg_d (je_nm (i := 1) rfl rfl)) ja_nil)) ⟨(W, n), ⟨ok, n0, n1⟩, rfl, rfl⟩ trivial) ?_)
  refine js_cons (jp_expr (je_call h_need_place hr (ja_cons (jg_d (je_nm (i := 0) rfl rfl)) (ja_cons (jg_d (je_nm (i := 1) rfl rfl)) (ja_cons (jg_d (je_nm (i := 2) rfl rfl)) ja_nil))) ⟨(W, n, p), ⟨ok, hp⟩, rfl, rfl⟩ trivial) ?_)
  refine js_cons (jp_ifno (jt_is (jt_not (jt_val (je_call h_is_deed_of hr (ja_cons (jg_d (je_nm (i := 0) rfl rfl)) (ja_cons (jg_d (je_nm (i := 2) rfl rfl)) (ja_cons (jg_d (je_nm (i := 3) rfl rfl)) ja_nil))) ⟨(W, p, d), (let z := Pl.Ok.dp ok hp; ⟨z.1, z.2.1, z.2.2.1, z.2.2.2.1, z.2.2.2.2, hd⟩), rfl, rfl⟩ trivial))) rfl) ?_)
  refine js_cons (jp_ifno (jt_is (jt_not (jt_val (je_call h_is_inflow hr (ja_cons (jg_d (je_nm (i := 4) rfl rfl)) ja_nil) ⟨i, hi, rfl, rfl⟩ trivial))) rfl) ?_)
  refine js_one (jp_ret (je_is (je_call h_led_by hr (ja_cons (jg_d (je_nm (i := 0) rfl rfl)) (ja_cons (jg_d (je_nm (i := 2) rfl rfl)) (ja_cons (jg_d (je_nm (i := 3) rfl rfl)) (ja_cons (jg_d (je_nm (i := 4) rfl rfl)) ja_nil)))) ⟨(W, p, d, i), ⟨ok, hp.sh⟩, rfl, rfl⟩ trivial) rfl) trivial rfl)

end
end Pq

namespace Pq
open PySem PySem.Spec L2
open PyProof.Rows hiding St
open Evl (Ex)

/-! ### dicts written as comprehensions -/
structure DcTurn (X : Cx) (scope : Scope) (vs : List Nat) (Φ : Lk) (δ : Slots) (tg kx vx : Expr) (d : PyData) (k : NestedKey) (z : PyData) : Prop where
  out : ∃ (js : List Nat) (es : List PyData), (∀ j ∈ js, j ∈ vs) ∧ ∀ (s : Shared) (H : Hp) (C : Addr) (cl : List (Str × Addr)) (fp : List Addr),
    TgOk (X.blk s H scope (compEnvC scope cl C X.env) fp) tg js es d ∧ JE (X.blk s H scope (compEnvC scope cl C X.env) fp) Φ kx (setδ (wipeD δ vs) js es) (.d k.data) ∧
      JE (X.blk s H scope (compEnvC scope cl C X.env) fp) Φ vx (setδ (wipeD δ vs) js es) (.d z)
def dcOut {α : Type} (kf : α → NestedKey) (zf : α → PyData) (l : List α) : List (NestedKey × PyData) := l.foldl (fun m x => putN m (kf x) (zf x)) []
theorem dcOut_snoc {α : Type} {kf : α → NestedKey} {zf : α → PyData} {l : List α} {i : Nat} {x : α} (h : l[i]? = some x) : dcOut kf zf (l.take (i + 1)) = putN (dcOut kf zf (l.take i)) (kf x) (zf x) := by
  rw [List.take_add_one, h]
  simp [dcOut]
theorem putN_len {kvs : List (NestedKey × PyData)} {k : NestedKey} {d : PyData} : (putN kvs k d).length ≤ kvs.length + 1 := by
  unfold putN
  split
  · rw [List.length_map]; omega
  · rw [List.length_append]; simp
theorem dcOut_len {α : Type} {kf : α → NestedKey} {zf : α → PyData} {l : List α} : (dcOut kf zf l).length ≤ l.length := by
  have key : ∀ (l : List α) (m : List (NestedKey × PyData)), (l.foldl (fun m x => putN m (kf x) (zf x)) m).length ≤ m.length + l.length := by
    intro l
    induction l with
    | nil => intro m; simp
    | cons x t ih =>
      intro m
      have h1 := ih (putN m (kf x) (zf x))
      have h2 := putN_len (kvs := m) (k := kf x) (d := zf x)
      simp only [List.foldl_cons, List.length_cons] at h1 ⊢
      omega
  have := key l []
  simpa [dcOut] using this
/-- distinct keys -/
theorem dcOut_nodup {α : Type} {kf : α → NestedKey} {zf : α → PyData} {l : List α} (h : (l.map kf).Nodup) : dcOut kf zf l = l.map fun x => (kf x, zf x) := by
  have key : ∀ (l : List α) (m : List (NestedKey × PyData)), (m.map (·.1) ++ l.map kf).Nodup → l.foldl (fun m x => putN m (kf x) (zf x)) m = m ++ l.map fun x => (kf x, zf x) := by
    intro l
    induction l with
    | nil => intro m _; simp
    | cons x t ih =>
      intro m hm
      have hx : kf x ∉ m.map (·.1) := by
        rw [List.map_cons, List.nodup_append] at hm
        exact fun z => hm.2.2 _ z _ List.mem_cons_self rfl
      have hl : lookN m (kf x) = none := by
        unfold lookN
        rw [Option.map_eq_none_iff, List.find?_eq_none]
        intro p hp z
        exact hx (List.mem_map.mpr ⟨p, hp, of_decide_eq_true z⟩)
      have hp : putN m (kf x) (zf x) = m ++ [(kf x, zf x)] := by
        unfold putN
        rw [hl, if_neg (by simp)]
      rw [List.foldl_cons, hp, ih _ (by simpa using hm)]
      simp
  have := key l [] (by simpa using h)
  simpa [dcOut] using this
section
variable {X : Cx} {Φ : Lk} {δ : Slots} {E : En} {e a b c : Expr} {es : List Expr} {pos : Pos} {st : Stmt} {sts rest : List Stmt} {j : Nat}
theorem dc_read {kx vx tg iter : Expr} {scope : Scope} {vs : List Nat} {α : Type} {l : List α} {e' : α → PyData} {kf : α → NestedKey} {zf : α → PyData} (hk : ∀ x ∈ l, TupKey (kf x)) (hi : JIx X Φ tg iter δ (l.map e'))
    (ht : ∀ x ∈ l, DcTurn X scope vs Φ δ tg kx vx (e' x) (kf x) (zf x)) (hz : l.length ≤ 1000000) {H0 : Hp} {σ : L2.St} {H1 : Hp} (sl : Sl H0 Φ H1 σ δ) {Q : VK}
    (q : ∀ v H2 F, Ex H1 H2 → Is H1 H2 (.o (SK.n X.prog X.w (dcOut kf zf l))) v F → Q v H2) : tDcN X.prog X.w (wI X tg iter) (gAll X scope tg) tYes (eAll X scope kx) (eAll X scope vx) vs σ H1 Q := by
  refine hi H0 σ H1 sl _ fun J H2 Src e1 ok stab s2 => ?_
  intro D hD hsys
  have srcOf : ∀ {H}, Ex H2 H → Src H := fun {H} ex => stab _ _ s2 ex
  refine ⟨fun i m H => m = l.length - i ∧ i ≤ l.length ∧ Ex H2 H ∧ IsN X.prog X.w H D (dcOut kf zf (l.take i)), ⟨l.length, by simp, Nat.zero_le _, Evl.Ex.new hD, hsys, [], upd_same, .nil⟩, ?_⟩
  rintro i m H ⟨rfl, hi', ex, own⟩
  by_cases hlt : i < l.length
  · have hlt' : i < (l.map e').length := by simpa using hlt
    refine .inr ⟨ok.go i H (srcOf ex) hlt', fun H' => (i + 1) ≤ l.length ∧ Ex H2 H' ∧ IsN X.prog X.w H' D (dcOut kf zf (l.take (i + 1))), fun H' ⟨z1, z2, z3⟩ => ⟨l.length - (i + 1), by omega, rfl, z1, z2, z3⟩, fun x H' y => ?_⟩
    obtain ⟨exy, d, hd, dd⟩ := ok.yld i H x H' (srcOf ex) hlt' y
    obtain ⟨x0, hx0, rfl⟩ := get_map hd
    have mx := List.mem_of_getElem? hx0
    obtain ⟨js, es, hjs, turn⟩ := (ht x0 mx).out
    have exH : Ex H2 H' := ex.trans exy
    intro s Hh C cl fp
    obtain ⟨tg1, _, _⟩ := turn s Hh C cl fp
    refine tg1.run _ H' x _ dd fun ws hws hl => ⟨wipe_set σ vs js ws hjs, ?_⟩
    have sl2 : Sl H0 Φ H' (setσ (L2.wipe σ vs) js ws) (setδ (wipeD δ vs) js es) := setSl ((sl.mono (e1.trans exH)).wipe vs) hws
    show eAll X scope kx _ H' _
    intro s Hh C cl fp
    obtain ⟨_, kj, _⟩ := turn s Hh C cl fp
    refine kj H0 _ H' sl2 _ fun y H4 F4 e4 i4 => ?_
    intro s Hh C cl fp
    obtain ⟨_, _, vj⟩ := turn s Hh C cl fp
    refine vj H0 _ H4 (sl2.mono e4) _ fun z H5 F5 e5 i5 => ?_
    have same : ∀ {G G' : Hp}, Ex G G' → IsN X.prog X.w G D (dcOut kf zf (l.take i)) → IsN X.prog X.w G' D (dcOut kf zf (l.take i)) := fun {G G'} ex h => by
      obtain ⟨_, raw, hr, _⟩ := id h
      exact h.ex (.of ex) ((ex _ _ hr).trans hr.symm)
    have own5 := same ((exy.trans e4).trans e5) own
    have hlen : (dcOut kf zf (l.take i)).length ≤ 1000000 := Nat.le_trans dcOut_len (by rw [List.length_take]; omega)
    refine ⟨_, kf x0, zf x0, own5, by rw [sizeLine_eq]; omega, hk x0 mx, i4.2.ex (.of e5), i5.2, fun o h => ⟨hlt, Evl.Ex.mut ((exH.trans e4).trans e5) hD, ?_⟩⟩
    rw [dcOut_snoc hx0]
    exact h
  · obtain rfl : i = l.length := by omega
    rw [List.take_length] at own
    exact .inl ⟨by have z := ok.stop H (srcOf ex); rwa [List.length_map] at z, q _ H [D] (e1.trans ex) (is_n (Evl.fresh_back e1 hD) own)⟩
theorem je_dcT {kx vx tg iter : Expr} {scope : Scope} {own : List (Str × Nat)} {α : Type} {l : List α} {e' : α → PyData} {kf : α → NestedKey} {zf : α → PyData} {P : Program} {w : World} (hr : Room j X.A) (hk : ∀ x ∈ l, TupKey (kf x)) (ok : BlkOk X.N X.env.scope scope own) (hN : X.N.Nodup) (hi : JIx X Φ tg iter δ (l.map e'))
    (ht : ∀ x ∈ l, DcTurn X scope (own.map (·.2)) Φ δ tg kx vx (e' x) (kf x) (zf x)) (hz : l.length ≤ 1000000) (hP : P = X.prog := by rfl) (hw : w = X.w := by rfl) (hc : X.calm = true := by rfl) (hs : ∀ x, foldedSetIterable iter X.env x = pure x := by intro _; rfl) :
    JE X Φ (.DictComp kx vx [⟨tg, iter, [], 0⟩] scope pos) δ (.o (SK.n P w (dcOut kf zf l))) := fun H0 σ H1 sl Q q => by
  subst hP hw
  exact e_of (pe_dcN (Room.u9 hr) hc hN pi_w ok (fun s H C cl fp => ⟨fun pins s' σ' H' v u Q' I r h => h s H C cl fp pins s' u I r⟩) (fun s H C cl fp => pts_nil) (fun s H C cl fp => ⟨fun pins s' σ' H' Q' I h => h s H C cl fp pins s' I⟩) (fun s H C cl fp => ⟨fun pins s' σ' H' Q' I h => h s H C cl fp pins s' I⟩) hs)
    (dc_read hk hi ht hz sl q)
/-! ### an own dict is locked while an expression runs -/
theorem je_lock {i0 : Nat} {kvs : List (NestedKey × PyData)} {k : Kd} (hk : δ[i0]? = some (some (.o (SK.n X.prog X.w kvs)))) (ho : k.own) (h : ∀ p o raw, JE X ((p, SK.fz X.prog X.w o raw kvs) :: Φ) e (δ.set i0 (some (.v (.ref p)))) k) : JE X Φ e δ k := fun H0 σ H1 sl Q q => by
  refine e_of (pe_lock pe_w) ?_
  obtain ⟨F, f⟩ := sl.at_
  obtain ⟨v, hv0, hi⟩ := f.some_ i0 _ hk
  obtain ⟨⟨p, rfl, eF, hsys, raw, hp0, rk⟩, nw⟩ := hi
  have nwp := nw p (by rw [eF]; exact List.mem_cons_self)
  refine ⟨p, _, hp0, trivial, fun o => ?_⟩
  have te1 : TEx H1 (upd H1 p (.frz o (NObj X.prog X.w p raw))) := (TEx.refl H1).upd nwp.2
  have slk : Sl H0 ((p, SK.fz X.prog X.w o raw kvs) :: Φ) (upd H1 p (.frz o (NObj X.prog X.w p raw))) σ (δ.set i0 (some (.v (.ref p)))) :=
    sl.locked hk hv0 (fun F ⟨q, e1, e2, _⟩ => ⟨q, e1, e2⟩) rfl te1 (fun a u na z => by rw [upd_ne na]; exact z) ⟨p, rfl, rfl, hsys, upd_same, rk.ex te1⟩
  refine h p o raw H0 σ _ slk _ fun v H2 F2 e2 i2 => ⟨e2 _ _ upd_same, ?_⟩
  have hp2 : H2 p = some (.frz o (NObj X.prog X.w p raw)) := e2 _ _ upd_same
  have te2 : TEx H2 (upd H2 p (NObj X.prog X.w p raw)) := (TEx.refl H2).upd (fun vs z => by rw [hp2] at z; cases z)
  refine q v _ F2 (fun a u z => ?_) ?_
  · by_cases ea : a = p
    · subst ea
      rw [upd_same]
      rw [hp0] at z
      exact z
    · rw [upd_ne ea]
      exact e2 a u (by rw [upd_ne ea]; exact z)
  · have off : ∀ a ∈ F2, a ≠ p ∧ H1 a = none := fun a ha => by
      obtain ⟨z, _⟩ := i2.dom a ha
      have ne : a ≠ p := fun ea => by rw [ea, upd_same] at z; cases z
      rw [upd_ne ne] at z
      exact ⟨ne, z⟩
    have i3 := i2.stay te2 fun a ha => upd_ne (off a ha).1
    cases k with
    | d x => exact i3
    | v x => exact i3
    | o S => exact ⟨i3.1, fun a ha => ⟨(off a ha).2, (i3.2 a ha).2⟩⟩
    | bo S => exact ho.elim
/-- the keys of a locked dict, one after another -/
theorem ji_lockN {tg : Expr} {i0 : Nat} {x : Str} {p1 : Pos} {p : Addr} {o : Obj} {raw : Raw} {kvs : List (NestedKey × PyData)} (hd : δ[i0]? = some (some (.v (.ref p)))) (hl : (p, SK.fz X.prog X.w o raw kvs) ∈ Φ) (hN : X.N[i0]? = some x := by rfl) (hvis : Vis X.env.scope x := by first | exact Or.inl rfl | exact Or.inr (Or.inl rfl) | exact Or.inr (Or.inr rfl))
    (h1 : (x == ("__debug__" : Str)) = false := by decide) (h2 : (x == ("__classdict__" : Str)) = false := by decide) : JIx X Φ tg (.Name x p1) δ (kvs.map fun q => q.1.data) := fun H0 σ H1 sl R q => by
  refine i_of (pi_keysN (pe_var hN hvis h1 h2)) ?_
  obtain ⟨F, f⟩ := sl.at_
  obtain ⟨v, hs, hi⟩ := f.some_ i0 _ hd
  obtain ⟨_, rfl⟩ := hi
  obtain ⟨p', e, _, hsys, hp, rk⟩ := (f.lock _ hl).1
  cases e
  exact ⟨_, hs, p, o, raw, rfl, hsys, hp, q _ H1 _ (Evl.Ex.refl H1) (keysN_ok rk.len) (fun H H' s e => ⟨e _ _ s.1, s.2.ex (.of e)⟩) ⟨hp, rk⟩⟩
/-- a locked dict, read by its name -/
theorem jr_lk {i : Nat} {x : Str} {p1 : Pos} {p : Addr} {P : Program} {w : World} {o : Obj} {raw : Raw} {kvs : List (NestedKey × PyData)} (hd : δ[i]? = some (some (.v (.ref p)))) (hl : (p, SK.fz P w o raw kvs) ∈ Φ) (hN : X.N[i]? = some x := by rfl) (hv : Vis X.env.scope x := by first | exact Or.inl rfl | exact Or.inr (Or.inl rfl) | exact Or.inr (Or.inr rfl))
    (h1 : (x == ("__debug__" : Str)) = false := by decide) (h2 : (x == ("__classdict__" : Str)) = false := by decide) : JR X Φ (.Name x p1) δ (SK.nr P w kvs) := jr_fz (jr_vl hd hl hN hv h1 h2)
/-! ### three names at once -/
theorem jp_par3 {i j l : Nat} {x y z : Str} {px py pz pt : Pos} {kt k2 pt2} {k1 k3 k4 : Kd} (ha : JE X Φ a δ k1) (hb : JE X Φ b δ k3) (hd : JE X Φ c δ k4) (o1 : k1.own) (o2 : k3.own) (o3 : k4.own) (hn : E.nx (((δ.set i (some k1)).set j (some k3)).set l (some k4))) (hN : X.N.Nodup) (hij : i ≠ j := by decide) (hil : i ≠ l := by decide) (hjl : j ≠ l := by decide)
    (hi : X.N[i]? = some x := by rfl) (hj : X.N[j]? = some y := by rfl) (hl : X.N[l]? = some z := by rfl)
    (hx : X.env.scope.names.lookup x = some .local := by rfl) (hy : X.env.scope.names.lookup y = some .local := by rfl) (hz : X.env.scope.names.lookup z = some .local := by rfl) (hsa : NS a := by exact fun _ _ => rfl) (hsb : NS b := by exact fun _ _ => rfl) (hsc : NS c := by exact fun _ _ => rfl) (hc : X.calm = true := by rfl)
    (hw : swappedStores [.Tuple [.Name x px, .Name y py, .Name z pz] kt pt] (.Tuple [a, b, c] k2 pt2) X.env = pure (some [x, y, z]) := by rfl)
    (hs : swapsWithSole [.Tuple [.Name x px, .Name y py, .Name z pz] kt pt] (.Tuple [a, b, c] k2 pt2) pos.line X.env = pure false := by rfl) : JP X Φ (.Assign [.Tuple [.Name x px, .Name y py, .Name z pz] kt pt] (.Tuple [a, b, c] k2 pt2) pos) δ E := fun H0 σ H1 D sl g => by
  refine s_of (ps_par3 hc hN hi hj hl hij hil hjl hx hy hz (pa_cons pe_w (pa_cons pe_w (pa_cons pe_w pa_nil (hsc _ _)) (hsb _ _)) (hsa _ _)) hw hs) ?_
  refine ha H0 σ H1 sl _ fun v H2 F e1 i1 => ?_
  refine hb H0 σ H2 (sl.mono e1) _ fun u H3 G e2 i2 => ?_
  refine hd H0 σ H3 ((sl.mono e1).mono e2) _ fun t H4 G' e3 i3 => ?_
  refine ⟨v, u, t, rfl, g.nx _ _ _ ?_ hn⟩
  have s1 : Sl H0 Φ H2 (σ.set i (some v)) (δ.set i (some k1)) := sl.set_new e1 (i1.lift o1 sl.ex) i1.fresh
  have s2 : Sl H0 Φ H3 ((σ.set i (some v)).set j (some u)) ((δ.set i (some k1)).set j (some k3)) := s1.set_new e2 (i2.lift o2 (sl.ex.trans e1)) i2.fresh
  exact s2.set_new e3 (i3.lift o3 ((sl.ex.trans e1).trans e2)) i3.fresh
end

end Pq

namespace Pq
open PySem PySem.Spec L2
open PyProof.Rows hiding St
open Evl (Ex)

/-! ### tuples of two objects -/
def SK.pr (S T : SK) : SK where
  is H v F := ∃ t u x F1 F2, v = .ref t ∧ H t = some (.tup [u, x]) ∧ F = F1 ++ F2 ∧ S.is H u F1 ∧ T.is H x F2 ∧ (∀ a ∈ F1, a ∉ F2)
  stay := by
    rintro H H' v F ⟨t, u, x, F1, F2, rfl, ht, rfl, h1, h2, ap⟩ e k
    exact ⟨t, u, x, F1, F2, rfl, e t _ ht, rfl, S.stay h1 e fun a ha => k a (List.mem_append_left _ ha), T.stay h2 e fun a ha => k a (List.mem_append_right _ ha), ap⟩
  dom := by
    rintro H v F ⟨t, u, x, F1, F2, rfl, ht, rfl, h1, h2, ap⟩ a ha
    rcases List.mem_append.mp ha with h | h
    · exact S.dom h1 a h
    · exact T.dom h2 a h
/-- two new values, apart, are stored -/
theorem Sl.set_new2 {H0 H1 H : Hp} {Φ : Lk} {σ : L2.St} {δ : Slots} (h : Sl H0 Φ H1 σ δ) (e : Ex H1 H) {i j : Nat} {S T : SK} {v u : V} {F G : List Addr} (hi : Is H1 H (.o S) v F) (hj : Is H1 H (.o T) u G) (ap : ∀ a ∈ F, a ∉ G) :
    Sl H0 Φ H ((σ.set i (some v)).set j (some u)) ((δ.set i (some (.o S))).set j (some (.o T))) := by
  classical
  generalize hK : (fun a => if a ∈ G then none else H a : Hp) = K
  have kin : ∀ a, a ∈ G → K a = none := fun a ha => by rw [← hK]; exact if_pos ha
  have kout : ∀ a, a ∉ G → K a = H a := fun a ha => by rw [← hK]; exact if_neg ha
  have e1 : Ex H1 K := fun a o z => by
    have na : a ∉ G := fun ha => by rw [hj.fresh a ha] at z; cases z
    rw [kout a na]
    exact e a o z
  have e2 : Ex K H := fun a o z => by
    by_cases ha : a ∈ G
    · rw [kin a ha] at z; cases z
    · rw [kout a ha] at z; exact z
  have te : TEx H K := fun a vs z => by
    have na : a ∉ G := fun ha => (hj.2 a ha).2 vs z
    rw [kout a na]
    exact z
  have hi' : Is H1 K (.o S) v F := hi.stay te fun a ha => kout a (ap a ha)
  have s1 : Sl H0 Φ K (σ.set i (some v)) (δ.set i (some (.o S))) := h.set_new e1 (hi'.lift (k := .o S) trivial h.ex) hi'.fresh
  refine s1.set_new e2 (k := .o T) (hj.lift (k := .o T) trivial h.ex) fun a ha => kin a ha
section
variable {X : Cx} {Φ : Lk} {δ : Slots} {E : En} {e a b c : Expr} {es : List Expr} {pos : Pos} {st : Stmt} {sts rest : List Stmt} {S T : SK}
theorem pr_parts {H H' : Hp} {v : V} {F : List Addr} (h : Is H H' (.o (SK.pr S T)) v F) : ∃ t u x F1 F2, v = .ref t ∧ H' t = some (.tup [u, x]) ∧ Is H H' (.o S) u F1 ∧ Is H H' (.o T) x F2 ∧ ∀ a ∈ F1, a ∉ F2 := by
  obtain ⟨⟨t, u, x, F1, F2, rfl, ht, rfl, h1, h2, ap⟩, nw⟩ := h
  exact ⟨t, u, x, F1, F2, rfl, ht, ⟨h1, fun a ha => nw a (List.mem_append_left _ ha)⟩, ⟨h2, fun a ha => nw a (List.mem_append_right _ ha)⟩, ap⟩
/-- x, y = e -/
theorem jp_unPr {i j : Nat} {x y : Str} {k : Nat} {px py pt : Pos} (h : JE X Φ e δ (.o (SK.pr S T))) (hn : E.nx ((δ.set i (some (.o S))).set j (some (.o T)))) (hN : X.N.Nodup) (hi : X.N[i]? = some x := by rfl) (hj : X.N[j]? = some y := by rfl)
    (hx : Loc X.env.scope x := by first | exact Or.inl rfl | exact Or.inr rfl) (hy : Loc X.env.scope y := by first | exact Or.inl rfl | exact Or.inr rfl)
    (fx : X.fn x = true ∨ X.env.scope.names.lookup x = some .local := by first | exact .inl rfl | exact .inr rfl) (fy : X.fn y = true ∨ X.env.scope.names.lookup y = some .local := by first | exact .inl rfl | exact .inr rfl)
    (s1 : (assignEach (.Name x px :: [.Name y py]) X.env).map (·.2) = assign (.Name x px) X.env :: (assignEach [.Name y py] X.env).map (·.2) := by rfl)
    (s2 : (assignEach (.Name y py :: []) X.env).map (·.2) = assign (.Name y py) X.env :: (assignEach [] X.env).map (·.2) := by rfl)
    (hc : X.calm = true := by rfl) (hl : (assignEach [.Name x px, .Name y py] X.env).length = [Expr.Name x px, Expr.Name y py].length := by rfl) (hst : (assignEach [.Name x px, .Name y py] X.env).findIdx? (·.1) = none := by rfl)
    (hs : swapsWithSole [.Tuple [.Name x px, .Name y py] k pt] e pos.line X.env = pure false := by rfl) (hw : swappedStores [.Tuple [.Name x px, .Name y py] k pt] e X.env = pure none := by rfl)
    (h1 : (assignEach [.Tuple [.Name x px, .Name y py] k pt] X.env).map (·.2) = [assign (.Tuple [.Name x px, .Name y py] k pt) X.env] := by rfl) : JP X Φ (.Assign [.Tuple [.Name x px, .Name y py] k pt] e pos) δ E := fun H0 σ H1 D sl g => by
  refine s_of (ps_asg pe_w (pg_tup hc (pgs_cons (pg_name hN hi hx fx) (pgs_cons (pg_name hN hj hy fy) pgs_nil s2) s1) hl hst) hs hw h1) (h H0 σ H1 sl _ fun v H2 F e1 i1 => ?_)
  obtain ⟨t, u, z, F1, F2, rfl, ht, p1, p2, ap⟩ := pr_parts i1
  exact ⟨t, [u, z], rfl, SqT.of ht, rfl, u, [z], rfl, z, [], rfl, rfl, g.nx _ _ _ (sl.set_new2 e1 p1 p2 ap) hn⟩
/-- x, y, z = a, b, c: the tuple is made and taken apart -/
theorem jp_tup3 {i j l : Nat} {x y z : Str} {px py pz pt : Pos} {kt k2 pt2} {k1 k3 k4 : Kd} (ha : JE X Φ a δ k1) (hb : JE X Φ b δ k3) (hd : JE X Φ c δ k4) (o1 : k1.own) (o2 : k3.own) (o3 : k4.own) (hn : E.nx (((δ.set i (some k1)).set j (some k3)).set l (some k4))) (hN : X.N.Nodup)
    (hi : X.N[i]? = some x := by rfl) (hj : X.N[j]? = some y := by rfl) (hl : X.N[l]? = some z := by rfl)
    (hx : Loc X.env.scope x := by first | exact Or.inl rfl | exact Or.inr rfl) (hy : Loc X.env.scope y := by first | exact Or.inl rfl | exact Or.inr rfl) (hz : Loc X.env.scope z := by first | exact Or.inl rfl | exact Or.inr rfl)
    (fx : X.fn x = true ∨ X.env.scope.names.lookup x = some .local := by first | exact .inl rfl | exact .inr rfl) (fy : X.fn y = true ∨ X.env.scope.names.lookup y = some .local := by first | exact .inl rfl | exact .inr rfl) (fz : X.fn z = true ∨ X.env.scope.names.lookup z = some .local := by first | exact .inl rfl | exact .inr rfl)
    (s1 : (assignEach (.Name x px :: [.Name y py, .Name z pz]) X.env).map (·.2) = assign (.Name x px) X.env :: (assignEach [.Name y py, .Name z pz] X.env).map (·.2) := by rfl)
    (s2 : (assignEach (.Name y py :: [.Name z pz]) X.env).map (·.2) = assign (.Name y py) X.env :: (assignEach [.Name z pz] X.env).map (·.2) := by rfl)
    (s3 : (assignEach (.Name z pz :: []) X.env).map (·.2) = assign (.Name z pz) X.env :: (assignEach [] X.env).map (·.2) := by rfl)
    (hc : X.calm = true := by rfl) (hln : (assignEach [.Name x px, .Name y py, .Name z pz] X.env).length = [Expr.Name x px, Expr.Name y py, Expr.Name z pz].length := by rfl) (hst : (assignEach [.Name x px, .Name y py, .Name z pz] X.env).findIdx? (·.1) = none := by rfl)
    (hsa : NS a := by exact fun _ _ => rfl) (hsb : NS b := by exact fun _ _ => rfl) (hsc : NS c := by exact fun _ _ => rfl)
    (hs : swapsWithSole [.Tuple [.Name x px, .Name y py, .Name z pz] kt pt] (.Tuple [a, b, c] k2 pt2) pos.line X.env = pure false := by rfl) (hw : swappedStores [.Tuple [.Name x px, .Name y py, .Name z pz] kt pt] (.Tuple [a, b, c] k2 pt2) X.env = pure none := by rfl)
    (h1 : (assignEach [.Tuple [.Name x px, .Name y py, .Name z pz] kt pt] X.env).map (·.2) = [assign (.Tuple [.Name x px, .Name y py, .Name z pz] kt pt) X.env] := by rfl) : JP X Φ (.Assign [.Tuple [.Name x px, .Name y py, .Name z pz] kt pt] (.Tuple [a, b, c] k2 pt2) pos) δ E := fun H0 σ H1 D sl g => by
  refine s_of (ps_asg (pe_tup (pa_cons pe_w (pa_cons pe_w (pa_cons pe_w pa_nil (hsc _ _)) (hsb _ _)) (hsa _ _))) (pg_tup hc (pgs_cons (pg_name hN hi hx fx) (pgs_cons (pg_name hN hj hy fy) (pgs_cons (pg_name hN hl hz fz) pgs_nil s3) s2) s1) hln hst) hs hw h1) ?_
  refine ha H0 σ H1 sl _ fun v H2 F e1 i1 => ?_
  refine hb H0 σ H2 (sl.mono e1) _ fun u H3 G e2 i2 => ?_
  refine hd H0 σ H3 ((sl.mono e1).mono e2) _ fun t H4 G' e3 i3 => ?_
  refine ⟨by simp [sizeLine_eq], fun p hp => ?_⟩
  have q1 : Sl H0 Φ H2 (σ.set i (some v)) (δ.set i (some k1)) := sl.set_new e1 (i1.lift o1 sl.ex) i1.fresh
  have q2 : Sl H0 Φ H3 ((σ.set i (some v)).set j (some u)) ((δ.set i (some k1)).set j (some k3)) := q1.set_new e2 (i2.lift o2 (sl.ex.trans e1)) i2.fresh
  have q3 : Sl H0 Φ H4 (((σ.set i (some v)).set j (some u)).set l (some t)) (((δ.set i (some k1)).set j (some k3)).set l (some k4)) := q2.set_new e3 (i3.lift o3 ((sl.ex.trans e1).trans e2)) i3.fresh
  exact ⟨p, [v, u, t], rfl, SqT.of upd_same, rfl, v, [u, t], rfl, u, [t], rfl, t, [], rfl, rfl, g.nx _ _ _ (q3.mono (Evl.Ex.new hp)) hn⟩
/-- e[0], the other is let go -/
theorem je_fst {p2 : Pos} {j : Nat} (h : JE X Φ e δ (.o (SK.pr S T))) : JE X Φ (.Subscript e (.Constant (.int 0) j p2) pos) δ (.o S) := fun H0 σ H1 sl Q q => by
  refine e_of (pe_ix ix_tup pe_w pe_w (fun _ _ => rfl)) ?_
  refine h H0 σ H1 sl _ fun v H2 F e1 i1 => ?_
  refine je_int H0 σ H2 (sl.mono e1) _ fun u H3 _ e2 i2 => ?_
  obtain ⟨t, u1, z, F1, F2, rfl, ht, p1, p2, ap⟩ := pr_parts (i1.ex e2)
  exact ⟨t, [u1, z], 0, u1, rfl, dt_int i2.2, SqT.of ht, rfl, q u1 H3 F1 (e1.trans e2) p1⟩
theorem jr_fst {p2 : Pos} {j : Nat} (h : JR X Φ e δ (SK.pr S T)) : JR X Φ (.Subscript e (.Constant (.int 0) j p2) pos) δ S := fun H0 σ H1 sl Q q => by
  refine e_of (pe_ix ix_tup pe_w pe_w (fun _ _ => rfl)) ?_
  refine h H0 σ H1 sl _ fun v H2 F e1 i1 => ?_
  refine je_int H0 σ H2 (sl.mono e1) _ fun u H3 _ e2 i2 => ?_
  obtain ⟨t, u1, z, F1, F2, rfl, ht, _, p1, p2, ap⟩ := (SK.pr S T).ex i1 e2
  exact ⟨t, [u1, z], 0, u1, rfl, dt_int i2.2, SqT.of ht, rfl, q u1 H3 F1 (e1.trans e2) p1⟩
theorem jr_snd {p2 : Pos} {j : Nat} (h : JR X Φ e δ (SK.pr S T)) : JR X Φ (.Subscript e (.Constant (.int 1) j p2) pos) δ T := fun H0 σ H1 sl Q q => by
  refine e_of (pe_ix ix_tup pe_w pe_w (fun _ _ => rfl)) ?_
  refine h H0 σ H1 sl _ fun v H2 F e1 i1 => ?_
  refine je_int H0 σ H2 (sl.mono e1) _ fun u H3 _ e2 i2 => ?_
  obtain ⟨t, u1, z, F1, F2, rfl, ht, _, p1, p2, ap⟩ := (SK.pr S T).ex i1 e2
  exact ⟨t, [u1, z], 1, z, rfl, dt_int i2.2, SqT.of ht, rfl, q z H3 F2 (e1.trans e2) p2⟩
/-- return (x, y): two own names -/
theorem jp_retPr {i j : Nat} {x y : Str} {k : Nat} {px py pt : Pos} (hx : δ[i]? = some (some (.o S))) (hy : δ[j]? = some (some (.o T))) (hr : E.rt (.o (SK.pr S T))) (ne : i ≠ j := by decide) (hN : X.N[i]? = some x := by rfl) (hM : X.N[j]? = some y := by rfl)
    (hv : Vis X.env.scope x := by first | exact Or.inl rfl | exact Or.inr (Or.inl rfl) | exact Or.inr (Or.inr rfl)) (hu : Vis X.env.scope y := by first | exact Or.inl rfl | exact Or.inr (Or.inl rfl) | exact Or.inr (Or.inr rfl))
    (h1 : (x == ("__debug__" : Str)) = false := by decide) (h2 : (x == ("__classdict__" : Str)) = false := by decide) (h3 : (y == ("__debug__" : Str)) = false := by decide) (h4 : (y == ("__classdict__" : Str)) = false := by decide)
    (n1 : NS (.Name x px) := by exact fun _ _ => rfl) (n2 : NS (.Name y py) := by exact fun _ _ => rfl) : JP X Φ (.Return (some (.Tuple [.Name x px, .Name y py] k pt)) pos) δ E := fun H0 σ H1 D sl g => by
  obtain ⟨F, f⟩ := sl.at_
  obtain ⟨v, hs, hi⟩ := f.some_ i _ hx
  obtain ⟨u, hs', hi'⟩ := f.some_ j _ hy
  refine s_of (ps_ret (pe_tup (pa_cons (pe_var hN hv h1 h2) (pa_cons (pe_var hM hu h3 h4) pa_nil (n2 _ _)) (n1 _ _)))) ?_
  refine ⟨v, hs, u, hs', by simp [sizeLine_eq], fun p hp => ?_⟩
  have ex : Ex H1 (upd H1 p (.tup [v, u])) := Evl.Ex.new hp
  refine g.rt (.ref p) _ (.o (SK.pr S T)) (F i ++ F j) ⟨σ, δ, sl.mono ex⟩ ⟨⟨p, v, u, F i, F j, rfl, upd_same, rfl, (hi.ex ex).1, (hi'.ex ex).1, fun a ha => f.apart i j a ne ha⟩, fun a ha => ?_⟩ hr
  rcases List.mem_append.mp ha with h | h
  · exact (hi.ex ex).2 a h
  · exact (hi'.ex ex).2 a h
end

end Pq

namespace Pq
open PySem PySem.Spec L2
open PyProof.Rows hiding St
open Evl (Ex)

/-! ### rows and places -/
def rowsM (n : Int) : Nat → List (List Int)
  | 0 => [[]]
  | k + 1 => (rowsM n k).flatMap fun row => (rngI 0 (n - row.sum + 1).toNat).map fun c => row ++ [c]
theorem rowsM_ok {n : Int} (hn : 0 ≤ n) : ∀ k, ∀ row ∈ rowsM n k, row.length = k ∧ (∀ i ∈ row, 0 ≤ i ∧ i ≤ n) ∧ 0 ≤ row.sum ∧ row.sum ≤ n
  | 0, row, h => by
    obtain rfl : row = [] := by simpa [rowsM] using h
    exact ⟨rfl, fun _ z => by simp at z, Int.le_refl _, hn⟩
  | k + 1, row, h => by
    obtain ⟨r, hr, h⟩ := List.mem_flatMap.mp h
    obtain ⟨c, hc, rfl⟩ := List.mem_map.mp h
    obtain ⟨h1, h2, h3, h4⟩ := rowsM_ok hn k r hr
    have hc := mem_rngI.mp hc
    refine ⟨by simp [h1], fun i hi => ?_, ?_, ?_⟩
    · rcases List.mem_append.mp hi with z | z
      · exact h2 i z
      · simp at z
        subst z
        omega
    · simp
      omega
    · simp
      omega
theorem flat_bd {α β : Type} (F : α → List β) (b : Nat) : ∀ l : List α, (∀ x ∈ l, (F x).length ≤ b) → (l.flatMap F).length ≤ l.length * b
  | [], _ => by simp
  | x :: l, h => by
    have h1 := h x List.mem_cons_self
    have h2 := flat_bd F b l fun y hy => h y (List.mem_cons_of_mem _ hy)
    rw [List.flatMap_cons, List.length_append, List.length_cons, Nat.succ_mul]
    omega
theorem rowsM_len {n : Int} (hn : 0 ≤ n) : ∀ k, (rowsM n k).length ≤ (n + 1).toNat ^ k
  | 0 => Nat.le_refl _
  | k + 1 => by
    have h1 := rowsM_len hn k
    refine Nat.le_trans (flat_bd _ (n + 1).toNat _ fun row hr => ?_) (Nat.mul_le_mul_right _ h1)
    rw [List.length_map, rngI_len]
    have := (rowsM_ok hn k row hr).2.2.1
    omega
theorem rowsM_bd {n : Int} {k : Nat} (hn : 0 ≤ n) (h4 : n ≤ 4) (hk : k ≤ 4) : (rowsM n k).length ≤ 625 := by
  refine Nat.le_trans (rowsM_len hn k) (Nat.le_trans (Nat.pow_le_pow_left (show (n + 1).toNat ≤ 5 by omega) k) ?_)
  exact Nat.le_trans (Nat.pow_le_pow_right (by decide) hk) (by decide)
def s_rows_of : Rl := RL (fun (x : Int × Int) => match x with | (k, n) => 0 ≤ k ∧ k ≤ 4 ∧ 0 ≤ n ∧ n ≤ 4) (fun (k, n) => [.d (.int k), .d (.int n)]) (fun (k, n) => .o (SK.l ((rowsM n k.toNat).map iL)))
def placesM (W : Wl) (n : Int) : List Pl := (rngI 0 (W.top + 1).toNat).flatMap fun lv => (rowsM n (W.run + W.rest - 1).toNat).map fun row => ⟨lv, row.take W.run.toNat, row.drop W.run.toNat, n - row.sum⟩
theorem placesM_len {W : Wl} {n : Int} (ok : W.Ok) (hn : 0 ≤ n) (h4 : n ≤ 4) : (placesM W n).length ≤ 3750 := by
  unfold placesM
  rw [flat_map_len, rngI_len]
  have h1 : (W.top + 1).toNat ≤ 6 := by have := ok.top2; omega
  have h2 : (rowsM n (W.run + W.rest - 1).toNat).length ≤ 625 := rowsM_bd hn h4 (by have := ok.run2; have := ok.rest2; omega)
  exact Nat.mul_le_mul h1 h2
def s_places_of : Rl := RL (fun (x : Wl × Int) => match x with | (W, n) => W.Ok ∧ 0 ≤ n ∧ n ≤ 4) (fun (W, n) => [.d (wD W), .d (.int n)]) (fun (W, n) => .o (SK.l ((placesM W n).map pD)))
theorem cutD_take {l : List Int} {k : Int} (h0 : 0 ≤ k) : cutD (l.map PyData.int) none (some k) = (l.take k.toNat).map PyData.int := by
  obtain ⟨m, rfl⟩ : ∃ m : Nat, k = (m : Int) := ⟨k.toNat, by omega⟩
  unfold cutD
  rw [HT.sIx_nat, HT.sIx_none, List.drop_zero, Nat.sub_zero, Int.toNat_natCast, List.map_take, List.length_map]
  by_cases h : m ≤ l.length
  · rw [Nat.min_eq_left h]
  · rw [Nat.min_eq_right (by omega), List.take_of_length_le (by simp), List.take_of_length_le (by simp; omega)]
theorem cutD_drop {l : List Int} {k : Int} (h0 : 0 ≤ k) : cutD (l.map PyData.int) (some k) none = (l.drop k.toNat).map PyData.int := by
  obtain ⟨m, rfl⟩ : ∃ m : Nat, k = (m : Int) := ⟨k.toNat, by omega⟩
  unfold cutD
  rw [HT.sIx_nat, HT.sIx_none, Int.toNat_natCast, List.map_drop, List.length_map]
  by_cases h : m ≤ l.length
  · rw [Nat.min_eq_left h, List.take_of_length_le (by simp)]
  · rw [Nat.min_eq_right (by omega), List.drop_of_length_le (by simp), List.drop_of_length_le (by simp; omega), List.take_nil]
section
variable {X : Cx} {Φ : Lk} {δ : Slots} {E : En} {e a b c : Expr} {es : List Expr} {pos : Pos} {st : Stmt} {sts rest : List Stmt}
instance : Inhabited (PyData → PyData) := ⟨id⟩
theorem lc2_via {α β : Type} {l : List α} {e' : α → PyData} {l1 : α → List β} {e1 : β → PyData} (he : ∀ x ∈ l, ∀ y ∈ l, e' x = e' y → x = y) (h1 : ∀ x ∈ l, ∀ y ∈ l1 x, ∀ z ∈ l1 x, e1 y = e1 z → y = z) (g : α → β → PyData) :
    ((l.map e').flatMap fun d => (viaE l e' (fun x => (l1 x).map e1) d).map (viaE l e' (fun x => viaE (l1 x) e1 (g x)) d)) = l.flatMap fun x => (l1 x).map (g x) := by
  have key : ∀ l' : List α, (∀ x ∈ l', x ∈ l) → ((l'.map e').flatMap fun d => (viaE l e' (fun x => (l1 x).map e1) d).map (viaE l e' (fun x => viaE (l1 x) e1 (g x)) d)) = l'.flatMap fun x => (l1 x).map (g x) := by
    intro l'
    induction l' with
    | nil => intro _; rfl
    | cons x t ih =>
      intro hx
      have hm := hx x List.mem_cons_self
      rw [List.map_cons, List.flatMap_cons, List.flatMap_cons, ih fun y hy => hx y (List.mem_cons_of_mem _ hy), viaE_at he _ hm, viaE_at he _ hm]
      congr 1
      rw [List.map_map]
      exact List.map_congr_left fun y hy => viaE_at (h1 x hm) (g x) hy
  exact key l fun _ h => h
theorem jp_setLc2T {i : Nat} {y : Str} {py : Pos} {spos : Pos} {elt tg iter tg1 iter1 : Expr} {scope : Scope} {own : List (Str × Nat)} {vs1 : List Nat} {α β : Type} {l : List α} {e' : α → PyData} {l1 : α → List β} {e1 : β → PyData} {g : α → β → PyData} (he : ∀ x ∈ l, ∀ y ∈ l, e' x = e' y → x = y) (h1 : ∀ x ∈ l, ∀ y ∈ l1 x, ∀ z ∈ l1 x, e1 y = e1 z → y = z)
    (ok : BlkOk X.N X.env.scope scope own) (hv : ∀ i ∈ vs1, i ∈ own.map (·.2)) (hN : X.N.Nodup) (hi : JIx X Φ tg iter δ (l.map e'))
    (ht : ∀ x ∈ l, ∃ (js : List Nat) (es : List PyData) (js1 : List Nat) (es1 : β → List PyData), (∀ j ∈ js, j ∈ own.map (·.2)) ∧ (∀ j ∈ js1, j ∈ vs1) ∧ ∀ (s : Shared) (H : Hp) (C : Addr) (cl : List (Str × Addr)) (fp : List Addr),
      TgOk (X.blk s H scope (compEnvC scope cl C X.env) fp) tg js es (e' x) ∧ JI (X.blk s H scope (compEnvC scope cl C X.env) fp) Φ tg1 iter1 (setδ (wipeD δ (own.map (·.2))) js es) ((l1 x).map e1) ∧
      ∀ z ∈ l1 x, TgOk (X.blk s H scope (compEnvC scope cl C X.env) fp) tg1 js1 (es1 z) (e1 z) ∧ JE (X.blk s H scope (compEnvC scope cl C X.env) fp) Φ elt (setδ (wipeD (setδ (wipeD δ (own.map (·.2))) js es) vs1) js1 (es1 z)) (.d (g x z)))
    (hz : (l.flatMap fun x => (l1 x).map (g x)).length ≤ 1000000) (hn : E.nx (δ.set i (some (.o (SK.l (l.flatMap fun x => (l1 x).map (g x))))))) (hsw : swapsWith (.ListComp elt [⟨tg, iter, [], 0⟩, ⟨tg1, iter1, [], 0⟩] scope pos) (some (.Name y py)) spos.line X.env = pure true := by rfl)
    (hy : X.N[i]? = some y := by rfl) (hyl : X.env.scope.names.lookup y = some .local := by rfl) (hc : X.calm = true := by rfl) (hs : ∀ x, foldedSetIterable iter X.env x = pure x := by intro _; rfl) (hs1 : ∀ env x, foldedSetIterable iter1 env x = pure x := by intro _ _; rfl) :
    JP X Φ (.Assign [.Name y py] (.ListComp elt [⟨tg, iter, [], 0⟩, ⟨tg1, iter1, [], 0⟩] scope pos) spos) δ E := by
  rw [← lc2_via he h1 g] at hz hn
  refine jp_setLc2 ok hv hN hi (fun d hd => ?_) hz hn hsw hy hyl hc hs hs1
  obtain ⟨x, hx, rfl⟩ := List.mem_map.mp hd
  obtain ⟨js, es, js1, es1, q1, q2, q3⟩ := ht x hx
  rw [viaE_at he _ hx, viaE_at he _ hx]
  refine ⟨js, es, js1, viaE (l1 x) e1 es1, q1, q2, fun s H C cl fp => ⟨(q3 s H C cl fp).1, (q3 s H C cl fp).2.1, fun d1 hd1 => ?_⟩⟩
  obtain ⟨z, hz', rfl⟩ := List.mem_map.mp hd1
  rw [viaE_at (h1 x hx) _ hz', viaE_at (h1 x hx) _ hz']
  exact (q3 s H C cl fp).2.2 z hz'
end
section
variable {P : Program} {w : World} {K : PySem.W.Frag} {mg : Str → Option Value} {base : Heap}
-- rows_of (top 56)
theorem ok_rows_of {k : Nat} {f : Addr} {fd : FuncData} (T : Txt mg) (F : Fun K "rows_of" "rows_of" (top 56) f fd) : FnOk P w K mg base CX0 (k + 1) f fd ["many", "number"] (spF s_rows_of) := by
  have sc : FnScope ["many", "number", "found", "turn", "row", "count"] ["many", "number"] (defScope (top 56)) := ⟨rfl, rfl, rfl, by decide +kernel, rfl, by decide +kernel, by decide +kernel⟩
  have nd : (["many", "number", "found", "turn", "row", "count"] : List Str).Nodup := by decide +kernel
  refine fn_ok F sc (RL.len fun _ => rfl) (fun cdv A outer s H E ks r hr hS => ?_)
  obtain ⟨⟨m, n⟩, ⟨m0, m4, n0, n4⟩, rfl, rfl⟩ := hS
  refine js_cons (jp_set (i := 2) (je_lst (jds_cons (je_tup jds_nil (hz := by simp)) jds_nil) (hz := by simp)) trivial ?_ nd)
  refine js_cons (jp_for (ji_range1 T.range (je_nm (i := 0) rfl rfl) (by omega) (by omega)) (fun i δ => ∃ x y z, δ = [some (.d (.int m)), some (.d (.int n)), some (.o (SK.l ((rowsM n i).map iL))), x, y, z]) ⟨none, none, none, rfl⟩ (fun Φ hΦ i d δ1 hd hI => ?_) (fun δ1 hI => ?_))
  · obtain ⟨x, y, z, rfl⟩ := hI
    rw [rngI_map] at hd
    obtain ⟨t, ht, rfl⟩ := get_map hd
    have hi : i + 1 ≤ 4 := by
      have := (List.getElem?_eq_some_iff.mp ht).1
      rw [rngI_len] at this
      omega
    refine ⟨[3], _, tg_name (i := 3) nd, ?_⟩
    have bd : (rowsM n (i + 1)).length ≤ 625 := rowsM_bd n0 n4 hi
    refine js_cons (jp_setLc2T (i := 2) (l := rowsM n i) (e' := iL) (l1 := fun row => rngI 0 (n - row.sum + 1).toNat) (e1 := .int) (g := fun row c => iL (row ++ [c])) iLInj (fun x _ => intInj) (blkOk_by (own := [("row", 4), ("count", 5)]) rfl) (vs1 := [5]) (by decide) nd (ji_list (jr_vo (i := 2) rfl))
      (fun row hrow => ⟨[4], [iL row], [5], fun c => [.int c], by decide, by decide, fun s H C cl fp => ⟨tg_name (i := 4) nd, ?_, fun c hc => ⟨tg_name (i := 5) nd, ?_⟩⟩⟩) ?_ ?_)
    · have hs := (rowsM_ok n0 i row hrow).2.2
      refine ji_is (ji_range1 (n := n - row.sum + 1) T.range (je_add (je_sub (je_nm (i := 1) rfl rfl) (je_sumT (ns := row) T.sum (je_nm (i := 4) rfl rfl))) je_int) (by omega) (by omega)) (rngI_map _ _)
    · have hl := (rowsM_ok n0 i row hrow).1
      refine je_is (je_cat (je_nm (i := 4) (d := .tuple (row.map .int)) rfl rfl) (je_tup (jds_cons (je_nm (i := 5) (d := .int c) rfl rfl) jds_nil) (hz := by simp)) (by simp; omega)) (by simp [iL])
    · have e : (List.flatMap (fun x => List.map (fun c => iL (x ++ [c])) (rngI 0 (n - x.sum + 1).toNat)) (rowsM n i)).length = (rowsM n (i + 1)).length := by
        show _ = ((rowsM n i).flatMap fun row => (rngI 0 (n - row.sum + 1).toNat).map fun c => row ++ [c]).length
        rw [List.length_flatMap, List.length_flatMap]
        simp only [List.length_map]
      rw [e]
      omega
    refine js_one (jp_ifno (jt_is (jt_c (jc_gt (je_lenL T.len (jr_vo (i := 2) rfl)) (je_gi T.MOST_STATES))) ?_) ?_)
    · have e : (List.flatMap (fun x => List.map (fun c => iL (x ++ [c])) (rngI 0 (n - x.sum + 1).toNat)) (rowsM n i)).length = (rowsM n (i + 1)).length := by
        show _ = ((rowsM n i).flatMap fun row => (rngI 0 (n - row.sum + 1).toNat).map fun c => row ++ [c]).length
        rw [List.length_flatMap, List.length_flatMap]
        simp only [List.length_map]
      rw [e]
      exact decide_eq_false (by omega)
    · refine ⟨_, _, _, congrArg (fun l => [some (Kd.d (.int m)), some (Kd.d (.int n)), some (Kd.o (SK.l l)), _, _, _]) ?_⟩
      show _ = ((rowsM n i).flatMap fun row => (rngI 0 (n - row.sum + 1).toNat).map fun c => row ++ [c]).map iL
      rw [List.map_flatMap]
      simp only [List.map_map]
      rfl
  obtain ⟨x, y, z, rfl⟩ := hI
  rw [rngD_len]
  exact js_one (jp_retO (i := 2) rfl rfl)

-- places_of (top 57)
theorem ok_places_of {k : Nat} {f : Addr} {fd : FuncData} (T : Txt mg) (h_rows_of : Has P w K mg base k "rows_of" ["many", "number"] (spF s_rows_of)) (F : Fun K "places_of" "places_of" (top 57) f fd) : FnOk P w K mg base CX0 (k + 1) f fd ["well", "number"] (spF s_places_of) := by
  have sc : FnScope ["well", "number", "rows", "found", "level", "row"] ["well", "number"] (defScope (top 57)) := ⟨rfl, rfl, rfl, by decide +kernel, rfl, by decide +kernel, by decide +kernel⟩
  have nd : (["well", "number", "rows", "found", "level", "row"] : List Str).Nodup := by decide +kernel
  refine fn_ok F sc (RL.len fun _ => rfl) (fun cdv A outer s H E ks r hr hS => ?_)
  obtain ⟨⟨W, n⟩, ⟨ok, n0, n4⟩, rfl, rfl⟩ := hS
  have bd : ((rowsM n (W.run + W.rest - 1).toNat).map iL).length ≤ 625 := by
    rw [List.length_map]
    exact rowsM_bd n0 n4 (by have := ok.run2; have := ok.rest2; omega)
  refine js_cons (jp_set (i := 2) (je_call h_rows_of hr (ja_cons (jg_d (je_sub (je_add (je_ix (je_nm (i := 0) rfl rfl) je_int rfl) (je_ix (je_nm (i := 0) rfl rfl) je_int rfl)) je_int)) (ja_cons (jg_d (je_nm (i := 1) rfl rfl)) ja_nil)) ⟨(W.run + W.rest - 1, n), ⟨by have := ok.run1; have := ok.rest1; omega, by have := ok.run2; have := ok.rest2; omega, n0, n4⟩, rfl, rfl⟩ trivial) trivial ?_ nd)
  refine js_cons (jp_ifno (jt_is (jt_c (jc_gt (je_mul (je_lenL T.len (jr_vo (i := 2) rfl)) (je_add (je_ix (je_nm (i := 0) rfl rfl) je_int rfl) je_int) (.inl (by have := bd; omega))) (je_gi T.MOST_STATES))) (decide_eq_false (by have := ok.top2; have := ok.top1; have q := Int.mul_le_mul (Int.ofNat_le.mpr bd) (show W.top + 1 ≤ 6 by omega) (by omega) (by decide); omega))) ?_)
  refine js_cons (jp_set (i := 3) (je_lst jds_nil (hz := by simp)) trivial ?_ nd)
  refine js_cons (jp_for (ji_is (ji_range1 T.range (je_add (je_ix (je_nm (i := 0) rfl rfl) je_int rfl) je_int) (by have := ok.top2; omega) (by have := ok.top1; omega)) (rngI_map _ _))
    (fun i δ => ∃ x y, δ = [some (.d (wD W)), some (.d (.int n)), some (.o (SK.l ((rowsM n (W.run + W.rest - 1).toNat).map iL))), some (.o (SK.l ((((rngI 0 (W.top + 1).toNat).take i).flatMap fun lv => (rowsM n (W.run + W.rest - 1).toNat).map fun row => (⟨lv, row.take W.run.toNat, row.drop W.run.toNat, n - row.sum⟩ : Pl)).map pD))), x, y]) ⟨none, none, rfl⟩ (fun Φ hΦ i d δ1 hd hI => ?_) (fun δ1 hI => ?_))
  · obtain ⟨x, y, rfl⟩ := hI
    obtain ⟨lv, ha, rfl⟩ := get_map hd
    refine ⟨[4], _, tg_name (i := 4) nd, ?_⟩
    refine js_one (jp_extend (i0 := 3) rfl (je_lcT (l := rowsM n (W.run + W.rest - 1).toNat) (e' := iL) (f := fun _ => true) (g := fun row => pD ⟨lv, row.take W.run.toNat, row.drop W.run.toNat, n - row.sum⟩) iLInj (blkOk_by (own := [("row", 5)]) rfl) nd (ji_list (jr_vo (i := 2) rfl))
      (fun row hrow => ⟨[5], _, by decide, fun s H C cl fp => ⟨tg_name (i := 5) nd, jts_nil, fun _ => je_is (je_tup (jds_cons (je_nm (i := 4) rfl rfl) (jds_cons (je_slT (je_nm (i := 5) (d := .tuple (row.map .int)) rfl rfl) .none (.some (je_ix (je_nm (i := 0) rfl rfl) je_int rfl))) (jds_cons (je_slT (je_nm (i := 5) (d := .tuple (row.map .int)) rfl rfl) (.some (je_ix (je_nm (i := 0) rfl rfl) je_int rfl)) .none) (jds_cons (je_sub (je_nm (i := 1) rfl rfl) (je_sumT (ns := row) T.sum (je_nm (i := 5) rfl rfl))) jds_nil)))) (hz := by simp))
        (by rw [cutD_take (by have := ok.run1; omega), cutD_drop (by have := ok.run1; omega)]; rfl)⟩⟩) (by rw [List.length_map] at bd; omega)) ?_ ?_)
    · have q := flat_le (fun lv => (rowsM n (W.run + W.rest - 1).toNat).map fun row => (⟨lv, row.take W.run.toNat, row.drop W.run.toNat, n - row.sum⟩ : Pl)) ha
      have q2 : (placesM W n).length ≤ 3750 := placesM_len ok n0 n4
      unfold placesM at q2
      rw [filtT]
      simp only [List.length_map] at q ⊢
      omega
    · refine ⟨_, _, congrArg (fun l => [some (Kd.d (wD W)), some (Kd.d (.int n)), some (Kd.o (SK.l ((rowsM n (W.run + W.rest - 1).toNat).map iL))), some (Kd.o (SK.l l)), _, _]) ?_⟩
      rw [filtT, flat_take _ ha, List.map_append, List.map_map]
      rfl
  obtain ⟨x, y, rfl⟩ := hI
  rw [List.length_map, List.take_length]
  exact js_one (jp_retO (i := 3) rfl rfl)

-- does_lose (top 65)
theorem ok_does_lose {k : Nat} {f : Addr} {fd : FuncData} (T : Txt mg) (h_led_by : Has P w K mg base k "led_by" ["well", "place", "deed", "inflow"] (spF s_led_by)) (F : Fun K "does_lose" "does_lose" (top 65) f fd) : FnOk P w K mg base CX0 (k + 1) f fd ["well", "inflows", "place", "deed", "ranks"] (spF (s_does_lose P w)) := by
  have sc : FnScope ["well", "inflows", "place", "deed", "ranks", "inflow", "fresh"] ["well", "inflows", "place", "deed", "ranks"] (defScope (top 65)) := ⟨rfl, rfl, rfl, by decide +kernel, rfl, by decide +kernel, by decide +kernel⟩
  have nd : (["well", "inflows", "place", "deed", "ranks", "inflow", "fresh"] : List Str).Nodup := by decide +kernel
  refine fn_ok F sc (RL.len fun _ => rfl) (fun cdv A outer s H E ks r hr hS => ?_)
  obtain ⟨⟨W, r, p, d, m⟩, ⟨ok, rg, hs, s0, hs0⟩, rfl, rfl⟩ := hS
  refine js_cons (jp_for (ji_is (ji_range2 T.range (je_ix (je_nm (i := 1) rfl rfl) je_int rfl) (je_add (je_ix (je_nm (i := 1) rfl rfl) je_int rfl) je_int) (by have := rg.a; have := rg.b; have := rg.c; omega) (by have := rg.a; have := rg.b; have := rg.c; omega) (by have := rg.a; have := rg.b; have := rg.c; omega) (by have := rg.a; have := rg.b; have := rg.c; omega)) (rngI_map _ _)) (fun i δ => (∀ j ∈ (rngC r).take i, losesAt W p d m j = false) ∧ ∃ x y, δ = [some (.d (wD W)), some (.d (dD r)), some (.d (pD p)), some (.d (dD d)), some (.bo (SK.nr P w (rkD m))), x, y]) ⟨by simp, none, none, rfl⟩ (fun Φ hΦ i t δ1 hd hI => ?_) (fun δ1 hI => ?_))
  · obtain ⟨hno, x, y, rfl⟩ := hI
    obtain ⟨a, ha, rfl⟩ := get_map hd
    have ha : (rngC r)[i]? = some a := ha
    refine ⟨[5], _, tg_name (i := 5) nd, ?_⟩
    refine js_cons (jp_set (i := 6) (je_call h_led_by hr (ja_cons (jg_d (je_nm (i := 0) rfl rfl)) (ja_cons (jg_d (je_nm (i := 2) rfl rfl)) (ja_cons (jg_d (je_nm (i := 3) rfl rfl)) (ja_cons (jg_d (je_nm (i := 5) rfl rfl)) ja_nil)))) ⟨(W, p, d, a), ⟨ok, hs⟩, rfl, rfl⟩ trivial) trivial ?_ nd)
    refine js_one (jp_if (k := losesAt W p d m a) ?_ (fun h => ?_) (fun h => ?_))
    · unfold losesAt
      cases hl : ledBy W p d a with
      | over => exact jt_is (jt_w (jw_or (l := true) (jt_c (jc_inT hr (jdp_d (je_is (y := .str "over") (je_nm (i := 6) (d := rD pD (ledBy W p d a)) rfl rfl) (by rw [hl]; rfl))) (jdp_d (je_tup (jds_cons (je_gs T.OVER) (jds_cons (je_gs T.DRY) jds_nil)) (hz := by simp))) (by decide +kernel) (by decide +kernel))) (fun z => absurd z (by decide +kernel)))) (Bool.or_true _)
      | dry => exact jt_is (jt_w (jw_or (l := true) (jt_c (jc_inT hr (jdp_d (je_is (y := .str "dry") (je_nm (i := 6) (d := rD pD (ledBy W p d a)) rfl rfl) (by rw [hl]; rfl))) (jdp_d (je_tup (jds_cons (je_gs T.OVER) (jds_cons (je_gs T.DRY) jds_nil)) (hz := by simp))) (by decide +kernel) (by decide +kernel))) (fun z => absurd z (by decide +kernel)))) (Bool.or_true _)
      | «at» q =>
        refine jt_is (jt_w (jw_or (k := false) (jt_c (jc_is (jc_inT hr (jdp_d (je_is (y := pD q) (je_nm (i := 6) (d := rD pD (ledBy W p d a)) rfl rfl) (by rw [hl]; rfl))) (jdp_d (je_tup (jds_cons (je_gs T.OVER) (jds_cons (je_gs T.DRY) jds_nil)) (hz := by simp))) ((tm_pD q).shaped (by decide)) (by decide +kernel)) rfl)) (fun _ => jw_or1 (jt_w (jw_and (k := (lookN (rkD m) (kP q)).isSome) (l := decide ((lookP m q).getD 0 < s0)) (jt_c (jc_inN (k := kP q) hr (je_is (je_nm (i := 6) (d := rD pD (ledBy W p d a)) rfl rfl) (by rw [hl]; exact (kP_data q).symm)) (jr_vb (i := 4) rfl) (.inl (kP_tup q)))) (fun hin => jw_and1 (jt_c (jc_lt (je_getN (k := kP q) hr (jr_vb (i := 4) rfl) (je_is (je_nm (i := 6) (d := rD pD (ledBy W p d a)) rfl rfl) (by rw [hl]; exact (kP_data q).symm)) (kP_tup q) ?_) (je_getN (k := kP p) hr (jr_vb (i := 4) rfl) (je_is (je_nm (i := 2) rfl rfl) (kP_data p).symm) (kP_tup p) ?_))))))))) ?_
        · rw [look_rk] at hin ⊢
          cases hq : lookP m q with
          | none => rw [hq] at hin; cases hin
          | some s => rfl
        · rw [look_rk, hs0]; rfl
        · rw [look_rk, hs0]
          show _ = (match lookP m q with | some s => decide (s < (some s0).getD 0) | none => false)
          cases hq : lookP m q with
          | none => rfl
          | some s => rfl
    · have e : losesM W r p d m = true := List.any_eq_true.mpr ⟨a, List.mem_of_getElem? ha, h⟩
      exact js_one (jp_ret (je_is je_bl (by rw [e])) trivial rfl)
    · refine js_nil ⟨fun j hj => ?_, _, _, rfl⟩
      rw [List.take_add_one, ha] at hj
      rcases List.mem_append.mp hj with z | z
      · exact hno j z
      · simp at z
        rw [z, h]
  obtain ⟨hno, x, y, rfl⟩ := hI
  rw [List.length_map] at hno
  have e : losesM W r p d m = false := by
    unfold losesM
    rw [List.any_eq_false]
    intro j hj
    have z : (rngC r).take (rngI r.1 (r.2 + 1 - r.1).toNat).length = rngC r := List.take_length
    rw [z] at hno
    simp [hno j hj]
  exact js_one (jp_ret (je_is je_bl (by rw [e])) trivial rfl)

end
end Pq

namespace Pq
open PySem PySem.Spec L2
open PyProof.Rows hiding St
open Evl (Ex)

/-! ### the game over all places -/
theorem nodup_flat {α β : Type} {F : α → List β} : ∀ {l : List α}, l.Nodup → (∀ x ∈ l, (F x).Nodup) → (∀ x ∈ l, ∀ y ∈ l, x ≠ y → ∀ z, z ∈ F x → z ∉ F y) → (l.flatMap F).Nodup
  | [], _, _, _ => by simp
  | x :: l, h, h1, h2 => by
    rw [List.nodup_cons] at h
    rw [List.flatMap_cons, List.nodup_append]
    refine ⟨h1 x List.mem_cons_self, nodup_flat h.2 (fun y hy => h1 y (List.mem_cons_of_mem _ hy)) (fun y hy z hz => h2 y (List.mem_cons_of_mem _ hy) z (List.mem_cons_of_mem _ hz)), fun a ha b hb => ?_⟩
    rintro rfl
    obtain ⟨y, hy, hb⟩ := List.mem_flatMap.mp hb
    exact h2 x List.mem_cons_self y (List.mem_cons_of_mem _ hy) (fun z => h.1 (z ▸ hy)) _ ha hb
theorem nodup_map {α β : Type} {f : α → β} : ∀ {l : List α}, l.Nodup → (∀ x ∈ l, ∀ y ∈ l, f x = f y → x = y) → (l.map f).Nodup
  | [], _, _ => by simp
  | x :: l, h, h1 => by
    rw [List.nodup_cons] at h
    rw [List.map_cons, List.nodup_cons]
    refine ⟨fun z => ?_, nodup_map h.2 fun y hy z hz => h1 y (List.mem_cons_of_mem _ hy) z (List.mem_cons_of_mem _ hz)⟩
    obtain ⟨y, hy, e⟩ := List.mem_map.mp z
    exact h.1 ((h1 y (List.mem_cons_of_mem _ hy) x List.mem_cons_self e) ▸ hy)
theorem rngI_nodup (lo : Int) (n : Nat) : (rngI lo n).Nodup := nodup_map List.nodup_range fun x _ y _ h => by omega
theorem rowsM_nodup (n : Int) : ∀ k, (rowsM n k).Nodup
  | 0 => by simp [rowsM]
  | k + 1 => by
    refine nodup_flat (rowsM_nodup n k) (fun row _ => nodup_map (rngI_nodup _ _) fun x _ y _ h => ?_) fun row _ row' _ ne z hz hz' => ?_
    · have := List.append_cancel_left h
      simpa using this
    · obtain ⟨c, _, rfl⟩ := List.mem_map.mp hz
      obtain ⟨c', _, e⟩ := List.mem_map.mp hz'
      exact ne (List.append_inj' e rfl).1.symm
theorem placesM_nodup (W : Wl) (n : Int) : (placesM W n).Nodup := by
  refine nodup_flat (rngI_nodup _ _) (fun lv _ => nodup_map (rowsM_nodup _ _) fun x _ y _ h => ?_) fun lv _ lv' _ ne z hz hz' => ?_
  · injection h with _ h1 h2 _
    rw [← List.take_append_drop W.run.toNat x, h1, h2, List.take_append_drop]
  · obtain ⟨c, _, rfl⟩ := List.mem_map.mp hz
    obtain ⟨c', _, e⟩ := List.mem_map.mp hz'
    injection e with e
    exact ne e.symm
theorem sum_split (l : List Int) (k : Nat) : (l.take k).sum + (l.drop k).sum = l.sum := by
  rw [← List.sum_append, List.take_append_drop]
theorem sum_nn : ∀ {l : List Int}, (∀ i ∈ l, 0 ≤ i) → 0 ≤ l.sum
  | [], _ => Int.le_refl _
  | x :: l, h => by
    have h1 := h x List.mem_cons_self
    have h2 := sum_nn fun y hy => h y (List.mem_cons_of_mem _ hy)
    rw [List.sum_cons]
    omega
theorem placesM_ok {W : Wl} {n : Int} (ok : W.Ok) (n0 : 0 ≤ n) (n4 : n ≤ 4) {p : Pl} (h : p ∈ placesM W n) : p.Ok W n := by
  obtain ⟨lv, hlv, h⟩ := List.mem_flatMap.mp h
  obtain ⟨row, hrow, rfl⟩ := List.mem_map.mp h
  obtain ⟨h1, h2, h3, h4⟩ := rowsM_ok n0 _ row hrow
  have hlv := mem_rngI.mp hlv
  have q1 := ok.run1
  have q2 := ok.rest1
  have q3 := ok.top1
  refine ⟨hlv.1, by show lv ≤ W.top; omega, ?_, ?_, fun i hi => ?_, fun i hi => ?_, ?_, ?_, ?_⟩
  · show ((row.take W.run.toNat).length : Int) = W.run
    rw [List.length_take]
    omega
  · show ((row.drop W.run.toNat).length : Int) = W.rest - 1
    rw [List.length_drop]
    omega
  · have := h2 i (List.mem_of_mem_take hi); omega
  · have := h2 i (List.mem_of_mem_drop hi); omega
  · show 0 ≤ n - row.sum; omega
  · show (row.take W.run.toNat).sum + (row.drop W.run.toNat).sum + (n - row.sum) = n
    rw [sum_split]
    omega
  · show n - row.sum ≤ n; omega
/-- all rows are there -/
theorem mem_rowsM' {n : Int} : ∀ (k : Nat) {row : List Int}, row.length = k → (∀ i ∈ row, 0 ≤ i) → row.sum ≤ n → row ∈ rowsM n k
  | 0, row, hl, _, _ => by
    obtain rfl := List.length_eq_zero_iff.mp hl
    simp [rowsM]
  | k + 1, row, hl, h1, h2 => by
    have hne : row ≠ [] := fun z => by rw [z] at hl; cases hl
    have e := List.dropLast_concat_getLast hne
    generalize hr : row.dropLast = r at e
    generalize hcc : row.getLast hne = c at e
    subst e
    have hc := h1 c (by simp)
    have hr : ∀ i ∈ r, 0 ≤ i := fun i hi => h1 i (List.mem_append_left _ hi)
    rw [List.sum_append] at h2
    have h2' : r.sum + c ≤ n := by simpa using h2
    have hl' : r.length = k := by simpa using hl
    exact List.mem_flatMap.mpr ⟨r, mem_rowsM' k hl' hr (by omega), List.mem_map.mpr ⟨c, mem_rngI.mpr ⟨hc, by omega⟩, rfl⟩⟩
theorem mem_rowsM {n : Int} {row : List Int} (h1 : ∀ i ∈ row, 0 ≤ i) (h2 : row.sum ≤ n) : row ∈ rowsM n row.length := mem_rowsM' _ rfl h1 h2
theorem mem_placesM {W : Wl} {n : Int} (ok : W.Ok) {p : Pl} (h : p.Ok W n) : p ∈ placesM W n := by
  have q1 := ok.run1
  have q2 := ok.rest1
  have v2 := h.lv2
  have hon := h.on
  have hoff := h.off
  have hs := h.sum
  have r0 := h.r0
  have hl : (p.on ++ p.off).length = (W.run + W.rest - 1).toNat := by rw [List.length_append]; omega
  have hrow : p.on ++ p.off ∈ rowsM n (W.run + W.rest - 1).toNat := by
    rw [← hl]
    refine mem_rowsM (fun i hi => ?_) (by rw [List.sum_append]; omega)
    rcases List.mem_append.mp hi with z | z
    · exact (h.on0 i z).1
    · exact (h.off0 i z).1
  refine List.mem_flatMap.mpr ⟨p.lv, mem_rngI.mpr ⟨h.lv1, by omega⟩, List.mem_map.mpr ⟨p.on ++ p.off, hrow, ?_⟩⟩
  have e : W.run.toNat = p.on.length := by omega
  rw [e, List.take_left, List.drop_left, List.sum_append]
  cases p
  simp only [Pl.mk.injEq, true_and]
  simp only at hs
  omega
/-- a dict of places held -/
def hD (held : List Pl) : List (NestedKey × PyData) := held.map fun p => (kP p, .bool true)
theorem look_hD (held : List Pl) (p : Pl) : lookN (hD held) (kP p) = if p ∈ held then some (.bool true) else none := by
  unfold lookN hD
  induction held with
  | nil => rfl
  | cons q t ih =>
    rw [List.map_cons, List.find?_cons]
    by_cases e : q = p
    · subst e
      simp
    · have e' : ¬ kP q = kP p := fun z => e (kP_inj z)
      simp only [e', decide_false]
      rw [ih]
      have e2 : ¬ p = q := fun z => e z.symm
      simp [e2]
theorem look_text {β : Type} (m : List (Pl × β)) (f : Pl × β → PyData) (x : Str) : lookN (m.map fun q => (kP q.1, f q)) (.text x) = none := by
  unfold lookN
  rw [Option.map_eq_none_iff, List.find?_eq_none]
  intro p hp z
  obtain ⟨q, _, rfl⟩ := List.mem_map.mp hp
  have e : kP q.1 = .text x := of_decide_eq_true z
  cases e
theorem look_textH (held : List Pl) (x : Str) : lookN (hD held) (.text x) = none := by
  unfold lookN hD
  rw [Option.map_eq_none_iff, List.find?_eq_none]
  intro p hp z
  obtain ⟨q, _, rfl⟩ := List.mem_map.mp hp
  have e : kP q = .text x := of_decide_eq_true z
  cases e
def inM (held : List Pl) : Res Pl → Bool
  | .at q => decide (q ∈ held)
  | _ => false
theorem has_in (held : List Pl) (r : Res Pl) : (lookN (hD held) (kR r)).isSome = inM held r := by
  cases r with
  | over => rw [show kR .over = .text "over" from rfl, look_textH]; rfl
  | dry => rw [show kR .dry = .text "dry" from rfl, look_textH]; rfl
  | «at» q =>
    show (lookN (hD held) (kP q)).isSome = decide (q ∈ held)
    rw [look_hD]
    by_cases h : q ∈ held
    · simp [h]
    · simp [h]
def keepsP (W : Wl) (r : Int × Int) (held : List Pl) (p : Pl) (d : Int × Int) : Bool := (rngC r).all fun i => inM held (ledBy W p d i)
theorem keepsM_P {W : Wl} {r : Int × Int} {held : List Pl} {p : Pl} {d : Int × Int} : (keepsM W r p d fun k => (lookN (hD held) k).isSome) = keepsP W r held p d := by
  unfold keepsM keepsP
  simp only [has_in]
def canM (W : Wl) (r : Int × Int) (held : List Pl) (p : Pl) : Bool := (deedsM W p).any fun d => keepsP W r held p d
def goneM (W : Wl) (r : Int × Int) (held : List Pl) : List Pl := held.filter fun p => !canM W r held p
def leftM (W : Wl) (r : Int × Int) (held : List Pl) : List Pl := held.filter fun p => decide (p ∉ goneM W r held)
theorem filter_lt {α : Type} {l : List α} {f : α → Bool} {x : α} (hx : x ∈ l) (hf : f x = false) : (l.filter f).length < l.length := by
  have h := List.length_filter_le f l
  rcases Nat.lt_or_ge (l.filter f).length l.length with h1 | h1
  · exact h1
  · have := List.length_filter_eq_length_iff.mp (Nat.le_antisymm h h1) x hx
    rw [hf] at this
    cases this
theorem stay_lt {W : Wl} {r : Int × Int} {held : List Pl} (h : goneM W r held ≠ []) : (leftM W r held).length < held.length := by
  obtain ⟨x, hx⟩ := List.exists_mem_of_ne_nil _ h
  exact filter_lt (List.mem_filter.mp hx).1 (by simpa using hx)
def gameM (W : Wl) (r : Int × Int) (held : List Pl) (ranks : List (Pl × Int)) (rank : Int) : List Pl × List (Pl × Int) :=
  if h : goneM W r held = [] then (held, ranks) else
    have : (leftM W r held).length < held.length := stay_lt h
    gameM W r (leftM W r held) (ranks ++ (goneM W r held).map fun p => (p, rank + 1)) (rank + 1)
termination_by held.length
theorem gameM_stop {W : Wl} {r : Int × Int} {held : List Pl} {ranks : List (Pl × Int)} {rank : Int} (h : goneM W r held = []) : gameM W r held ranks rank = (held, ranks) := by
  rw [gameM, dif_pos h]
theorem gameM_go {W : Wl} {r : Int × Int} {held : List Pl} {ranks : List (Pl × Int)} {rank : Int} (h : goneM W r held ≠ []) : gameM W r held ranks rank = gameM W r (leftM W r held) (ranks ++ (goneM W r held).map fun p => (p, rank + 1)) (rank + 1) := by
  rw [gameM, dif_neg h]
/-- what holds from round to round -/
structure GInv (W : Wl) (n : Int) (held : List Pl) (ranks : List (Pl × Int)) : Prop where
  nd : held.Nodup
  sub : ∀ p ∈ held, p ∈ placesM W n
  off : ∀ p ∈ held, p ∉ ranks.map (·.1)
  len : held.length + ranks.length ≤ 3750
  rsub : ∀ q ∈ ranks, q.1 ∈ placesM W n
  rnd : (ranks.map (·.1)).Nodup
theorem goneM_nd {W : Wl} {r : Int × Int} {held : List Pl} (h : held.Nodup) : (goneM W r held).Nodup := h.filter _
theorem goneM_sub {W : Wl} {r : Int × Int} {held : List Pl} {p : Pl} (h : p ∈ goneM W r held) : p ∈ held := (List.mem_filter.mp h).1
theorem parts_len {α : Type} (f : α → Bool) : ∀ l : List α, (l.filter f).length + (l.filter fun x => !f x).length = l.length
  | [] => rfl
  | x :: l => by
    have := parts_len f l
    rw [List.filter_cons, List.filter_cons]
    cases f x <;> simp <;> omega
theorem GInv.next {W : Wl} {r : Int × Int} {n : Int} {held : List Pl} {ranks : List (Pl × Int)} (rank : Int) (h : GInv W n held ranks) : GInv W n (leftM W r held) (ranks ++ (goneM W r held).map fun p => (p, rank)) := by
  have mem : ∀ p, p ∈ (leftM W r held) ↔ p ∈ held ∧ p ∉ goneM W r held := fun p => by simp [leftM]
  refine ⟨h.nd.filter _, fun p hp => h.sub p ((mem p).mp hp).1, fun p hp z => ?_, ?_, fun q hq => ?_, ?_⟩
  · rw [List.map_append, List.mem_append, List.map_map] at z
    rcases z with z | z
    · exact h.off p ((mem p).mp hp).1 z
    · have z : p ∈ (goneM W r held).map fun p => p := z
      rw [List.map_id'] at z
      exact ((mem p).mp hp).2 z
  · rw [List.length_append, List.length_map]
    have e : (leftM W r held) = held.filter fun p => canM W r held p := by
      refine List.filter_congr fun p hp => ?_
      have : p ∈ goneM W r held ↔ (!canM W r held p) = true := by
        unfold goneM
        rw [List.mem_filter]
        exact ⟨fun z => z.2, fun z => ⟨hp, z⟩⟩
      cases hc : canM W r held p with
      | true => exact decide_eq_true fun z => by rw [this, hc] at z; cases z
      | false => exact decide_eq_false fun z => z (this.mpr (by rw [hc]; rfl))
    rw [e]
    have := parts_len (fun p => canM W r held p) held
    have hl := h.len
    show (held.filter fun p => canM W r held p).length + (ranks.length + (held.filter fun p => !canM W r held p).length) ≤ 3750
    omega
  · rcases List.mem_append.mp hq with z | z
    · exact h.rsub q z
    · obtain ⟨p, hp, rfl⟩ := List.mem_map.mp z
      exact h.sub p (goneM_sub hp)
  · rw [List.map_append, List.map_map]
    have e : (goneM W r held).map ((fun x => x.1) ∘ fun p => (p, rank)) = goneM W r held := List.map_id' _
    rw [e, List.nodup_append]
    refine ⟨h.rnd, goneM_nd h.nd, fun a ha b hb => ?_⟩
    rintro rfl
    exact h.off _ (goneM_sub hb) ha
theorem GInv.start {W : Wl} {n : Int} (ok : W.Ok) (n0 : 0 ≤ n) (n4 : n ≤ 4) : GInv W n (placesM W n) [] :=
  ⟨placesM_nodup W n, fun _ h => h, fun _ _ h => by simp at h, placesM_len ok n0 n4, fun _ h => by simp at h, by simp⟩
/-- the whole game -/
def fullM (W : Wl) (r : Int × Int) (n : Int) : List Pl × List (Pl × Int) := gameM W r (placesM W n) [] 0
end Pq

namespace Pq
open PySem PySem.Spec L2
open PyProof.Rows hiding St
open Evl (Ex)

/-! ### solved -/
def s_solved (P : Program) (w : World) : Rl := RL (fun (x : Wl × (Int × Int) × Int) => match x with | (W, r, n) => W.Ok ∧ RgOk r ∧ 0 ≤ n ∧ n ≤ 4) (fun (W, r, n) => [.d (wD W), .d (dD r), .d (.int n)])
  (fun (W, r, n) => .o (SK.pr (SK.n P w (hD (fullM W r n).1)) (SK.n P w (rkD (fullM W r n).2))))
theorem places_dc {W : Wl} {n : Int} : dcOut kP (fun _ => PyData.bool true) (placesM W n) = hD (placesM W n) := dcOut_nodup (nodup_map (placesM_nodup W n) fun _ _ _ _ h => kP_inj h)
theorem put_rk {m : List (Pl × Int)} {p : Pl} {i : Int} (h : p ∉ m.map (·.1)) : putN (rkD m) (kP p) (.int i) = rkD (m ++ [(p, i)]) := by
  have hl : lookP m p = none := by
    unfold lookP
    rw [Option.map_eq_none_iff, List.find?_eq_none]
    intro q hq z
    exact h (List.mem_map.mpr ⟨q, hq, of_decide_eq_true z⟩)
  unfold putN
  rw [look_rk, hl]
  simp [rkD]
theorem drop_hD {held : List Pl} {p : Pl} : dropN (hD held) (kP p) = hD (held.filter fun q => decide (q ≠ p)) := by
  unfold dropN hD
  rw [List.filter_map]
  congr 1
  refine List.filter_congr fun q _ => ?_
  show decide (kP q ≠ kP p) = decide (q ≠ p)
  exact decide_eq_decide.mpr (not_congr kP_iff)
theorem filter_two {held g : List Pl} {p : Pl} : (held.filter fun q => decide (q ∉ g)).filter (fun q => decide (q ≠ p)) = held.filter fun q => decide (q ∉ g ++ [p]) := by
  rw [List.filter_filter]
  refine List.filter_congr fun q _ => ?_
  by_cases h1 : q ∈ g <;> by_cases h2 : q = p <;> simp [h1, h2]
theorem eqv_nil (ds : List PyData) : PyData.eqv (.list ds) (.list []) = decide (ds = []) := by
  cases ds with
  | nil => rfl
  | cons x t => rw [PyData.eqv, PyData.eqvAll]; rfl
theorem tm_lstP {l : List Pl} : Tm 3 (.list (l.map pD)) := Tm.lst fun d hd => by
  obtain ⟨p, _, rfl⟩ := List.mem_map.mp hd
  exact tm_pD p
theorem hD_get {held : List Pl} {i : Nat} {q : NestedKey × PyData} (h : (hD held)[i]? = some q) : ∃ p, held[i]? = some p ∧ q = (kP p, .bool true) := by
  unfold hD at h
  rw [List.getElem?_map] at h
  cases e : held[i]? with
  | none => rw [e] at h; cases h
  | some p => rw [e] at h; cases h; exact ⟨p, rfl, rfl⟩
theorem mem_take {α : Type} {l : List α} {i : Nat} {x : α} (hn : l.Nodup) (h : l[i]? = some x) : x ∉ l.take i := fun z => by
  obtain ⟨j, hj, e⟩ := List.mem_take_iff_getElem.mp z
  obtain ⟨hi, e'⟩ := List.getElem?_eq_some_iff.mp h
  have := (List.nodup_iff_pairwise_ne.mp hn)
  have hlt : j < i := by omega
  exact (List.pairwise_iff_getElem.mp this j i (by omega) hi hlt) (e.trans e'.symm)
theorem take_succ {α : Type} {l : List α} {i : Nat} {x : α} (h : l[i]? = some x) : l.take (i + 1) = l.take i ++ [x] := by
  rw [List.take_add_one, h]
  rfl
theorem iL_inj {a b : List Int} (h : a.map PyData.int = b.map .int) : a = b := (List.map_inj_right (fun _ _ h => by injection h)).mp h
theorem pDInj {l : List Pl} : ∀ x ∈ l, ∀ y ∈ l, pD x = pD y → x = y := fun x _ y _ h => by
  have e := congrArg (fun d => match d with | .tuple [.int a, .tuple b, .tuple c, .int e] => (a, b, c, e) | _ => (0, [], [], 0)) h
  cases x
  cases y
  simp only [pD, Prod.mk.injEq] at e
  obtain ⟨e1, e2, e3, e4⟩ := e
  simp only [Pl.mk.injEq]
  exact ⟨e1, iL_inj e2, iL_inj e3, e4⟩
section
variable {P : Program} {w : World} {K : PySem.W.Frag} {mg : Str → Option Value} {base : Heap}
-- solved (top 59)
theorem ok_solved {k : Nat} {f : Addr} {fd : FuncData} (T : Txt mg) (h_places_of : Has P w K mg base k "places_of" ["well", "number"] (spF s_places_of)) (h_deeds_of : Has P w K mg base k "deeds_of" ["well", "place"] (spF s_deeds_of)) (h_does_keep : Has P w K mg base k "does_keep" ["well", "inflows", "place", "deed", "known"] (spF (s_does_keep P w))) (F : Fun K "solved" "solved" (top 59) f fd) : FnOk P w K mg base CX0 (k + 1) f fd ["well", "inflows", "number"] (spF (s_solved P w)) := by
  have sc : FnScope ["well", "inflows", "number", "held", "ranks", "rank", "gone", "place", "deed"] ["well", "inflows", "number"] (defScope (top 59)) := ⟨rfl, rfl, rfl, by decide +kernel, rfl, by decide +kernel, by decide +kernel⟩
  have nd : (["well", "inflows", "number", "held", "ranks", "rank", "gone", "place", "deed"] : List Str).Nodup := by decide +kernel
  refine fn_ok F sc (RL.len fun _ => rfl) (fun cdv A outer s H E ks r hr hS => ?_)
  obtain ⟨⟨W, r, n⟩, ⟨ok, rg, n0, n4⟩, rfl, rfl⟩ := hS
  have pl : ∀ p ∈ placesM W n, p.Ok W n := fun p h => placesM_ok ok n0 n4 h
  refine js_cons (jp_tup3 (i := 3) (j := 4) (l := 5) (je_dcT hr (l := placesM W n) (e' := pD) (kf := kP) (zf := fun _ => .bool true) (fun p _ => kP_tup p) (blkOk_by (own := [("place", 7)]) rfl) nd
      (jix (ji_new (je_call h_places_of hr (ja_cons (jg_d (je_nm (i := 0) rfl rfl)) (ja_cons (jg_d (je_nm (i := 2) rfl rfl)) ja_nil)) ⟨(W, n), ⟨ok, n0, n4⟩, rfl, rfl⟩ trivial)))
      (fun p hp => ⟨[7], _, by decide, fun s H C cl fp => ⟨tg_name (i := 7) nd, je_is (je_nm (i := 7) rfl rfl) (kP_data p).symm, je_bl⟩⟩) (by have := placesM_len ok n0 n4; omega)) je_newN je_int trivial trivial trivial ?_ nd)
  rw [places_dc]
  refine js_one (jp_while (fun m δ => ∃ (held : List Pl) (ranks : List (Pl × Int)) (rank : Int) (a b c : Option Kd), m = held.length ∧ GInv W n held ranks ∧ gameM W r held ranks rank = fullM W r n ∧
    δ = [some (.d (wD W)), some (.d (dD r)), some (.d (.int n)), some (.o (SK.n P w (hD held))), some (.o (SK.n P w (rkD ranks))), some (.d (.int rank)), a, b, c]) (placesM W n).length
    ⟨placesM W n, [], 0, none, none, none, rfl, GInv.start ok n0 n4, rfl, rfl⟩ ?_)
  rintro m δ1 ⟨held, ranks, rank, a, b, c, rfl, gi, fin, rfl⟩
  refine ⟨true, jt_val je_bl, fun _ => ?_, fun z => nomatch z⟩
  refine js_cons (jp_aug (i := 5) rfl je_int ?_ nd)
  refine js_cons (jp_set (i := 6) (je_lst jds_nil (hz := by simp)) trivial ?_ nd)
  refine js_cons (jp_forN (i0 := 3) (kvs := hD held) rfl (fun ad i δ => ∃ x y, δ = [some (.d (wD W)), some (.d (dD r)), some (.d (.int n)), some (.v (.ref ad)), some (.o (SK.n P w (rkD ranks))), some (.d (.int (rank + 1))), some (.o (SK.l (((held.take i).filter fun p => !canM W r held p).map pD))), x, y])
    (fun ad i δ1 ⟨x, y, e⟩ => by rw [e]; rfl) (fun ad => ⟨b, c, rfl⟩) (fun ad o raw Φ' hΦ i q δ1 hq hI => ?_) (fun ad δ1 hI => ?_))
  · obtain ⟨x, y, rfl⟩ := hI
    obtain ⟨p, hp, rfl⟩ := hD_get hq
    subst hΦ
    have hpl := pl p (gi.sub p (List.mem_of_getElem? hp))
    rw [show (kP p, PyData.bool true).1.data = pD p from kP_data p]
    refine ⟨[7], _, tg_name (i := 7) nd, ?_⟩
    have dk := Pl.Ok.dp ok hpl
    refine js_one (jp_if (k := !canM W r held p) (jt_not (jt_val (je_is (je_any (bs := (deedsM W p).map fun d => keepsP W r held p d) T.any (jr_new (je_isL (je_lcT (l := deedsM W p) (e' := dD) (f := fun _ => true) (g := fun d => .bool (keepsP W r held p d)) dDInj (blkOk_by (own := [("deed", 8)]) rfl) nd
      (jix (ji_new (je_call h_deeds_of hr (ja_cons (jg_d (je_nm (i := 0) rfl rfl)) (ja_cons (jg_d (je_nm (i := 7) rfl rfl)) ja_nil)) ⟨(W, p), dk, rfl, rfl⟩ trivial)))
      (fun d hd => ⟨[8], _, by decide, fun s H C cl fp => ⟨tg_name (i := 8) nd, jts_nil, fun _ => je_is (je_call h_does_keep hr (ja_cons (jg_d (je_nm (i := 0) rfl rfl)) (ja_cons (jg_d (je_nm (i := 1) rfl rfl)) (ja_cons (jg_d (je_nm (i := 7) rfl rfl)) (ja_cons (jg_d (je_nm (i := 8) rfl rfl)) (ja_cons (jg_r (jr_lk (i := 3) rfl List.mem_cons_self)) ja_nil))))) ⟨(W, r, p, d, hD held), ⟨ok, rg, hpl.sh⟩, rfl, rfl⟩ trivial) (congrArg PyData.bool keepsM_P)⟩⟩)
      (by have := deedsM_len ok dk.2.2.2.2; omega)) (by rw [filtT, List.map_map]; rfl)))) (by rw [canM, List.any_map]; rfl)))) (fun h => ?_) (fun h => ?_))
    · refine js_one (jp_append (i0 := 6) rfl (je_nm (i := 7) rfl rfl) ?_ ?_)
      · have := gi.len
        have h1 : ((held.take i).filter fun p => !canM W r held p).length ≤ (held.take i).length := List.length_filter_le _ _
        have h2 : (held.take i).length ≤ held.length := List.length_take_le' _ _
        rw [List.length_map]
        omega
      · refine ⟨_, _, congrArg (fun l => [some (Kd.d (wD W)), some (.d (dD r)), some (.d (.int n)), some (.v (.ref ad)), some (.o (SK.n P w (rkD ranks))), some (.d (.int (rank + 1))), some (.o (SK.l l)), _, _]) ?_⟩
        rw [take_succ hp, List.filter_append, List.map_append]
        simp [h]
    · refine js_nil ⟨_, _, congrArg (fun l => [some (Kd.d (wD W)), some (.d (dD r)), some (.d (.int n)), some (.v (.ref ad)), some (.o (SK.n P w (rkD ranks))), some (.d (.int (rank + 1))), some (.o (SK.l l)), _, _]) ?_⟩
      rw [take_succ hp, List.filter_append, List.map_append]
      simp [h]
  obtain ⟨x, y, rfl⟩ := hI
  have eg : ((held.take (hD held).length).filter fun p => !canM W r held p) = goneM W r held := by
    unfold hD
    rw [List.length_map, List.take_length]
    rfl
  rw [eg]
  refine js_cons (jp_if (jt_c (jc_eqD hr (jdp_l (jr_vo (i := 6) rfl)) (jdp_l (jr_new (je_lst jds_nil (hz := by simp)))) (tm_lstP.shaped (by decide)) (by decide +kernel))) (fun h => ?_) (fun h => ?_))
  · rw [eqv_nil] at h
    have hg : goneM W r held = [] := by simpa using h
    rw [gameM_stop hg] at fin
    refine js_one (jp_retPr (i := 3) (j := 4) rfl rfl ?_)
    show Kd.o (SK.pr (SK.n P w (hD held)) (SK.n P w (rkD ranks))) = .o (SK.pr (SK.n P w (hD (fullM W r n).1)) (SK.n P w (rkD (fullM W r n).2)))
    rw [← fin]
  rw [eqv_nil] at h
  have hg : goneM W r held ≠ [] := by simpa using h
  rw [gameM_go hg] at fin
  refine js_nil ?_
  refine js_one (jp_forO (i0 := 6) (ds := (goneM W r held).map pD) rfl (fun ad i δ => ∃ x y, δ = [some (.d (wD W)), some (.d (dD r)), some (.d (.int n)), some (.o (SK.n P w (hD (held.filter fun q => decide (q ∉ (goneM W r held).take i))))), some (.o (SK.n P w (rkD (ranks ++ ((goneM W r held).take i).map fun q => (q, rank + 1))))), some (.d (.int (rank + 1))), some (.v (.ref ad)), x, y])
    (fun ad i δ1 ⟨x, y, e⟩ => by rw [e]; rfl) (fun ad => ⟨x, y, ?_⟩) (fun ad vs Φ' hΦ i q δ1 hq hI => ?_) (fun ad δ1 hI => ?_))
  · have e : (held.filter fun q => decide (q ∉ (goneM W r held).take 0)) = held := by rw [List.take_zero]; exact List.filter_eq_self.mpr fun _ _ => by simp
    rw [e, List.take_zero, List.map_nil, List.append_nil]
    rfl
  · obtain ⟨x, y, rfl⟩ := hI
    obtain ⟨p, hp, rfl⟩ := get_map hq
    have hph := goneM_sub (List.mem_of_getElem? hp)
    have hnt : p ∉ (goneM W r held).take i := mem_take (goneM_nd gi.nd) hp
    have gl := gi.len
    have tl : ((goneM W r held).take i).length ≤ held.length := Nat.le_trans (List.length_take_le' _ _) (List.length_filter_le _ _)
    refine ⟨[7], _, tg_name (i := 7) nd, ?_⟩
    refine js_cons (jp_putN (i0 := 4) (k := kP p) hr rfl (je_nm (i := 5) rfl rfl) (je_is (je_nm (i := 7) rfl rfl) (kP_data p).symm) (kP_tup p) ?_ ?_)
    · simp only [rkD, List.length_map, List.length_append]
      omega
    rw [put_rk]
    · refine js_one (jp_delN (i0 := 3) (k := kP p) (d := .bool true) hr rfl (je_is (je_nm (i := 7) rfl rfl) (kP_data p).symm) (kP_tup p) ?_ ?_ ?_)
      · rw [look_hD, if_pos]
        simpa using ⟨hph, hnt⟩
      · have := List.length_filter_le (fun q => decide (q ∉ (goneM W r held).take i)) held
        simp only [hD, List.length_map]
        omega
      · refine ⟨some (.d (pD p)), y, ?_⟩
        rw [drop_hD, filter_two, take_succ hp, List.map_append, ← List.append_assoc]
        rfl
    · rw [List.map_append, List.map_map]
      intro z
      rcases List.mem_append.mp z with z | z
      · exact gi.off p hph z
      · have z : p ∈ ((goneM W r held).take i).map fun q => q := z
        rw [List.map_id'] at z
        exact hnt z
  · obtain ⟨x, y, rfl⟩ := hI
    have e : (goneM W r held).take ((goneM W r held).map pD).length = goneM W r held := by rw [List.length_map, List.take_length]
    rw [e]
    exact ⟨_, stay_lt hg, leftM W r held, _, rank + 1, _, x, y, rfl, gi.next (rank + 1), fin, rfl⟩

end
end Pq

namespace Pq
open PySem PySem.Spec L2
open PyProof.Rows hiding St
open Evl (Ex)

/-! ### expressions that change a slot's object -/
def JX (X : Cx) (Φ : Lk) (e : Expr) (δ : Slots) (R : PyData → Slots → Prop) : Prop := ∀ (H0 : Hp) (σ : L2.St) (H1 : Hp), Sl H0 Φ H1 σ δ → ∀ Q : VK, (∀ v H2 d δ', R d δ' → Sl H0 Φ H2 σ δ' → Dt H2 v d → TEx H1 H2 → Q v H2) → wE X e σ H1 Q
section
variable {X : Cx} {Φ : Lk} {δ : Slots} {E : En} {e a b c : Expr} {es : List Expr} {pos : Pos} {st : Stmt} {sts rest : List Stmt} {j : Nat}
theorem jx_of {d : PyData} (h : JE X Φ e δ (.d d)) : JX X Φ e δ (fun d' δ' => d' = d ∧ δ' = δ) := fun H0 σ H1 sl Q q => h H0 σ H1 sl Q fun v H2 F e1 i1 => q v H2 d δ ⟨rfl, rfl⟩ (sl.mono e1) i1.2 (.of e1)
theorem jx_mono {R R' : PyData → Slots → Prop} (h : JX X Φ e δ R) (hR : ∀ d δ', R d δ' → R' d δ') : JX X Φ e δ R' := fun H0 σ H1 sl Q q => h H0 σ H1 sl Q fun v H2 d δ' r => q v H2 d δ' (hR d δ' r)
/-- .. with a whole number as its value -/
abbrev JXi (X : Cx) (Φ : Lk) (e : Expr) (δ : Slots) (R : Int → Slots → Prop) : Prop := JX X Φ e δ fun d δ' => ∃ i, d = .int i ∧ R i δ'
theorem jxi_of {i : Int} {R : Int → Slots → Prop} (h : JE X Φ e δ (.d (.int i))) (hR : R i δ) : JXi X Φ e δ R := jx_mono (jx_of h) fun d δ' ⟨h1, h2⟩ => ⟨i, h1, h2 ▸ hR⟩
theorem jxi_op {op : Operator} {C : Int → Int → Prop} {g : Int → Int → Int} {R Ra : Int → Slots → Prop} (ho : OpR X (binaryOp op) (rI C fun i j => .int (g i j))) (ha : JXi X Φ a δ Ra) (hb : ∀ i δ1, Ra i δ1 → JXi X Φ b δ1 fun j δ2 => C i j ∧ R (g i j) δ2) : JXi X Φ (.BinOp a op b pos) δ R := fun H0 σ H1 sl Q q => by
  refine e_of (pe_op ho pe_w pe_w) ?_
  refine ha H0 σ H1 sl _ fun v H2 d δ1 ⟨i, ed, r1⟩ sl1 dv te1 => ?_
  refine hb i δ1 r1 H0 σ H2 sl1 _ fun u H3 d' δ2 ⟨k, ed', hC, r2⟩ sl2 du te2 => ?_
  subst ed ed'
  rw [dt_int dv, dt_int du]
  exact ⟨i, k, rfl, rfl, hC, q _ H3 _ δ2 ⟨_, rfl, r2⟩ sl2 (.int _) (te1.trans te2)⟩
theorem jxi_op0 {op : Operator} {g : Int → Int → Int} {R Ra : Int → Slots → Prop} (ho : OpR X (binaryOp op) (rI0 fun i j => .int (g i j))) (ha : JXi X Φ a δ Ra) (hb : ∀ i δ1, Ra i δ1 → JXi X Φ b δ1 fun j δ2 => R (g i j) δ2) : JXi X Φ (.BinOp a op b pos) δ R := fun H0 σ H1 sl Q q => by
  refine e_of (pe_op ho pe_w pe_w) ?_
  refine ha H0 σ H1 sl _ fun v H2 d δ1 ⟨i, ed, r1⟩ sl1 dv te1 => ?_
  refine hb i δ1 r1 H0 σ H2 sl1 _ fun u H3 d' δ2 ⟨k, ed', r2⟩ sl2 du te2 => ?_
  subst ed ed'
  rw [dt_int dv, dt_int du]
  exact ⟨i, k, rfl, rfl, q _ H3 _ δ2 ⟨_, rfl, r2⟩ sl2 (.int _) (te1.trans te2)⟩
theorem jxi_add {R Ra : Int → Slots → Prop} (ha : JXi X Φ a δ Ra) (hb : ∀ i δ1, Ra i δ1 → JXi X Φ b δ1 fun j δ2 => R (i + j) δ2) : JXi X Φ (.BinOp a .Add b pos) δ R := jxi_op0 (g := fun i j => i + j) op_add ha hb
theorem jxi_sub {R Ra : Int → Slots → Prop} (ha : JXi X Φ a δ Ra) (hb : ∀ i δ1, Ra i δ1 → JXi X Φ b δ1 fun j δ2 => R (i - j) δ2) : JXi X Φ (.BinOp a .Sub b pos) δ R := jxi_op0 (g := fun i j => i - j) op_sub ha hb
/-- x = e -/
theorem jp_setX {i : Nat} {x : Str} {p' : Pos} {R : PyData → Slots → Prop} (h : JX X Φ e δ R) (hn : ∀ d δ', R d δ' → E.nx (δ'.set i (some (.d d)))) (hN : X.N.Nodup) (hi : X.N[i]? = some x := by rfl) (hx : Loc X.env.scope x := by first | exact Or.inl rfl | exact Or.inr rfl)
    (hf : X.fn x = true ∨ X.env.scope.names.lookup x = some .local := by first | exact .inl rfl | exact .inr rfl) (hs : swapsWithSole [.Name x p'] e pos.line X.env = pure false := by rfl) (hw : swappedStores [.Name x p'] e X.env = pure none := by rfl)
    (h1 : (assignEach [.Name x p'] X.env).map (·.2) = [assign (.Name x p') X.env] := by rfl) : JP X Φ (.Assign [.Name x p'] e pos) δ E := fun H0 σ H1 D sl g =>
  s_of (ps_asg pe_w (pg_name hN hi hx hf) hs hw h1) (h H0 σ H1 sl _ fun v H2 d δ' r sl' dv _ => g.nx _ _ _ (sl'.set_new (Evl.Ex.refl H2) (k := .d d) ⟨rfl, dv⟩ (fun _ z => nomatch z)) (hn d δ' r))
/-- return e -/
theorem jp_retX {R : PyData → Slots → Prop} (h : JX X Φ e δ R) (hr : ∀ d δ', R d δ' → E.rt (.d d)) : JP X Φ (.Return (some e) pos) δ E := fun H0 σ H1 D sl g =>
  s_of (ps_ret pe_w) (h H0 σ H1 sl _ fun v H2 d δ' r sl' dv _ => g.rt v H2 (.d d) [] ⟨σ, δ', sl'⟩ ⟨rfl, dv⟩ (hr d δ' r))
/-- x.pop(), x an own list's name -/
theorem jx_pop {i0 : Nat} {x : Str} {p1 apos cpos : Pos} {ds : List PyData} {d : PyData} {R : PyData → Slots → Prop} (hk0 : δ[i0]? = some (some (.o (SK.l ds)))) (hd : ds[ds.length - 1]? = some d) (hR : R d (δ.set i0 (some (.o (SK.l ds.dropLast)))))
    (hN : X.N[i0]? = some x := by rfl) (hvis : Vis X.env.scope x := by first | exact Or.inl rfl | exact Or.inr (Or.inl rfl) | exact Or.inr (Or.inr rfl)) (h1 : (x == ("__debug__" : Str)) = false := by decide) (h2 : (x == ("__classdict__" : Str)) = false := by decide)
    (hbase : attributeBase (.Name x p1) "pop" X.env (eval (.Name x p1) X.env) = eval (.Name x p1) X.env := by rfl) (hline : (apos.endLine == cpos.line) = true := by rfl) : JX X Φ (.Call (.Attribute (.Name x p1) "pop" apos) [] [] cpos) δ R := fun H0 σ H1 sl Q q => by
  refine e_of (pe_bm0 PySem.F.plainAttrs_list PySem.F.slot_list_pop PySem.F.type_list_pop mt_pop (pe_var hN hvis h1 h2) hbase hline) ?_
  obtain ⟨F, f⟩ := sl.at_
  obtain ⟨v, hv0, hi⟩ := f.some_ i0 _ hk0
  obtain ⟨⟨p, vs, rfl, eF, hp, hds⟩, nw⟩ := hi
  obtain ⟨u, hu, du⟩ : ∃ u, vs[vs.length - 1]? = some u ∧ Dt H1 u d := by
    rw [hds.length]
    exact hds.at_ hd
  have te : TEx H1 (upd H1 p (.lst vs.dropLast)) := (TEx.refl H1).upd (fun ws z => by rw [hp] at z; cases z)
  refine ⟨_, hv0, .inl ⟨rfl, _, SqL.of hp⟩, p, vs, u, rfl, rfl, hp, hu, q u _ d _ hR (slUpdN sl hk0 (T := SK.l ds.dropLast) (fun w F' hs' is => ?_) ⟨p, _, rfl, rfl, upd_same, ?_⟩ (fun ws z => nomatch z)) (du.ex te) te⟩
  · rw [hv0] at hs'
    cases hs'
    obtain ⟨p', ws, z1, z2, _⟩ := is
    cases z1
    exact ⟨rfl, z2⟩
  · have h2 := (hds.take (ds.length - 1)).ex te
    rw [← hds.length, ← List.dropLast_eq_take, hds.length, ← List.dropLast_eq_take] at h2
    exact h2
/-- x, y = a, b: a is a new list, b changes something -/
theorem jp_parX {i j : Nat} {x y : Str} {px py pt : Pos} {kt k2 pt2} {ds : List PyData} {R : PyData → Slots → Prop} (ha : JE X Φ a δ (.o (SK.l ds))) (hb : ∀ Φ', (∀ q ∈ Φ, q ∈ Φ') → JX X Φ' b δ R) (hl : ∀ d δ', R d δ' → i < δ'.length) (hn : ∀ d δ', R d δ' → E.nx ((δ'.set i (some (.o (SK.l ds)))).set j (some (.d d)))) (hN : X.N.Nodup) (hij : i ≠ j := by decide) (hi : X.N[i]? = some x := by rfl) (hj : X.N[j]? = some y := by rfl)
    (hx : X.env.scope.names.lookup x = some .local := by rfl) (hy : X.env.scope.names.lookup y = some .local := by rfl) (hsa : NS a := by exact fun _ _ => rfl) (hsb : NS b := by exact fun _ _ => rfl) (hc : X.calm = true := by rfl)
    (hw : swappedStores [.Tuple [.Name x px, .Name y py] kt pt] (.Tuple [a, b] k2 pt2) X.env = pure (some [x, y]) := by rfl)
    (hs : swapsWithSole [.Tuple [.Name x px, .Name y py] kt pt] (.Tuple [a, b] k2 pt2) pos.line X.env = pure false := by rfl) : JP X Φ (.Assign [.Tuple [.Name x px, .Name y py] kt pt] (.Tuple [a, b] k2 pt2) pos) δ E := fun H0 σ H1 D sl g => by
  refine s_of (ps_par hc hN hi hj hij hx hy (pa_cons pe_w (pa_cons pe_w pa_nil (hsb _ _)) (hsa _ _)) hw hs) ?_
  refine ha H0 σ H1 sl _ fun v H2 F e1 i1 => ?_
  obtain ⟨⟨p, vs, rfl, rfl, hp, hds⟩, nw⟩ := i1
  have sl2 : Sl H0 ([(p, SK.l ds)] ++ Φ) H2 σ δ := sl.lock_new e1 fun q hq => by
    obtain rfl : q = (p, SK.l ds) := by simpa using hq
    exact ⟨⟨p, vs, rfl, rfl, hp, hds⟩, .inl (nw p (by simp)).1⟩
  refine hb ([(p, SK.l ds)] ++ Φ) (fun q hq => List.mem_append_right _ hq) H0 σ H2 sl2 _ fun u H3 d δ' r sl3 du te => ?_
  refine ⟨.ref p, u, rfl, g.nx _ _ _ ?_ (hn d δ' r)⟩
  have h0 : H0 p = none := Evl.fresh_back sl.ex (nw p (by simp)).1
  have s4 : Sl H0 ((p, SK.l ds) :: Φ) H3 (σ.set i (some (.ref p))) (δ'.set i (some (.v (.ref p)))) := sl3.set_new (Evl.Ex.refl H3) (k := .v (.ref p)) ⟨rfl, rfl⟩ (fun _ z => nomatch z)
  obtain ⟨F3, f3⟩ := sl3.at_
  have hlk : ∀ q ∈ Φ, q.1 ≠ p := fun q hq z => by
    obtain ⟨F0, f0⟩ := sl.at_
    obtain ⟨o, ho⟩ := q.2.dom (f0.lock q hq).1 q.1 List.mem_cons_self
    rw [z, (nw p (by simp)).1] at ho
    cases ho
  have lp := (f3.lock (p, SK.l ds) (by simp)).1
  have s5 := s4.unlocked (S := SK.l ds) (H' := H3) (by rw [List.getElem?_set_self (hl d δ' r)]) h0 hlk (TEx.refl H3) (fun a o _ z => z) lp (fun ws z => by
    obtain ⟨p', vs', e', _, hp', _⟩ := lp
    cases e'
    rw [hp'] at z
    cases z)
  rw [List.set_set] at s5
  exact s5.set_new (Evl.Ex.refl H3) (k := .d d) ⟨rfl, du⟩ (fun _ z => nomatch z)
/-- sum of a list -/
theorem je_sumL {ns : List Int} {p : Pos} (hm : X.mg "sum" = none) (ha : JR X Φ a δ (SK.l (ns.map .int))) (hc : X.calm = true := by rfl) (hg : Gl X "sum" := by rfl) (hs : NS a := by exact fun _ _ => rfl) : JE X Φ (.Call (.Name "sum" p) [a] [] pos) δ (.d (.int ns.sum)) :=
  je_callR (cr_sum hc) hm boot_sum ha (fun H v G Q is q => by
    obtain ⟨p, vs, rfl, _, hp, hd⟩ := is
    have e : vs = ns.map V.int := hd.ints
    subst e
    exact ⟨p, ns, rfl, SqL.of hp, q _ H [] (Evl.Ex.refl H) ⟨rfl, .int _⟩⟩) liftd hg (hs := hs)
/-- list(range(a, b)) -/
theorem je_listRg {n m : Int} {p p2 pos2 : Pos} (hm : X.mg "list" = none) (hm2 : X.mg "range" = none) (ha : JE X Φ a δ (.d (.int n))) (hb : JE X Φ b δ (.d (.int m))) (h1 : 0 ≤ n) (h2 : n ≤ 100000) (h3 : 0 ≤ m) (h4 : m ≤ 100000) (hc : X.calm = true := by rfl) (hg : Gl X "list" := by rfl) (hg2 : Gl X "range" := by rfl) (hs : NS a := by exact fun _ _ => rfl) (hs2 : NS b := by exact fun _ _ => rfl)
    (hna : starEach [.Call (.Name "range" p2) [a, b] [] pos2] X.env = (false, eval (.Call (.Name "range" p2) [a, b] [] pos2) X.env) :: starEach [] X.env := by rfl) : JE X Φ (.Call (.Name "list" p) [.Call (.Name "range" p2) [a, b] [] pos2] [] pos) δ (.o (SK.l ((rngI n (m - n).toNat).map .int))) := fun H0 σ H1 sl Q q => by
  refine e_of (pe_listRg hc hg hm (prg_2 hg2 hm2 pe_w pe_w (hs _ _) (hs2 _ _) (by rw [hs2]; rfl)) hna) ?_
  refine ha H0 σ H1 sl _ fun v H2 F e1 i1 => ?_
  refine hb H0 σ H2 (sl.mono e1) _ fun u H3 G e2 i2 => ⟨n, m, dt_int i1.2, dt_int i2.2, L2.RgOk.of_le h1 (by omega) (by omega) h3, fun p hp => ?_⟩
  refine q _ _ [p] ((e1.trans e2).trans (Evl.Ex.new hp)) (is_l (Evl.fresh_back (e1.trans e2) hp) upd_same ?_)
  unfold rgV rngI
  rw [List.map_map]
  generalize upd H3 p _ = G
  generalize List.range (m - n).toNat = l
  induction l with
  | nil => exact .nil
  | cons x t ih => exact .cons (.int _) ih
/-- list * int -/
theorem je_repL {ds : List PyData} {k : Int} (ha : JR X Φ a δ (SK.l ds)) (hb : JE X Φ b δ (.d (.int k))) (k0 : 0 ≤ k) (k1 : k ≤ 1000) (hz : ds.length ≤ 1000) : JE X Φ (.BinOp a .Mult b pos) δ (.o (SK.l (List.replicate k.toNat ds).flatten)) := fun H0 σ H1 sl Q q => by
  refine e_of (pe_op op_rep pe_w pe_w) ?_
  refine ha H0 σ H1 sl _ fun v H2 _ e1 i1 => ?_
  refine hb H0 σ H2 (sl.mono e1) _ fun u H3 _ e2 i2 => ?_
  obtain ⟨p, vs, rfl, _, hp, hd⟩ := (SK.l ds).ex i1 e2
  refine ⟨p, k, vs, rfl, dt_int i2.2, hp, by omega, by omega, ?_, fun t ht => ?_⟩
  · rw [hd.length, sizeLine_eq]
    have := Nat.mul_le_mul hz (show k.toNat ≤ 1000 by omega)
    omega
  · refine q _ _ [t] ((e1.trans e2).trans (Evl.Ex.new ht)) (is_l (Evl.fresh_back (e1.trans e2) ht) upd_same ?_)
    have hx : DtAll H3 (List.replicate k.toNat vs).flatten (List.replicate k.toNat ds).flatten := by
      generalize k.toNat = m
      induction m with
      | zero => exact .nil
      | succ m ih =>
        rw [List.replicate_succ, List.replicate_succ, List.flatten_cons, List.flatten_cons]
        exact hd.append ih
    exact hx.ex (.of (Evl.Ex.new ht))
end

end Pq

namespace Pq
open PySem PySem.Spec L2
open PyProof.Rows hiding St
open Evl (Ex)

/-! ### dict(a list of pairs) -/
theorem storedAll_nodup {ps : Xs} (h : (ps.map (·.1)).Nodup) : storedAllH [] ps = ps := by
  have key : ∀ (l m : Xs), (m.map (·.1) ++ l.map (·.1)).Nodup → l.foldl (fun acc p => storedH acc p.1 p.2.1 p.2.2) m = m ++ l := by
    intro l
    induction l with
    | nil => intro m _; simp
    | cons x t ih =>
      intro m hm
      have hx : x.1 ∉ m.map (·.1) := by
        rw [List.map_cons, List.nodup_append] at hm
        exact fun z => hm.2.2 _ z _ List.mem_cons_self rfl
      have e : storedH m x.1 x.2.1 x.2.2 = m ++ [x] := by
        unfold storedH
        rw [if_neg]
        intro z
        obtain ⟨y, hy⟩ := Option.isSome_iff_exists.mp z
        unfold atKey at hy
        obtain ⟨w, hw, _⟩ := Option.map_eq_some_iff.mp hy
        have h1 := List.mem_of_find?_eq_some hw
        have h2 := List.find?_some hw
        exact hx (List.mem_map.mpr ⟨w, h1, of_decide_eq_true h2⟩)
      rw [List.foldl_cons, e, ih _ (by simpa using hm)]
      simp
  have := key ps [] (by simpa using h)
  simpa [storedAllH] using this
theorem pairs_build {X : Cx} {pins : List (Addr × Obj)} {σ : L2.St} {H : Hp} {s : Shared} (I : L2.Inv X pins σ H s) {α : Type} {kf : α → NestedKey} {zf : α → PyData} : ∀ {l : List α} {vs : List V} {its : List Value}, (∀ x ∈ l, TupKey (kf x)) → DtAll H vs (l.map fun x => .tuple [(kf x).data, zf x]) → Vals vs its →
    ∃ (ts : List Addr) (raw : Raw) (ps : Xs), its = ts.map Value.ref ∧ ts.length = ps.length ∧ RX raw ps ∧ RK H raw (l.map fun x => (kf x, zf x)) ∧ ps.map (·.1) = l.map kf ∧ ∀ (j : Nat) (q : NestedKey × Addr × Value), ps[j]? = some q → ∃ t, ts[j]? = some t ∧ PairAt s.heap t (.ref q.2.1) q.2.2 ∧ NestedIs s.heap q.1 (.ref q.2.1) ∧ q.1.depth ≤ 8
  | [], vs, its, _, hd, hv => by
    cases hd
    cases hv
    exact ⟨[], [], [], rfl, rfl, .nil, .nil, rfl, fun j q h => by simp at h⟩
  | x :: l, vs, its, hk, hd, hv => by
    cases hd with
    | cons d1 dt =>
      cases hv with
      | cons r1 rt =>
        obtain ⟨ts, raw, ps, e1, e2, e3, e4, e5, e6⟩ := pairs_build I (fun y hy => hk y (List.mem_cons_of_mem _ hy)) dt rt
        obtain ⟨a, ws, rfl, ha, hw⟩ := dt_tup d1
        cases hw with
        | cons k1 hw =>
          cases hw with
          | cons z1 hw =>
            cases hw
            have hkx := hk x List.mem_cons_self
            obtain ⟨b, rfl⟩ := hkx.ref k1
            rename_i z
            obtain ⟨its2, rv, it, _⟩ := I.tuple (SqT.of ha)
            obtain ⟨u1, u2, rfl, ru1, ru2⟩ := vals2 rv
            cases ru1
            refine ⟨a :: ts, (kf x, b, z) :: raw, (kf x, b, u2) :: ps, by rw [e1]; exact congrArg (· :: _) (ref_of r1), by simp [e2], .cons ⟨rfl, rfl, ru2⟩ e3, .cons ⟨rfl, hkx.2, k1, z1⟩ e4, by simp [e5], fun j q h => ?_⟩
            cases j with
            | zero =>
              simp at h
              subst h
              exact ⟨a, rfl, .inl it, Dt.key I _ _ _ k1 rfl, hkx.2⟩
            | succ j =>
              obtain ⟨t, h1, h2⟩ := e6 j q (by simpa using h)
              exact ⟨t, by simpa using h1, h2⟩
theorem cr_dictN {X : Cx} {j : Nat} (hr : Room j X.A) (hc : X.calm = true) {α : Type} {l : List α} {kf : α → NestedKey} {zf : α → PyData} (hk : ∀ x ∈ l, TupKey (kf x)) (nd : (l.map kf).Nodup) (hz : l.length ≤ 1000000) :
    CallR X (.type "dict") (fun xs H Q => ∃ p vs, xs = [.ref p] ∧ H p = some (.lst vs) ∧ DtAll H vs (l.map fun x => .tuple [(kf x).data, zf x]) ∧ ∀ D o, H D = none → IsN X.prog X.w (upd H D o) D (l.map fun x => (kf x, zf x)) → (∀ ws, o ≠ .tup ws) → Q (.ref D) (upd H D o)) := by
  intro pins s σ H xs us Q I r h
  obtain ⟨p, vs, rfl, hp, hd, q⟩ := h
  obtain ⟨u, rfl, rx⟩ := vals1 r
  rw [ref_of rx]
  obtain ⟨z, its, n, rv, hl, e⟩ := I.lstM hp
  obtain ⟨ts, raw, ps, e1, e2, e3, e4, e5, e6⟩ := pairs_build I hk hd rv
  subst e1
  have hun := hr.units
  have hps : ps.length = l.length := by
    have := congrArg List.length e5
    simpa using this
  have hn : H s.heap.objs.size = none := I.hok.fresh (Nat.le_refl _)
  have hsys : (s.heap.objs.size == sysModules) = false := beq_false_of_ne (Nat.ne_of_gt I.big)
  have hget : ∀ j : Nat, (ps.map fun x => (Value.ref x.2.1, x.2.2))[j]? = (ps[j]?).map fun x => (Value.ref x.2.1, x.2.2) := fun j => List.getElem?_map ..
  refine call_dict_pairsH (knd := nestedKind X.prog X.w) (ps := ps) (PairArg.list p (ts.map Value.ref).toArray (fun j => ts.getD j 0) (ps.map fun x => (.ref x.2.1, x.2.2))) (I.ok.hd hc) (by show X.A.in1.in1.units + 8 < cLine; show X.A.units + 1 + 1 + 8 < cLine; omega) ⟨⟨_, n, e, rfl, rfl, rfl⟩, by simp [e2], fun i k v hi => ?_⟩ ⟨by simp, fun i key v hi => ?_⟩ (fun h' hk' x hx => ?_) (by rw [List.length_map, hps, sizeLine_eq]; omega) fun h' tk hm hkeep => ?_
  · rw [hget] at hi
    cases hq : ps[i]? with
    | none => rw [hq] at hi; cases hi
    | some w =>
      rw [hq] at hi
      cases hi
      obtain ⟨t, h1, h2, _⟩ := e6 i w hq
      have hT : ts.getD i 0 = t := by rw [List.getD_eq_getElem?_getD, h1]; rfl
      refine ⟨?_, ?_⟩
      · show (ts.map Value.ref).toArray[i]? = some (.ref (ts.getD i 0))
        rw [List.getElem?_toArray, List.getElem?_map, h1, hT]
        rfl
      · show PairAt s.heap (ts.getD i 0) _ _
        rw [hT]
        exact h2
  · have hi : (ps.map fun x => (Value.ref x.2.1, x.2.2))[i]? = some (key, v) := hi
    rw [hget] at hi
    cases hq : ps[i]? with
    | none => rw [hq] at hi; cases hi
    | some w =>
      rw [hq] at hi
      cases hi
      exact ⟨w.1, w.2.1, rfl, rfl⟩
  · obtain ⟨i, hi⟩ := List.getElem?_of_mem hx
    obtain ⟨t, _, _, h3, h4⟩ := e6 i x hi
    exact nestedKind_stays.stays (fun b o _ _ eb _ => hk' b o (Nat.ne_of_lt (Heap.lt_size eb)) (fun z => nomatch z) eb) ⟨h3, h4⟩
  · rw [storedAll_nodup (by rw [e5]; exact nd)] at hm
    obtain ⟨o, es, ep, ho, hx, hdd, he, _, hnn⟩ := hm
    have te : TEx H (upd H s.heap.objs.size (NObj X.prog X.w s.heap.objs.size raw)) := .of (Evl.Ex.new hn)
    exact ⟨.ref s.heap.objs.size, _, I.laid (o := NObj X.prog X.w s.heap.objs.size raw) (t' := tk) (fun b o eb => hkeep b o (fun z => nomatch z) eb) (Nat.le_refl _) (dPhi.obj ⟨ps, e3, o, es, ep, ho, hx, hdd, he, hnn⟩), rfl, q _ _ hn ⟨hsys, raw, upd_same, e4.ex te⟩ (fun ws z => nomatch z)⟩
section
variable {X : Cx} {Φ : Lk} {δ : Slots} {E : En} {e a b c : Expr} {es : List Expr} {pos : Pos} {j : Nat}
theorem je_dictN {P : Program} {w : World} {α : Type} {l : List α} {kf : α → NestedKey} {zf : α → PyData} {p : Pos} (hr : Room j X.A) (hm : X.mg "dict" = none) (ha : JR X Φ a δ (SK.l (l.map fun x => .tuple [(kf x).data, zf x]))) (hk : ∀ x ∈ l, TupKey (kf x)) (nd : (l.map kf).Nodup) (hz : l.length ≤ 1000000) (hc : X.calm = true := by rfl) (hg : Gl X "dict" := by rfl) (hs : NS a := by exact fun _ _ => rfl) (hP : P = X.prog := by rfl) (hw : w = X.w := by rfl) :
    JE X Φ (.Call (.Name "dict" p) [a] [] pos) δ (.o (SK.n P w (l.map fun x => (kf x, zf x)))) := by
  subst hP hw
  refine je_callTR (cr_dictN (zf := zf) hr hc hk nd hz) hm (by decide +kernel) ha (fun H v G Q is q => ?_) lifto hg (hs := hs)
  obtain ⟨p, vs, rfl, _, hp, hd⟩ := is
  exact ⟨p, vs, rfl, hp, hd, fun D o hn h nt => q _ _ [D] (Evl.Ex.new hn) (is_n hn h)⟩
end

end Pq

namespace Pq
open PySem PySem.Spec L2
open PyProof.Rows hiding St
open Evl (Ex)

/-! ### the law's own game -/
abbrev s__law_places : Rl := s_places_of
abbrev s__law_deeds : Rl := s_deeds_of
abbrev s__law_led : Rl := s_led_by
def s__law_keeps (P : Program) (w : World) : Rl := RL (fun (x : Wl × (Int × Int) × Pl × Int × List Pl) => match x with | (W, r, p, n, held) => W.Ok ∧ RgOk r ∧ p.Ok W n) (fun (W, r, p, n, held) => [.d (wD W), .d (dD r), .d (pD p), .bo (SK.nr P w (hD held))]) (fun (W, r, p, n, held) => .d (.bool (canM W r held p)))
abbrev s__law_game (P : Program) (w : World) : Rl := s_solved P w
section
variable {X : Cx} {Φ : Lk} {δ : Slots} {E : En} {e a b c : Expr} {es : List Expr} {pos : Pos}
/-- one outcome -/
abbrev JXd (X : Cx) (Φ : Lk) (e : Expr) (δ : Slots) (d : PyData) (δ' : Slots) : Prop := JX X Φ e δ fun x y => x = d ∧ y = δ'
theorem jxd_of {d : PyData} (h : JE X Φ e δ (.d d)) : JXd X Φ e δ d δ := jx_of h
theorem jxd_pop {i0 : Nat} {x : Str} {p1 apos cpos : Pos} {ds : List PyData} {d : PyData} (hk0 : δ[i0]? = some (some (.o (SK.l ds)))) (hd : ds[ds.length - 1]? = some d)
    (hN : X.N[i0]? = some x := by rfl) (hvis : Vis X.env.scope x := by first | exact Or.inl rfl | exact Or.inr (Or.inl rfl) | exact Or.inr (Or.inr rfl)) (h1 : (x == ("__debug__" : Str)) = false := by decide) (h2 : (x == ("__classdict__" : Str)) = false := by decide)
    (hbase : attributeBase (.Name x p1) "pop" X.env (eval (.Name x p1) X.env) = eval (.Name x p1) X.env := by rfl) (hline : (apos.endLine == cpos.line) = true := by rfl) : JXd X Φ (.Call (.Attribute (.Name x p1) "pop" apos) [] [] cpos) δ d (δ.set i0 (some (.o (SK.l ds.dropLast)))) :=
  jx_pop hk0 hd ⟨rfl, rfl⟩ hN hvis h1 h2 hbase hline
theorem jxd_add {i j : Int} {δ1 δ2 : Slots} (ha : JXd X Φ a δ (.int i) δ1) (hb : JXd X Φ b δ1 (.int j) δ2) : JXd X Φ (.BinOp a .Add b pos) δ (.int (i + j)) δ2 :=
  jx_mono (jxi_add (R := fun k δ' => k = i + j ∧ δ' = δ2) (Ra := fun k δ' => k = i ∧ δ' = δ1) (jx_mono ha fun d δ' ⟨h1, h2⟩ => ⟨i, h1, rfl, h2⟩) fun k δ' ⟨h1, h2⟩ => by
    subst h1 h2
    exact jx_mono hb fun d δ' ⟨h3, h4⟩ => ⟨j, h3, rfl, h4⟩) fun d δ' ⟨k, h1, h2, h3⟩ => ⟨by rw [h1, h2], h3⟩
theorem jxd_sub {i j : Int} {δ1 δ2 : Slots} (ha : JXd X Φ a δ (.int i) δ1) (hb : JXd X Φ b δ1 (.int j) δ2) : JXd X Φ (.BinOp a .Sub b pos) δ (.int (i - j)) δ2 :=
  jx_mono (jxi_sub (R := fun k δ' => k = i - j ∧ δ' = δ2) (Ra := fun k δ' => k = i ∧ δ' = δ1) (jx_mono ha fun d δ' ⟨h1, h2⟩ => ⟨i, h1, rfl, h2⟩) fun k δ' ⟨h1, h2⟩ => by
    subst h1 h2
    exact jx_mono hb fun d δ' ⟨h3, h4⟩ => ⟨j, h3, rfl, h4⟩) fun d δ' ⟨k, h1, h2, h3⟩ => ⟨by rw [h1, h2], h3⟩
end
theorem od_ne : ("over" : Str) ≠ "dry" := by decide +kernel
theorem rD_inj : ∀ {x y : Res Pl}, rD pD x = rD pD y → x = y
  | .over, .over, _ => rfl
  | .dry, .dry, _ => rfl
  | .over, .dry, h => by injection h with h; exact absurd h od_ne
  | .dry, .over, h => by injection h with h; exact absurd h.symm od_ne
  | .over, .at q, h => nomatch h
  | .dry, .at q, h => nomatch h
  | .at p, .over, h => nomatch h
  | .at p, .dry, h => nomatch h
  | .at p, .at q, h => by
    have h : pD p = pD q := h
    rw [pDInj (l := [p, q]) p (by simp) q (by simp) h]
theorem rDInj {l : List (Res Pl)} : ∀ x ∈ l, ∀ y ∈ l, rD pD x = rD pD y → x = y := fun _ _ _ _ h => rD_inj h
section
variable {P : Program} {w : World} {K : PySem.W.Frag} {mg : Str → Option Value} {base : Heap}
-- _law_deeds (top 80)
theorem ok__law_deeds {k : Nat} {f : Addr} {fd : FuncData} (T : Txt mg) (F : Fun K "_law_deeds" "_law_deeds" (top 80) f fd) : FnOk P w K mg base CX0 (k + 1) f fd ["_law_well_here", "_law_place"] (spF s__law_deeds) := by
  have sc : FnScope ["_law_well_here", "_law_place", "_law_found", "_law_more", "_law_less"] ["_law_well_here", "_law_place"] (defScope (top 80)) := ⟨rfl, rfl, rfl, by decide +kernel, rfl, by decide +kernel, by decide +kernel⟩
  have nd : (["_law_well_here", "_law_place", "_law_found", "_law_more", "_law_less"] : List Str).Nodup := by decide +kernel
  refine fn_ok F sc (RL.len fun _ => rfl) (fun cdv A outer s H E ks r hr hS => ?_)
  obtain ⟨⟨W, p⟩, ⟨ok, hs, h0, h1, h2⟩, rfl, rfl⟩ := hS
  refine js_cons (jp_set (i := 2) (je_lst jds_nil (hz := by simp)) trivial ?_ nd)
  refine js_cons (jp_for (ji_is (ji_range1 (n := min W.starts p.ready + 1) T.range (je_is (je_add (je_min T.min (je_ix (je_nm (i := 0) rfl rfl) je_int rfl) (je_ix (je_nm (i := 1) rfl rfl) je_int rfl)) je_int) (by rw [minI])) (by have := ok.starts2; omega) (by have := ok.starts1; omega)) (rngI_map _ _))
    (fun i δ => ∃ x y, δ = [some (.d (wD W)), some (.d (pD p)), some (.o (SK.l ((((rngI 0 (min W.starts p.ready + 1).toNat).take i).flatMap fun a => (rngI 0 (p.on.getLastD 0 + 1).toNat).map fun b => (a, b)).map dD))), x, y]) ⟨none, none, rfl⟩ (fun Φ hΦ i d δ1 hd hI => ?_) (fun δ1 hI => ?_))
  · obtain ⟨x, y, rfl⟩ := hI
    obtain ⟨a, ha, rfl⟩ := get_map hd
    refine ⟨[3], _, tg_name (i := 3) nd, ?_⟩
    refine js_one (jp_set (i := 2) (je_catL (jr_vo (i := 2) rfl) (jr_new (je_lcT (l := rngI 0 (p.on.getLastD 0 + 1).toNat) (e' := .int) (f := fun _ => true) (g := fun b => dD (a, b)) intInj (blkOk_by (own := [("_law_less", 4)]) rfl) nd (jix (ji_is (ji_range1 T.range (je_add (je_ix (je_ix (je_nm (i := 1) rfl rfl) je_int rfl) (je_usub je_int) (atLast (by intro z; have q := hs.on; rw [z] at q; have := ok.run1; simp at q; omega))) je_int) (by omega) (by omega)) (rngI_map _ _)))
      (fun b hb => ⟨[4], _, by decide, fun s H C cl fp => ⟨tg_name (i := 4) nd, jts_nil, fun _ => je_tup (jds_cons (je_nm (i := 3) rfl rfl) (jds_cons (je_nm (i := 4) rfl rfl) jds_nil)) (hz := by simp)⟩⟩) (by rw [rngI_len]; omega))) ?_) trivial ?_ nd)
    · have q := flat_le (fun a => (rngI 0 (p.on.getLastD 0 + 1).toNat).map fun b => (a, b)) ha
      have q2 : (deedsM W p).length ≤ 1000 := deedsM_len ok h2
      unfold deedsM at q2
      rw [filtT]
      simp only [List.length_map] at q ⊢
      omega
    · refine ⟨_, _, congrArg (fun l => [some (Kd.d (wD W)), some (Kd.d (pD p)), some (Kd.o (SK.l l)), _, _]) ?_⟩
      rw [filtT, flat_take _ ha, List.map_append, List.map_map]
      rfl
  obtain ⟨x, y, rfl⟩ := hI
  rw [List.length_map, List.take_length]
  exact js_one (jp_retO (i := 2) rfl rfl)

-- _law_places (top 79)
theorem ok__law_places {k : Nat} {f : Addr} {fd : FuncData} (T : Txt mg) (F : Fun K "_law_places" "_law_places" (top 79) f fd) : FnOk P w K mg base CX0 (k + 1) f fd ["_law_well_here", "_law_many"] (spF s__law_places) := by
  have sc : FnScope ["_law_well_here", "_law_many", "_law_rows", "_law_k", "_law_longer", "_law_row", "_law_found", "_law_level", "_law_count"] ["_law_well_here", "_law_many"] (defScope (top 79)) := ⟨rfl, rfl, rfl, by decide +kernel, rfl, by decide +kernel, by decide +kernel⟩
  have nd : (["_law_well_here", "_law_many", "_law_rows", "_law_k", "_law_longer", "_law_row", "_law_found", "_law_level", "_law_count"] : List Str).Nodup := by decide +kernel
  refine fn_ok F sc (RL.len fun _ => rfl) (fun cdv A outer s H E ks r hr hS => ?_)
  obtain ⟨⟨W, n⟩, ⟨ok, n0, n4⟩, rfl, rfl⟩ := hS
  refine js_cons (jp_set (i := 2) (je_lst (jds_cons (je_tup jds_nil (hz := by simp)) jds_nil) (hz := by simp)) trivial ?_ nd)
  have kb : 0 ≤ W.run + W.rest - 1 ∧ W.run + W.rest - 1 ≤ 4 := by have := ok.run1; have := ok.rest1; have := ok.run2; have := ok.rest2; omega
  refine js_cons (jp_for (ji_range1 T.range (je_sub (je_add (je_ix (je_nm (i := 0) rfl rfl) je_int rfl) (je_ix (je_nm (i := 0) rfl rfl) je_int rfl)) je_int) (by omega) (by omega)) (fun i δ => ∃ x y z u v t, δ = [some (.d (wD W)), some (.d (.int n)), some (.o (SK.l ((rowsM n i).map iL))), x, y, z, u, v, t]) ⟨none, none, none, none, none, none, rfl⟩ (fun Φ hΦ i d δ1 hd hI => ?_) (fun δ1 hI => ?_))
  · obtain ⟨x, y, z, u, v, t, rfl⟩ := hI
    rw [rngI_map] at hd
    obtain ⟨t', ht, rfl⟩ := get_map hd
    have hi : i + 1 ≤ 4 := by
      have := (List.getElem?_eq_some_iff.mp ht).1
      rw [rngI_len] at this
      omega
    refine ⟨[3], _, tg_name (i := 3) nd, ?_⟩
    have bd : (rowsM n (i + 1)).length ≤ 625 := rowsM_bd n0 n4 hi
    refine js_cons (jp_set (i := 4) (je_lst jds_nil (hz := by simp)) trivial ?_ nd)
    refine js_cons (jp_forO (i0 := 2) (ds := (rowsM n i).map iL) rfl (fun ad j δ => ∃ z u v t, δ = [some (.d (wD W)), some (.d (.int n)), some (.v (.ref ad)), some (.d (.int t')), some (.o (SK.l ((((rowsM n i).take j).flatMap fun row => (rngI 0 (n - row.sum + 1).toNat).map fun c => row ++ [c]).map iL))), z, u, v, t])
      (fun ad j δ1 ⟨z, u, v, t, e⟩ => by rw [e]; rfl) (fun ad => ⟨_, _, _, _, rfl⟩) (fun ad vs Φ' hΦ' j q δ1 hq hI => ?_) (fun ad δ1 hI => ?_))
    · obtain ⟨z, u, v, t, rfl⟩ := hI
      obtain ⟨row, hrow, rfl⟩ := get_map hq
      have ro := rowsM_ok n0 i row (List.mem_of_getElem? hrow)
      refine ⟨[5], _, tg_name (i := 5) nd, ?_⟩
      refine js_one (jp_set (i := 4) (je_catL (jr_vo (i := 4) rfl) (jr_new (je_lcT (l := rngI 0 (n - row.sum + 1).toNat) (e' := .int) (f := fun _ => true) (g := fun c => iL (row ++ [c])) intInj (blkOk_by (own := [("_law_count", 8)]) rfl) nd (jix (ji_is (ji_range1 (n := n - row.sum + 1) T.range (je_add (je_sub (je_nm (i := 1) rfl rfl) (je_sumT (ns := row) T.sum (je_nm (i := 5) rfl rfl))) je_int) (by omega) (by omega)) (rngI_map _ _)))
        (fun c hc => ⟨[8], _, by decide, fun s H C cl fp => ⟨tg_name (i := 8) nd, jts_nil, fun _ => je_is (je_cat (je_nm (i := 5) (d := .tuple (row.map .int)) rfl rfl) (je_tup (jds_cons (je_nm (i := 8) (d := .int c) rfl rfl) jds_nil) (hz := by simp)) (by simp; omega)) (by simp [iL])⟩⟩) (by rw [rngI_len]; omega))) ?_) trivial ?_ nd)
      · have q := flat_le (fun row => (rngI 0 (n - row.sum + 1).toNat).map fun c => row ++ [c]) hrow
        have q2 : (rowsM n (i + 1)).length = ((rowsM n i).flatMap fun row => (rngI 0 (n - row.sum + 1).toNat).map fun c => row ++ [c]).length := rfl
        rw [filtT]
        simp only [List.length_map] at q ⊢
        omega
      · refine ⟨_, _, _, _, congrArg (fun l => [some (Kd.d (wD W)), some (Kd.d (.int n)), some (.v (.ref ad)), some (.d (.int t')), some (Kd.o (SK.l l)), _, _, _, _]) ?_⟩
        rw [filtT, flat_take _ hrow, List.map_append, List.map_map]
        rfl
    obtain ⟨z, u, v, t, rfl⟩ := hI
    rw [List.length_map, List.take_length]
    refine js_one (jp_move (i := 2) (j := 4) rfl (by decide) ?_ nd)
    exact ⟨_, _, _, _, _, _, rfl⟩
  obtain ⟨x, y, z, u, v, t, rfl⟩ := hI
  rw [rngD_len]
  refine js_cons (jp_set (i := 6) (je_lst jds_nil (hz := by simp)) trivial ?_ nd)
  refine js_cons (jp_for (ji_is (ji_range1 T.range (je_add (je_ix (je_nm (i := 0) rfl rfl) je_int rfl) je_int) (by have := ok.top2; omega) (by have := ok.top1; omega)) (rngI_map _ _))
    (fun i δ => ∃ x y z u v, δ = [some (.d (wD W)), some (.d (.int n)), some (.o (SK.l ((rowsM n (W.run + W.rest - 1).toNat).map iL))), x, y, z, some (.o (SK.l ((((rngI 0 (W.top + 1).toNat).take i).flatMap fun lv => (rowsM n (W.run + W.rest - 1).toNat).map fun row => (⟨lv, row.take W.run.toNat, row.drop W.run.toNat, n - row.sum⟩ : Pl)).map pD))), u, v]) ⟨_, _, _, _, _, rfl⟩ (fun Φ hΦ i d δ1 hd hI => ?_) (fun δ1 hI => ?_))
  · obtain ⟨x, y, z, u, v, rfl⟩ := hI
    obtain ⟨lv, ha, rfl⟩ := get_map hd
    have bd : (rowsM n (W.run + W.rest - 1).toNat).length ≤ 625 := rowsM_bd n0 n4 (by omega)
    refine ⟨[7], _, tg_name (i := 7) nd, ?_⟩
    refine js_one (jp_set (i := 6) (je_catL (jr_vo (i := 6) rfl) (jr_new (je_lcT (l := (rowsM n (W.run + W.rest - 1).toNat)) (e' := iL) (f := fun _ => true) (g := fun row => pD ⟨lv, row.take W.run.toNat, row.drop W.run.toNat, n - row.sum⟩) iLInj (blkOk_by (own := [("_law_row", 5)]) rfl) nd (ji_list (jr_vo (i := 2) rfl))
      (fun row hrow => ⟨[5], _, by decide, fun s H C cl fp => ⟨tg_name (i := 5) nd, jts_nil, fun _ => je_is (je_tup (jds_cons (je_nm (i := 7) rfl rfl) (jds_cons (je_slT (je_nm (i := 5) (d := .tuple (row.map .int)) rfl rfl) .none (.some (je_ix (je_nm (i := 0) rfl rfl) je_int rfl))) (jds_cons (je_slT (je_nm (i := 5) (d := .tuple (row.map .int)) rfl rfl) (.some (je_ix (je_nm (i := 0) rfl rfl) je_int rfl)) .none) (jds_cons (je_sub (je_nm (i := 1) rfl rfl) (je_sumT (ns := row) T.sum (je_nm (i := 5) rfl rfl))) jds_nil)))) (hz := by simp))
        (by rw [cutD_take (by have := ok.run1; omega), cutD_drop (by have := ok.run1; omega)]; rfl)⟩⟩) (by omega))) ?_) trivial ?_ nd)
    · have q := flat_le (fun lv => (rowsM n (W.run + W.rest - 1).toNat).map fun row => (⟨lv, row.take W.run.toNat, row.drop W.run.toNat, n - row.sum⟩ : Pl)) ha
      have q2 : (placesM W n).length ≤ 3750 := placesM_len ok n0 n4
      unfold placesM at q2
      rw [filtT]
      simp only [List.length_map] at q ⊢
      omega
    · refine ⟨_, _, _, _, _, congrArg (fun l => [some (Kd.d (wD W)), some (Kd.d (.int n)), some (Kd.o (SK.l ((rowsM n (W.run + W.rest - 1).toNat).map iL))), _, _, _, some (Kd.o (SK.l l)), _, _]) ?_⟩
      rw [filtT, flat_take _ ha, List.map_append, List.map_map]
      rfl
  obtain ⟨x, y, z, u, v, rfl⟩ := hI
  rw [List.length_map, List.take_length]
  exact js_one (jp_retO (i := 6) rfl rfl)

theorem led_tail {cdv : Value} {A : Around} {outer : List Env} {s : Shared} {H : Hp} {E : XK} {f : Addr} (T : Txt mg) {W : Wl} {p : Pl} {d : Int × Int} {i : Int} {Φ : Lk} (nd : (["_law_well_here", "_law_place", "_law_deed", "_law_inflow", "_law_on", "_law_off", "_law_last", "_law_fresh", "_law_level"] : List Str).Nodup)  {x5 : Option Kd} {fr : Int} (hTop : 0 ≤ W.top) (hfr : fr = (d.2 :: p.off).getLastD 0) :
    JS (bx P w K mg base ["_law_well_here", "_law_place", "_law_deed", "_law_inflow", "_law_on", "_law_off", "_law_last", "_law_fresh", "_law_level"] "_law_led" (top 81) f cdv A outer s H E) Φ ((defBody (top 81)).drop 4)
      [some (.d (wD W)), some (.d (pD p)), some (.d (dD d)), some (.d (.int i)), some (.o (SK.l ((agedOn d.1 d.2 p.on).map .int))), some (.o (SK.l ((agedOff d.2 p.off).map .int))), x5, some (.d (.int fr)), some (.d (.int (p.lv + i - W.drain * (agedOn d.1 d.2 p.on).sum)))] (retE (.d (rD pD (ledBy W p d i)))) := by
  refine js_cons (jp_if (jt_w (jw_or (jt_c (jc_lt (je_nm (i := 8) rfl rfl) je_int)) fun _ => (jw_or1 (jt_c (jc_gt (je_nm (i := 8) rfl rfl) (je_ix (je_nm (i := 0) rfl rfl) je_int rfl)))))) (fun h => ?_) (fun h => ?_))
  · by_cases z : 0 < p.lv + i - W.drain * (agedOn d.1 d.2 p.on).sum
    · refine js_one (jp_ret (k := .d (.str "over")) (je_ixL (jr_new (je_lst (jds_cons je_str (jds_cons je_str jds_nil)) (hz := by simp))) (je_intB T.int (je_c (jc_gt (je_nm (i := 8) rfl rfl) je_int))) ?_) trivial ?_)
      · rw [decide_eq_true z]; rfl
      · have e : ledBy W p d i = .over := by
          unfold ledBy nextLv
          simp only []
          rw [if_pos]
          simp only [Bool.or_eq_true, decide_eq_true_eq] at h
          omega
        rw [e]
        rfl
    · refine js_one (jp_ret (k := .d (.str "dry")) (je_ixL (jr_new (je_lst (jds_cons je_str (jds_cons je_str jds_nil)) (hz := by simp))) (je_intB T.int (je_c (jc_gt (je_nm (i := 8) rfl rfl) je_int))) ?_) trivial ?_)
      · rw [decide_eq_false z]; rfl
      · have e : W.top < 0 ∨ ledBy W p d i = .dry := by
          simp only [Bool.or_eq_true, decide_eq_true_eq] at h
          by_cases t0 : W.top < 0
          · exact .inl t0
          · refine .inr ?_
            unfold ledBy nextLv
            simp only []
            rw [if_neg (by omega), if_pos (by omega)]
        rcases e with e | e
        · exact absurd e (by have := hTop; omega)
        · rw [e]
          rfl
  refine js_nil ?_
  refine js_one (jp_ret (k := .d (rD pD (ledBy W p d i))) (je_is (je_tup (jds_cons (je_nm (i := 8) rfl rfl) (jds_cons (je_tupL T.tuple (jr_vo (i := 4) rfl)) (jds_cons (je_tupL T.tuple (jr_vo (i := 5) rfl)) (jds_cons (je_add (je_sub (je_ix (je_nm (i := 1) rfl rfl) je_int rfl) (je_ix (je_nm (i := 2) rfl rfl) je_int rfl)) (je_nm (i := 7) rfl rfl)) jds_nil)))) (hz := by simp)) ?_) trivial rfl)
  simp only [Bool.or_eq_false_iff, decide_eq_false_iff_not] at h
  unfold ledBy nextLv
  simp only []
  rw [if_neg (by omega), if_neg (by omega), hfr]
  rfl

-- _law_led (top 81)
theorem ok__law_led {k : Nat} {f : Addr} {fd : FuncData} (T : Txt mg) (F : Fun K "_law_led" "_law_led" (top 81) f fd) : FnOk P w K mg base CX0 (k + 1) f fd ["_law_well_here", "_law_place", "_law_deed", "_law_inflow"] (spF s__law_led) := by
  have sc : FnScope ["_law_well_here", "_law_place", "_law_deed", "_law_inflow", "_law_on", "_law_off", "_law_last", "_law_fresh", "_law_level"] ["_law_well_here", "_law_place", "_law_deed", "_law_inflow"] (defScope (top 81)) := ⟨rfl, rfl, rfl, by decide +kernel, rfl, by decide +kernel, by decide +kernel⟩
  have nd : (["_law_well_here", "_law_place", "_law_deed", "_law_inflow", "_law_on", "_law_off", "_law_last", "_law_fresh", "_law_level"] : List Str).Nodup := by decide +kernel
  refine fn_ok F sc (RL.len fun _ => rfl) (fun cdv A outer s H E ks r hr hS => ?_)
  obtain ⟨⟨W, p, d, i⟩, ⟨ok, hs⟩, rfl, rfl⟩ := hS
  obtain ⟨lv, on, off, rd⟩ := p
  have h1 : (on.length : Int) = W.run := hs.on
  have h2 : (off.length : Int) = W.rest - 1 := hs.off
  have r1 := ok.run1
  have r2 := ok.run2
  have q1 := ok.rest1
  have q2 := ok.rest2
  rcases on with _ | ⟨x, _ | ⟨y, _ | ⟨z, _ | ⟨u, on⟩⟩⟩⟩
  · simp at h1; omega
  ·
    rcases off with _ | ⟨v, _ | ⟨u, off⟩⟩
    ·
      refine js_cons (jp_par (i := 4) (j := 5) (je_catL (jr_new (je_lst (jds_cons (je_ix (je_nm (i := 2) rfl rfl) je_int rfl) jds_nil) (hz := by simp))) (jr_new (je_listT T.list (je_ix (je_nm (i := 1) rfl rfl) je_int rfl))) (Nat.le_of_ble_eq_true rfl)) (je_catL (jr_new (je_lst (jds_cons (je_ix (je_nm (i := 2) rfl rfl) je_int rfl) jds_nil) (hz := by simp))) (jr_new (je_listT T.list (je_ix (je_nm (i := 1) rfl rfl) je_int rfl))) (Nat.le_of_ble_eq_true rfl)) trivial trivial ?_ nd)
      refine js_cons (jp_setX (i := 6) (jxd_sub (jxd_add (jxd_pop (i0 := 4) rfl rfl) (jxd_pop (i0 := 4) rfl rfl)) (jxd_of (je_ix (je_nm (i := 2) rfl rfl) je_int rfl))) (fun x y h => ?_) nd)
      obtain ⟨rfl, rfl⟩ := h
      rw [Int.add_comm x d.1]
      refine js_cons (jp_parX (i := 4) (j := 7) (je_catL (jr_vo (i := 4) rfl) (jr_new (je_lst (jds_cons (je_nm (i := 6) rfl rfl) jds_nil) (hz := by simp))) (Nat.le_of_ble_eq_true rfl)) (fun Φ' _ => jxd_pop (i0 := 5) rfl rfl) (fun x y h => ?_) (fun x y h => ?_) nd)
      · obtain ⟨_, rfl⟩ := h; exact Nat.le_of_ble_eq_true rfl
      obtain ⟨rfl, rfl⟩ := h
      refine js_cons (jp_set (i := 8) (je_sub (je_add (je_ix (je_nm (i := 1) rfl rfl) je_int rfl) (je_nm (i := 3) rfl rfl)) (je_mul (je_ix (je_nm (i := 0) rfl rfl) je_int rfl) (je_sumL (ns := agedOn d.1 d.2 [x]) T.sum (jr_vo (i := 4) rfl)) (cmulL (by have := ok.drain1; omega) (by have := ok.drain2; omega)))) trivial ?_ nd)
      exact led_tail (W := W) (d := d) (i := i) (p := ⟨lv, [x], [], rd⟩) T nd (by have := ok.top1; omega) rfl
    ·
      refine js_cons (jp_par (i := 4) (j := 5) (je_catL (jr_new (je_lst (jds_cons (je_ix (je_nm (i := 2) rfl rfl) je_int rfl) jds_nil) (hz := by simp))) (jr_new (je_listT T.list (je_ix (je_nm (i := 1) rfl rfl) je_int rfl))) (Nat.le_of_ble_eq_true rfl)) (je_catL (jr_new (je_lst (jds_cons (je_ix (je_nm (i := 2) rfl rfl) je_int rfl) jds_nil) (hz := by simp))) (jr_new (je_listT T.list (je_ix (je_nm (i := 1) rfl rfl) je_int rfl))) (Nat.le_of_ble_eq_true rfl)) trivial trivial ?_ nd)
      refine js_cons (jp_setX (i := 6) (jxd_sub (jxd_add (jxd_pop (i0 := 4) rfl rfl) (jxd_pop (i0 := 4) rfl rfl)) (jxd_of (je_ix (je_nm (i := 2) rfl rfl) je_int rfl))) (fun x y h => ?_) nd)
      obtain ⟨rfl, rfl⟩ := h
      rw [Int.add_comm x d.1]
      refine js_cons (jp_parX (i := 4) (j := 7) (je_catL (jr_vo (i := 4) rfl) (jr_new (je_lst (jds_cons (je_nm (i := 6) rfl rfl) jds_nil) (hz := by simp))) (Nat.le_of_ble_eq_true rfl)) (fun Φ' _ => jxd_pop (i0 := 5) rfl rfl) (fun x y h => ?_) (fun x y h => ?_) nd)
      · obtain ⟨_, rfl⟩ := h; exact Nat.le_of_ble_eq_true rfl
      obtain ⟨rfl, rfl⟩ := h
      refine js_cons (jp_set (i := 8) (je_sub (je_add (je_ix (je_nm (i := 1) rfl rfl) je_int rfl) (je_nm (i := 3) rfl rfl)) (je_mul (je_ix (je_nm (i := 0) rfl rfl) je_int rfl) (je_sumL (ns := agedOn d.1 d.2 [x]) T.sum (jr_vo (i := 4) rfl)) (cmulL (by have := ok.drain1; omega) (by have := ok.drain2; omega)))) trivial ?_ nd)
      exact led_tail (W := W) (d := d) (i := i) (p := ⟨lv, [x], [v], rd⟩) T nd (by have := ok.top1; omega) rfl
    · simp at h2; omega
  ·
    rcases off with _ | ⟨v, _ | ⟨u, off⟩⟩
    ·
      refine js_cons (jp_par (i := 4) (j := 5) (je_catL (jr_new (je_lst (jds_cons (je_ix (je_nm (i := 2) rfl rfl) je_int rfl) jds_nil) (hz := by simp))) (jr_new (je_listT T.list (je_ix (je_nm (i := 1) rfl rfl) je_int rfl))) (Nat.le_of_ble_eq_true rfl)) (je_catL (jr_new (je_lst (jds_cons (je_ix (je_nm (i := 2) rfl rfl) je_int rfl) jds_nil) (hz := by simp))) (jr_new (je_listT T.list (je_ix (je_nm (i := 1) rfl rfl) je_int rfl))) (Nat.le_of_ble_eq_true rfl)) trivial trivial ?_ nd)
      refine js_cons (jp_setX (i := 6) (jxd_sub (jxd_add (jxd_pop (i0 := 4) rfl rfl) (jxd_pop (i0 := 4) rfl rfl)) (jxd_of (je_ix (je_nm (i := 2) rfl rfl) je_int rfl))) (fun x y h => ?_) nd)
      obtain ⟨rfl, rfl⟩ := h
      rw [Int.add_comm y x]
      refine js_cons (jp_parX (i := 4) (j := 7) (je_catL (jr_vo (i := 4) rfl) (jr_new (je_lst (jds_cons (je_nm (i := 6) rfl rfl) jds_nil) (hz := by simp))) (Nat.le_of_ble_eq_true rfl)) (fun Φ' _ => jxd_pop (i0 := 5) rfl rfl) (fun x y h => ?_) (fun x y h => ?_) nd)
      · obtain ⟨_, rfl⟩ := h; exact Nat.le_of_ble_eq_true rfl
      obtain ⟨rfl, rfl⟩ := h
      refine js_cons (jp_set (i := 8) (je_sub (je_add (je_ix (je_nm (i := 1) rfl rfl) je_int rfl) (je_nm (i := 3) rfl rfl)) (je_mul (je_ix (je_nm (i := 0) rfl rfl) je_int rfl) (je_sumL (ns := agedOn d.1 d.2 [x, y]) T.sum (jr_vo (i := 4) rfl)) (cmulL (by have := ok.drain1; omega) (by have := ok.drain2; omega)))) trivial ?_ nd)
      exact led_tail (W := W) (d := d) (i := i) (p := ⟨lv, [x, y], [], rd⟩) T nd (by have := ok.top1; omega) rfl
    ·
      refine js_cons (jp_par (i := 4) (j := 5) (je_catL (jr_new (je_lst (jds_cons (je_ix (je_nm (i := 2) rfl rfl) je_int rfl) jds_nil) (hz := by simp))) (jr_new (je_listT T.list (je_ix (je_nm (i := 1) rfl rfl) je_int rfl))) (Nat.le_of_ble_eq_true rfl)) (je_catL (jr_new (je_lst (jds_cons (je_ix (je_nm (i := 2) rfl rfl) je_int rfl) jds_nil) (hz := by simp))) (jr_new (je_listT T.list (je_ix (je_nm (i := 1) rfl rfl) je_int rfl))) (Nat.le_of_ble_eq_true rfl)) trivial trivial ?_ nd)
      refine js_cons (jp_setX (i := 6) (jxd_sub (jxd_add (jxd_pop (i0 := 4) rfl rfl) (jxd_pop (i0 := 4) rfl rfl)) (jxd_of (je_ix (je_nm (i := 2) rfl rfl) je_int rfl))) (fun x y h => ?_) nd)
      obtain ⟨rfl, rfl⟩ := h
      rw [Int.add_comm y x]
      refine js_cons (jp_parX (i := 4) (j := 7) (je_catL (jr_vo (i := 4) rfl) (jr_new (je_lst (jds_cons (je_nm (i := 6) rfl rfl) jds_nil) (hz := by simp))) (Nat.le_of_ble_eq_true rfl)) (fun Φ' _ => jxd_pop (i0 := 5) rfl rfl) (fun x y h => ?_) (fun x y h => ?_) nd)
      · obtain ⟨_, rfl⟩ := h; exact Nat.le_of_ble_eq_true rfl
      obtain ⟨rfl, rfl⟩ := h
      refine js_cons (jp_set (i := 8) (je_sub (je_add (je_ix (je_nm (i := 1) rfl rfl) je_int rfl) (je_nm (i := 3) rfl rfl)) (je_mul (je_ix (je_nm (i := 0) rfl rfl) je_int rfl) (je_sumL (ns := agedOn d.1 d.2 [x, y]) T.sum (jr_vo (i := 4) rfl)) (cmulL (by have := ok.drain1; omega) (by have := ok.drain2; omega)))) trivial ?_ nd)
      exact led_tail (W := W) (d := d) (i := i) (p := ⟨lv, [x, y], [v], rd⟩) T nd (by have := ok.top1; omega) rfl
    · simp at h2; omega
  ·
    rcases off with _ | ⟨v, _ | ⟨u, off⟩⟩
    ·
      refine js_cons (jp_par (i := 4) (j := 5) (je_catL (jr_new (je_lst (jds_cons (je_ix (je_nm (i := 2) rfl rfl) je_int rfl) jds_nil) (hz := by simp))) (jr_new (je_listT T.list (je_ix (je_nm (i := 1) rfl rfl) je_int rfl))) (Nat.le_of_ble_eq_true rfl)) (je_catL (jr_new (je_lst (jds_cons (je_ix (je_nm (i := 2) rfl rfl) je_int rfl) jds_nil) (hz := by simp))) (jr_new (je_listT T.list (je_ix (je_nm (i := 1) rfl rfl) je_int rfl))) (Nat.le_of_ble_eq_true rfl)) trivial trivial ?_ nd)
      refine js_cons (jp_setX (i := 6) (jxd_sub (jxd_add (jxd_pop (i0 := 4) rfl rfl) (jxd_pop (i0 := 4) rfl rfl)) (jxd_of (je_ix (je_nm (i := 2) rfl rfl) je_int rfl))) (fun x y h => ?_) nd)
      obtain ⟨rfl, rfl⟩ := h
      rw [Int.add_comm z y]
      refine js_cons (jp_parX (i := 4) (j := 7) (je_catL (jr_vo (i := 4) rfl) (jr_new (je_lst (jds_cons (je_nm (i := 6) rfl rfl) jds_nil) (hz := by simp))) (Nat.le_of_ble_eq_true rfl)) (fun Φ' _ => jxd_pop (i0 := 5) rfl rfl) (fun x y h => ?_) (fun x y h => ?_) nd)
      · obtain ⟨_, rfl⟩ := h; exact Nat.le_of_ble_eq_true rfl
      obtain ⟨rfl, rfl⟩ := h
      refine js_cons (jp_set (i := 8) (je_sub (je_add (je_ix (je_nm (i := 1) rfl rfl) je_int rfl) (je_nm (i := 3) rfl rfl)) (je_mul (je_ix (je_nm (i := 0) rfl rfl) je_int rfl) (je_sumL (ns := agedOn d.1 d.2 [x, y, z]) T.sum (jr_vo (i := 4) rfl)) (cmulL (by have := ok.drain1; omega) (by have := ok.drain2; omega)))) trivial ?_ nd)
      exact led_tail (W := W) (d := d) (i := i) (p := ⟨lv, [x, y, z], [], rd⟩) T nd (by have := ok.top1; omega) rfl
    ·
      refine js_cons (jp_par (i := 4) (j := 5) (je_catL (jr_new (je_lst (jds_cons (je_ix (je_nm (i := 2) rfl rfl) je_int rfl) jds_nil) (hz := by simp))) (jr_new (je_listT T.list (je_ix (je_nm (i := 1) rfl rfl) je_int rfl))) (Nat.le_of_ble_eq_true rfl)) (je_catL (jr_new (je_lst (jds_cons (je_ix (je_nm (i := 2) rfl rfl) je_int rfl) jds_nil) (hz := by simp))) (jr_new (je_listT T.list (je_ix (je_nm (i := 1) rfl rfl) je_int rfl))) (Nat.le_of_ble_eq_true rfl)) trivial trivial ?_ nd)
      refine js_cons (jp_setX (i := 6) (jxd_sub (jxd_add (jxd_pop (i0 := 4) rfl rfl) (jxd_pop (i0 := 4) rfl rfl)) (jxd_of (je_ix (je_nm (i := 2) rfl rfl) je_int rfl))) (fun x y h => ?_) nd)
      obtain ⟨rfl, rfl⟩ := h
      rw [Int.add_comm z y]
      refine js_cons (jp_parX (i := 4) (j := 7) (je_catL (jr_vo (i := 4) rfl) (jr_new (je_lst (jds_cons (je_nm (i := 6) rfl rfl) jds_nil) (hz := by simp))) (Nat.le_of_ble_eq_true rfl)) (fun Φ' _ => jxd_pop (i0 := 5) rfl rfl) (fun x y h => ?_) (fun x y h => ?_) nd)
      · obtain ⟨_, rfl⟩ := h; exact Nat.le_of_ble_eq_true rfl
      obtain ⟨rfl, rfl⟩ := h
      refine js_cons (jp_set (i := 8) (je_sub (je_add (je_ix (je_nm (i := 1) rfl rfl) je_int rfl) (je_nm (i := 3) rfl rfl)) (je_mul (je_ix (je_nm (i := 0) rfl rfl) je_int rfl) (je_sumL (ns := agedOn d.1 d.2 [x, y, z]) T.sum (jr_vo (i := 4) rfl)) (cmulL (by have := ok.drain1; omega) (by have := ok.drain2; omega)))) trivial ?_ nd)
      exact led_tail (W := W) (d := d) (i := i) (p := ⟨lv, [x, y, z], [v], rd⟩) T nd (by have := ok.top1; omega) rfl
    · simp at h2; omega
  · simp at h1; omega

end
end Pq

namespace Pq
open PySem PySem.Spec L2
open PyProof.Rows hiding St
open Evl (Ex)

theorem eqv_nil2 (ds : List PyData) : (!PyData.eqv (.list ds) (.list [])) = !decide (ds = []) := by rw [eqv_nil]
theorem tm_lstR {l : List (Res Pl)} : Tm 3 (.list (l.map (rD pD))) := Tm.lst fun d hd => by
  obtain ⟨p, _, rfl⟩ := List.mem_map.mp hd
  exact tm_rD tm_pD p
section
variable {X : Cx} {Φ : Lk} {δ : Slots} {E : En} {e a b c : Expr} {es : List Expr} {pos : Pos} {st : Stmt}
/-- an own dict is locked while a statement runs -/
theorem jp_lock {i0 : Nat} {kvs : List (NestedKey × PyData)} (hk : δ[i0]? = some (some (.o (SK.n X.prog X.w kvs)))) (h : ∀ p o raw, JP X ((p, SK.fz X.prog X.w o raw kvs) :: Φ) st (δ.set i0 (some (.v (.ref p)))) ⟨fun δ' => δ'[i0]? = some (some (.v (.ref p))) ∧ E.nx (δ'.set i0 (some (.o (SK.n X.prog X.w kvs)))), fun _ => False, fun _ => False, fun _ => False⟩) : JP X Φ st δ E := fun H0 σ H1 D sl g => by
  refine s_of (ps_lock ps_w) ?_
  obtain ⟨F, f⟩ := sl.at_
  obtain ⟨v, hv0, hi⟩ := f.some_ i0 _ hk
  obtain ⟨⟨p, rfl, eF, hsys, raw, hp0, rk⟩, nw⟩ := hi
  have nwp := nw p (by rw [eF]; exact List.mem_cons_self)
  refine ⟨p, _, hp0, trivial, fun o => ?_⟩
  have te1 : TEx H1 (upd H1 p (.frz o (NObj X.prog X.w p raw))) := (TEx.refl H1).upd nwp.2
  have slk : Sl H0 ((p, SK.fz X.prog X.w o raw kvs) :: Φ) (upd H1 p (.frz o (NObj X.prog X.w p raw))) σ (δ.set i0 (some (.v (.ref p)))) :=
    sl.locked hk hv0 (fun F ⟨q, e1, e2, _⟩ => ⟨q, e1, e2⟩) rfl te1 (fun a u na z => by rw [upd_ne na]; exact z) ⟨p, rfl, rfl, hsys, upd_same, rk.ex te1⟩
  have nlk : ∀ q ∈ Φ, q.1 ≠ p := fun q hq z => (f.lock q hq).2 i0 (by rw [eF, z]; exact List.mem_cons_self)
  refine h p o raw H0 σ _ _ slk ⟨fun σ' H' δ' s3 ⟨hv1, hn⟩ => ?_, fun _ _ _ _ _ _ z => z.elim, fun _ _ _ _ z => z.elim, fun _ _ _ _ z => z.elim⟩
  have z12 : H' p = some (.frz o (NObj X.prog X.w p raw)) ∧ RK H' raw kvs := by
    obtain ⟨F, f⟩ := s3.at_
    obtain ⟨p', e, _, _, z1, z2⟩ := (f.lock _ List.mem_cons_self).1
    cases e
    exact ⟨z1, z2⟩
  obtain ⟨z1, z2⟩ := z12
  have te2 : TEx H' (upd H' p (NObj X.prog X.w p raw)) := (TEx.refl H').upd (fun vs z => by rw [z1] at z; cases z)
  exact ⟨z1, g.nx σ' _ _ (s3.unlocked (S := SK.n X.prog X.w kvs) hv1 nwp.1 nlk te2 (fun a u na z => by rw [upd_ne na]; exact z) ⟨p, rfl, rfl, hsys, raw, upd_same, z2.ex te2⟩ (fun vs z => by rw [upd_same] at z; cases z)) hn⟩
end
section
variable {P : Program} {w : World} {K : PySem.W.Frag} {mg : Str → Option Value} {base : Heap}
-- _law_keeps (top 82)
theorem ok__law_keeps {k : Nat} {f : Addr} {fd : FuncData} (T : Txt mg) (h__law_deeds : Has P w K mg base k "_law_deeds" ["_law_well_here", "_law_place"] (spF s__law_deeds)) (h__law_led : Has P w K mg base k "_law_led" ["_law_well_here", "_law_place", "_law_deed", "_law_inflow"] (spF s__law_led)) (F : Fun K "_law_keeps" "_law_keeps" (top 82) f fd) : FnOk P w K mg base CX0 (k + 1) f fd ["_law_well_here", "_law_inflows", "_law_place", "_law_held_so"] (spF (s__law_keeps P w)) := by
  have sc : FnScope ["_law_well_here", "_law_inflows", "_law_place", "_law_held_so", "_law_deed", "_law_some", "_law_far", "_law_inflow", "_law_one"] ["_law_well_here", "_law_inflows", "_law_place", "_law_held_so"] (defScope (top 82)) := ⟨rfl, rfl, rfl, by decide +kernel, rfl, by decide +kernel, by decide +kernel⟩
  have nd : (["_law_well_here", "_law_inflows", "_law_place", "_law_held_so", "_law_deed", "_law_some", "_law_far", "_law_inflow", "_law_one"] : List Str).Nodup := by decide +kernel
  refine fn_ok F sc (RL.len fun _ => rfl) (fun cdv A outer s H E ks r hr hS => ?_)
  obtain ⟨⟨W, r, p, n, held⟩, ⟨ok, rg, hp⟩, rfl, rfl⟩ := hS
  have dk := Pl.Ok.dp ok hp
  refine js_cons (jp_for (ji_new (je_call h__law_deeds hr (ja_cons (jg_d (je_nm (i := 0) rfl rfl)) (ja_cons (jg_d (je_nm (i := 2) rfl rfl)) ja_nil)) ⟨(W, p), dk, rfl, rfl⟩ trivial)) (fun i δ => (∀ d ∈ (deedsM W p).take i, keepsP W r held p d = false) ∧ ∃ x y z u v, δ = [some (.d (wD W)), some (.d (dD r)), some (.d (pD p)), some (.bo (SK.nr P w (hD held))), x, y, z, u, v]) ⟨by simp, none, none, none, none, none, rfl⟩ (fun Φ hΦ i t δ1 hd hI => ?_) (fun δ1 hI => ?_))
  · obtain ⟨hno, x, y, z, u, v, rfl⟩ := hI
    obtain ⟨d, hda, rfl⟩ := get_map hd
    refine ⟨[4], _, tg_name (i := 4) nd, ?_⟩
    refine js_cons (jp_set (i := 5) (je_listRg T.list T.range (je_ix (je_nm (i := 1) rfl rfl) je_int rfl) (je_add (je_ix (je_nm (i := 1) rfl rfl) je_int rfl) je_int) (by have := rg.a; have := rg.b; have := rg.c; omega) (by have := rg.a; have := rg.b; have := rg.c; omega) (by have := rg.a; have := rg.b; have := rg.c; omega) (by have := rg.a; have := rg.b; have := rg.c; omega)) trivial ?_ nd)
    refine js_cons (jp_setLcT (i := 6) (l := rngC r) (e' := .int) (f := fun _ => true) (g := fun i => rD pD (ledBy W p d i)) intInj (blkOk_by (own := [("_law_inflow", 7)]) rfl) nd (ji_list (jr_vo (i := 5) rfl))
      (fun i hi => ⟨[7], _, by decide, fun s H C cl fp => ⟨tg_name (i := 7) nd, jts_nil, fun _ => je_call h__law_led hr (ja_cons (jg_d (je_nm (i := 0) rfl rfl)) (ja_cons (jg_d (je_nm (i := 2) rfl rfl)) (ja_cons (jg_d (je_nm (i := 4) rfl rfl)) (ja_cons (jg_d (je_nm (i := 7) rfl rfl)) ja_nil)))) ⟨(W, p, d, i), ⟨ok, hp.sh⟩, rfl, rfl⟩ trivial⟩⟩) (by rw [rngC_len]; have := rg.a; have := rg.b; have := rg.c; omega) ?_)
    have e1 : ((rngC r).filter fun _ => true).map (fun i => rD pD (ledBy W p d i)) = ((rngC r).map (ledBy W p d)).map (rD pD) := by rw [filtT, List.map_map]; rfl
    rw [e1]
    have e2 : PyData.eqv (.list ((((rngC r).map (ledBy W p d)).filter fun q => !(lookN (hD held) (kR q)).isSome).map (rD pD))) (.list []) = keepsP W r held p d := by
      rw [eqv_nil]
      unfold keepsP
      simp only [has_in]
      rw [Bool.eq_iff_iff]
      simp [List.filter_eq_nil_iff]
    refine js_one (jp_if (k := keepsP W r held p d) (jt_is (jt_c (jc_eqD hr (jdp_l (jr_new (je_lcT (l := (rngC r).map (ledBy W p d)) (e' := rD pD) (f := fun q => !(lookN (hD held) (kR q)).isSome) (g := rD pD) rDInj (blkOk_by (own := [("_law_one", 8)]) rfl) nd (ji_list (jr_vo (i := 6) rfl))
      (fun q hq => ⟨[8], _, by decide, fun s H C cl fp => ⟨tg_name (i := 8) nd, jts_one (jt_c (jc_notInN (k := kR q) hr (je_is (je_nm (i := 8) rfl rfl) (kR_data q).symm) (jr_vb (i := 3) rfl) (kR_ask q))), fun _ => je_nm (i := 8) rfl rfl⟩⟩) (by rw [List.length_map, rngC_len]; have := rg.a; have := rg.b; have := rg.c; omega)))) (jdp_l (jr_new (je_lst jds_nil (hz := by simp)))) (tm_lstR.shaped (by decide)) (by decide +kernel))) e2) (fun h => ?_) (fun h => ?_))
    · have e : canM W r held p = true := List.any_eq_true.mpr ⟨d, List.mem_of_getElem? hda, h⟩
      exact js_one (jp_ret (je_is je_bl (by rw [e])) trivial rfl)
    · refine js_nil ⟨fun j hj => ?_, _, _, _, _, _, rfl⟩
      rw [take_succ hda] at hj
      rcases List.mem_append.mp hj with z | z
      · exact hno j z
      · simp at z
        rw [z, h]
  obtain ⟨hno, x, y, z, u, v, rfl⟩ := hI
  rw [List.length_map, List.take_length] at hno
  have e : canM W r held p = false := by
    unfold canM
    rw [List.any_eq_false]
    intro j hj
    simp [hno j hj]
  exact js_one (jp_ret (je_is je_bl (by rw [e])) trivial rfl)

theorem ok__law_game {k : Nat} {f : Addr} {fd : FuncData} (T : Txt mg) (h__law_places : Has P w K mg base k "_law_places" ["_law_well_here", "_law_many"] (spF s__law_places)) (h__law_keeps : Has P w K mg base k "_law_keeps" ["_law_well_here", "_law_inflows", "_law_place", "_law_held_so"] (spF (s__law_keeps P w))) (F : Fun K "_law_game" "_law_game" (top 83) f fd) : FnOk P w K mg base CX0 (k + 1) f fd ["_law_well_here", "_law_inflows", "_law_many"] (spF (s__law_game P w)) := by
  have sc : FnScope ["_law_well_here", "_law_inflows", "_law_many", "_law_held_so", "_law_lost", "_law_rank", "_law_gone", "_law_place"] ["_law_well_here", "_law_inflows", "_law_many"] (defScope (top 83)) := ⟨rfl, rfl, rfl, by decide +kernel, rfl, by decide +kernel, by decide +kernel⟩
  have nd : (["_law_well_here", "_law_inflows", "_law_many", "_law_held_so", "_law_lost", "_law_rank", "_law_gone", "_law_place"] : List Str).Nodup := by decide +kernel
  refine fn_ok F sc (RL.len fun _ => rfl) (fun cdv A outer s H E ks r hr hS => ?_)
  obtain ⟨⟨W, r, n⟩, ⟨ok, rg, n0, n4⟩, rfl, rfl⟩ := hS
  have pl : ∀ p ∈ placesM W n, p.Ok W n := fun p h => placesM_ok ok n0 n4 h
  refine js_cons (jp_set (i := 3) (je_dictN (l := placesM W n) (kf := kP) (zf := fun _ => .bool true) hr T.dict (jr_new (je_isL (je_lcT (l := placesM W n) (e' := pD) (f := fun _ => true) (g := fun p => .tuple [pD p, .bool true]) pDInj (blkOk_by (own := [("_law_place", 7)]) rfl) nd
      (jix (ji_new (je_call h__law_places hr (ja_cons (jg_d (je_nm (i := 0) rfl rfl)) (ja_cons (jg_d (je_nm (i := 2) rfl rfl)) ja_nil)) ⟨(W, n), ⟨ok, n0, n4⟩, rfl, rfl⟩ trivial)))
      (fun p hp => ⟨[7], _, by decide, fun s H C cl fp => ⟨tg_name (i := 7) nd, jts_nil, fun _ => je_tup (jds_cons (je_nm (i := 7) rfl rfl) (jds_cons je_bl jds_nil)) (hz := by simp)⟩⟩) (by have := placesM_len ok n0 n4; omega)) (by rw [filtT]; refine List.map_congr_left fun p _ => ?_; rw [kP_data])))
      (fun p _ => kP_tup p) (nodup_map (placesM_nodup W n) fun _ _ _ _ h => kP_inj h) (by have := placesM_len ok n0 n4; omega)) trivial ?_ nd)
  refine js_cons (jp_par3 (i := 4) (j := 5) (l := 6) je_newN je_int (je_lst (jds_cons je_non jds_nil) (hz := by simp)) trivial trivial trivial ?_ nd)
  refine js_cons (jp_while (fun m δ => ∃ (held : List Pl) (ranks : List (Pl × Int)) (rank : Int) (gone : List PyData) (c : Option Kd), m = (if gone = [] then 0 else held.length + 1) ∧ GInv W n held ranks ∧ Tm 3 (.list gone) ∧ (gone = [] → (held, ranks) = fullM W r n) ∧ (gone ≠ [] → gameM W r held ranks rank = fullM W r n) ∧
    δ = [some (.d (wD W)), some (.d (dD r)), some (.d (.int n)), some (.o (SK.n P w (hD held))), some (.o (SK.n P w (rkD ranks))), some (.d (.int rank)), some (.o (SK.l gone)), c]) ((placesM W n).length + 1)
    ⟨placesM W n, [], 0, [.none], none, rfl, GInv.start ok n0 n4, ⟨by decide +kernel, by decide +kernel⟩, (fun z => by cases z), (fun _ => rfl), rfl⟩ ?_)
  · rintro m δ1 ⟨held, ranks, rank, gone, c, rfl, gi, tmg, fin0, fin, rfl⟩
    refine ⟨!decide (gone = []), jt_is (jt_c (jc_neD hr (jdp_l (jr_vo (i := 6) rfl)) (jdp_l (jr_new (je_lst jds_nil (hz := by simp)))) (tmg.shaped (by decide)) (by decide +kernel))) (eqv_nil2 gone), fun h => ?_, fun h => ?_⟩
    · have hg0 : gone ≠ [] := by simpa using h
      rw [if_neg hg0]
      have fin := fin hg0
      refine js_cons (jp_set (i := 5) (je_add (je_nm (i := 5) rfl rfl) je_int) trivial ?_ nd)
      refine js_cons (jp_lock (i0 := 3) (kvs := hD held) rfl fun ad o raw => jp_setLcT (i := 6) (l := held) (e' := pD) (f := fun p => !canM W r held p) (g := pD) pDInj (blkOk_by (own := [("_law_place", 7)]) rfl) nd ?_ (fun p hp => ?_) (by have := gi.len; omega) ⟨rfl, ?_⟩)
      · have e : (hD held).map (fun q => q.1.data) = held.map pD := by
          unfold hD
          rw [List.map_map]
          exact List.map_congr_left fun p _ => kP_data p
        rw [← e]
        exact ji_lockN (i0 := 3) rfl List.mem_cons_self
      · exact ⟨[7], _, by decide, fun s H C cl fp => ⟨tg_name (i := 7) nd, jts_one (jt_not (jt_val (je_call h__law_keeps hr (ja_cons (jg_d (je_nm (i := 0) rfl rfl)) (ja_cons (jg_d (je_nm (i := 1) rfl rfl)) (ja_cons (jg_d (je_nm (i := 7) rfl rfl)) (ja_cons (jg_r (jr_lk (i := 3) rfl List.mem_cons_self)) ja_nil)))) ⟨(W, r, p, n, held), ⟨ok, rg, pl p (gi.sub p hp)⟩, rfl, rfl⟩ trivial))), fun _ => je_nm (i := 7) rfl rfl⟩⟩
      refine js_one (jp_forO (i0 := 6) (ds := (goneM W r held).map pD) rfl (fun ad i δ => ∃ x, δ = [some (.d (wD W)), some (.d (dD r)), some (.d (.int n)), some (.o (SK.n P w (hD (held.filter fun q => decide (q ∉ (goneM W r held).take i))))), some (.o (SK.n P w (rkD (ranks ++ ((goneM W r held).take i).map fun q => (q, rank + 1))))), some (.d (.int (rank + 1))), some (.v (.ref ad)), x])
        (fun ad i δ1 ⟨x, e⟩ => by rw [e]; rfl) (fun ad => ⟨c, ?_⟩) (fun ad vs Φ' hΦ i q δ1 hq hI => ?_) (fun ad δ1 hI => ?_))
      · have e : (held.filter fun q => decide (q ∉ (goneM W r held).take 0)) = held := by rw [List.take_zero]; exact List.filter_eq_self.mpr fun _ _ => by simp
        rw [e, List.take_zero, List.map_nil, List.append_nil]
        rfl
      · obtain ⟨x, rfl⟩ := hI
        obtain ⟨p, hp, rfl⟩ := get_map hq
        have hph := goneM_sub (List.mem_of_getElem? hp)
        have hnt : p ∉ (goneM W r held).take i := mem_take (goneM_nd gi.nd) hp
        have gl := gi.len
        have tl : ((goneM W r held).take i).length ≤ held.length := Nat.le_trans (List.length_take_le' _ _) (List.length_filter_le _ _)
        refine ⟨[7], _, tg_name (i := 7) nd, ?_⟩
        refine js_cons (jp_putN (i0 := 4) (k := kP p) hr rfl (je_nm (i := 5) rfl rfl) (je_is (je_nm (i := 7) rfl rfl) (kP_data p).symm) (kP_tup p) ?_ ?_)
        · simp only [rkD, List.length_map, List.length_append]
          omega
        rw [put_rk]
        · refine js_one (jp_popN (i0 := 3) (k := kP p) (d := .bool true) hr rfl (je_is (je_nm (i := 7) rfl rfl) (kP_data p).symm) (kP_tup p) ?_ ?_ ?_)
          · rw [look_hD, if_pos]
            simpa using ⟨hph, hnt⟩
          · have := List.length_filter_le (fun q => decide (q ∉ (goneM W r held).take i)) held
            simp only [hD, List.length_map]
            omega
          · refine ⟨some (.d (pD p)), ?_⟩
            rw [drop_hD, filter_two, take_succ hp, List.map_append, ← List.append_assoc]
            rfl
        · rw [List.map_append, List.map_map]
          intro z
          rcases List.mem_append.mp z with z | z
          · exact gi.off p hph z
          · have z : p ∈ ((goneM W r held).take i).map fun q => q := z
            rw [List.map_id'] at z
            exact hnt z
      · obtain ⟨x, rfl⟩ := hI
        have e : (goneM W r held).take ((goneM W r held).map pD).length = goneM W r held := by rw [List.length_map, List.take_length]
        rw [e]
        refine ⟨_, ?_, leftM W r held, ranks ++ (goneM W r held).map (fun q => (q, rank + 1)), rank + 1, (goneM W r held).map pD, x, rfl, gi.next (rank + 1), tm_lstP, fun z => ?_, fun z => ?_, rfl⟩
        · by_cases hg : goneM W r held = []
          · rw [hg, List.map_nil, if_pos rfl]
            omega
          · rw [if_neg (by simpa using hg)]
            have := stay_lt hg
            omega
        · have hg : goneM W r held = [] := by simpa using z
          rw [gameM_stop hg] at fin
          rw [← fin, hg, List.map_nil, List.append_nil]
          unfold leftM
          rw [hg]
          congr 1
          exact List.filter_eq_self.mpr fun _ _ => by simp
        · have hg : goneM W r held ≠ [] := by simpa using z
          rw [gameM_go hg] at fin
          exact fin
    · have hg : gone = [] := by simpa using h
      have e := fin0 hg
      refine js_one (jp_retPr (i := 3) (j := 4) rfl rfl ?_)
      show Kd.o (SK.pr (SK.n P w (hD held)) (SK.n P w (rkD ranks))) = .o (SK.pr (SK.n P w (hD (fullM W r n).1)) (SK.n P w (rkD (fullM W r n).2)))
      rw [← e]

end
end Pq

namespace Pq
open PySem PySem.Spec L2
open PyProof.Rows hiding St
open Evl (Ex)

/-! ### zip of two tuples; a name that holds a def -/
def pairL : List PyData → List PyData → List PyData
  | x :: xs, y :: ys => .tuple [x, y] :: pairL xs ys
  | _, _ => []
theorem pairL_len : ∀ xs ys : List PyData, (pairL xs ys).length = min xs.length ys.length
  | [], _ => by simp [pairL]
  | _ :: _, [] => by simp [pairL]
  | x :: xs, y :: ys => by simp [pairL, pairL_len xs ys]
theorem pairL_get {xs : List PyData} : ∀ {ys : List PyData} {i : Nat} {x y : PyData}, xs[i]? = some x → ys[i]? = some y → (pairL xs ys)[i]? = some (.tuple [x, y]) := by
  induction xs with
  | nil => intro ys i x y h; simp at h
  | cons a xs ih =>
    intro ys i x y h1 h2
    cases ys with
    | nil => simp at h2
    | cons b ys =>
      cases i with
      | zero =>
        simp at h1 h2
        subst h1 h2
        rfl
      | succ i =>
        simp only [List.getElem?_cons_succ] at h1 h2
        exact ih h1 h2
theorem zipT_ok {K : PySem.W.Frag} {a b : Addr} {vs ws : List V} {ds es : List PyData} (h1 : vs.length = ds.length) (h2 : ws.length = es.length) : ItOk (RZ.ItzT K a b) (pairL ds es) (fun H => (H a = some (.tup vs) ∧ DtAll H vs ds) ∧ H b = some (.tup ws) ∧ DtAll H ws es) where
  go := fun i H s h => by
    rw [pairL_len] at h
    have hi : i < vs.length := by omega
    have hj : i < ws.length := by omega
    exact ⟨vs, ws, vs[i], ws[i], SqT.of s.1.1, SqT.of s.2.1, List.getElem?_eq_getElem hi, List.getElem?_eq_getElem hj⟩
  stop := fun H s => ⟨vs, ws, SqT.of s.1.1, SqT.of s.2.1, by rw [pairL_len]; omega⟩
  yld := fun i H x H' s hi h => by
    obtain ⟨T, u, v, rfl, hT, rfl, hx, hy⟩ := h
    obtain ⟨d, hd, dd⟩ := s.1.2.get (hx vs (SqT.of s.1.1))
    obtain ⟨e, he, de⟩ := s.2.2.get (hy ws (SqT.of s.2.1))
    have ex := Evl.Ex.new (o := HO.tup [u, v]) hT
    exact ⟨ex, _, pairL_get hd he, .tup upd_same (.cons (dd.ex (.of ex)) (.cons (de.ex (.of ex)) .nil))⟩
section
variable {X : Cx} {Φ : Lk} {δ : Slots} {E : En} {e a b c : Expr} {es : List Expr} {pos : Pos} {st : Stmt}
theorem ji_zipT {elts : List Expr} {kk : Nat} {tpos p : Pos} {ds es' : List PyData} (hm : X.mg "zip" = none) (ha : JE X Φ a δ (.d (.tuple ds))) (hb : JE X Φ b δ (.d (.tuple es'))) (hg : Gl X "zip" := by rfl) (hsa : NS a := by exact fun _ _ => rfl) (hsb : NS b := by exact fun _ _ => rfl)
    (hs : starEach [a, b] X.env = (false, eval a X.env) :: starEach [b] X.env := by rfl) (hpl : (backTo pos (starEach [b] X.env)).any (·.1) = false := by rfl) : JIx X Φ (.Tuple elts kk tpos) (.Call (.Name "zip" p) [a, b] [] pos) δ (pairL ds es') := fun H0 σ H1 sl R q => by
  refine i_of (RZ.pi_zipA hg hm (pa_cons pe_w (pa_cons pe_w pa_nil (hsb _ _)) (hsa _ _)) hs hpl) ?_
  refine ha H0 σ H1 sl _ fun v H2 F e1 i1 => ?_
  refine hb H0 σ H2 (sl.mono e1) _ fun u H3 G e2 i2 => ?_
  obtain ⟨x, vs, rfl, hx, hd⟩ := dt_tup (i1.2.ex (.of e2))
  obtain ⟨y, ws, rfl, hy, he⟩ := dt_tup i2.2
  exact ⟨x, y, vs, ws, rfl, .inr ⟨SqT.of hx, SqT.of hy, q _ H3 _ (e1.trans e2) (zipT_ok hd.length he.length) (fun H H' s ex => ⟨⟨ex _ _ s.1.1, s.1.2.ex (.of ex)⟩, ex _ _ s.2.1, s.2.2.ex (.of ex)⟩) ⟨⟨hx, hd⟩, hy, he⟩⟩⟩
/-- the name of a def, as a value -/
theorem je_def {x : Str} {f : Addr} (hm : X.mg x = some (.ref f)) (hg : Gl X x := by rfl) (hd : (x == ("__debug__" : Str)) = false := by decide) : JE X Φ (.Name x pos) δ (.v (.ref f)) := fun _ _ H1 _ _ q =>
  e_of (pe_glob (v := .ref f) hg hm rfl hd) (q _ H1 [] (Evl.Ex.refl H1) ⟨rfl, rfl⟩)
theorem je_ifv {c : Expr} {k : Bool} {r : V} (h : JT X Φ c δ k) (h1 : k = true → JE X Φ a δ (.v r)) (h2 : k = false → JE X Φ b δ (.v r)) : JE X Φ (.IfExp c a b pos) δ (.v r) := je_if h h1 h2 fun _ _ _ _ _ _ i => i
/-- the call of a local name that holds a def -/
theorem je_callLoc {S : Rl} {k i : Nat} {x : Str} {ps : List Str} {f : Addr} {fd : FuncData} {p : Pos} {ks : List Kd} {r : Kd} (hd : δ[i]? = some (some (.v (.ref f)))) (ok : FnOk X.prog X.w X.K X.mg X.base CX0 k f fd ps (spF S)) (kp : PySem.W.keepIn X.K (.ref f) = true) (bi : Binds X.K fd ps []) (hr : Room k X.A) (ha : JA X Φ (e :: es) δ ks) (hS : S ks r) (ho : r.own)
    (hN : X.N[i]? = some x := by rfl) (hv : Vis X.env.scope x := by first | exact Or.inl rfl | exact Or.inr (Or.inl rfl) | exact Or.inr (Or.inr rfl)) (hdb : (x == ("__debug__" : Str)) = false := by decide) (hcd : (x == ("__classdict__" : Str)) = false := by decide)
    (hs : NS e := by exact fun _ _ => rfl) (hs2 : NSs es := by exact fun _ _ => rfl) : JE X Φ (.Call (.Name x p) (e :: es) [] pos) δ r := fun H0 σ H1 sl Q q => by
  obtain ⟨F, fl⟩ := sl.at_
  obtain ⟨v, hsv, hi⟩ := fl.some_ i _ hd
  obtain ⟨_, rfl⟩ := hi
  refine e_of (pe_callL ok hr hN hv kp bi .nil pass0 pa_w hdb hcd (he := hs _ _) (hpl := hs2 _ _)) ⟨hsv, ?_⟩
  refine ha H0 σ H1 sl _ fun vs H2 e1 i1 => ?_
  rw [List.append_nil]
  exact ⟨ks, r, hS, ho, i1, fun v H3 F e2 i2 => q v H3 F (e1.trans e2) (i2.lift ho e1)⟩
end
/-! ### papers -/
def pqD (q : Pl × PyData) : PyData := .tuple [pD q.1, q.2]
theorem pqD_inj {x y : Pl × PyData} (h : pqD x = pqD y) : x = y := by
  injection h with h
  injection h with h1 h
  injection h with h2 _
  exact Prod.ext (pDInj (l := [x.1, y.1]) _ (by simp) _ (by simp) h1) h2
/-- a paper's pairs: places of n pumps, strictly ascending -/
structure PqOk (W : Wl) (n : Int) (L : List (Pl × PyData)) : Prop where
  pl : ∀ q ∈ L, q.1.Ok W n
  len : L.length ≤ 100000
  lt : ∀ (i : Nat) (x y : Pl × PyData), L[i]? = some x → L[i + 1]? = some y → PySem.W.dataLt (pD x.1) (pD y.1) = true
def s_are_pairs : Rl := RL (fun (x : Wl × Int × List (Pl × PyData)) => match x with | (W, n, L) => W.Ok ∧ PqOk W n L) (fun (W, n, L) => [.d (wD W), .d (.int n), .d (.tuple (L.map pqD))]) (fun _ => .d (.bool true))
def s_is_held : Rl := RL (fun (x : Wl × (Int × Int) × Int × Pl) => match x with | (W, r, n, p) => W.Ok ∧ RgOk r ∧ (0 ≤ n ∧ n ≤ 4) ∧ p.Ok W n) (fun (W, r, n, p) => [.d (wD W), .d (dD r), .d (.int n), .d (pD p)]) (fun (W, r, n, p) => .d (.bool (decide (p ∈ (fullM W r n).1))))
theorem alike_ints : ∀ xs ys : List Int, PySem.W.alikeAll (xs.map .int) (ys.map .int) = true
  | [], _ => by simp [PySem.W.alikeAll]
  | _ :: _, [] => by simp [PySem.W.alikeAll]
  | x :: xs, y :: ys => by
    show (PySem.W.alike (.int x) (.int y) && PySem.W.alikeAll (xs.map .int) (ys.map .int)) = true
    rw [alike_ints xs ys]
    rfl
theorem alike_pD (p q : Pl) : PySem.W.alike (pD p) (pD q) = true := by
  show (PySem.W.alike (.int p.lv) (.int q.lv) && (PySem.W.alikeAll (p.on.map .int) (q.on.map .int) && (PySem.W.alikeAll (p.off.map .int) (q.off.map .int) && (PySem.W.alike (.int p.ready) (.int q.ready) && PySem.W.alikeAll [] [])))) = true
  rw [alike_ints, alike_ints]
  rfl
theorem pairL_mem {L : List (Pl × PyData)} {d : PyData} (h : d ∈ pairL (L.map pqD) ((L.drop 1).map pqD)) : ∃ x y i, L[i]? = some x ∧ L[i + 1]? = some y ∧ d = .tuple [pqD x, pqD y] := by
  obtain ⟨i, hi⟩ := List.getElem?_of_mem h
  have hlt := (List.getElem?_eq_some_iff.mp hi).1
  rw [pairL_len, List.length_map, List.length_map, List.length_drop] at hlt
  have h1 : i < L.length := by omega
  have h2 : i + 1 < L.length := by omega
  have e1 : (L.map pqD)[i]? = some (pqD L[i]) := by rw [List.getElem?_map, List.getElem?_eq_getElem h1]; rfl
  have e2 : ((L.drop 1).map pqD)[i]? = some (pqD L[i + 1]) := by
    rw [List.getElem?_map, List.getElem?_drop, Nat.add_comm 1 i, List.getElem?_eq_getElem h2]
    rfl
  rw [pairL_get e1 e2] at hi
  exact ⟨L[i], L[i + 1], i, List.getElem?_eq_getElem h1, List.getElem?_eq_getElem h2, (Option.some.inj hi).symm⟩
theorem cutD_drop1 {α : Type} (e : α → PyData) (l : List α) : cutD (l.map e) (some 1) none = (l.drop 1).map e := by
  unfold cutD
  rw [HT.sIx_none, show (some (1 : Int)) = some ((1 : Nat) : Int) from rfl, HT.sIx_nat, List.map_drop, List.length_map]
  by_cases h : 1 ≤ l.length
  · rw [Nat.min_eq_left h, List.take_of_length_le (by simp)]
  · rw [Nat.min_eq_right (by omega), List.drop_of_length_le (by simp), List.drop_of_length_le (by simp; omega), List.take_nil]
section
variable {P : Program} {w : World} {K : PySem.W.Frag} {mg : Str → Option Value} {base : Heap}
-- is_held (top 61)
theorem ok_is_held {k : Nat} {f : Addr} {fd : FuncData} (T : Txt mg) (h_need_all : Has P w K mg base k "need_all" ["well", "inflows", "number", "place"] (spF s_need_all)) (h_solved : Has P w K mg base k "solved" ["well", "inflows", "number"] (spF (s_solved P w))) (F : Fun K "is_held" "is_held" (top 61) f fd) : FnOk P w K mg base CX0 (k + 1) f fd ["well", "inflows", "number", "place"] (spF s_is_held) := by
  have sc : FnScope ["well", "inflows", "number", "place"] ["well", "inflows", "number", "place"] (defScope (top 61)) := ⟨rfl, rfl, rfl, by decide +kernel, rfl, by decide +kernel, by decide +kernel⟩
  have nd : (["well", "inflows", "number", "place"] : List Str).Nodup := by decide +kernel
  refine fn_ok F sc (RL.len fun _ => rfl) (fun cdv A outer s H E ks r hr hS => ?_)
  obtain ⟨⟨W, r, n, p⟩, ⟨ok, rg, ⟨n0, n4⟩, hp⟩, rfl, rfl⟩ := hS
  refine js_cons (jp_expr (je_call h_need_all hr (ja_cons (jg_d (je_nm (i := 0) rfl rfl)) (ja_cons (jg_d (je_nm (i := 1) rfl rfl)) (ja_cons (jg_d (je_nm (i := 2) rfl rfl)) (ja_cons (jg_d (je_nm (i := 3) rfl rfl)) ja_nil)))) ⟨(W, r, n, p), ⟨ok, rg, ⟨n0, by omega⟩, hp⟩, rfl, rfl⟩ trivial) ?_)
  refine js_one (jp_ret (je_is (je_c (jc_inN (k := kP p) hr (je_is (je_nm (i := 3) rfl rfl) (kP_data p).symm) (jr_n (jr_fst (jr_new (je_call h_solved hr (ja_cons (jg_d (je_nm (i := 0) rfl rfl)) (ja_cons (jg_d (je_nm (i := 1) rfl rfl)) (ja_cons (jg_d (je_nm (i := 2) rfl rfl)) ja_nil))) ⟨(W, r, n), ⟨ok, rg, n0, n4⟩, rfl, rfl⟩ trivial)))) (.inl (kP_tup p)))) ?_) trivial rfl)
  rw [look_hD]
  by_cases h : p ∈ (fullM W r n).1
  · rw [if_pos h, decide_eq_true h]; rfl
  · rw [if_neg h, decide_eq_false h]; rfl

-- are_pairs (top 63)
theorem ok_are_pairs {k : Nat} {f : Addr} {fd : FuncData} (T : Txt mg) (h_is_place_of : Has P w K mg base k "is_place_of" ["well", "number", "thing"] (spF s_is_place_of)) (F : Fun K "are_pairs" "are_pairs" (top 63) f fd) : FnOk P w K mg base CX0 (k + 1) f fd ["well", "number", "thing"] (spF s_are_pairs) := by
  have sc : FnScope ["well", "number", "thing", "pair", "place", "more", "one", "other"] ["well", "number", "thing"] (defScope (top 63)) := ⟨rfl, rfl, rfl, by decide +kernel, rfl, by decide +kernel, by decide +kernel⟩
  have nd : (["well", "number", "thing", "pair", "place", "more", "one", "other"] : List Str).Nodup := by decide +kernel
  refine fn_ok F sc (RL.len fun _ => rfl) (fun cdv A outer s H E ks r hr hS => ?_)
  obtain ⟨⟨W, n, L⟩, ⟨ok, po⟩, rfl, rfl⟩ := hS
  have hl := po.len
  refine js_cons (jp_ifno (jt_is (jt_w (jw_or (jt_not (jt_val (je_isi (tn := "tuple") T.isinstance T.tuple (by decide +kernel) rfl (je_nm (i := 2) rfl rfl)))) fun _ => (jw_or1 (jt_not (jt_val (je_all (bs := L.map fun _ => true) T.all (jr_new (je_isL (je_lcT (l := L) (e' := pqD) (f := fun _ => true) (g := fun _ => .bool true) (fun _ _ _ _ h => pqD_inj h) (blkOk_by (own := [("pair", 3)]) rfl) nd (jix (ji_tup (je_nm (i := 2) rfl rfl)))
    (fun q hq => ⟨[3], _, by decide, fun s H C cl fp => ⟨(tg_name (i := 3) nd), jts_nil, fun _ => je_is (je_and (je_isi (tn := "tuple") T.isinstance T.tuple (by decide +kernel) rfl (je_nm (i := 3) rfl rfl)) fun _ => (je_one (je_c (jc_eqI (je_lenT T.len (je_nm (i := 3) rfl rfl)) je_int)))) rfl⟩⟩) (by omega)) (by rw [filtT, List.map_map]; rfl))))))))) (by simp)) ?_)
  refine js_cons (jp_ifno (jt_is (jt_not (jt_val (je_all (bs := L.map fun _ => true) T.all (jr_new (je_isL (je_lcT (l := L) (e' := pqD) (f := fun _ => true) (g := fun _ => .bool true) (fun _ _ _ _ h => pqD_inj h) (blkOk_by (own := [("place", 4), ("more", 5)]) rfl) nd (jix (ji_tup (je_nm (i := 2) rfl rfl)))
    (fun q hq => ⟨[4, 5], _, by decide, fun s' H' C cl fp => ⟨(tg_tup (nm_cons (i := 4) nd (nm_cons (i := 5) nd nm_nil)) rfl), jts_nil, fun _ => (je_call h_is_place_of hr (ja_cons (jg_d (je_nm (i := 0) rfl rfl)) (ja_cons (jg_d (je_nm (i := 1) rfl rfl)) (ja_cons (jg_d (je_nm (i := 4) rfl rfl)) ja_nil))) ⟨(W, n, q.1), ⟨ok, po.pl q hq⟩, rfl, rfl⟩ trivial)⟩⟩) (by omega)) (by rw [filtT, List.map_map]; rfl)))))) (by simp)) ?_)
  refine js_one (jp_ret (je_is (je_all (bs := (pairL (L.map pqD) ((L.drop 1).map pqD)).map fun _ => true) T.all (jr_new (je_isL (je_lcT (l := pairL (L.map pqD) ((L.drop 1).map pqD)) (e' := id) (f := fun _ => true) (g := fun _ => .bool true) idInj (blkOk_by (own := [("one", 6), ("other", 7)]) rfl) nd ?_
    (fun d hd => ?_) (by rw [pairL_len, List.length_map]; omega)) (by rw [filtT, List.map_map]; rfl)))) (by simp)) trivial rfl)
  · rw [List.map_id]
    exact ji_zipT T.zip (je_nm (i := 2) rfl rfl) (je_is (je_slT (je_nm (i := 2) rfl rfl) (.some je_int) .none) (by rw [cutD_drop1]))
  · obtain ⟨x, y, i, hx, hy, rfl⟩ := pairL_mem hd
    exact ⟨[6, 7], [pqD x, pqD y], by decide, fun s' H' C cl fp => ⟨(tg_tup (nm_cons (i := 6) nd (nm_cons (i := 7) nd nm_nil)) rfl), jts_nil, fun _ => je_is (je_c (jc_ltD hr (jdp_d (je_ix (je_nm (i := 6) rfl rfl) je_int rfl)) (jdp_d (je_ix (je_nm (i := 7) rfl rfl) je_int rfl)) (alike_pD x.1 y.1) (by intro z; cases z) (Nat.le_trans (tm_pD x.1).dep (by decide)))) (congrArg PyData.bool (po.lt i x y hx hy))⟩⟩

end
end Pq

namespace Pq
open PySem PySem.Spec L2
open PyProof.Rows hiding St
open Evl (Ex)

/-! ### name = {k: v for ..} -/
section
variable {X : Cx} {Φ : Lk} {δ : Slots} {E : En} {e a b c : Expr} {es : List Expr} {pos : Pos} {st : Stmt} {j : Nat}
theorem ps_setDcN {i : Nat} {y : Str} {py : Pos} {kx vx tg iter : Expr} {ifs : List Expr} {scope : Scope} {own : List (Str × Nat)} {pos spos : Pos} {wi : TI} {g : TG} {tt : TT} {tk tv : TE} (hu : X.A.units + 9 < cLine) (hc : X.calm = true) (hN : X.N.Nodup) (hy : X.N[i]? = some y) (hyl : X.env.scope.names.lookup y = some .local)
    (hsw : swapsWith (.DictComp kx vx [⟨tg, iter, ifs, 0⟩] scope pos) (some (.Name y py)) spos.line X.env = pure true) (hi : PI X tg iter wi) (ok : BlkOk X.N X.env.scope scope own)
    (hg : ∀ (s : Shared) (H : Hp) (C : Addr) (cl : List (Str × Addr)) (fp : List Addr), PG (X.blk s H scope (compEnvC scope cl C X.env) fp) tg g) (ht : ∀ (s : Shared) (H : Hp) (C : Addr) (cl : List (Str × Addr)) (fp : List Addr), PTs (X.blk s H scope (compEnvC scope cl C X.env) fp) ifs tt)
    (hk : ∀ (s : Shared) (H : Hp) (C : Addr) (cl : List (Str × Addr)) (fp : List Addr), PE (X.blk s H scope (compEnvC scope cl C X.env) fp) kx tk) (he : ∀ (s : Shared) (H : Hp) (C : Addr) (cl : List (Str × Addr)) (fp : List Addr), PE (X.blk s H scope (compEnvC scope cl C X.env) fp) vx tv) (hs : ∀ x, foldedSetIterable iter X.env x = pure x) :
    PS X (.Assign [.Name y py] (.DictComp kx vx [⟨tg, iter, ifs, 0⟩] scope pos) spos) (tAsg (tDcN X.prog X.w wi g tt tk tv (own.map (·.2))) (gName i)) := by
  refine ⟨fun pins s σ H D I hw => ?_⟩
  rw [exec_Assign_Name_used _ _ _ _ hsw]
  refine wpAny_bind (wpAny_standAt (wpAny_bind ?_))
  show wpAny _ X.A (do let _ ← comprehension (.DictComp kx vx [⟨tg, iter, ifs, 0⟩] scope pos) scope X.env (firstIterPos [⟨tg, iter, ifs, 0⟩] pos) newDict false (eval iter X.env) (some (assign (.Name y py) X.env))) _ _ s
  have hw' : tDcN X.prog X.w wi g tt tk tv (own.map (·.2)) σ H (fun x G => gName i x σ G D.nx) := hw
  refine wpAny_bind (thn (dcN_core (Qf := fun _ s2 => SP X pins D .next s2) hu hc hN I hi ok hg ht hk he hs hw' fun L C s2 m G J q hn fC => ?_) fun _ s2 hq => wpAny_pure (wpAny_pure hq))
  show wpAny _ _ (assign (.Name y py) X.env (.ref L)) _ _ _
  refine wpAny_assign_Name (store_ok2 (v := V.ref L) J hN hy (.inl hyl) rfl (fun s3 J3 ⟨b, sb, hb⟩ => ?_) (.inr hyl))
  obtain ⟨k0, k1, k2, k3, k4, k5⟩ := fC
  have ne : C ≠ b := by
    rcases hb with z | z
    · rw [z]; exact k1
    · exact fun e => k4 y b z e.symm
  exact ⟨m, hn.sameBut sb ne, fun h4 sb4 => ⟨_, G, J3.turned (t' := s3.toks) (fun c o hc' e => (sb4.2 c hc').trans e) k0 k1 k3 k4 k5, q⟩⟩
theorem jp_setDc {i : Nat} {y : Str} {py : Pos} {spos : Pos} {kx vx tg iter : Expr} {scope : Scope} {own : List (Str × Nat)} {α : Type} {l : List α} {e' : α → PyData} {kf : α → NestedKey} {zf : α → PyData} (hr : Room j X.A) (hk : ∀ x ∈ l, TupKey (kf x)) (ok : BlkOk X.N X.env.scope scope own) (hN : X.N.Nodup) (hi : JIx X Φ tg iter δ (l.map e'))
    (ht : ∀ x ∈ l, DcTurn X scope (own.map (·.2)) Φ δ tg kx vx (e' x) (kf x) (zf x)) (hz : l.length ≤ 1000000) (hn : E.nx (δ.set i (some (.o (SK.n X.prog X.w (dcOut kf zf l)))))) (hsw : swapsWith (.DictComp kx vx [⟨tg, iter, [], 0⟩] scope pos) (some (.Name y py)) spos.line X.env = pure true := by rfl)
    (hy : X.N[i]? = some y := by rfl) (hyl : X.env.scope.names.lookup y = some .local := by rfl) (hc : X.calm = true := by rfl) (hs : ∀ x, foldedSetIterable iter X.env x = pure x := by intro _; rfl) :
    JP X Φ (.Assign [.Name y py] (.DictComp kx vx [⟨tg, iter, [], 0⟩] scope pos) spos) δ E := fun H0 σ H1 D sl g' =>
  s_of (ps_setDcN (Room.u9 hr) hc hN hy hyl hsw pi_w ok (fun s H C cl fp => ⟨fun pins s' σ' H' v u Q' I r h => h s H C cl fp pins s' u I r⟩) (fun s H C cl fp => pts_nil) (fun s H C cl fp => ⟨fun pins s' σ' H' Q' I h => h s H C cl fp pins s' I⟩) (fun s H C cl fp => ⟨fun pins s' σ' H' Q' I h => h s H C cl fp pins s' I⟩) hs)
    (dc_read hk hi ht hz sl fun v H2 F e1 i1 => g'.nx _ _ _ (sl.set_new e1 (i1.lift (k := .o _) trivial sl.ex) i1.fresh) hn)
end
/-! ### papers: the plan, the ranks -/
def plD (q : Pl × (Int × Int)) : PyData := .tuple [pD q.1, dD q.2]
def prD (q : Pl × Int) : PyData := .tuple [pD q.1, .int q.2]
theorem dD_inj {x y : Int × Int} (h : dD x = dD y) : x = y := dDInj (l := [x, y]) _ (by simp) _ (by simp) h
theorem plD_inj {x y : Pl × (Int × Int)} (h : plD x = plD y) : x = y := by
  injection h with h
  injection h with h1 h
  injection h with h2 _
  exact Prod.ext (pDInj (l := [x.1, y.1]) _ (by simp) _ (by simp) h1) (dD_inj h2)
theorem prD_inj {x y : Pl × Int} (h : prD x = prD y) : x = y := by
  injection h with h
  injection h with h1 h
  injection h with h2 _
  injection h2 with h2
  exact Prod.ext (pDInj (l := [x.1, y.1]) _ (by simp) _ (by simp) h1) h2
structure PlanOk (W : Wl) (r : Int × Int) (n : Int) (p : Pl) (L : List (Pl × (Int × Int))) : Prop where
  pq : PqOk W n (L.map fun q => (q.1, dD q.2))
  nd : (L.map (·.1)).Nodup
  mem : p ∈ L.map (·.1)
  deed : ∀ q ∈ L, q.2 ∈ deedsM W q.1
  keep : ∀ q ∈ L, keepsP W r (L.map (·.1)) q.1 q.2 = true
structure RankOk (W : Wl) (r : Int × Int) (n : Int) (p : Pl) (m : List (Pl × Int)) : Prop where
  pq : PqOk W n (m.map fun q => (q.1, .int q.2))
  nd : (m.map (·.1)).Nodup
  mem : p ∈ m.map (·.1)
  pos : ∀ q ∈ m, 1 ≤ q.2
  lose : ∀ q ∈ m, ∀ d ∈ deedsM W q.1, losesM W r q.1 d m = true
def s_is_plan : Rl := RL (fun (x : Wl × (Int × Int) × Int × Pl × List (Pl × (Int × Int))) => match x with | (W, r, n, p, L) => W.Ok ∧ RgOk r ∧ PlanOk W r n p L) (fun (W, r, n, p, L) => [.d (wD W), .d (dD r), .d (.int n), .d (pD p), .d (.tuple (L.map plD))]) (fun _ => .d (.bool true))
def s_are_ranks : Rl := RL (fun (x : Wl × (Int × Int) × Int × Pl × List (Pl × Int)) => match x with | (W, r, n, p, m) => W.Ok ∧ RgOk r ∧ RankOk W r n p m) (fun (W, r, n, p, m) => [.d (wD W), .d (dD r), .d (.int n), .d (pD p), .d (.tuple (m.map prD))]) (fun _ => .d (.bool true))
def ccHeld : Rl := RL (fun (x : Wl × (Int × Int) × Int × Pl × List (Pl × (Int × Int))) => match x with | (W, r, n, p, L) => W.Ok ∧ RgOk r ∧ (0 ≤ n ∧ n ≤ 4) ∧ p.Ok W n ∧ PlanOk W r n p L) (fun (W, r, n, p, L) => [.d (wD W), .d (dD r), .d (.int n), .d (pD p), .d (.tuple [.str "held", .tuple (L.map plD)])]) (fun _ => .d (.str "held"))
def ccLost : Rl := RL (fun (x : Wl × (Int × Int) × Int × Pl × List (Pl × Int)) => match x with | (W, r, n, p, m) => W.Ok ∧ RgOk r ∧ (0 ≤ n ∧ n ≤ 4) ∧ p.Ok W n ∧ RankOk W r n p m) (fun (W, r, n, p, m) => [.d (wD W), .d (dD r), .d (.int n), .d (pD p), .d (.tuple [.str "lost", .tuple (m.map prD)])]) (fun _ => .d (.str "lost"))
def s_check_control : Rl := fun ks r => ccHeld ks r ∨ ccLost ks r
theorem map_dc {α : Type} {l : List α} {f : α → Pl} (nd : (l.map f).Nodup) : dcOut (fun x => kP (f x)) (fun _ => PyData.bool true) l = hD (l.map f) := by
  rw [dcOut_nodup]
  · unfold hD
    rw [List.map_map]
    rfl
  · have h := nodup_map (f := kP) nd fun _ _ _ _ h => kP_inj h
    rwa [List.map_map] at h
theorem rk_dc {m : List (Pl × Int)} (nd : (m.map (·.1)).Nodup) : dcOut (fun q : Pl × Int => kP q.1) (fun q => PyData.int q.2) m = rkD m := by
  rw [dcOut_nodup]
  · rfl
  · have h := nodup_map (f := kP) nd fun _ _ _ _ h => kP_inj h
    rwa [List.map_map] at h
theorem look_mem {m : List (Pl × Int)} (nd : (m.map (·.1)).Nodup) {q : Pl × Int} (h : q ∈ m) : lookP m q.1 = some q.2 := by
  unfold lookP
  induction m with
  | nil => cases h
  | cons x t ih =>
    rw [List.map_cons, List.nodup_cons] at nd
    rw [List.find?_cons]
    rcases List.mem_cons.mp h with rfl | h
    · simp
    · have e : ¬ x.1 = q.1 := fun z => nd.1 (z ▸ List.mem_map_of_mem h)
      simp only [e, decide_false]
      exact ih nd.2 h
theorem hl_ne : ("held" : Str) ≠ "lost" := by decide +kernel
section
variable {P : Program} {w : World} {K : PySem.W.Frag} {mg : Str → Option Value} {base : Heap}
-- is_plan (top 64)
theorem ok_is_plan {k : Nat} {f : Addr} {fd : FuncData} (T : Txt mg) (h_are_pairs : Has P w K mg base k "are_pairs" ["well", "number", "thing"] (spF s_are_pairs)) (h_is_deed_of : Has P w K mg base k "is_deed_of" ["well", "place", "thing"] (spF s_is_deed_of)) (h_does_keep : Has P w K mg base k "does_keep" ["well", "inflows", "place", "deed", "known"] (spF (s_does_keep P w))) (F : Fun K "is_plan" "is_plan" (top 64) f fd) : FnOk P w K mg base CX0 (k + 1) f fd ["well", "inflows", "number", "place", "thing"] (spF s_is_plan) := by
  have sc : FnScope ["well", "inflows", "number", "place", "thing", "known", "one", "deed"] ["well", "inflows", "number", "place", "thing"] (defScope (top 64)) := ⟨rfl, rfl, rfl, by decide +kernel, rfl, by decide +kernel, by decide +kernel⟩
  have nd : (["well", "inflows", "number", "place", "thing", "known", "one", "deed"] : List Str).Nodup := by decide +kernel
  refine fn_ok F sc (RL.len fun _ => rfl) (fun cdv A outer s H E ks r hr hS => ?_)
  obtain ⟨⟨W, r, n, p, L⟩, ⟨ok, rg, po⟩, rfl, rfl⟩ := hS
  have e1 : L.map plD = (L.map fun q => (q.1, dD q.2)).map pqD := by rw [List.map_map]; rfl
  have plq : ∀ q ∈ L, q.1.Ok W n := fun q hq => po.pq.pl (q.1, dD q.2) (List.mem_map_of_mem (f := fun q => (q.1, dD q.2)) hq)
  have hl : L.length ≤ 100000 := by have := po.pq.len; rwa [List.length_map] at this
  refine js_cons (jp_ifno (jt_is (jt_not (jt_val (je_call h_are_pairs hr (ja_cons (jg_d (je_nm (i := 0) rfl rfl)) (ja_cons (jg_d (je_nm (i := 2) rfl rfl)) (ja_cons (jg_d (je_nm (i := 4) rfl rfl)) ja_nil))) ⟨(W, n, L.map fun q => (q.1, dD q.2)), ⟨ok, po.pq⟩, by rw [e1], rfl⟩ trivial))) rfl) ?_)
  refine js_cons (jp_setDc (i := 5) hr (l := L) (e' := plD) (kf := fun q => kP q.1) (zf := fun _ => .bool true) (fun q _ => kP_tup q.1) (blkOk_by (own := [("one", 6), ("deed", 7)]) rfl) nd (jix (ji_tup (je_nm (i := 4) rfl rfl)))
    (fun q hq => ⟨[6, 7], _, by decide, fun s H C cl fp => ⟨tg_tup (nm_cons (i := 6) nd (nm_cons (i := 7) nd nm_nil)) rfl, je_is (je_nm (i := 6) rfl rfl) (kP_data q.1).symm, je_bl⟩⟩) (by omega) ?_)
  rw [map_dc po.nd]
  refine js_cons (jp_ifno (jt_is (jt_c (jc_notInN (k := kP p) hr (je_is (je_nm (i := 3) rfl rfl) (kP_data p).symm) (jr_n (jr_vo (i := 5) rfl)) (.inl (kP_tup p)))) (by rw [look_hD, if_pos po.mem]; rfl)) ?_)
  refine js_cons (jp_for (ji_tup (je_nm (i := 4) rfl rfl)) (fun i δ => ∃ x y, δ = [some (.d (wD W)), some (.d (dD r)), some (.d (.int n)), some (.d (pD p)), some (.d (.tuple (L.map plD))), some (.o (SK.n P w (hD (L.map (·.1))))), x, y]) ⟨none, none, rfl⟩ (fun Φ hΦ i d δ1 hd hI => ?_) (fun δ1 hI => ?_))
  · obtain ⟨x, y, rfl⟩ := hI
    obtain ⟨q, hq, rfl⟩ := get_map hd
    have hq := List.mem_of_getElem? hq
    refine ⟨[6, 7], [pD q.1, dD q.2], tg_tup (nm_cons (i := 6) nd (nm_cons (i := 7) nd nm_nil)) rfl, ?_⟩
    have dk := Pl.Ok.dp ok (plq q hq)
    refine js_cons (jp_ifno (jt_is (jt_not (jt_val (je_call h_is_deed_of hr (ja_cons (jg_d (je_nm (i := 0) rfl rfl)) (ja_cons (jg_d (je_nm (i := 6) rfl rfl)) (ja_cons (jg_d (je_nm (i := 7) rfl rfl)) ja_nil))) ⟨(W, q.1, q.2), ⟨dk.1, dk.2.1, dk.2.2.1, dk.2.2.2.1, dk.2.2.2.2, po.deed q hq⟩, rfl, rfl⟩ trivial))) rfl) ?_)
    refine js_one (jp_ifno (jt_is (jt_not (jt_val (je_call h_does_keep hr (ja_cons (jg_d (je_nm (i := 0) rfl rfl)) (ja_cons (jg_d (je_nm (i := 1) rfl rfl)) (ja_cons (jg_d (je_nm (i := 6) rfl rfl)) (ja_cons (jg_d (je_nm (i := 7) rfl rfl)) (ja_cons (jg_r (jr_n (jr_vo (i := 5) rfl))) ja_nil))))) ⟨(W, r, q.1, q.2, hD (L.map (·.1))), ⟨ok, rg, (plq q hq).sh⟩, rfl, rfl⟩ trivial))) (by rw [keepsM_P, po.keep q hq]; rfl)) ⟨_, _, rfl⟩)
  obtain ⟨x, y, rfl⟩ := hI
  exact js_one (jp_ret (je_is je_bl rfl) trivial rfl)

-- are_ranks (top 66)
theorem ok_are_ranks {k : Nat} {f : Addr} {fd : FuncData} (T : Txt mg) (h_is_whole : Has P w K mg base k "is_whole" ["thing", "least", "most"] (spF s_is_whole)) (h_are_pairs : Has P w K mg base k "are_pairs" ["well", "number", "thing"] (spF s_are_pairs)) (h_deeds_of : Has P w K mg base k "deeds_of" ["well", "place"] (spF s_deeds_of)) (h_does_lose : Has P w K mg base k "does_lose" ["well", "inflows", "place", "deed", "ranks"] (spF (s_does_lose P w))) (F : Fun K "are_ranks" "are_ranks" (top 66) f fd) : FnOk P w K mg base CX0 (k + 1) f fd ["well", "inflows", "number", "place", "thing"] (spF s_are_ranks) := by
  have sc : FnScope ["well", "inflows", "number", "place", "thing", "ranks", "one", "rank", "deed"] ["well", "inflows", "number", "place", "thing"] (defScope (top 66)) := ⟨rfl, rfl, rfl, by decide +kernel, rfl, by decide +kernel, by decide +kernel⟩
  have nd : (["well", "inflows", "number", "place", "thing", "ranks", "one", "rank", "deed"] : List Str).Nodup := by decide +kernel
  refine fn_ok F sc (RL.len fun _ => rfl) (fun cdv A outer s H E ks r hr hS => ?_)
  obtain ⟨⟨W, r, n, p, m⟩, ⟨ok, rg, po⟩, rfl, rfl⟩ := hS
  have e1 : m.map prD = (m.map fun q => (q.1, PyData.int q.2)).map pqD := by rw [List.map_map]; rfl
  have plq : ∀ q ∈ m, q.1.Ok W n := fun q hq => po.pq.pl (q.1, .int q.2) (List.mem_map_of_mem (f := fun q => (q.1, PyData.int q.2)) hq)
  have hl : m.length ≤ 100000 := by have := po.pq.len; rwa [List.length_map] at this
  refine js_cons (jp_ifno (jt_is (jt_w (jw_or (jt_not (jt_val (je_call h_are_pairs hr (ja_cons (jg_d (je_nm (i := 0) rfl rfl)) (ja_cons (jg_d (je_nm (i := 2) rfl rfl)) (ja_cons (jg_d (je_nm (i := 4) rfl rfl)) ja_nil))) ⟨(W, n, m.map fun q => (q.1, .int q.2)), ⟨ok, po.pq⟩, by rw [e1], rfl⟩ trivial))) fun _ => (jw_or1 (jt_not (jt_val (je_all (bs := m.map fun _ => true) T.all (jr_new (je_isL (je_lcT (l := m) (e' := prD) (f := fun _ => true) (g := fun _ => .bool true) (fun _ _ _ _ h => prD_inj h) (blkOk_by (own := [("one", 6), ("rank", 7)]) rfl) nd (jix (ji_tup (je_nm (i := 4) rfl rfl)))
    (fun q hq => ⟨[6, 7], _, by decide, fun s H C cl fp => ⟨tg_tup (nm_cons (i := 6) nd (nm_cons (i := 7) nd nm_nil)) rfl, jts_nil, fun _ => (je_call h_is_whole hr (ja_cons (jg_d (je_nm (i := 7) rfl rfl)) (ja_cons (jg_d je_int) (ja_cons (jg_d je_non) ja_nil))) (whN (by have := po.pos q hq; omega)) trivial)⟩⟩) (by omega)) (by rw [filtT, List.map_map]; rfl))))))))) (by simp)) ?_)
  refine js_cons (jp_set (i := 5) (je_dcT hr (l := m) (e' := prD) (kf := fun q => kP q.1) (zf := fun q => .int q.2) (fun q _ => kP_tup q.1) (blkOk_by (own := [("one", 6), ("rank", 7)]) rfl) nd (jix (ji_tup (je_nm (i := 4) rfl rfl)))
    (fun q hq => ⟨[6, 7], _, by decide, fun s H C cl fp => ⟨tg_tup (nm_cons (i := 6) nd (nm_cons (i := 7) nd nm_nil)) rfl, je_is (je_nm (i := 6) rfl rfl) (kP_data q.1).symm, je_nm (i := 7) rfl rfl⟩⟩) (by omega)) trivial ?_ nd)
  rw [rk_dc po.nd]
  refine js_cons (jp_ifno (jt_is (jt_c (jc_notInN (k := kP p) hr (je_is (je_nm (i := 3) rfl rfl) (kP_data p).symm) (jr_n (jr_vo (i := 5) rfl)) (.inl (kP_tup p)))) (by
    obtain ⟨q, hq, e⟩ := List.mem_map.mp po.mem
    rw [look_rk, ← e, look_mem po.nd hq]
    rfl)) ?_)
  refine js_cons (jp_forN (i0 := 5) (kvs := rkD m) rfl (fun ad i δ => ∃ x y z, δ = [some (.d (wD W)), some (.d (dD r)), some (.d (.int n)), some (.d (pD p)), some (.d (.tuple (m.map prD))), some (.v (.ref ad)), x, y, z])
    (fun ad i δ1 ⟨x, y, z, e⟩ => by rw [e]; rfl) (fun ad => ⟨none, none, none, rfl⟩) (fun ad o raw Φ' hΦ i kv δ1 hq hI => ?_) (fun ad δ1 hI => ?_))
  · obtain ⟨x, y, z, rfl⟩ := hI
    obtain ⟨q, hgt, rfl⟩ : ∃ q, m[i]? = some q ∧ kv = (kP q.1, .int q.2) := by
      unfold rkD at hq
      rw [List.getElem?_map] at hq
      cases e : m[i]? with
      | none => rw [e] at hq; cases hq
      | some q => rw [e] at hq; cases hq; exact ⟨q, rfl, rfl⟩
    subst hΦ
    have hq := List.mem_of_getElem? hgt
    have dk := Pl.Ok.dp ok (plq q hq)
    rw [show (kP q.1, PyData.int q.2).1.data = pD q.1 from kP_data q.1]
    refine ⟨[6], _, tg_name (i := 6) nd, ?_⟩
    refine js_one (jp_ifno (jt_is (jt_not (jt_val (je_all (bs := (deedsM W q.1).map fun _ => true) T.all (jr_new (je_isL (je_lcT (l := deedsM W q.1) (e' := dD) (f := fun _ => true) (g := fun d => .bool true) dDInj (blkOk_by (own := [("deed", 8)]) rfl) nd
      (jix (ji_new (je_call h_deeds_of hr (ja_cons (jg_d (je_nm (i := 0) rfl rfl)) (ja_cons (jg_d (je_nm (i := 6) rfl rfl)) ja_nil)) ⟨(W, q.1), dk, rfl, rfl⟩ trivial)))
      (fun d hd => ⟨[8], _, by decide, fun s H C cl fp => ⟨tg_name (i := 8) nd, jts_nil, fun _ => je_is (je_call h_does_lose hr (ja_cons (jg_d (je_nm (i := 0) rfl rfl)) (ja_cons (jg_d (je_nm (i := 1) rfl rfl)) (ja_cons (jg_d (je_nm (i := 6) rfl rfl)) (ja_cons (jg_d (je_nm (i := 8) rfl rfl)) (ja_cons (jg_r (jr_lk (i := 5) rfl List.mem_cons_self)) ja_nil))))) ⟨(W, r, q.1, d, m), ⟨ok, rg, (plq q hq).sh, _, look_mem po.nd hq⟩, rfl, rfl⟩ trivial) (congrArg PyData.bool (po.lose q hq d hd))⟩⟩)
      (by have := deedsM_len ok dk.2.2.2.2; omega)) (by rw [filtT, List.map_map]; rfl)))))) (by simp)) ⟨_, _, _, rfl⟩)
  obtain ⟨x, y, z, rfl⟩ := hI
  exact js_one (jp_ret (je_is je_bl rfl) trivial rfl)

-- check_control (top 67)
theorem ok_check_control {k : Nat} {f : Addr} {fd : FuncData} (T : Txt mg) (h_need_all : Has P w K mg base k "need_all" ["well", "inflows", "number", "place"] (spF s_need_all)) (h_is_plan : Has P w K mg base k "is_plan" ["well", "inflows", "number", "place", "thing"] (spF s_is_plan)) (h_are_ranks : Has P w K mg base k "are_ranks" ["well", "inflows", "number", "place", "thing"] (spF s_are_ranks)) (F : Fun K "check_control" "check_control" (top 67) f fd) : FnOk P w K mg base CX0 (k + 1) f fd ["well", "inflows", "number", "place", "paper"] (spF s_check_control) := by
  have sc : FnScope ["well", "inflows", "number", "place", "paper", "is_good"] ["well", "inflows", "number", "place", "paper"] (defScope (top 67)) := ⟨rfl, rfl, rfl, by decide +kernel, rfl, by decide +kernel, by decide +kernel⟩
  have nd : (["well", "inflows", "number", "place", "paper", "is_good"] : List Str).Nodup := by decide +kernel
  refine fn_ok F sc (fun ks r h => by rcases h with h | h <;> exact RL.len (fun _ => rfl) _ _ h) (fun cdv A outer s H E ks r hr hS => ?_)
  rcases hS with hS | hS
  · obtain ⟨⟨W, r, n, p, L⟩, ⟨ok, rg, ⟨n0, n4⟩, hp, po⟩, rfl, rfl⟩ := hS
    refine js_cons (jp_expr (je_call h_need_all hr (ja_cons (jg_d (je_nm (i := 0) rfl rfl)) (ja_cons (jg_d (je_nm (i := 1) rfl rfl)) (ja_cons (jg_d (je_nm (i := 2) rfl rfl)) (ja_cons (jg_d (je_nm (i := 3) rfl rfl)) ja_nil)))) ⟨(W, r, n, p), ⟨ok, rg, ⟨n0, by omega⟩, hp⟩, rfl, rfl⟩ trivial) ?_)
    refine js_cons (jp_ifno (jt_is (jt_w (jw_or (jt_not (jt_val (je_isi (tn := "tuple") T.isinstance T.tuple (by decide +kernel) rfl (je_nm (i := 4) rfl rfl)))) fun _ => (jw_or (jt_c (jc_neI (je_lenT T.len (je_nm (i := 4) rfl rfl)) je_int)) fun _ => (jw_or1 (jt_not (jt_val (je_isi (tn := "str") T.isinstance T.str (by decide +kernel) rfl (je_ix (je_nm (i := 4) rfl rfl) je_int rfl)))))))) rfl) ?_)
    refine js_cons (jp_ifno (jt_is (jt_c (jc_notInT hr (jdp_d (je_ix (je_nm (i := 4) rfl rfl) je_int rfl)) (jdp_d (je_tup (jds_cons (je_gs T.HELD) (jds_cons (je_gs T.LOST) jds_nil)) (hz := by simp))) (by decide +kernel) (by decide +kernel))) (by decide +kernel)) ?_)
    obtain ⟨f1, fd1, ok1, m1, kp1, bi1⟩ := h_is_plan.out
    refine js_cons (jp_set (i := 5) (je_ifv (k := true) (jt_is (jt_c (jc_eqS (je_ix (je_nm (i := 4) rfl rfl) je_int rfl) (je_gs T.HELD))) (by decide +kernel)) (fun h => je_def m1) (fun h => nomatch h)) trivial ?_ nd)
    refine js_cons (jp_ifno (jt_is (jt_not (jt_val (je_callLoc (i := 5) rfl ok1 kp1 bi1 hr (ja_cons (jg_d (je_nm (i := 0) rfl rfl)) (ja_cons (jg_d (je_nm (i := 1) rfl rfl)) (ja_cons (jg_d (je_nm (i := 2) rfl rfl)) (ja_cons (jg_d (je_nm (i := 3) rfl rfl)) (ja_cons (jg_d (je_ix (je_nm (i := 4) rfl rfl) je_int rfl)) ja_nil))))) ⟨(W, r, n, p, L), ⟨ok, rg, po⟩, rfl, rfl⟩ trivial))) rfl) ?_)
    exact js_one (jp_ret (je_is (je_ix (je_nm (i := 4) rfl rfl) je_int rfl) rfl) trivial rfl)
  · obtain ⟨⟨W, r, n, p, m⟩, ⟨ok, rg, ⟨n0, n4⟩, hp, po⟩, rfl, rfl⟩ := hS
    refine js_cons (jp_expr (je_call h_need_all hr (ja_cons (jg_d (je_nm (i := 0) rfl rfl)) (ja_cons (jg_d (je_nm (i := 1) rfl rfl)) (ja_cons (jg_d (je_nm (i := 2) rfl rfl)) (ja_cons (jg_d (je_nm (i := 3) rfl rfl)) ja_nil)))) ⟨(W, r, n, p), ⟨ok, rg, ⟨n0, by omega⟩, hp⟩, rfl, rfl⟩ trivial) ?_)
    refine js_cons (jp_ifno (jt_is (jt_w (jw_or (jt_not (jt_val (je_isi (tn := "tuple") T.isinstance T.tuple (by decide +kernel) rfl (je_nm (i := 4) rfl rfl)))) fun _ => (jw_or (jt_c (jc_neI (je_lenT T.len (je_nm (i := 4) rfl rfl)) je_int)) fun _ => (jw_or1 (jt_not (jt_val (je_isi (tn := "str") T.isinstance T.str (by decide +kernel) rfl (je_ix (je_nm (i := 4) rfl rfl) je_int rfl)))))))) rfl) ?_)
    refine js_cons (jp_ifno (jt_is (jt_c (jc_notInT hr (jdp_d (je_ix (je_nm (i := 4) rfl rfl) je_int rfl)) (jdp_d (je_tup (jds_cons (je_gs T.HELD) (jds_cons (je_gs T.LOST) jds_nil)) (hz := by simp))) (by decide +kernel) (by decide +kernel))) (by decide +kernel)) ?_)
    obtain ⟨f1, fd1, ok1, m1, kp1, bi1⟩ := h_are_ranks.out
    refine js_cons (jp_set (i := 5) (je_ifv (k := false) (jt_is (jt_c (jc_eqS (je_ix (je_nm (i := 4) rfl rfl) je_int rfl) (je_gs T.HELD))) (by decide +kernel)) (fun h => nomatch h) (fun h => je_def m1)) trivial ?_ nd)
    refine js_cons (jp_ifno (jt_is (jt_not (jt_val (je_callLoc (i := 5) rfl ok1 kp1 bi1 hr (ja_cons (jg_d (je_nm (i := 0) rfl rfl)) (ja_cons (jg_d (je_nm (i := 1) rfl rfl)) (ja_cons (jg_d (je_nm (i := 2) rfl rfl)) (ja_cons (jg_d (je_nm (i := 3) rfl rfl)) (ja_cons (jg_d (je_ix (je_nm (i := 4) rfl rfl) je_int rfl)) ja_nil))))) ⟨(W, r, n, p, m), ⟨ok, rg, po⟩, rfl, rfl⟩ trivial))) rfl) ?_)
    exact js_one (jp_ret (je_is (je_ix (je_nm (i := 4) rfl rfl) je_int rfl) rfl) trivial rfl)

end
end Pq

namespace Pq
open PySem PySem.Spec L2
open PyProof.Rows hiding St
open Evl (Ex)

/-! ### the paper -/
def sortPl (l : List Pl) : List Pl := l.mergeSort fun a b => PySem.W.dataLe false id (pD a) (pD b)
def sortPr (l : List (Pl × Int)) : List (Pl × Int) := l.mergeSort fun a b => PySem.W.dataLe false id (prD a) (prD b)
theorem sortPl_map (l : List Pl) : sortD (l.map pD) = (sortPl l).map pD := by
  unfold sortPl sortD
  exact (List.map_mergeSort (f := pD) (s := PySem.W.dataLe false id) fun a _ b _ => rfl).symm
theorem sortPr_map (l : List (Pl × Int)) : sortD (l.map prD) = (sortPr l).map prD := by
  unfold sortPr sortD
  exact (List.map_mergeSort (f := prD) (s := PySem.W.dataLe false id) fun a _ b _ => rfl).symm
theorem mem_sortPl {l : List Pl} {p : Pl} : p ∈ sortPl l ↔ p ∈ l := List.mem_mergeSort
theorem mem_sortPr {l : List (Pl × Int)} {p : Pl × Int} : p ∈ sortPr l ↔ p ∈ l := List.mem_mergeSort
theorem alike_prD (x y : Pl × Int) : PySem.W.alike (prD x) (prD y) = true := by
  show (PySem.W.alike (pD x.1) (pD y.1) && (PySem.W.alike (.int x.2) (.int y.2) && PySem.W.alikeAll [] [])) = true
  rw [alike_pD]
  rfl
theorem allPl (l : List Pl) : PySem.W.AllAlike (l.map pD) := fun d hd e he => by
  obtain ⟨p, _, rfl⟩ := List.mem_map.mp hd
  obtain ⟨q, _, rfl⟩ := List.mem_map.mp he
  exact alike_pD p q
theorem allPr (l : List (Pl × Int)) : PySem.W.AllAlike (l.map prD) := fun d hd e he => by
  obtain ⟨p, _, rfl⟩ := List.mem_map.mp hd
  obtain ⟨q, _, rfl⟩ := List.mem_map.mp he
  exact alike_prD p q
theorem sblPl (l : List Pl) : PySem.W.Sortable (l.map pD) := .inl fun d hd => by
  obtain ⟨p, _, rfl⟩ := List.mem_map.mp hd
  exact ⟨_, _, rfl⟩
theorem sblPr (l : List (Pl × Int)) : PySem.W.Sortable (l.map prD) := .inl fun d hd => by
  obtain ⟨p, _, rfl⟩ := List.mem_map.mp hd
  exact ⟨_, _, rfl⟩
theorem tm_prD (q : Pl × Int) : Tm 3 (prD q) := Tm.tup fun x hx => by
  simp only [List.mem_cons, List.not_mem_nil, or_false] at hx
  rcases hx with rfl | rfl
  · exact tm_pD q.1
  · exact Tm.int _
theorem dpPl (l : List Pl) : ∀ d ∈ l.map pD, d.depth ≤ 60 := fun d hd => by
  obtain ⟨p, _, rfl⟩ := List.mem_map.mp hd
  exact Nat.le_trans (tm_pD p).dep (by decide)
theorem dpPr (l : List (Pl × Int)) : ∀ d ∈ l.map prD, d.depth ≤ 60 := fun d hd => by
  obtain ⟨p, _, rfl⟩ := List.mem_map.mp hd
  exact Nat.le_trans (tm_prD p).dep (by decide)
theorem hD_keys (held : List Pl) : (hD held).map (fun q => q.1.data) = held.map pD := by
  unfold hD
  rw [List.map_map]
  exact List.map_congr_left fun p _ => kP_data p
theorem rk_items (m : List (Pl × Int)) : (rkD m).map (fun p => PyData.tuple [p.1.data, p.2]) = m.map prD := by
  unfold rkD
  rw [List.map_map]
  refine List.map_congr_left fun p _ => ?_
  show PyData.tuple [(kP p.1).data, .int p.2] = prD p
  rw [kP_data]
  rfl
/-- no more goes -/
theorem gameM_fix (W : Wl) (r : Int × Int) : ∀ (k : Nat) (held : List Pl) (ranks : List (Pl × Int)) (rank : Int), held.length ≤ k → goneM W r (gameM W r held ranks rank).1 = []
  | k, held, ranks, rank, hk => by
    by_cases h : goneM W r held = []
    · rw [gameM_stop h]
      exact h
    · rw [gameM_go h]
      have := stay_lt h
      cases k with
      | zero => omega
      | succ k => exact gameM_fix W r k _ _ _ (by omega)
theorem gameM_inv {W : Wl} {r : Int × Int} {n : Int} : ∀ (k : Nat) (held : List Pl) (ranks : List (Pl × Int)) (rank : Int), held.length ≤ k → GInv W n held ranks → GInv W n (gameM W r held ranks rank).1 (gameM W r held ranks rank).2
  | k, held, ranks, rank, hk, gi => by
    by_cases h : goneM W r held = []
    · rw [gameM_stop h]
      exact gi
    · rw [gameM_go h]
      have := stay_lt h
      cases k with
      | zero => omega
      | succ k => exact gameM_inv k _ _ _ (by omega) (gi.next (rank + 1))
theorem fullM_fix (W : Wl) (r : Int × Int) (n : Int) : goneM W r (fullM W r n).1 = [] := gameM_fix W r _ _ _ _ (Nat.le_refl _)
theorem fullM_inv {W : Wl} {n : Int} (r : Int × Int) (ok : W.Ok) (n0 : 0 ≤ n) (n4 : n ≤ 4) : GInv W n (fullM W r n).1 (fullM W r n).2 := gameM_inv _ _ _ _ (Nat.le_refl _) (GInv.start ok n0 n4)
theorem held_can {W : Wl} {r : Int × Int} {n : Int} {p : Pl} (h : p ∈ (fullM W r n).1) : canM W r (fullM W r n).1 p = true := by
  have hf := fullM_fix W r n
  unfold goneM at hf
  rw [List.filter_eq_nil_iff] at hf
  have := hf p h
  simpa using this
def firstKeep (W : Wl) (r : Int × Int) (held : List Pl) (p : Pl) : Int × Int := ((deedsM W p).filter fun d => keepsP W r held p d).headD (0, 0)
theorem firstKeep_mem {W : Wl} {r : Int × Int} {held : List Pl} {p : Pl} (h : canM W r held p = true) : firstKeep W r held p ∈ (deedsM W p).filter fun d => keepsP W r held p d := by
  unfold firstKeep
  cases e : (deedsM W p).filter fun d => keepsP W r held p d with
  | nil =>
    obtain ⟨d, hd, hk⟩ := List.any_eq_true.mp h
    have : d ∈ (deedsM W p).filter fun d => keepsP W r held p d := List.mem_filter.mpr ⟨hd, hk⟩
    rw [e] at this
    cases this
  | cons x t => exact List.mem_cons_self
def planM (W : Wl) (r : Int × Int) (held : List Pl) : List (Pl × (Int × Int)) := (sortPl held).map fun p => (p, firstKeep W r held p)
def paperM (W : Wl) (r : Int × Int) (n : Int) (p : Pl) : PyData :=
  if p ∈ (fullM W r n).1 then .tuple [.str "held", .tuple ((planM W r (fullM W r n).1).map plD)] else .tuple [.str "lost", .tuple ((sortPr (fullM W r n).2).map prD)]
def s_control_paper : Rl := RL (fun (x : Wl × (Int × Int) × Int × Pl) => match x with | (W, r, n, p) => W.Ok ∧ RgOk r ∧ (0 ≤ n ∧ n ≤ 4) ∧ p.Ok W n) (fun (W, r, n, p) => [.d (wD W), .d (dD r), .d (.int n), .d (pD p)]) (fun (W, r, n, p) => .d (paperM W r n p))
section
variable {P : Program} {w : World} {K : PySem.W.Frag} {mg : Str → Option Value} {base : Heap}
-- control_paper (top 62)
theorem ok_control_paper {k : Nat} {f : Addr} {fd : FuncData} (T : Txt mg) (h_need_all : Has P w K mg base k "need_all" ["well", "inflows", "number", "place"] (spF s_need_all)) (h_solved : Has P w K mg base k "solved" ["well", "inflows", "number"] (spF (s_solved P w))) (h_deeds_of : Has P w K mg base k "deeds_of" ["well", "place"] (spF s_deeds_of)) (h_does_keep : Has P w K mg base k "does_keep" ["well", "inflows", "place", "deed", "known"] (spF (s_does_keep P w))) (F : Fun K "control_paper" "control_paper" (top 62) f fd) : FnOk P w K mg base CX0 (k + 1) f fd ["well", "inflows", "number", "place"] (spF s_control_paper) := by
  have sc : FnScope ["well", "inflows", "number", "place", "held", "ranks", "plan", "one", "deed"] ["well", "inflows", "number", "place"] (defScope (top 62)) := ⟨rfl, rfl, rfl, by decide +kernel, rfl, by decide +kernel, by decide +kernel⟩
  have nd : (["well", "inflows", "number", "place", "held", "ranks", "plan", "one", "deed"] : List Str).Nodup := by decide +kernel
  refine fn_ok F sc (RL.len fun _ => rfl) (fun cdv A outer s H E ks r hr hS => ?_)
  obtain ⟨⟨W, r, n, p⟩, ⟨ok, rg, ⟨n0, n4⟩, hp⟩, rfl, rfl⟩ := hS
  refine js_cons (jp_expr (je_call h_need_all hr (ja_cons (jg_d (je_nm (i := 0) rfl rfl)) (ja_cons (jg_d (je_nm (i := 1) rfl rfl)) (ja_cons (jg_d (je_nm (i := 2) rfl rfl)) (ja_cons (jg_d (je_nm (i := 3) rfl rfl)) ja_nil)))) ⟨(W, r, n, p), ⟨ok, rg, ⟨n0, by omega⟩, hp⟩, rfl, rfl⟩ trivial) ?_)
  have gi := fullM_inv r ok n0 n4
  have gl := gi.len
  have can : ∀ q ∈ (fullM W r n).1, canM W r (fullM W r n).1 q = true := fun q hq => held_can hq
  have hpap : paperM W r n p = if p ∈ (fullM W r n).1 then .tuple [.str "held", .tuple ((planM W r (fullM W r n).1).map plD)] else .tuple [.str "lost", .tuple ((sortPr (fullM W r n).2).map prD)] := rfl
  refine js_cons (jp_unPr (i := 4) (j := 5) (je_call h_solved hr (ja_cons (jg_d (je_nm (i := 0) rfl rfl)) (ja_cons (jg_d (je_nm (i := 1) rfl rfl)) (ja_cons (jg_d (je_nm (i := 2) rfl rfl)) ja_nil))) ⟨(W, r, n), ⟨ok, rg, n0, n4⟩, rfl, rfl⟩ trivial) ?_ nd)
  generalize hh : (fullM W r n).1 = held at *
  generalize hrk : (fullM W r n).2 = ranks at *
  refine js_cons (jp_if (jt_c (jc_notInN (k := kP p) hr (je_is (je_nm (i := 3) rfl rfl) (kP_data p).symm) (jr_n (jr_vo (i := 4) rfl)) (.inl (kP_tup p)))) (fun h => ?_) (fun h => ?_))
  · have hn : p ∉ held := by
      rw [look_hD] at h
      intro z
      rw [if_pos z] at h
      cases h
    refine js_one (jp_ret (k := .d (paperM W r n p)) (je_is (je_tup (jds_cons (je_gs T.LOST) (jds_cons (je_tupL T.tuple (jr_new (je_sorted hr T.sorted (jr_new (je_isL (je_listItems T.list (jr_n (jr_vo (i := 5) rfl)) (by rw [rkD, List.length_map]; omega)) (rk_items ranks))) (allPr _) (sblPr _) (by rw [List.length_map]; omega) (dpPr _)))) jds_nil)) (hz := by simp)) ?_) trivial rfl)
    rw [hpap, if_neg hn, sortPr_map]
  have hin : p ∈ held := by
    rw [look_hD] at h
    by_cases z : p ∈ held
    · exact z
    · rw [if_neg z] at h
      cases h
  refine js_nil ?_
  refine js_cons (jp_set (i := 6) (je_lst jds_nil (hz := by simp)) trivial ?_ nd)
  refine js_cons (jp_for (ji_new (je_isL (je_sorted hr T.sorted (jr_new (je_isL (je_listN T.list (jr_n (jr_vo (i := 4) rfl)) (by rw [hD, List.length_map]; omega)) (hD_keys held))) (allPl _) (sblPl _) (by rw [List.length_map]; omega) (dpPl _)) (sortPl_map held)))
    (fun i δ => ∃ x y, δ = [some (.d (wD W)), some (.d (dD r)), some (.d (.int n)), some (.d (pD p)), some (.o (SK.n P w (hD held))), some (.o (SK.n P w (rkD ranks))), some (.o (SK.l ((((sortPl held).take i).map fun p => (p, firstKeep W r held p)).map plD))), x, y]) ⟨none, none, rfl⟩ (fun Φ hΦ i d δ1 hd hI => ?_) (fun δ1 hI => ?_))
  · obtain ⟨x, y, rfl⟩ := hI
    obtain ⟨q, hq, rfl⟩ := get_map hd
    have hqm := mem_sortPl.mp (List.mem_of_getElem? hq)
    have hqo := placesM_ok ok n0 n4 (gi.sub q hqm)
    have dk := Pl.Ok.dp ok hqo
    refine ⟨[7], _, tg_name (i := 7) nd, ?_⟩
    refine js_one (jp_append (i0 := 6) rfl (je_tup (jds_cons (je_nm (i := 7) rfl rfl) (jds_cons (je_ixL (d := dD (firstKeep W r held q)) (jr_new (je_lcT (l := deedsM W q) (e' := dD) (f := fun d => keepsP W r held q d) (g := dD) dDInj (blkOk_by (own := [("deed", 8)]) rfl) nd
      (jix (ji_new (je_call h_deeds_of hr (ja_cons (jg_d (je_nm (i := 0) rfl rfl)) (ja_cons (jg_d (je_nm (i := 7) rfl rfl)) ja_nil)) ⟨(W, q), dk, rfl, rfl⟩ trivial)))
      (fun d hd => ⟨[8], _, by decide, fun s H C cl fp => ⟨tg_name (i := 8) nd, jts_one (jt_is (jt_val (je_call h_does_keep hr (ja_cons (jg_d (je_nm (i := 0) rfl rfl)) (ja_cons (jg_d (je_nm (i := 1) rfl rfl)) (ja_cons (jg_d (je_nm (i := 7) rfl rfl)) (ja_cons (jg_d (je_nm (i := 8) rfl rfl)) (ja_cons (jg_r (jr_n (jr_vo (i := 4) rfl))) ja_nil))))) ⟨(W, r, q, d, hD held), ⟨ok, rg, hqo.sh⟩, rfl, rfl⟩ trivial)) keepsM_P), fun _ => je_nm (i := 8) rfl rfl⟩⟩)
      (by have := deedsM_len ok dk.2.2.2.2; omega))) je_int ?_) jds_nil)) (hz := by simp)) ?_ ?_)
    · have hm := firstKeep_mem (can q hqm)
      unfold firstKeep at hm ⊢
      cases e : (deedsM W q).filter fun d => keepsP W r held q d with
      | nil => rw [e] at hm; cases hm
      | cons u v =>
        show atI (dD u :: v.map dD) 0 = some (dD u)
        unfold atI ixN
        rw [if_pos (by omega), if_pos (by simp)]
        rfl
    · rw [List.length_map, List.length_map, List.length_take]
      have h1 : (sortPl held).length = held.length := List.length_mergeSort _
      omega
    · refine ⟨_, _, congrArg (fun l => [some (Kd.d (wD W)), some (.d (dD r)), some (.d (.int n)), some (.d (pD p)), some (.o (SK.n P w (hD held))), some (.o (SK.n P w (rkD ranks))), some (.o (SK.l l)), _, _]) ?_⟩
      rw [take_succ hq, List.map_append, List.map_append]
      rfl
  obtain ⟨x, y, rfl⟩ := hI
  rw [List.length_map, List.take_length]
  refine js_one (jp_ret (k := .d (paperM W r n p)) (je_is (je_tup (jds_cons (je_gs T.HELD) (jds_cons (je_tupL T.tuple (jr_vo (i := 6) rfl)) jds_nil)) (hz := by simp)) ?_) trivial rfl)
  rw [hpap, if_pos hin]
  rfl

end
end Pq

namespace Pq
open PySem PySem.Spec L2
open PyProof.Rows hiding St
open Evl (Ex)

/-! ### the order of places -/
theorem toks_ints : ∀ {a b : List Int} {u v : List (Int ⊕ List Nat)}, PySem.W.keyToksAll (a.map .int) ++ u = PySem.W.keyToksAll (b.map .int) ++ v → a = b ∧ u = v
  | [], [], u, v, h => by
    have h : (Sum.inl 0 :: u : List (Int ⊕ List Nat)) = Sum.inl 0 :: v := h
    injection h with _ h
    exact ⟨rfl, h⟩
  | [], y :: b, u, v, h => by
    have h : (Sum.inl 0 :: u : List (Int ⊕ List Nat)) = Sum.inl 1 :: (Sum.inl y :: PySem.W.keyToksAll (b.map .int) ++ v) := h
    injection h with h _
    injection h with h
    exact absurd h (by decide)
  | x :: a, [], u, v, h => by
    have h : (Sum.inl 1 :: (Sum.inl x :: PySem.W.keyToksAll (a.map .int) ++ u) : List (Int ⊕ List Nat)) = Sum.inl 0 :: v := h
    injection h with h _
    injection h with h
    exact absurd h (by decide)
  | x :: a, y :: b, u, v, h => by
    have h : (Sum.inl 1 :: Sum.inl x :: (PySem.W.keyToksAll (a.map .int) ++ u) : List (Int ⊕ List Nat)) = Sum.inl 1 :: Sum.inl y :: (PySem.W.keyToksAll (b.map .int) ++ v) := h
    injection h with _ h
    injection h with h1 h
    injection h1 with h1
    obtain ⟨h2, h3⟩ := toks_ints h
    exact ⟨by rw [h1, h2], h3⟩
theorem toks_pD {p q : Pl} (h : PySem.W.keyToks (pD p) = PySem.W.keyToks (pD q)) : p = q := by
  have e : ∀ p : Pl, PySem.W.keyToks (pD p) = Sum.inl 1 :: Sum.inl p.lv :: Sum.inl 1 :: (PySem.W.keyToksAll (p.on.map .int) ++ (Sum.inl 1 :: (PySem.W.keyToksAll (p.off.map .int) ++ [Sum.inl 1, Sum.inl p.ready, Sum.inl 0]))) := fun p => rfl
  rw [e, e] at h
  injection h with _ h
  injection h with h1 h
  injection h1 with h1
  injection h with _ h
  obtain ⟨h2, h⟩ := toks_ints h
  injection h with _ h
  obtain ⟨h3, h⟩ := toks_ints h
  injection h with _ h
  injection h with h4 _
  injection h4 with h4
  cases p
  cases q
  simp only [Pl.mk.injEq]
  exact ⟨h1, h2, h3, h4⟩
def ltP (p q : Pl) : Prop := PySem.W.dataLt (pD p) (pD q) = true
theorem ltP_irrefl (p : Pl) : ¬ ltP p p := fun h => by
  have e : PySem.W.dataLt (pD p) (pD p) = false := by
    unfold PySem.W.dataLt
    exact lex_irrefl _
  unfold ltP at h
  rw [e] at h
  cases h
theorem ltP_trans {p q s : Pl} (h1 : ltP p q) (h2 : ltP q s) : ltP p s := by
  unfold ltP PySem.W.dataLt at *
  exact lex_trans _ _ _ h1 h2
theorem ltP_total {p q : Pl} (h1 : ¬ ltP p q) (h2 : p ≠ q) : ltP q p := by
  unfold ltP PySem.W.dataLt at *
  have key := lex_total (O := itemOrd) (PySem.W.keyToks (pD p)) (PySem.W.keyToks (pD q)) (by simpa using h1)
  rcases h : lexLt itemOrd (PySem.W.keyToks (pD q)) (PySem.W.keyToks (pD p)) with _ | _
  · exact absurd (toks_pD (key h)) h2
  · rfl
/-- strictly ascending lists with the same members are one -/
theorem asc_eq {α : Type} {lt : α → α → Prop} (irr : ∀ a, ¬ lt a a) (tr : ∀ a b c, lt a b → lt b c → lt a c) : ∀ {xs ys : List α}, xs.Pairwise lt → ys.Pairwise lt → (∀ a, a ∈ xs ↔ a ∈ ys) → xs = ys
  | [], [], _, _, _ => rfl
  | [], y :: ys, _, _, h => absurd ((h y).mpr List.mem_cons_self) (by simp)
  | x :: xs, [], _, _, h => absurd ((h x).mp List.mem_cons_self) (by simp)
  | x :: xs, y :: ys, hx, hy, h => by
    rw [List.pairwise_cons] at hx hy
    have e : x = y := by
      rcases List.mem_cons.mp ((h x).mp List.mem_cons_self) with e | m1
      · exact e
      · rcases List.mem_cons.mp ((h y).mpr List.mem_cons_self) with e | m2
        · exact e.symm
        · exact absurd (tr _ _ _ (hy.1 x m1) (hx.1 y m2)) (irr y)
    subst e
    rw [asc_eq irr tr hx.2 hy.2 fun a => ⟨fun m => ?_, fun m => ?_⟩]
    · rcases List.mem_cons.mp ((h a).mp (List.mem_cons_of_mem _ m)) with e | m'
      · rw [e] at m
        exact absurd (hx.1 x m) (irr x)
      · exact m'
    · rcases List.mem_cons.mp ((h a).mpr (List.mem_cons_of_mem _ m)) with e | m'
      · rw [e] at m
        exact absurd (hy.1 x m) (irr x)
      · exact m'
theorem le_trans' {α : Type} (e : α → PyData) (a b c : α) (h1 : PySem.W.dataLe false id (e a) (e b) = true) (h2 : PySem.W.dataLe false id (e b) (e c) = true) : PySem.W.dataLe false id (e a) (e c) = true := (PySem.W.sortLe_total (listOrd itemOrd) false (fun d : PyData => PySem.W.keyToks d)).trans (e a) (e b) (e c) h1 h2
theorem le_total' {α : Type} (e : α → PyData) (a b : α) : (PySem.W.dataLe false id (e a) (e b) || PySem.W.dataLe false id (e b) (e a)) = true := by
  rcases (PySem.W.sortLe_total (listOrd itemOrd) false (fun d : PyData => PySem.W.keyToks d)).total (e a) (e b) with h | h
  · exact Bool.or_eq_true_iff.mpr (.inl h)
  · exact Bool.or_eq_true_iff.mpr (.inr h)
theorem pw_mono {α : Type} {R S : α → α → Prop} : ∀ {l : List α}, l.Pairwise R → l.Nodup → (∀ a ∈ l, ∀ b ∈ l, a ≠ b → R a b → S a b) → l.Pairwise S
  | [], _, _, _ => .nil
  | x :: l, h, nd, k => by
    rw [List.pairwise_cons] at h ⊢
    rw [List.nodup_cons] at nd
    exact ⟨fun b hb => k x List.mem_cons_self b (List.mem_cons_of_mem _ hb) (fun e => nd.1 (e ▸ hb)) (h.1 b hb), pw_mono h.2 nd.2 fun a ha b hb => k a (List.mem_cons_of_mem _ ha) b (List.mem_cons_of_mem _ hb)⟩
theorem perm_nd {α : Type} {l : List α} {le : α → α → Bool} (h : l.Nodup) : (l.mergeSort le).Nodup := (List.mergeSort_perm l le).nodup_iff.mpr h
theorem sortPl_asc {l : List Pl} (nd : l.Nodup) : (sortPl l).Pairwise ltP := by
  refine pw_mono (List.pairwise_mergeSort (le_trans' pD) (le_total' pD) l) (perm_nd nd) fun a _ b _ ne h => ?_
  have h : (!PySem.W.dataLt (pD b) (pD a)) = true := h
  refine ltP_total (fun z => ?_) (Ne.symm ne)
  unfold ltP at z
  rw [z] at h
  cases h
theorem eqv_ne {p q : Pl} (h : p ≠ q) : PyData.eqv (pD p) (pD q) = false := by
  rcases e : PyData.eqv (pD p) (pD q) with _ | _
  · rfl
  · exact absurd (toks_pD ((PySem.W.toks_eqv _ _ (alike_pD p q)).1 e)) h
theorem lt_pr {x y : Pl × Int} (h : x.1 ≠ y.1) : PySem.W.dataLt (prD x) (prD y) = PySem.W.dataLt (pD x.1) (pD y.1) := PySem.W.dataLt_all_no (alike_pD _ _) (eqv_ne h)
theorem sortPr_asc {m : List (Pl × Int)} (nd : (m.map (·.1)).Nodup) : ((sortPr m).map (·.1)).Pairwise ltP := by
  have ndm : m.Nodup := (List.pairwise_map.mp nd).imp fun {x y} (h : x.1 ≠ y.1) (e : x = y) => h (by rw [e])
  rw [List.pairwise_map]
  refine pw_mono (List.pairwise_mergeSort (le_trans' prD) (le_total' prD) m) (perm_nd ndm) fun a ha b hb ne h => ?_
  have h : (!PySem.W.dataLt (prD b) (prD a)) = true := h
  have ne1 : b.1 ≠ a.1 := fun e => by
    have ha := List.mem_mergeSort.mp ha
    have hb := List.mem_mergeSort.mp hb
    have e1 := look_mem nd ha
    have e2 := look_mem nd hb
    rw [e, e1] at e2
    exact ne (Prod.ext e.symm (Option.some.inj e2))
  rw [lt_pr ne1] at h
  refine ltP_total (fun z => ?_) ne1
  unfold ltP at z
  rw [z] at h
  cases h
theorem sortPr_keys {m : List (Pl × Int)} (nd : (m.map (·.1)).Nodup) : (sortPr m).map (·.1) = sortPl (m.map (·.1)) := by
  refine asc_eq ltP_irrefl (fun _ _ _ => ltP_trans) (sortPr_asc nd) (sortPl_asc nd) fun p => ?_
  rw [mem_sortPl, List.mem_map, List.mem_map]
  simp only [mem_sortPr]
end Pq

namespace Pq
open PySem PySem.Spec L2
open PyProof.Rows hiding St
open Evl (Ex)

/-! ### where a deed leads; the papers are right -/
theorem mem_deeds {W : Wl} {p : Pl} {d : Int × Int} : d ∈ deedsM W p ↔ (0 ≤ d.1 ∧ d.1 ≤ min W.starts p.ready) ∧ 0 ≤ d.2 ∧ d.2 ≤ p.on.getLastD 0 := by
  unfold deedsM
  rw [List.mem_flatMap]
  constructor
  · rintro ⟨a, ha, hb⟩
    obtain ⟨b, hb2, rfl⟩ := List.mem_map.mp hb
    have h1 := mem_rngI.mp ha
    have h2 := mem_rngI.mp hb2
    simp only
    omega
  · rintro ⟨h1, h2⟩
    exact ⟨d.1, mem_rngI.mpr (by omega), List.mem_map.mpr ⟨d.2, mem_rngI.mpr (by omega), rfl⟩⟩
theorem led_at {W : Wl} {p q : Pl} {d : Int × Int} {i : Int} (h : ledBy W p d i = .at q) : 0 ≤ q.lv ∧ q.lv ≤ W.top ∧ q = ⟨nextLv W p.lv (agedOn d.1 d.2 p.on) i, agedOn d.1 d.2 p.on, agedOff d.2 p.off, agedReady d.1 d.2 p.off p.ready⟩ := by
  unfold ledBy at h
  simp only [] at h
  by_cases h1 : W.top < nextLv W p.lv (agedOn d.1 d.2 p.on) i
  · rw [if_pos h1] at h; cases h
  · by_cases h2 : nextLv W p.lv (agedOn d.1 d.2 p.on) i < 0
    · rw [if_neg h1, if_pos h2] at h; cases h
    · rw [if_neg h1, if_neg h2] at h
      cases h
      exact ⟨by simp only; omega, by simp only; omega, rfl⟩
theorem gl1 (u : Int) : [u].getLastD 0 = u := rfl
theorem gl2 (u v : Int) : [u, v].getLastD 0 = v := rfl
theorem gl3 (u v x : Int) : [u, v, x].getLastD 0 = x := rfl
theorem led_ok {W : Wl} {n : Int} {p q : Pl} {d : Int × Int} {i : Int} (ok : W.Ok) (n4 : n ≤ 4) (hp : p.Ok W n) (hd : d ∈ deedsM W p) (h : ledBy W p d i = .at q) : q.Ok W n := by
  obtain ⟨l1, l2, rfl⟩ := led_at h
  obtain ⟨lv, on, off, rd⟩ := p
  obtain ⟨a, b⟩ := d
  have hd := mem_deeds.mp hd
  obtain ⟨v1, v2, o1, f1, o0, f0, r0, sm, r1⟩ := hp
  have k1 := ok.run1
  have k2 := ok.run2
  have k3 := ok.rest1
  have k4 := ok.rest2
  simp only at hd o1 f1 o0 f0 r0 sm r1
  clear h
  obtain ⟨⟨a0, a1⟩, b0, b1⟩ := hd
  rcases on with _ | ⟨x, _ | ⟨y, _ | ⟨z, _ | ⟨u, on⟩⟩⟩⟩
  · simp at o1; omega
  · have b1 : b ≤ x := b1
    rcases off with _ | ⟨v, _ | ⟨u, off⟩⟩
    · simp at o1 f1 o0 f0 sm
      refine ⟨l1, l2, ?_, ?_, ?_, ?_, ?_, ?_, ?_⟩
      all_goals simp [agedOn, agedOff, agedReady, gl1, gl2]
      all_goals omega
    · simp at o1 f1 o0 f0 sm
      refine ⟨l1, l2, ?_, ?_, ?_, ?_, ?_, ?_, ?_⟩
      all_goals simp [agedOn, agedOff, agedReady, gl1, gl2]
      all_goals omega
    · simp at f1; omega
  · have b1 : b ≤ y := b1
    rcases off with _ | ⟨v, _ | ⟨u, off⟩⟩
    · simp at o1 f1 o0 f0 sm
      refine ⟨l1, l2, ?_, ?_, ?_, ?_, ?_, ?_, ?_⟩
      all_goals simp [agedOn, agedOff, agedReady, gl1, gl2]
      all_goals omega
    · simp at o1 f1 o0 f0 sm
      refine ⟨l1, l2, ?_, ?_, ?_, ?_, ?_, ?_, ?_⟩
      all_goals simp [agedOn, agedOff, agedReady, gl1, gl2]
      all_goals omega
    · simp at f1; omega
  · have b1 : b ≤ z := b1
    rcases off with _ | ⟨v, _ | ⟨u, off⟩⟩
    · simp at o1 f1 o0 f0 sm
      refine ⟨l1, l2, ?_, ?_, ?_, ?_, ?_, ?_, ?_⟩
      all_goals simp [agedOn, agedOff, agedReady, gl1, gl2]
      all_goals omega
    · simp at o1 f1 o0 f0 sm
      refine ⟨l1, l2, ?_, ?_, ?_, ?_, ?_, ?_, ?_⟩
      all_goals simp [agedOn, agedOff, agedReady, gl1, gl2]
      all_goals omega
    · simp at f1; omega
  · simp at o1; omega
end Pq

namespace Pq
open PySem PySem.Spec L2
open PyProof.Rows hiding St
open Evl (Ex)

/-! ### both papers are right -/
structure RInv (W : Wl) (r : Int × Int) (n : Int) (held : List Pl) (ranks : List (Pl × Int)) (rank : Int) : Prop where
  all : ∀ q ∈ placesM W n, q ∈ held ∨ ∃ s, (q, s) ∈ ranks
  bd : ∀ x ∈ ranks, 1 ≤ x.2 ∧ x.2 ≤ rank
  lose : ∀ x ∈ ranks, ∀ d ∈ deedsM W x.1, ∃ i ∈ rngC r, ∀ q, ledBy W x.1 d i = .at q → ∃ s, (q, s) ∈ ranks ∧ s < x.2
  r0 : 0 ≤ rank
theorem RInv.next {W : Wl} {r : Int × Int} {n : Int} {held : List Pl} {ranks : List (Pl × Int)} {rank : Int} (ok : W.Ok) (n0 : 0 ≤ n) (n4 : n ≤ 4) (sub : ∀ p ∈ held, p ∈ placesM W n) (h : RInv W r n held ranks rank) : RInv W r n (leftM W r held) (ranks ++ (goneM W r held).map fun p => (p, rank + 1)) (rank + 1) := by
  have r0 := h.r0
  refine ⟨fun q hq => ?_, fun x hx => ?_, fun x hx d hd => ?_, by omega⟩
  · rcases h.all q hq with z | ⟨s, z⟩
    · by_cases hg : q ∈ goneM W r held
      · exact .inr ⟨rank + 1, List.mem_append_right _ (List.mem_map.mpr ⟨q, hg, rfl⟩)⟩
      · exact .inl (List.mem_filter.mpr ⟨z, decide_eq_true hg⟩)
    · exact .inr ⟨s, List.mem_append_left _ z⟩
  · rcases List.mem_append.mp hx with z | z
    · have := h.bd x z
      omega
    · obtain ⟨p, _, rfl⟩ := List.mem_map.mp z
      simp only
      omega
  · rcases List.mem_append.mp hx with z | z
    · obtain ⟨i, hi, hq⟩ := h.lose x z d hd
      exact ⟨i, hi, fun q e => let ⟨s, h1, h2⟩ := hq q e; ⟨s, List.mem_append_left _ h1, h2⟩⟩
    · obtain ⟨p, hp, rfl⟩ := List.mem_map.mp z
      have hc := (List.mem_filter.mp hp).2
      have hph := (List.mem_filter.mp hp).1
      have hc : canM W r held p = false := by simpa using hc
      unfold canM at hc
      rw [List.any_eq_false] at hc
      have hk := hc d hd
      unfold keepsP at hk
      rw [List.all_eq_true] at hk
      have hk : ∃ i, i ∈ rngC r ∧ ¬ inM held (ledBy W p d i) = true := by
        rcases Classical.em (∃ i, i ∈ rngC r ∧ ¬ inM held (ledBy W p d i) = true) with e | e
        · exact e
        · exact absurd (fun i hi => Classical.byContradiction fun z => e ⟨i, hi, z⟩) hk
      obtain ⟨i, hi, hin⟩ := hk
      refine ⟨i, hi, fun q e => ?_⟩
      have hq : q ∉ held := fun z => hin (by rw [e]; exact decide_eq_true z)
      have hqp : q ∈ placesM W n := mem_placesM ok (led_ok ok n4 (placesM_ok ok n0 n4 (sub p hph)) hd e)
      rcases h.all q hqp with z | ⟨s, z⟩
      · exact absurd z hq
      · refine ⟨s, List.mem_append_left _ z, ?_⟩
        have := (h.bd _ z).2
        simp only at this ⊢
        omega
theorem gameM_rinv {W : Wl} {r : Int × Int} {n : Int} (ok : W.Ok) (n0 : 0 ≤ n) (n4 : n ≤ 4) : ∀ (k : Nat) (held : List Pl) (ranks : List (Pl × Int)) (rank : Int), held.length ≤ k → (∀ p ∈ held, p ∈ placesM W n) → RInv W r n held ranks rank → ∃ rank', RInv W r n (gameM W r held ranks rank).1 (gameM W r held ranks rank).2 rank'
  | k, held, ranks, rank, hk, sub, ri => by
    by_cases h : goneM W r held = []
    · rw [gameM_stop h]
      exact ⟨rank, ri⟩
    · rw [gameM_go h]
      have := stay_lt h
      cases k with
      | zero => omega
      | succ k => exact gameM_rinv ok n0 n4 k _ _ _ (by omega) (fun p hp => sub p (List.mem_filter.mp hp).1) (ri.next ok n0 n4 sub)
theorem fullM_rinv {W : Wl} {n : Int} (r : Int × Int) (ok : W.Ok) (n0 : 0 ≤ n) (n4 : n ≤ 4) : ∃ rank, RInv W r n (fullM W r n).1 (fullM W r n).2 rank :=
  gameM_rinv ok n0 n4 _ _ _ _ (Nat.le_refl _) (fun _ h => h) ⟨fun q hq => .inl hq, fun x hx => by simp at hx, fun x hx => by simp at hx, Int.le_refl _⟩
theorem asc_lt {l : List Pl} (h : l.Pairwise ltP) {i : Nat} {x y : Pl} (hx : l[i]? = some x) (hy : l[i + 1]? = some y) : PySem.W.dataLt (pD x) (pD y) = true := by
  obtain ⟨h1, rfl⟩ := List.getElem?_eq_some_iff.mp hx
  obtain ⟨h2, rfl⟩ := List.getElem?_eq_some_iff.mp hy
  exact List.pairwise_iff_getElem.mp h i (i + 1) h1 h2 (by omega)
theorem rank_right {W : Wl} {r : Int × Int} {n : Int} {p : Pl} (ok : W.Ok) (n0 : 0 ≤ n) (n4 : n ≤ 4) (hp : p ∈ (fullM W r n).2.map (·.1)) : RankOk W r n p (sortPr (fullM W r n).2) := by
  have gi := fullM_inv r ok n0 n4
  obtain ⟨rank, ri⟩ := fullM_rinv r ok n0 n4
  generalize (fullM W r n).2 = m at *
  generalize (fullM W r n).1 = held at *
  have nd' : ((sortPr m).map (·.1)).Nodup := by
    rw [sortPr_keys gi.rnd]
    exact perm_nd gi.rnd
  have hl : (sortPr m).length = m.length := List.length_mergeSort _
  have gl := gi.len
  refine ⟨⟨fun q hq => ?_, by rw [List.length_map]; omega, fun i x y hx hy => ?_⟩, nd', ?_, fun q hq => (ri.bd q (mem_sortPr.mp hq)).1, fun q hq d hd => ?_⟩
  · obtain ⟨x, hx, rfl⟩ := List.mem_map.mp hq
    exact placesM_ok ok n0 n4 (gi.rsub x (mem_sortPr.mp hx))
  · rw [List.getElem?_map] at hx hy
    have ha := sortPr_asc gi.rnd
    cases e1 : (sortPr m)[i]? with
    | none => rw [e1] at hx; cases hx
    | some u =>
      cases e2 : (sortPr m)[i + 1]? with
      | none => rw [e2] at hy; cases hy
      | some v =>
        rw [e1] at hx
        rw [e2] at hy
        cases hx
        cases hy
        exact asc_lt (i := i) ha (by rw [List.getElem?_map, e1]; rfl) (by rw [List.getElem?_map, e2]; rfl)
  · rw [sortPr_keys gi.rnd]
    exact mem_sortPl.mpr hp
  · obtain ⟨i, hi, hq'⟩ := ri.lose q (mem_sortPr.mp hq) d hd
    refine List.any_eq_true.mpr ⟨i, hi, ?_⟩
    unfold losesAt
    cases e : ledBy W q.1 d i with
    | over => rfl
    | dry => rfl
    | «at» u =>
      obtain ⟨s, h1, h2⟩ := hq' u e
      have e1 := look_mem nd' (mem_sortPr.mpr h1)
      have e2 := look_mem nd' hq
      simp only at e1
      simp only [e1, e2, Option.getD_some, h2, decide_true]
theorem plan_right {W : Wl} {r : Int × Int} {n : Int} {p : Pl} (ok : W.Ok) (n0 : 0 ≤ n) (n4 : n ≤ 4) (hp : p ∈ (fullM W r n).1) : PlanOk W r n p (planM W r (fullM W r n).1) := by
  have gi := fullM_inv r ok n0 n4
  have can : ∀ q ∈ (fullM W r n).1, canM W r (fullM W r n).1 q = true := fun q hq => held_can hq
  generalize (fullM W r n).2 = m at *
  generalize (fullM W r n).1 = held at *
  have hl : (sortPl held).length = held.length := List.length_mergeSort _
  have gl := gi.len
  have keys : (planM W r held).map (·.1) = sortPl held := by
    unfold planM
    rw [List.map_map]
    exact List.map_id' _
  refine ⟨⟨fun q hq => ?_, ?_, fun i x y hx hy => ?_⟩, by rw [keys]; exact perm_nd gi.nd, by rw [keys]; exact mem_sortPl.mpr hp, fun q hq => ?_, fun q hq => ?_⟩
  · obtain ⟨x, hx, rfl⟩ := List.mem_map.mp hq
    obtain ⟨u, hu, rfl⟩ := List.mem_map.mp hx
    exact placesM_ok ok n0 n4 (gi.sub u (mem_sortPl.mp hu))
  · unfold planM
    rw [List.length_map, List.length_map]
    omega
  · have ha := sortPl_asc gi.nd
    rw [← keys] at ha
    rw [List.getElem?_map] at hx hy
    cases e1 : (planM W r held)[i]? with
    | none => rw [e1] at hx; cases hx
    | some u =>
      cases e2 : (planM W r held)[i + 1]? with
      | none => rw [e2] at hy; cases hy
      | some v =>
        rw [e1] at hx
        rw [e2] at hy
        cases hx
        cases hy
        exact asc_lt (i := i) ha (by rw [List.getElem?_map, e1]; rfl) (by rw [List.getElem?_map, e2]; rfl)
  · obtain ⟨u, hu, rfl⟩ := List.mem_map.mp hq
    exact (List.mem_filter.mp (firstKeep_mem (can u (mem_sortPl.mp hu)))).1
  · obtain ⟨u, hu, rfl⟩ := List.mem_map.mp hq
    have hk := (List.mem_filter.mp (firstKeep_mem (can u (mem_sortPl.mp hu)))).2
    rw [keys]
    have e : ∀ x : Res Pl, inM (sortPl held) x = inM held x := fun x => by
      cases x with
      | over => rfl
      | dry => rfl
      | «at» q => exact decide_eq_decide.mpr mem_sortPl
    unfold keepsP at hk ⊢
    simp only [e]
    exact hk
end Pq

namespace Pq
open PySem PySem.Spec L2
open PyProof.Rows hiding St
open Evl (Ex)

/-! ### a closed set of places is held -/
def Closed (W : Wl) (r : Int × Int) (S : Pl → Prop) : Prop := ∀ p, S p → ∃ d ∈ deedsM W p, ∀ i ∈ rngC r, ∃ q, ledBy W p d i = .at q ∧ S q
theorem closed_can {W : Wl} {r : Int × Int} {S : Pl → Prop} {held : List Pl} (cl : Closed W r S) (sub : ∀ p, S p → p ∈ held) {p : Pl} (h : S p) : canM W r held p = true := by
  obtain ⟨d, hd, hk⟩ := cl p h
  refine List.any_eq_true.mpr ⟨d, hd, List.all_eq_true.mpr fun i hi => ?_⟩
  obtain ⟨q, e, hq⟩ := hk i hi
  rw [e]
  exact decide_eq_true (sub q hq)
theorem closed_game {W : Wl} {r : Int × Int} {S : Pl → Prop} (cl : Closed W r S) : ∀ (k : Nat) (held : List Pl) (ranks : List (Pl × Int)) (rank : Int), held.length ≤ k → (∀ p, S p → p ∈ held) → ∀ p, S p → p ∈ (gameM W r held ranks rank).1
  | k, held, ranks, rank, hk, sub, p, hp => by
    by_cases h : goneM W r held = []
    · rw [gameM_stop h]
      exact sub p hp
    · rw [gameM_go h]
      have := stay_lt h
      cases k with
      | zero => omega
      | succ k =>
        refine closed_game cl k _ _ _ (by omega) (fun q hq => ?_) p hp
        refine List.mem_filter.mpr ⟨sub q hq, decide_eq_true fun z => ?_⟩
        have hc := (List.mem_filter.mp z).2
        rw [closed_can cl sub hq] at hc
        cases hc
theorem closed_held {W : Wl} {r : Int × Int} {n : Int} {S : Pl → Prop} (cl : Closed W r S) (sub : ∀ p, S p → p ∈ placesM W n) {p : Pl} (h : S p) : p ∈ (fullM W r n).1 := closed_game cl _ _ _ _ (Nat.le_refl _) sub p h
theorem held_closed (W : Wl) (r : Int × Int) (n : Int) : Closed W r (fun p => p ∈ (fullM W r n).1) := fun p hp => by
  obtain ⟨d, hd, hk⟩ := List.any_eq_true.mp (held_can hp)
  refine ⟨d, hd, fun i hi => ?_⟩
  have := List.all_eq_true.mp hk i hi
  cases e : ledBy W p d i with
  | over => rw [e] at this; cases this
  | dry => rw [e] at this; cases this
  | «at» q => rw [e] at this; exact ⟨q, rfl, of_decide_eq_true this⟩
/-- smaller bounds take none away -/
theorem held_less {W : Wl} {r r' : Int × Int} {n : Int} (ok : W.Ok) (n0 : 0 ≤ n) (n4 : n ≤ 4) (h1 : r.1 ≤ r'.1) (h2 : r'.2 ≤ r.2) {p : Pl} (h : p ∈ (fullM W r n).1) : p ∈ (fullM W r' n).1 := by
  refine closed_held (S := fun p => p ∈ (fullM W r n).1) (fun p hp => ?_) (fun p hp => (fullM_inv r ok n0 n4).sub p hp) h
  obtain ⟨d, hd, hk⟩ := held_closed W r n p hp
  refine ⟨d, hd, fun i hi => hk i ?_⟩
  rw [mem_rngC] at hi ⊢
  omega
def upP (p : Pl) : Pl := ⟨p.lv, p.on, p.off, p.ready + 1⟩
/-- one more pump that is ready takes none away -/
theorem held_more {W : Wl} {r : Int × Int} {n : Int} (ok : W.Ok) (n0 : 0 ≤ n) (n3 : n ≤ 3) {p : Pl} (h : p ∈ (fullM W r n).1) : upP p ∈ (fullM W r (n + 1)).1 := by
  refine closed_held (S := fun q => ∃ p, p ∈ (fullM W r n).1 ∧ q = upP p) (fun q hq => ?_) (fun q hq => ?_) ⟨p, h, rfl⟩
  · obtain ⟨p, hp, rfl⟩ := hq
    obtain ⟨d, hd, hk⟩ := held_closed W r n p hp
    refine ⟨d, ?_, fun i hi => ?_⟩
    · rw [mem_deeds] at hd ⊢
      refine ⟨⟨hd.1.1, ?_⟩, hd.2⟩
      show d.1 ≤ min W.starts (p.ready + 1)
      omega
    · obtain ⟨q, e, hq⟩ := hk i hi
      refine ⟨upP q, ?_, q, hq, rfl⟩
      obtain ⟨l1, l2, rfl⟩ := led_at e
      have l1 : 0 ≤ nextLv W p.lv (agedOn d.1 d.2 p.on) i := l1
      have l2 : nextLv W p.lv (agedOn d.1 d.2 p.on) i ≤ W.top := l2
      have e2 : ledBy W (upP p) d i = if W.top < nextLv W p.lv (agedOn d.1 d.2 p.on) i then .over else if nextLv W p.lv (agedOn d.1 d.2 p.on) i < 0 then .dry else .at ⟨nextLv W p.lv (agedOn d.1 d.2 p.on) i, agedOn d.1 d.2 p.on, agedOff d.2 p.off, agedReady d.1 d.2 p.off (p.ready + 1)⟩ := rfl
      rw [e2, if_neg (by omega), if_neg (by omega)]
      have e3 : agedReady d.1 d.2 p.off (p.ready + 1) = agedReady d.1 d.2 p.off p.ready + 1 := by
        unfold agedReady
        omega
      rw [e3]
      rfl
  · obtain ⟨p, hp, rfl⟩ := hq
    have hp := placesM_ok ok n0 (by omega) ((fullM_inv r ok n0 (by omega)).sub p hp)
    refine mem_placesM ok ⟨hp.lv1, hp.lv2, hp.on, hp.off, hp.on0, hp.off0, ?_, ?_, ?_⟩
    · have := hp.r0
      show 0 ≤ p.ready + 1
      omega
    · have := hp.sum
      show p.on.sum + p.off.sum + (p.ready + 1) = n + 1
      omega
    · have := hp.r1
      show p.ready + 1 ≤ n + 1
      omega
end Pq

namespace Pq
open PySem PySem.Spec L2
open PyProof.Rows hiding St
open Evl (Ex)

/-! ### the law's own states -/
structure Lw where
  lv : Int
  past : List Int
  ages : List Int
  many : Int
  deriving DecidableEq
def lwD (s : Lw) : PyData := .tuple [.int s.lv, iL s.past, iL s.ages, .int s.many]
def stepAge (W : Wl) (seen : Int) (a : Int) : Int := if 0 < a then (if seen ≤ W.off ∧ W.run ≤ a then -1 else min (a + 1) W.run) else a - 1
def freshL (W : Wl) (seen : Int) (ages : List Int) : List Int := (ages.map (stepAge W seen)).filter fun a => decide (-W.rest < a)
def beginL (W : Wl) (seen : Int) (s : Lw) : Int := if W.on ≤ seen then min W.starts (s.many - s.ages.length) else 0
def allL (W : Wl) (s : Lw) : List Int := freshL W (seenM W s.lv s.past) s.ages ++ List.replicate (beginL W (seenM W s.lv s.past) s).toNat 1
def sortI (l : List Int) : List Int := l.mergeSort fun a b => decide (a ≤ b)
def beatL (W : Wl) (s : Lw) (i : Int) : Res Lw × Int :=
  let f := allL W s
  let lv := s.lv + i - W.drain * ((f.filter fun a => decide (0 < a)).length : Int)
  let busy := (s.ages.length : Int) + beginL W (seenM W s.lv s.past) s
  if lv < 0 ∨ W.top < lv then (if 0 < lv then .over else .dry, busy) else
    (.at ⟨lv, if 0 < W.lag then (s.past ++ [s.lv]).drop 1 else [], sortI f, s.many⟩, busy)
def cnt (v : Int) (l : List Int) : Int := (l.filter fun a => decide (a = v)).length
theorem cnt_nil (v : Int) : cnt v [] = 0 := rfl
theorem cnt_cons (v a : Int) (l : List Int) : cnt v (a :: l) = (if a = v then 1 else 0) + cnt v l := by
  unfold cnt
  rw [List.filter_cons]
  by_cases h : a = v
  · simp [h]
    omega
  · simp [h]
theorem cnt_append (v : Int) (l m : List Int) : cnt v (l ++ m) = cnt v l + cnt v m := by
  induction l with
  | nil => simp [cnt_nil]
  | cons a l ih => rw [List.cons_append, cnt_cons, cnt_cons, ih]; omega
theorem cnt_nn (v : Int) (l : List Int) : 0 ≤ cnt v l := Int.natCast_nonneg _
theorem cnt_rep (v a : Int) (k : Nat) : cnt v (List.replicate k a) = if a = v then (k : Int) else 0 := by
  induction k with
  | zero => simp [cnt_nil]
  | succ k ih =>
    rw [List.replicate_succ, cnt_cons, ih]
    by_cases h : a = v
    · simp [h]; omega
    · simp [h]
theorem cnt_sort (v : Int) (l : List Int) : cnt v (sortI l) = cnt v l := by
  unfold cnt
  have := ((List.mergeSort_perm l fun a b => decide (a ≤ b)).filter fun a => decide (a = v)).length_eq
  unfold sortI
  rw [this]
/-- ages that can be -/
structure Lw.Ok (W : Wl) (n : Int) (s : Lw) : Prop where
  past : (s.past.length : Int) = W.lag
  ages : ∀ a ∈ s.ages, (1 ≤ a ∧ a ≤ W.run) ∨ (1 - W.rest ≤ a ∧ a ≤ -1)
  many : s.many = n
  len : (s.ages.length : Int) ≤ n
  sorted : s.ages.Pairwise (· ≤ ·)
def onC (W : Wl) (l : List Int) : List Int := (rngI 1 W.run.toNat).map fun v => cnt v l
def offC (W : Wl) (l : List Int) : List Int := (rngI 1 (W.rest - 1).toNat).map fun v => cnt (-v) l
def phi (W : Wl) (s : Lw) : Ss := ⟨s.lv, s.past, onC W s.ages, offC W s.ages, s.many - s.ages.length⟩
theorem fresh_cons (W : Wl) (seen v a : Int) (l : List Int) : cnt v (freshL W seen (a :: l)) = (if -W.rest < stepAge W seen a ∧ stepAge W seen a = v then 1 else 0) + cnt v (freshL W seen l) := by
  unfold freshL
  rw [List.map_cons, List.filter_cons]
  by_cases h : -W.rest < stepAge W seen a
  · rw [if_pos (decide_eq_true h), cnt_cons]
    by_cases h2 : stepAge W seen a = v
    · rw [if_pos h2, if_pos ⟨h, h2⟩]
    · rw [if_neg h2, if_neg fun z => h2 z.2]
  · rw [if_neg (by simpa using h), if_neg fun z => h z.1]
    omega
theorem step_neg {W : Wl} {seen a : Int} (h : a ≤ 0) : stepAge W seen a = a - 1 := by
  unfold stepAge
  rw [if_neg (by omega)]
theorem step_stop {W : Wl} {seen a : Int} (h : 0 < a) (h1 : seen ≤ W.off) (h2 : W.run ≤ a) : stepAge W seen a = -1 := by
  unfold stepAge
  rw [if_pos h, if_pos ⟨h1, h2⟩]
theorem step_go {W : Wl} {seen a : Int} (h : 0 < a) (h1 : ¬ (seen ≤ W.off ∧ W.run ≤ a)) : stepAge W seen a = min (a + 1) W.run := by
  unfold stepAge
  rw [if_pos h, if_neg h1]
/-- the counts after a beat, by the counts before -/
theorem fresh_pos {W : Wl} {seen : Int} (ok : W.Ok) {l : List Int} (h : ∀ a ∈ l, (1 ≤ a ∧ a ≤ W.run) ∨ (1 - W.rest ≤ a ∧ a ≤ -1)) {v : Int} (v1 : 1 ≤ v) (v2 : v ≤ W.run) :
    cnt v (freshL W seen l) = (if v = 1 then 0 else cnt (v - 1) l) + (if v = W.run then (if seen ≤ W.off then 0 else cnt v l) else 0) := by
  have k1 := ok.run1
  have k4 := ok.rest2
  have k3 := ok.rest1
  induction l with
  | nil =>
    show (0 : Int) = (if v = 1 then 0 else 0) + (if v = W.run then (if seen ≤ W.off then 0 else 0) else 0)
    by_cases h1 : v = 1 <;> by_cases h2 : v = W.run <;> by_cases h3 : seen ≤ W.off <;> simp [h1, h2, h3]
  | cons a l ih =>
    have ih := ih fun b hb => h b (List.mem_cons_of_mem _ hb)
    rw [fresh_cons, ih, cnt_cons, cnt_cons]
    have hst : (0 < a ∧ seen ≤ W.off ∧ W.run ≤ a ∧ stepAge W seen a = -1) ∨ (0 < a ∧ ¬ (seen ≤ W.off ∧ W.run ≤ a) ∧ stepAge W seen a = min (a + 1) W.run) ∨ (a ≤ 0 ∧ stepAge W seen a = a - 1) := by
      by_cases h0 : 0 < a
      · by_cases hs : seen ≤ W.off ∧ W.run ≤ a
        · exact .inl ⟨h0, hs.1, hs.2, step_stop h0 hs.1 hs.2⟩
        · exact .inr (.inl ⟨h0, hs, step_go h0 hs⟩)
      · exact .inr (.inr ⟨by omega, step_neg (by omega)⟩)
    have ha := h a List.mem_cons_self
    generalize stepAge W seen a = z at hst ⊢
    generalize cnt (v - 1) l = c1
    generalize cnt v l = c2
    repeat' split
    all_goals omega
theorem fresh_neg {W : Wl} {seen : Int} (ok : W.Ok) {l : List Int} (h : ∀ a ∈ l, (1 ≤ a ∧ a ≤ W.run) ∨ (1 - W.rest ≤ a ∧ a ≤ -1)) (hr : W.rest = 2) : cnt (-1) (freshL W seen l) = (if seen ≤ W.off then cnt W.run l else 0) := by
  have k1 := ok.run1
  induction l with
  | nil =>
    show (0 : Int) = (if seen ≤ W.off then 0 else 0)
    split <;> rfl
  | cons a l ih =>
    have ih := ih fun b hb => h b (List.mem_cons_of_mem _ hb)
    rw [fresh_cons, ih, cnt_cons]
    have hst : (0 < a ∧ seen ≤ W.off ∧ W.run ≤ a ∧ stepAge W seen a = -1) ∨ (0 < a ∧ ¬ (seen ≤ W.off ∧ W.run ≤ a) ∧ stepAge W seen a = min (a + 1) W.run) ∨ (a ≤ 0 ∧ stepAge W seen a = a - 1) := by
      by_cases h0 : 0 < a
      · by_cases hs : seen ≤ W.off ∧ W.run ≤ a
        · exact .inl ⟨h0, hs.1, hs.2, step_stop h0 hs.1 hs.2⟩
        · exact .inr (.inl ⟨h0, hs, step_go h0 hs⟩)
      · exact .inr (.inr ⟨by omega, step_neg (by omega)⟩)
    have ha := h a List.mem_cons_self
    generalize stepAge W seen a = z at hst ⊢
    generalize cnt W.run l = c1
    repeat' split
    all_goals omega
/-- how many stay -/
theorem fresh_len {W : Wl} {seen : Int} (ok : W.Ok) {l : List Int} (h : ∀ a ∈ l, (1 ≤ a ∧ a ≤ W.run) ∨ (1 - W.rest ≤ a ∧ a ≤ -1)) :
    ((freshL W seen l).length : Int) = l.length - (if W.rest = 2 then cnt (-1) l else (if seen ≤ W.off then cnt W.run l else 0)) := by
  have k1 := ok.run1
  have k2 := ok.rest1
  have k3 := ok.rest2
  induction l with
  | nil =>
    show (0 : Int) = 0 - (if W.rest = 2 then 0 else (if seen ≤ W.off then 0 else 0))
    repeat' split
    all_goals rfl
  | cons a l ih =>
    have ih := ih fun b hb => h b (List.mem_cons_of_mem _ hb)
    have hc : ((freshL W seen (a :: l)).length : Int) = (if -W.rest < stepAge W seen a then 1 else 0) + ((freshL W seen l).length : Int) := by
      unfold freshL
      rw [List.map_cons, List.filter_cons]
      by_cases h : -W.rest < stepAge W seen a
      · rw [if_pos (decide_eq_true h), if_pos h, List.length_cons]; omega
      · rw [if_neg (by simpa using h), if_neg h]; omega
    rw [hc, ih, cnt_cons, cnt_cons, List.length_cons]
    have hst : (0 < a ∧ seen ≤ W.off ∧ W.run ≤ a ∧ stepAge W seen a = -1) ∨ (0 < a ∧ ¬ (seen ≤ W.off ∧ W.run ≤ a) ∧ stepAge W seen a = min (a + 1) W.run) ∨ (a ≤ 0 ∧ stepAge W seen a = a - 1) := by
      by_cases h0 : 0 < a
      · by_cases hs : seen ≤ W.off ∧ W.run ≤ a
        · exact .inl ⟨h0, hs.1, hs.2, step_stop h0 hs.1 hs.2⟩
        · exact .inr (.inl ⟨h0, hs, step_go h0 hs⟩)
      · exact .inr (.inr ⟨by omega, step_neg (by omega)⟩)
    have ha := h a List.mem_cons_self
    generalize stepAge W seen a = z at hst ⊢
    generalize cnt W.run l = c1
    generalize cnt (-1) l = c2
    repeat' split
    all_goals omega
end Pq

namespace Pq
open PySem PySem.Spec L2
open PyProof.Rows hiding St
open Evl (Ex)

/-! ### the law's beat is the rule's -/
def mapR {α β : Type} (f : α → β) : Res α → Res β
  | .over => .over
  | .dry => .dry
  | .at x => .at (f x)
def AgeOk (W : Wl) (l : List Int) : Prop := ∀ a ∈ l, (1 ≤ a ∧ a ≤ W.run) ∨ (1 - W.rest ≤ a ∧ a ≤ -1)
theorem runCases {W : Wl} (ok : W.Ok) : W.run = 1 ∨ W.run = 2 ∨ W.run = 3 := by have := ok.run1; have := ok.run2; omega
theorem restCases {W : Wl} (ok : W.Ok) : W.rest = 1 ∨ W.rest = 2 := by have := ok.rest1; have := ok.rest2; omega
theorem onC1 {W : Wl} {l : List Int} (h : W.run = 1) : onC W l = [cnt 1 l] := by unfold onC; rw [h]; rfl
theorem onC2 {W : Wl} {l : List Int} (h : W.run = 2) : onC W l = [cnt 1 l, cnt 2 l] := by unfold onC; rw [h]; rfl
theorem onC3 {W : Wl} {l : List Int} (h : W.run = 3) : onC W l = [cnt 1 l, cnt 2 l, cnt 3 l] := by unfold onC; rw [h]; rfl
theorem offC1 {W : Wl} {l : List Int} (h : W.rest = 1) : offC W l = [] := by unfold offC; rw [h]; rfl
theorem offC2 {W : Wl} {l : List Int} (h : W.rest = 2) : offC W l = [cnt (-1) l] := by unfold offC; rw [h]; rfl
theorem onC_last {W : Wl} (ok : W.Ok) (l : List Int) : (onC W l).getLastD 0 = cnt W.run l := by
  rcases runCases ok with h | h | h
  · rw [onC1 h, h]; rfl
  · rw [onC2 h, h]; rfl
  · rw [onC3 h, h]; rfl
theorem pos_sum {W : Wl} (ok : W.Ok) {l : List Int} (h : AgeOk W l) : ((l.filter fun a => decide (0 < a)).length : Int) = (onC W l).sum := by
  have hc : ∀ (a : Int) (l : List Int), (((a :: l).filter fun a => decide (0 < a)).length : Int) = (if 0 < a then 1 else 0) + ((l.filter fun a => decide (0 < a)).length : Int) := fun a l => by
    rw [List.filter_cons]
    by_cases h : 0 < a
    · rw [if_pos (decide_eq_true h), if_pos h, List.length_cons]; omega
    · rw [if_neg (by simpa using h), if_neg h]; omega
  induction l with
  | nil =>
    rcases runCases ok with h | h | h
    · rw [onC1 h]; rfl
    · rw [onC2 h]; rfl
    · rw [onC3 h]; rfl
  | cons a l ih =>
    have ih := ih fun b hb => h b (List.mem_cons_of_mem _ hb)
    have ha := h a List.mem_cons_self
    rw [hc, ih]
    rcases runCases ok with h | h | h
    · rw [onC1 h, onC1 h, cnt_cons]
      simp only [List.sum_cons, List.sum_nil]
      generalize cnt 1 l = c1
      repeat' split
      all_goals omega
    · rw [onC2 h, onC2 h, cnt_cons, cnt_cons]
      simp only [List.sum_cons, List.sum_nil]
      generalize cnt 1 l = c1
      generalize cnt 2 l = c2
      repeat' split
      all_goals omega
    · rw [onC3 h, onC3 h, cnt_cons, cnt_cons, cnt_cons]
      simp only [List.sum_cons, List.sum_nil]
      generalize cnt 1 l = c1
      generalize cnt 2 l = c2
      generalize cnt 3 l = c3
      repeat' split
      all_goals omega
theorem cnt_le (v : Int) (l : List Int) : cnt v l ≤ l.length := by
  unfold cnt
  have := List.length_filter_le (fun a => decide (a = v)) l
  omega
theorem begin_nn {W : Wl} (ok : W.Ok) {n : Int} {s : Lw} (hs : s.Ok W n) (seen : Int) : 0 ≤ beginL W seen s := by
  unfold beginL
  have := hs.many
  have := hs.len
  have := ok.starts1
  split <;> omega
theorem allL_ok {W : Wl} (ok : W.Ok) {n : Int} {s : Lw} (hs : s.Ok W n) : AgeOk W (allL W s) := fun a ha => by
  have k1 := ok.run1
  rcases List.mem_append.mp ha with z | z
  · have z := List.mem_filter.mp z
    obtain ⟨b, hb, e⟩ := List.mem_map.mp z.1
    have hz : -W.rest < a := of_decide_eq_true z.2
    have hb := hs.ages b hb
    unfold stepAge at e
    by_cases h0 : 0 < b
    · rw [if_pos h0] at e
      by_cases h1 : seenM W s.lv s.past ≤ W.off ∧ W.run ≤ b
      · rw [if_pos h1] at e; omega
      · rw [if_neg h1] at e; omega
    · rw [if_neg h0] at e; omega
  · have := List.eq_of_mem_replicate z
    omega
/-- the counts of all, after a beat -/
theorem all_on {W : Wl} (ok : W.Ok) {n : Int} {s : Lw} (hs : s.Ok W n) : onC W (allL W s) = agedOn (movesM W (phi W s)).1 (movesM W (phi W s)).2 (onC W s.ages) := by
  have hp := fun v v1 v2 => fresh_pos (W := W) (seen := seenM W s.lv s.past) ok hs.ages (v := v) v1 v2
  have bn := begin_nn ok hs (seenM W s.lv s.past)
  have o2 := ok.off2
  have hc : ∀ v, cnt v (allL W s) = cnt v (freshL W (seenM W s.lv s.past) s.ages) + (if (1 : Int) = v then beginL W (seenM W s.lv s.past) s else 0) := fun v => by
    unfold allL
    rw [cnt_append, cnt_rep]
    by_cases h : (1 : Int) = v
    · rw [if_pos h, if_pos h]; omega
    · rw [if_neg h, if_neg h]
  have hm : movesM W (phi W s) = if W.on ≤ seenM W s.lv s.past then (min W.starts (s.many - s.ages.length), 0) else (0, if seenM W s.lv s.past ≤ W.off then cnt W.run s.ages else 0) := by
    unfold movesM
    rw [show (phi W s).on.getLastD 0 = cnt W.run s.ages from onC_last ok s.ages]
    rfl
  have hb : beginL W (seenM W s.lv s.past) s = if W.on ≤ seenM W s.lv s.past then min W.starts (s.many - s.ages.length) else 0 := rfl
  rw [hm]
  generalize seenM W s.lv s.past = seen at *
  generalize beginL W seen s = bg at *
  generalize min W.starts (s.many - (s.ages.length : Int)) = mm at *
  rcases runCases ok with h | h | h
  · rw [onC1 h, onC1 h, hc, hp 1 (by omega) (by omega), h]
    by_cases h1 : W.on ≤ seen
    · rw [if_pos h1] at hb ⊢
      simp only [agedOn, if_true]
      rw [if_neg (by omega)]
      congr 1
      omega
    · rw [if_neg h1] at hb ⊢
      simp only [agedOn, if_true]
      congr 1
      split <;> omega
  · rw [onC2 h, onC2 h, hc, hc, hp 1 (by omega) (by omega), hp 2 (by omega) (by omega), h]
    by_cases h1 : W.on ≤ seen
    · rw [if_pos h1] at hb ⊢
      simp [agedOn]
      exact ⟨hb, fun z => by omega⟩
    · rw [if_neg h1] at hb ⊢
      simp [agedOn]
      refine ⟨by omega, ?_⟩
      split <;> omega
  · rw [onC3 h, onC3 h, hc, hc, hc, hp 1 (by omega) (by omega), hp 2 (by omega) (by omega), hp 3 (by omega) (by omega), h]
    by_cases h1 : W.on ≤ seen
    · rw [if_pos h1] at hb ⊢
      simp [agedOn]
      exact ⟨hb, fun z => by omega⟩
    · rw [if_neg h1] at hb ⊢
      simp [agedOn]
      refine ⟨by omega, ?_⟩
      split <;> omega
end Pq

namespace Pq
open PySem PySem.Spec L2
open PyProof.Rows hiding St
open Evl (Ex)

theorem cnt_nosuch {v : Int} {l : List Int} (h : ∀ a ∈ l, a ≠ v) : cnt v l = 0 := by
  induction l with
  | nil => rfl
  | cons a l ih =>
    rw [cnt_cons, ih fun b hb => h b (List.mem_cons_of_mem _ hb), if_neg (h a List.mem_cons_self)]
    rfl
theorem moves_phi {W : Wl} (ok : W.Ok) (s : Lw) : movesM W (phi W s) = if W.on ≤ seenM W s.lv s.past then (min W.starts (s.many - s.ages.length), 0) else (0, if seenM W s.lv s.past ≤ W.off then cnt W.run s.ages else 0) := by
  unfold movesM
  rw [show (phi W s).on.getLastD 0 = cnt W.run s.ages from onC_last ok s.ages]
  rfl
theorem all_len {W : Wl} (ok : W.Ok) {n : Int} {s : Lw} (hs : s.Ok W n) : ((allL W s).length : Int) = s.ages.length - (if W.rest = 2 then cnt (-1) s.ages else (movesM W (phi W s)).2) + (movesM W (phi W s)).1 := by
  have bn := begin_nn ok hs (seenM W s.lv s.past)
  have o2 := ok.off2
  have hb : beginL W (seenM W s.lv s.past) s = if W.on ≤ seenM W s.lv s.past then min W.starts (s.many - s.ages.length) else 0 := rfl
  have hl := fresh_len (seen := seenM W s.lv s.past) ok hs.ages
  have e : ((allL W s).length : Int) = ((freshL W (seenM W s.lv s.past) s.ages).length : Int) + beginL W (seenM W s.lv s.past) s := by
    unfold allL
    rw [List.length_append, List.length_replicate]
    omega
  rw [e, hl, moves_phi ok]
  generalize seenM W s.lv s.past = seen at *
  generalize beginL W seen s = bg at *
  by_cases h1 : W.on ≤ seen
  · rw [if_pos h1] at hb ⊢
    rw [if_neg (show ¬ seen ≤ W.off by omega)]
    simp only
    omega
  · rw [if_neg h1] at hb ⊢
    simp only
    omega
theorem all_off {W : Wl} (ok : W.Ok) {n : Int} {s : Lw} (hs : s.Ok W n) : offC W (allL W s) = agedOff (movesM W (phi W s)).2 (offC W s.ages) := by
  have o2 := ok.off2
  rcases restCases ok with h | h
  · rw [offC1 h, offC1 h]
    rfl
  · rw [offC2 h, offC2 h]
    have hn := fresh_neg (W := W) (seen := seenM W s.lv s.past) ok hs.ages h
    have hc : cnt (-1) (allL W s) = cnt (-1) (freshL W (seenM W s.lv s.past) s.ages) := by
      unfold allL
      rw [cnt_append, cnt_rep, if_neg (by decide)]
      omega
    rw [hc, hn, moves_phi ok]
    show _ = [_]
    congr 1
    by_cases h1 : W.on ≤ seenM W s.lv s.past
    · rw [if_pos h1, if_neg (by omega)]
    · rw [if_neg h1]
theorem all_ready {W : Wl} (ok : W.Ok) {n : Int} {s : Lw} (hs : s.Ok W n) : s.many - (allL W s).length = agedReady (movesM W (phi W s)).1 (movesM W (phi W s)).2 (offC W s.ages) (s.many - s.ages.length) := by
  rw [all_len ok hs]
  unfold agedReady
  rcases restCases ok with h | h
  · rw [offC1 h, if_neg (by omega), gl1]
    omega
  · rw [offC2 h, if_pos h, gl2]
    omega
theorem onC_sort (W : Wl) (l : List Int) : onC W (sortI l) = onC W l := by
  unfold onC
  exact List.map_congr_left fun v _ => cnt_sort v l
theorem offC_sort (W : Wl) (l : List Int) : offC W (sortI l) = offC W l := by
  unfold offC
  exact List.map_congr_left fun v _ => cnt_sort (-v) l
theorem len_sort (l : List Int) : (sortI l).length = l.length := List.length_mergeSort _
theorem past_drop {W : Wl} (ok : W.Ok) {p : List Int} {x : Int} (h : (p.length : Int) = W.lag) (z : 0 < W.lag) : (p ++ [x]).drop 1 = p.drop 1 ++ [x] := by
  cases p with
  | nil => simp at h; omega
  | cons a t => rfl
/-- the law's beat and the rule's are one -/
theorem beat_phi {W : Wl} (ok : W.Ok) {n : Int} {s : Lw} (hs : s.Ok W n) (i : Int) : (ledTo W (phi W s) (movesM W (phi W s)).1 (movesM W (phi W s)).2 i).1 = mapR (phi W) (beatL W s i).1 := by
  have e1 := all_on ok hs
  have e2 := all_off ok hs
  have e3 := all_ready ok hs
  have e4 := pos_sum ok (allL_ok ok hs)
  have t1 := ok.top1
  unfold ledTo beatL nextLv
  simp only []
  have l1 : (phi W s).on = onC W s.ages := rfl
  have l2 : (phi W s).off = offC W s.ages := rfl
  have l3 : (phi W s).ready = s.many - s.ages.length := rfl
  have l4 : (phi W s).lv = s.lv := rfl
  have l5 : (phi W s).past = s.past := rfl
  rw [l1, l2, l3, l4, l5, ← e1, ← e2, ← e3, ← e4]
  generalize hv : s.lv + i - W.drain * (((allL W s).filter fun a => decide (0 < a)).length : Int) = v
  by_cases h1 : W.top < v
  · rw [if_pos h1, if_pos (Or.inr h1), if_pos (by omega)]
    rfl
  · by_cases h2 : v < 0
    · rw [if_neg h1, if_pos h2, if_pos (Or.inl h2), if_neg (by omega)]
      rfl
    · rw [if_neg h1, if_neg h2, if_neg (show ¬ (v < 0 ∨ W.top < v) by omega)]
      show Res.at _ = Res.at (phi W _)
      unfold phi
      simp only [onC_sort, offC_sort, len_sort]
      congr 2
      by_cases z : 0 < W.lag
      · rw [if_pos z, if_pos z, past_drop ok hs.past z]
      · rw [if_neg z, if_neg z]
end Pq

namespace Pq
open PySem PySem.Spec L2
open PyProof.Rows hiding St
open Evl (Ex)

/-! ### states: kept right, and told by their counts -/
theorem beat_ok {W : Wl} (ok : W.Ok) {n : Int} {s t : Lw} (hs : s.Ok W n) {i : Int} (h : (beatL W s i).1 = .at t) : t.Ok W n := by
  have e1 := all_len ok hs
  have e2 := allL_ok ok hs
  have hm := hs.many
  have hl := hs.len
  have hp := hs.past
  have s1 := ok.starts1
  unfold beatL at h
  simp only [] at h
  generalize s.lv + i - W.drain * (((allL W s).filter fun a => decide (0 < a)).length : Int) = v at h
  by_cases h1 : v < 0 ∨ W.top < v
  · rw [if_pos h1] at h
    by_cases h2 : 0 < v
    · rw [if_pos h2] at h; cases h
    · rw [if_neg h2] at h; cases h
  · rw [if_neg h1] at h
    cases h
    refine ⟨?_, fun a ha => e2 a (List.mem_mergeSort.mp ha), hm, ?_, ?_⟩
    · show ((if 0 < W.lag then (s.past ++ [s.lv]).drop 1 else []).length : Int) = W.lag
      have := ok.lag1
      by_cases z : 0 < W.lag
      · rw [if_pos z, List.length_drop, List.length_append]
        simp
        omega
      · rw [if_neg z]
        simp
        omega
    · show ((sortI (allL W s)).length : Int) ≤ n
      rw [len_sort, e1, moves_phi ok]
      have c1 := cnt_nn (-1) s.ages
      have c2 := cnt_nn W.run s.ages
      by_cases z : W.on ≤ seenM W s.lv s.past
      · rw [if_pos z]
        simp only
        split <;> omega
      · rw [if_neg z]
        simp only
        split
        · omega
        · split <;> omega
    · show (sortI (allL W s)).Pairwise (· ≤ ·)
      have := List.pairwise_mergeSort (le := fun a b : Int => decide (a ≤ b)) (fun a b c h1 h2 => by simp at *; omega) (fun a b => by simp; omega) (allL W s)
      exact this.imp fun h => of_decide_eq_true h
theorem sorted_eq : ∀ {xs ys : List Int}, xs.Pairwise (· ≤ ·) → ys.Pairwise (· ≤ ·) → (∀ v, cnt v xs = cnt v ys) → xs = ys
  | [], [], _, _, _ => rfl
  | [], y :: ys, _, _, h => by
    have := h y
    rw [cnt_cons, if_pos rfl, cnt_nil] at this
    have := cnt_nn y ys
    omega
  | x :: xs, [], _, _, h => by
    have := h x
    rw [cnt_cons, if_pos rfl, cnt_nil] at this
    have := cnt_nn x xs
    omega
  | x :: xs, y :: ys, hx, hy, h => by
    rw [List.pairwise_cons] at hx hy
    have key : ∀ {a b : Int} {l m : List Int}, (∀ z ∈ m, b ≤ z) → cnt a (a :: l) = cnt a (b :: m) → b ≤ a := fun {a b l m} hb e => by
      refine Classical.byContradiction fun z => ?_
      rw [cnt_cons, cnt_cons, if_pos rfl, if_neg (by omega), cnt_nosuch (l := m) (fun c hc => by have := hb c hc; omega)] at e
      have := cnt_nn a l
      omega
    have h1 := key hy.1 (h x)
    have h2 := key hx.1 (h y).symm
    obtain rfl : x = y := by omega
    rw [sorted_eq hx.2 hy.2 fun v => ?_]
    have := h v
    rw [cnt_cons, cnt_cons] at this
    omega
theorem phi_inj {W : Wl} (ok : W.Ok) {n : Int} {s t : Lw} (hs : s.Ok W n) (ht : t.Ok W n) (h : phi W s = phi W t) : s = t := by
  have k1 := ok.run1
  have e1 : s.lv = t.lv := congrArg Ss.lv h
  have e2 : s.past = t.past := congrArg Ss.past h
  have e3 : onC W s.ages = onC W t.ages := congrArg Ss.on h
  have e4 : offC W s.ages = offC W t.ages := congrArg Ss.off h
  have e5 : s.ages = t.ages := by
    refine sorted_eq hs.sorted ht.sorted fun v => ?_
    by_cases hv : 1 ≤ v ∧ v ≤ W.run
    · unfold onC at e3
      exact List.map_inj_left.mp e3 v (mem_rngI.mpr (by omega))
    · by_cases hw : 1 - W.rest ≤ v ∧ v ≤ -1
      · unfold offC at e4
        have := List.map_inj_left.mp e4 (-v) (mem_rngI.mpr (by omega))
        rwa [Int.neg_neg] at this
      · rw [cnt_nosuch fun a ha => ?_, cnt_nosuch fun a ha => ?_]
        · have := ht.ages a ha
          omega
        · have := hs.ages a ha
          omega
  have e6 : s.many = t.many := hs.many.trans ht.many.symm
  cases s
  cases t
  simp only at e1 e2 e5 e6
  rw [e1, e2, e5, e6]
/-- the rule's move is a deed -/
theorem move_deed {W : Wl} (ok : W.Ok) {s : Ss} (on0 : ∀ i ∈ s.on, 0 ≤ i) (r0 : 0 ≤ s.ready) : movesM W s ∈ deedsM W ⟨s.lv, s.on, s.off, s.ready⟩ := by
  have h : 0 ≤ s.on.getLastD 0 := by
    rw [List.getLastD_eq_getLast?]
    cases e : s.on.getLast? with
    | none => exact Int.le_refl _
    | some x => exact on0 x (List.mem_of_getLast? e)
  have s1 := ok.starts1
  rw [mem_deeds]
  unfold movesM
  by_cases z : W.on ≤ seenM W s.lv s.past
  · rw [if_pos z]
    simp only
    omega
  · rw [if_neg z]
    simp only
    split <;> omega
end Pq

namespace Pq
open PySem PySem.Spec L2
open PyProof.Rows hiding St
open Evl (Ex)

/-! ### a search by layers -/
structure BS (α : Type) where
  layer : List α
  found : List α
  words : List Bool
def addW (ws : List Bool) (b : Bool) : List Bool := if b ∈ ws then ws else ws ++ [b]
section
variable {α β : Type} [DecidableEq α] [DecidableEq β]
/-- one outcome; the layer is the next one, as it grows -/
def visit (st : BS α) : Res α → BS α
  | .over => { st with words := addW st.words true }
  | .dry => { st with words := addW st.words false }
  | .at x => if x ∈ st.found then st else ⟨st.layer ++ [x], st.found ++ [x], st.words⟩
def outs (step : α → Int → Res α) (is : List Int) (layer : List α) : List (Res α) := layer.flatMap fun x => is.map (step x)
def bstep (step : α → Int → Res α) (is : List Int) (st : BS α) : BS α := (outs step is st.layer).foldl visit ⟨[], st.found, st.words⟩
def biter (step : α → Int → Res α) (is : List Int) : Nat → BS α → BS α
  | 0, st => st
  | k + 1, st => biter step is k (bstep step is st)
theorem bstep_nil {step : α → Int → Res α} {is : List Int} {st : BS α} (h : st.layer = []) : bstep step is st = st := by
  unfold bstep outs
  rw [h]
  cases st
  simp only at h
  rw [h]
  rfl
theorem biter_nil {step : α → Int → Res α} {is : List Int} : ∀ (k : Nat) {st : BS α}, st.layer = [] → biter step is k st = st
  | 0, _, _ => rfl
  | k + 1, st, h => by
    unfold biter
    rw [bstep_nil h]
    exact biter_nil k h
theorem biter_add {step : α → Int → Res α} {is : List Int} : ∀ (k m : Nat) (st : BS α), biter step is (k + m) st = biter step is m (biter step is k st)
  | 0, m, st => by rw [Nat.zero_add]; rfl
  | k + 1, m, st => by
    rw [Nat.succ_add]
    exact biter_add k m _
theorem biter_end {step : α → Int → Res α} {is : List Int} {st : BS α} {k m : Nat} (h1 : (biter step is k st).layer = []) (h2 : (biter step is m st).layer = []) : biter step is k st = biter step is m st := by
  rcases Nat.le_total k m with h | h
  · obtain ⟨d, rfl⟩ := Nat.le.dest h
    rw [biter_add, biter_nil d h1]
  · obtain ⟨d, rfl⟩ := Nat.le.dest h
    rw [biter_add, biter_nil d h2]
theorem biter_succ {step : α → Int → Res α} {is : List Int} (k : Nat) (st : BS α) : biter step is (k + 1) st = bstep step is (biter step is k st) := biter_add k 1 st
/-- an invariant of all that is found -/
theorem fold_inv {Q : α → Prop} : ∀ (rs : List (Res α)) (st : BS α), (∀ x, .at x ∈ rs → Q x) → (∀ x ∈ st.layer, Q x) → (∀ x ∈ st.found, Q x) → (∀ x ∈ (rs.foldl visit st).layer, Q x) ∧ ∀ x ∈ (rs.foldl visit st).found, Q x
  | [], st, _, h1, h2 => ⟨h1, h2⟩
  | r :: rs, st, h, h1, h2 => by
    rw [List.foldl_cons]
    have h' : ∀ x, .at x ∈ rs → Q x := fun x hx => h x (List.mem_cons_of_mem _ hx)
    cases r with
    | over => exact fold_inv rs _ h' h1 h2
    | dry => exact fold_inv rs _ h' h1 h2
    | «at» x =>
      have hq := h x List.mem_cons_self
      by_cases hx : x ∈ st.found
      · rw [show visit st (.at x) = st from if_pos hx]
        exact fold_inv rs st h' h1 h2
      · rw [show visit st (.at x) = ⟨st.layer ++ [x], st.found ++ [x], st.words⟩ from if_neg hx]
        refine fold_inv rs _ h' (fun y hy => ?_) fun y hy => ?_
        · rcases List.mem_append.mp hy with z | z
          · exact h1 y z
          · rw [List.mem_singleton.mp z]; exact hq
        · rcases List.mem_append.mp hy with z | z
          · exact h2 y z
          · rw [List.mem_singleton.mp z]; exact hq
theorem biter_inv {Q : α → Prop} {step : α → Int → Res α} {is : List Int} (cl : ∀ x, Q x → ∀ i ∈ is, ∀ y, step x i = .at y → Q y) : ∀ (k : Nat) (st : BS α), (∀ x ∈ st.layer, Q x) → (∀ x ∈ st.found, Q x) → (∀ x ∈ (biter step is k st).layer, Q x) ∧ ∀ x ∈ (biter step is k st).found, Q x
  | 0, st, h1, h2 => ⟨h1, h2⟩
  | k + 1, st, h1, h2 => by
    have h3 := fold_inv (Q := Q) (outs step is st.layer) ⟨[], st.found, st.words⟩ (fun x hx => by
      obtain ⟨y, hy, hx⟩ := List.mem_flatMap.mp hx
      obtain ⟨i, hi, e⟩ := List.mem_map.mp hx
      exact cl y (h1 y hy) i hi x e) (fun _ z => nomatch z) h2
    exact biter_inv cl k _ h3.1 h3.2
def BS.map (f : α → β) (st : BS α) : BS β := ⟨st.layer.map f, st.found.map f, st.words⟩
theorem fold_map {f : α → β} {Q : α → Prop} (inj : ∀ x y, Q x → Q y → f x = f y → x = y) : ∀ (rs : List (Res α)) (st : BS α), (∀ x, .at x ∈ rs → Q x) → (∀ x ∈ st.found, Q x) → (rs.map (mapR f)).foldl visit (st.map f) = (rs.foldl visit st).map f
  | [], st, _, _ => rfl
  | r :: rs, st, h, h2 => by
    rw [List.map_cons, List.foldl_cons, List.foldl_cons]
    have h' : ∀ x, .at x ∈ rs → Q x := fun x hx => h x (List.mem_cons_of_mem _ hx)
    cases r with
    | over => exact fold_map inj rs { st with words := addW st.words true } h' h2
    | dry => exact fold_map inj rs { st with words := addW st.words false } h' h2
    | «at» x =>
      have hq := h x List.mem_cons_self
      by_cases hx : x ∈ st.found
      · have e : visit (st.map f) (mapR f (.at x)) = st.map f := if_pos (List.mem_map_of_mem hx)
        rw [e, show visit st (.at x) = st from if_pos hx]
        exact fold_map inj rs st h' h2
      · have hn : f x ∉ st.found.map f := fun z => by
          obtain ⟨y, hy, e⟩ := List.mem_map.mp z
          exact hx ((inj y x (h2 y hy) hq e) ▸ hy)
        have e : visit (st.map f) (mapR f (.at x)) = (⟨st.layer ++ [x], st.found ++ [x], st.words⟩ : BS α).map f := by
          rw [show visit (st.map f) (mapR f (.at x)) = ⟨(st.map f).layer ++ [f x], (st.map f).found ++ [f x], (st.map f).words⟩ from if_neg hn]
          simp [BS.map]
        rw [e, show visit st (.at x) = ⟨st.layer ++ [x], st.found ++ [x], st.words⟩ from if_neg hx]
        refine fold_map inj rs _ h' fun y hy => ?_
        rcases List.mem_append.mp hy with z | z
        · exact h2 y z
        · rw [List.mem_singleton.mp z]; exact hq
/-- a search carried over by a map that keeps states apart -/
theorem biter_map {f : α → β} {Q : α → Prop} {step : α → Int → Res α} {step' : β → Int → Res β} {is : List Int} (inj : ∀ x y, Q x → Q y → f x = f y → x = y) (cl : ∀ x, Q x → ∀ i ∈ is, ∀ y, step x i = .at y → Q y) (com : ∀ x, Q x → ∀ i ∈ is, step' (f x) i = mapR f (step x i)) :
    ∀ (k : Nat) (st : BS α), (∀ x ∈ st.layer, Q x) → (∀ x ∈ st.found, Q x) → biter step' is k (st.map f) = (biter step is k st).map f
  | 0, _, _, _ => rfl
  | k + 1, st, h1, h2 => by
    have hr : ∀ x, .at x ∈ outs step is st.layer → Q x := fun x hx => by
      obtain ⟨y, hy, hx⟩ := List.mem_flatMap.mp hx
      obtain ⟨i, hi, e⟩ := List.mem_map.mp hx
      exact cl y (h1 y hy) i hi x e
    have e1 : outs step' is (st.layer.map f) = (outs step is st.layer).map (mapR f) := by
      unfold outs
      rw [List.flatMap_map, List.map_flatMap]
      have key : ∀ l : List α, (∀ x ∈ l, Q x) → (l.flatMap fun x => is.map (step' (f x))) = l.flatMap fun x => (is.map (step x)).map (mapR f) := by
        intro l
        induction l with
        | nil => intro _; rfl
        | cons x t ih =>
          intro hq
          rw [List.flatMap_cons, List.flatMap_cons, ih fun y hy => hq y (List.mem_cons_of_mem _ hy), List.map_map]
          congr 1
          exact List.map_congr_left fun i hi => com x (hq x List.mem_cons_self) i hi
      exact key _ h1
    have e2 : bstep step' is (st.map f) = (bstep step is st).map f := by
      unfold bstep
      rw [show (st.map f).layer = st.layer.map f from rfl, e1]
      exact fold_map inj (outs step is st.layer) ⟨[], st.found, st.words⟩ hr h2
    have h3 := fold_inv (Q := Q) (outs step is st.layer) ⟨[], st.found, st.words⟩ hr (fun _ z => nomatch z) h2
    show biter step' is k (bstep step' is (st.map f)) = _
    rw [e2]
    exact biter_map inj cl com k _ h3.1 h3.2
end
end Pq

namespace Pq
open PySem PySem.Spec L2
open PyProof.Rows hiding St
open Evl (Ex)

/-! ### the search comes to an end -/
theorem nodup_sub {α : Type} [DecidableEq α] : ∀ {l U : List α}, l.Nodup → (∀ x ∈ l, x ∈ U) → l.length ≤ U.length
  | [], _, _, _ => Nat.zero_le _
  | x :: l, U, nd, h => by
    rw [List.nodup_cons] at nd
    have hx := h x List.mem_cons_self
    have h2 := nodup_sub (U := U.erase x) nd.2 fun y hy => (List.mem_erase_of_ne (fun (e : y = x) => nd.1 (e ▸ hy))).mpr (h y (List.mem_cons_of_mem _ hy))
    rw [List.length_erase_of_mem hx] at h2
    have := List.length_pos_of_mem hx
    rw [List.length_cons]
    omega
section
variable {α : Type} [DecidableEq α]
theorem fold_grow : ∀ (rs : List (Res α)) (st : BS α), st.found.Nodup → (rs.foldl visit st).found.Nodup ∧ (rs.foldl visit st).found.length + st.layer.length = st.found.length + (rs.foldl visit st).layer.length
  | [], st, h => ⟨h, rfl⟩
  | r :: rs, st, h => by
    rw [List.foldl_cons]
    cases r with
    | over => exact fold_grow rs { st with words := addW st.words true } h
    | dry => exact fold_grow rs { st with words := addW st.words false } h
    | «at» x =>
      by_cases hx : x ∈ st.found
      · rw [show visit st (.at x) = st from if_pos hx]
        exact fold_grow rs st h
      · rw [show visit st (.at x) = ⟨st.layer ++ [x], st.found ++ [x], st.words⟩ from if_neg hx]
        have nd : (st.found ++ [x]).Nodup := by
          rw [List.nodup_append]
          exact ⟨h, by simp, fun a ha b hb => by
            rw [List.mem_singleton.mp hb]
            exact fun e => hx (e ▸ ha)⟩
        obtain ⟨h1, h2⟩ := fold_grow rs ⟨st.layer ++ [x], st.found ++ [x], st.words⟩ nd
        refine ⟨h1, ?_⟩
        simp only [List.length_append, List.length_cons, List.length_nil] at h2
        omega
theorem bstep_grow {step : α → Int → Res α} {is : List Int} {st : BS α} (h : st.found.Nodup) : (bstep step is st).found.Nodup ∧ (bstep step is st).found.length = st.found.length + (bstep step is st).layer.length := by
  obtain ⟨h1, h2⟩ := fold_grow (outs step is st.layer) ⟨[], st.found, st.words⟩ h
  exact ⟨h1, by simpa [bstep] using h2⟩
theorem biter_nodup {step : α → Int → Res α} {is : List Int} : ∀ (k : Nat) {st : BS α}, st.found.Nodup → (biter step is k st).found.Nodup
  | 0, _, h => h
  | k + 1, _, h => biter_nodup k (bstep_grow h).1
theorem biter_ends {step : α → Int → Res α} {is : List Int} {Q : α → Prop} {U : List α} (hU : ∀ x, Q x → x ∈ U) (cl : ∀ x, Q x → ∀ i ∈ is, ∀ y, step x i = .at y → Q y) : ∀ (m : Nat) (st : BS α), U.length ≤ st.found.length + m → st.found.Nodup → (∀ x ∈ st.layer, Q x) → (∀ x ∈ st.found, Q x) → ∃ k, (biter step is k st).layer = []
  | m, st, hm, nd, h1, h2 => by
    have g := bstep_grow (step := step) (is := is) nd
    have q := biter_inv cl 1 st h1 h2
    have q1 : ∀ x ∈ (bstep step is st).layer, Q x := q.1
    have q2 : ∀ x ∈ (bstep step is st).found, Q x := q.2
    by_cases hl : (bstep step is st).layer = []
    · exact ⟨1, hl⟩
    · have hp : 0 < (bstep step is st).layer.length := List.length_pos_iff.mpr hl
      have hb := nodup_sub g.1 fun x hx => hU x (q2 x hx)
      cases m with
      | zero => omega
      | succ m =>
        obtain ⟨k, hk⟩ := biter_ends hU cl m (bstep step is st) (by omega) g.1 q1 q2
        exact ⟨k + 1, hk⟩
theorem biter_size {step : α → Int → Res α} {is : List Int} {Q : α → Prop} {U : List α} (hU : ∀ x, Q x → x ∈ U) (cl : ∀ x, Q x → ∀ i ∈ is, ∀ y, step x i = .at y → Q y) (k : Nat) {st : BS α} (nd : st.found.Nodup) (h1 : ∀ x ∈ st.layer, Q x) (h2 : ∀ x ∈ st.found, Q x) : (biter step is k st).found.length ≤ U.length :=
  nodup_sub (biter_nodup k nd) fun x hx => hU x ((biter_inv cl k st h1 h2).2 x hx)
end
end Pq

namespace Pq
open PySem PySem.Spec L2
open PyProof.Rows hiding St
open Evl (Ex)

/-! ### the rule's search -/
def plS (s : Ss) : Pl := ⟨s.lv, s.on, s.off, s.ready⟩
def stepS (W : Wl) (s : Ss) (i : Int) : Res Ss := (ledTo W s (movesM W s).1 (movesM W s).2 i).1
structure Ss.Ok (W : Wl) (n : Int) (s : Ss) : Prop where
  pl : (plS s).Ok W n
  past : (s.past.length : Int) = W.lag
  pasts : ∀ x ∈ s.past, 0 ≤ x ∧ x ≤ W.top
theorem Ss.Ok.sh {W : Wl} {n : Int} {s : Ss} (h : s.Ok W n) : s.Sh W := ⟨h.past, h.pl.on, h.pl.off⟩
theorem step_led {W : Wl} {s t : Ss} {a b i : Int} (h : (ledTo W s a b i).1 = .at t) : ledBy W (plS s) (a, b) i = .at (plS t) ∧ t.past = if 0 < W.lag then s.past.drop 1 ++ [s.lv] else [] := by
  unfold ledTo at h
  simp only [] at h
  have e : ledBy W (plS s) (a, b) i = if W.top < nextLv W s.lv (agedOn a b s.on) i then .over else if nextLv W s.lv (agedOn a b s.on) i < 0 then .dry else .at ⟨nextLv W s.lv (agedOn a b s.on) i, agedOn a b s.on, agedOff b s.off, agedReady a b s.off s.ready⟩ := rfl
  rw [e]
  by_cases h1 : W.top < nextLv W s.lv (agedOn a b s.on) i
  · rw [if_pos h1] at h; cases h
  · by_cases h2 : nextLv W s.lv (agedOn a b s.on) i < 0
    · rw [if_neg h1, if_pos h2] at h; cases h
    · rw [if_neg h1, if_neg h2] at h ⊢
      cases h
      exact ⟨rfl, rfl⟩
theorem move_in {W : Wl} (ok : W.Ok) {n : Int} {s : Ss} (hs : s.Ok W n) : movesM W s ∈ deedsM W (plS s) := move_deed ok (fun i hi => (hs.pl.on0 i hi).1) hs.pl.r0
theorem stepS_ok {W : Wl} {n : Int} (ok : W.Ok) (n4 : n ≤ 4) {s t : Ss} {i : Int} (hs : s.Ok W n) (h : stepS W s i = .at t) : t.Ok W n := by
  obtain ⟨h1, h2⟩ := step_led h
  have hp := led_ok ok n4 hs.pl (move_in ok hs) h1
  have l1 := ok.lag1
  have l2 := ok.lag2
  have v1 := hs.pl.lv1
  have v2 := hs.pl.lv2
  have hl := hs.past
  refine ⟨hp, ?_, ?_⟩
  · rw [h2]
    by_cases z : 0 < W.lag
    · rw [if_pos z, List.length_append, List.length_drop]
      simp
      omega
    · rw [if_neg z]
      simp
      omega
  · rw [h2]
    intro x hx
    by_cases z : 0 < W.lag
    · rw [if_pos z] at hx
      rcases List.mem_append.mp hx with y | y
      · exact hs.pasts x (List.mem_of_mem_drop y)
      · rw [List.mem_singleton.mp y]
        exact ⟨v1, v2⟩
    · rw [if_neg z] at hx
      cases hx
/-- pumps so few that the search stays small -/
structure Few (W : Wl) (n : Int) : Prop where
  n0 : 0 ≤ n
  n3 : n ≤ 3
  n2 : 4 < W.run + W.rest → n ≤ 2
theorem rows_few {W : Wl} {n : Int} (ok : W.Ok) (f : Few W n) : (rowsM n (W.run + W.rest - 1).toNat).length ≤ 81 := by
  have k1 := ok.run2
  have k2 := ok.rest2
  have n0 := f.n0
  have n3 := f.n3
  refine Nat.le_trans (rowsM_len n0 _) ?_
  by_cases h : 4 < W.run + W.rest
  · have n2 := f.n2 h
    exact Nat.le_trans (Nat.pow_le_pow_left (show (n + 1).toNat ≤ 3 by omega) _) (Nat.le_trans (Nat.pow_le_pow_right (by decide) (show (W.run + W.rest - 1).toNat ≤ 4 by omega)) (by decide))
  · exact Nat.le_trans (Nat.pow_le_pow_left (show (n + 1).toNat ≤ 4 by omega) _) (Nat.le_trans (Nat.pow_le_pow_right (by decide) (show (W.run + W.rest - 1).toNat ≤ 3 by omega)) (by decide))
def pastsU (W : Wl) : List (List Int) := [] :: (rngI 0 (W.top + 1).toNat).map fun x => [x]
def statesU (W : Wl) (n : Int) : List Ss := (placesM W n).flatMap fun p => (pastsU W).map fun t => ⟨p.lv, t, p.on, p.off, p.ready⟩
theorem statesU_len {W : Wl} {n : Int} (ok : W.Ok) (f : Few W n) : (statesU W n).length ≤ 3402 := by
  unfold statesU
  rw [flat_map_len]
  have t2 := ok.top2
  have h1 : (pastsU W).length ≤ 7 := by
    unfold pastsU
    rw [List.length_cons, List.length_map, rngI_len]
    omega
  have h2 : (placesM W n).length ≤ 486 := by
    unfold placesM
    rw [flat_map_len, rngI_len]
    have := Nat.mul_le_mul (show (W.top + 1).toNat ≤ 6 by omega) (rows_few ok f)
    omega
  have := Nat.mul_le_mul h2 h1
  omega
theorem mem_statesU {W : Wl} {n : Int} (ok : W.Ok) {s : Ss} (hs : s.Ok W n) : s ∈ statesU W n := by
  refine List.mem_flatMap.mpr ⟨plS s, mem_placesM ok hs.pl, List.mem_map.mpr ⟨s.past, ?_, rfl⟩⟩
  have l2 := ok.lag2
  have hl := hs.past
  have hp := hs.pasts
  unfold pastsU
  generalize s.past = p at *
  rcases p with _ | ⟨x, _ | ⟨y, t⟩⟩
  · exact List.mem_cons_self
  · have := hp x List.mem_cons_self
    exact List.mem_cons_of_mem _ (List.mem_map.mpr ⟨x, mem_rngI.mpr (by omega), rfl⟩)
  · simp at hl
    omega
end Pq

namespace Pq
open PySem PySem.Spec L2
open PyProof.Rows hiding St
open Evl (Ex)

/-! ### what the search has seen -/
section
variable {α : Type} [DecidableEq α]
def DoneR (st : BS α) : Res α → Prop
  | .over => true ∈ st.words
  | .dry => false ∈ st.words
  | .at y => y ∈ st.found
theorem addW_mem {ws : List Bool} {b c : Bool} (h : c ∈ ws) : c ∈ addW ws b := by
  unfold addW
  split
  · exact h
  · exact List.mem_append_left _ h
theorem addW_self {ws : List Bool} {b : Bool} : b ∈ addW ws b := by
  unfold addW
  split
  · assumption
  · exact List.mem_append_right _ List.mem_cons_self
theorem visit_keep {st : BS α} {r : Res α} : (∀ x ∈ st.found, x ∈ (visit st r).found) ∧ (∀ b ∈ st.words, b ∈ (visit st r).words) ∧ DoneR (visit st r) r := by
  cases r with
  | over => exact ⟨fun _ h => h, fun _ h => addW_mem h, addW_self⟩
  | dry => exact ⟨fun _ h => h, fun _ h => addW_mem h, addW_self⟩
  | «at» x =>
    by_cases hx : x ∈ st.found
    · rw [show visit st (.at x) = st from if_pos hx]
      exact ⟨fun _ h => h, fun _ h => h, hx⟩
    · rw [show visit st (.at x) = ⟨st.layer ++ [x], st.found ++ [x], st.words⟩ from if_neg hx]
      exact ⟨fun _ h => List.mem_append_left _ h, fun _ h => h, List.mem_append_right _ List.mem_cons_self⟩
theorem DoneR.mono {st st' : BS α} (h1 : ∀ x ∈ st.found, x ∈ st'.found) (h2 : ∀ b ∈ st.words, b ∈ st'.words) {r : Res α} (h : DoneR st r) : DoneR st' r := by
  cases r with
  | over => exact h2 _ h
  | dry => exact h2 _ h
  | «at» x => exact h1 _ h
theorem fold_done : ∀ (rs : List (Res α)) (st : BS α), (∀ x ∈ st.found, x ∈ (rs.foldl visit st).found) ∧ (∀ b ∈ st.words, b ∈ (rs.foldl visit st).words) ∧ ∀ r ∈ rs, DoneR (rs.foldl visit st) r
  | [], st => ⟨fun _ h => h, fun _ h => h, fun _ h => nomatch h⟩
  | r :: rs, st => by
    rw [List.foldl_cons]
    obtain ⟨a1, a2, a3⟩ := visit_keep (st := st) (r := r)
    obtain ⟨b1, b2, b3⟩ := fold_done rs (visit st r)
    refine ⟨fun x h => b1 x (a1 x h), fun b h => b2 b (a2 b h), fun q hq => ?_⟩
    rcases List.mem_cons.mp hq with rfl | hq
    · exact a3.mono b1 b2
    · exact b3 q hq
theorem fold_new : ∀ (rs : List (Res α)) (st : BS α), ∀ x ∈ (rs.foldl visit st).found, x ∈ st.found ∨ x ∈ (rs.foldl visit st).layer
  | [], st, x, h => .inl h
  | r :: rs, st, x, h => by
    have lay : ∀ (rs : List (Res α)) (st : BS α), ∀ y ∈ st.layer, y ∈ (rs.foldl visit st).layer := by
      intro rs
      induction rs with
      | nil => intro st y hy; exact hy
      | cons r rs ih =>
        intro st y hy
        rw [List.foldl_cons]
        refine ih _ y ?_
        cases r with
        | over => exact hy
        | dry => exact hy
        | «at» z =>
          by_cases hz : z ∈ st.found
          · rw [show visit st (.at z) = st from if_pos hz]; exact hy
          · rw [show visit st (.at z) = ⟨st.layer ++ [z], st.found ++ [z], st.words⟩ from if_neg hz]; exact List.mem_append_left _ hy
    rw [List.foldl_cons] at h ⊢
    rcases fold_new rs (visit st r) x h with z | z
    · cases r with
      | over => exact .inl z
      | dry => exact .inl z
      | «at» y =>
        by_cases hy : y ∈ st.found
        · rw [show visit st (.at y) = st from if_pos hy] at z; exact .inl z
        · rw [show visit st (.at y) = ⟨st.layer ++ [y], st.found ++ [y], st.words⟩ from if_neg hy] at z ⊢
          rcases List.mem_append.mp z with q | q
          · exact .inl q
          · exact .inr (lay rs _ x (List.mem_append_right _ q))
    · exact .inr z
/-- each found state waits in the layer, or all its outcomes are told -/
theorem biter_done {step : α → Int → Res α} {is : List Int} : ∀ (k : Nat) (st : BS α), (∀ x ∈ st.found, x ∈ st.layer ∨ ∀ i ∈ is, DoneR st (step x i)) → ∀ x ∈ (biter step is k st).found, x ∈ (biter step is k st).layer ∨ ∀ i ∈ is, DoneR (biter step is k st) (step x i)
  | 0, _, h => h
  | k + 1, st, h => by
    refine biter_done k (bstep step is st) fun x hx => ?_
    obtain ⟨b1, b2, b3⟩ := fold_done (outs step is st.layer) ⟨[], st.found, st.words⟩
    rcases fold_new (outs step is st.layer) ⟨[], st.found, st.words⟩ x hx with z | z
    · rcases h x z with q | q
      · exact .inr fun i hi => b3 _ (List.mem_flatMap.mpr ⟨x, q, List.mem_map_of_mem hi⟩)
      · exact .inr fun i hi => (q i hi).mono b1 b2
    · exact .inl z
end
end Pq

namespace Pq
open PySem PySem.Spec L2
open PyProof.Rows hiding St
open Evl (Ex)

/-! ### a search without words: all its places are held -/
def initS (W : Wl) (n : Int) (l : Int × Int) : BS Ss := ⟨begunL W n l, begunL W n l, []⟩
theorem begunM_ok {W : Wl} (ok : W.Ok) {n lv : Int} (n0 : 0 ≤ n) (l0 : 0 ≤ lv) (l1 : lv ≤ W.top) : (begunM W n lv).Ok W n := by
  have k1 := ok.run1
  have k2 := ok.rest1
  have g1 := ok.lag1
  have rep : ∀ k : Nat, (List.replicate k (0 : Int)).sum = 0 := fun k => by
    induction k with
    | zero => rfl
    | succ k ih => rw [List.replicate_succ, List.sum_cons, ih]; rfl
  refine ⟨⟨l0, l1, ?_, ?_, fun i hi => ?_, fun i hi => ?_, n0, ?_, Int.le_refl _⟩, ?_, fun x hx => ?_⟩
  · show ((List.replicate W.run.toNat (0 : Int)).length : Int) = W.run
    rw [List.length_replicate]; omega
  · show ((List.replicate (W.rest - 1).toNat (0 : Int)).length : Int) = W.rest - 1
    rw [List.length_replicate]; omega
  · have := List.eq_of_mem_replicate hi; omega
  · have := List.eq_of_mem_replicate hi; omega
  · show (List.replicate W.run.toNat (0 : Int)).sum + (List.replicate (W.rest - 1).toNat (0 : Int)).sum + n = n
    rw [rep, rep]; omega
  · show ((List.replicate W.lag.toNat lv).length : Int) = W.lag
    rw [List.length_replicate]; omega
  · rw [List.eq_of_mem_replicate hx]
    exact ⟨l0, l1⟩
theorem begunL_ok {W : Wl} (ok : W.Ok) {n : Int} {l : Int × Int} (n0 : 0 ≤ n) (lv : LvOk W l) : ∀ x ∈ begunL W n l, x.Ok W n := fun x hx => by
  obtain ⟨v, hv, rfl⟩ := List.mem_map.mp hx
  have hv := mem_rngC.mp hv
  have := lv.a
  have := lv.c
  exact begunM_ok ok n0 (by omega) (by omega)
theorem begunL_nodup (W : Wl) (n : Int) (l : Int × Int) : (begunL W n l).Nodup := nodup_map (rngI_nodup _ _) fun x _ y _ h => congrArg Ss.lv h
theorem safe_held {W : Wl} {r l : Int × Int} {n : Int} (ok : W.Ok) (n0 : 0 ≤ n) (n4 : n ≤ 4) (lv : LvOk W l) {k : Nat} (hl : (biter (stepS W) (rngC r) k (initS W n l)).layer = []) (hw : (biter (stepS W) (rngC r) k (initS W n l)).words = []) {s : Ss} (h : s ∈ (biter (stepS W) (rngC r) k (initS W n l)).found) : plS s ∈ (fullM W r n).1 := by
  have hq : ∀ x ∈ (biter (stepS W) (rngC r) k (initS W n l)).found, x.Ok W n := (biter_inv (Q := fun s : Ss => s.Ok W n) (step := stepS W) (is := rngC r) (fun x hx i _ y e => stepS_ok ok n4 hx e) k (initS W n l) (begunL_ok ok n0 lv) (begunL_ok ok n0 lv)).2
  have hd := biter_done (step := stepS W) (is := rngC r) k (initS W n l) fun x hx => .inl hx
  generalize biter (stepS W) (rngC r) k (initS W n l) = st at *
  refine closed_held (S := fun p => ∃ s, s ∈ st.found ∧ p = plS s) (fun p hp => ?_) (fun p hp => ?_) ⟨s, h, rfl⟩
  · obtain ⟨t, ht, rfl⟩ := hp
    refine ⟨movesM W t, move_in ok (hq t ht), fun i hi => ?_⟩
    rcases hd t ht with z | z
    · rw [hl] at z; cases z
    · have hz := z i hi
      cases e : stepS W t i with
      | over => rw [e] at hz; have hz : true ∈ st.words := hz; rw [hw] at hz; cases hz
      | dry => rw [e] at hz; have hz : false ∈ st.words := hz; rw [hw] at hz; cases hz
      | «at» u =>
        rw [e] at hz
        exact ⟨plS u, (step_led e).1, u, hz, rfl⟩
  · obtain ⟨t, ht, rfl⟩ := hp
    exact mem_placesM ok (hq t ht).pl
end Pq

namespace Pq
open PySem PySem.Spec L2
open PyProof.Rows hiding St
open Evl (Ex)

/-! ### the law's search and the rule's -/
def startL (W : Wl) (n lv : Int) : Lw := ⟨lv, List.replicate W.lag.toNat lv, [], n⟩
def stepL (W : Wl) (s : Lw) (i : Int) : Res Lw := (beatL W s i).1
def initL (W : Wl) (n : Int) (l : Int × Int) : BS Lw := ⟨(rngC l).map (startL W n), (rngC l).map (startL W n), []⟩
theorem map_zero {α : Type} : ∀ l : List α, (l.map fun _ => (0 : Int)) = List.replicate l.length 0
  | [] => rfl
  | x :: l => by rw [List.map_cons, map_zero l]; rfl
theorem start_phi (W : Wl) (n lv : Int) : phi W (startL W n lv) = begunM W n lv := by
  unfold phi startL begunM onC offC
  simp only [cnt_nil, map_zero, rngI_len, List.length_nil]
  congr 1
  show n - 0 = n
  omega
theorem start_ok {W : Wl} (ok : W.Ok) {n lv : Int} (n0 : 0 ≤ n) : (startL W n lv).Ok W n := by
  have g1 := ok.lag1
  refine ⟨?_, (fun a ha => (List.not_mem_nil ha).elim), rfl, n0, List.Pairwise.nil⟩
  show ((List.replicate W.lag.toNat lv).length : Int) = W.lag
  rw [List.length_replicate]
  omega
theorem init_phi (W : Wl) (n : Int) (l : Int × Int) : (initL W n l).map (phi W) = initS W n l := by
  unfold BS.map initL initS begunL
  simp only [List.map_map]
  have e : ((phi W) ∘ startL W n) = fun lv => begunM W n lv := funext fun lv => start_phi W n lv
  rw [e]
theorem initL_ok {W : Wl} (ok : W.Ok) {n : Int} {l : Int × Int} (n0 : 0 ≤ n) : ∀ x ∈ (rngC l).map (startL W n), x.Ok W n := fun x hx => by
  obtain ⟨v, _, rfl⟩ := List.mem_map.mp hx
  exact start_ok ok n0
theorem both_searches {W : Wl} {r l : Int × Int} {n : Int} (ok : W.Ok) (n0 : 0 ≤ n) (k : Nat) : biter (stepS W) (rngC r) k (initS W n l) = (biter (stepL W) (rngC r) k (initL W n l)).map (phi W) := by
  rw [← init_phi]
  exact biter_map (Q := fun s : Lw => s.Ok W n) (fun x y hx hy h => phi_inj ok hx hy h) (fun x hx i _ y e => beat_ok ok hx e) (fun x hx i _ => beat_phi ok hx i) k _ (initL_ok ok n0) (initL_ok ok n0)
/-- the rule's search ends -/
theorem rule_ends {W : Wl} (r : Int × Int) {l : Int × Int} {n : Int} (ok : W.Ok) (n0 : 0 ≤ n) (n4 : n ≤ 4) (lv : LvOk W l) : ∃ k, (biter (stepS W) (rngC r) k (initS W n l)).layer = [] :=
  biter_ends (Q := fun s : Ss => s.Ok W n) (U := statesU W n) (fun x hx => mem_statesU ok hx) (fun x hx i _ y e => stepS_ok ok n4 hx e) _ _ (Nat.le_add_left _ _) (begunL_nodup W n l) (begunL_ok ok n0 lv) (begunL_ok ok n0 lv)
end Pq

namespace Pq
open PySem PySem.Spec L2
open PyProof.Rows hiding St
open Evl (Ex)

/-! ### a dict of words: its keys in their order -/
def wk (b : Bool) : Str := if b = true then "over" else "dry"
theorem wk_inj {a b : Bool} (h : wk a = wk b) : a = b := by
  cases a <;> cases b
  · rfl
  · exact absurd h.symm od_ne
  · exact absurd h od_ne
  · rfl
def SK.w (ws : List Bool) : SK where
  is H v F := ∃ p kvs, v = .ref p ∧ F = [p] ∧ H p = some (.dK kvs) ∧ kvs.map (·.1) = ws.map fun b => (.inr (wk b) : L2.Key)
  stay := by
    rintro H H' v F ⟨p, kvs, rfl, rfl, hp, hk⟩ e k
    exact ⟨p, kvs, rfl, rfl, (k p (by simp)).trans hp, hk⟩
  dom := by
    rintro H v F ⟨p, kvs, rfl, rfl, hp, hk⟩ a ha
    obtain rfl : a = p := by simpa using ha
    exact ⟨_, hp⟩
theorem wv_some {kvs : List (L2.Key × V)} {ws : List Bool} (hk : kvs.map (·.1) = ws.map fun b => (.inr (wk b) : L2.Key)) (b : Bool) : (valV kvs (.inr (wk b))).isSome = decide (b ∈ ws) := by
  induction kvs generalizing ws with
  | nil =>
    cases ws with
    | nil => rfl
    | cons x t => cases hk
  | cons q kvs ih =>
    cases ws with
    | nil => cases hk
    | cons x t =>
      rw [List.map_cons, List.map_cons] at hk
      injection hk with h1 h2
      by_cases e : b = x
      · subst e
        rw [valV_pos h1]
        simp
      · have e' : ¬ q.1 = .inr (wk b) := fun z => by
          rw [h1] at z
          injection z with z
          exact e (wk_inj z).symm
        rw [valV_neg e', ih h2]
        simp [e]
section
variable {X : Cx} {Φ : Lk} {δ : Slots} {E : En} {e a b c : Expr} {es : List Expr} {pos : Pos} {st : Stmt} {j : Nat}
theorem je_newW : JE X Φ (.Dict [] [] pos) δ (.o (SK.w [])) := fun H0 σ H1 sl Q q =>
  e_of pe_dnewK fun p hp => q _ _ [p] (Evl.Ex.new hp) ⟨⟨p, [], rfl, rfl, upd_same, rfl⟩, fun x hx => by
    obtain rfl : x = p := by simpa using hx
    exact ⟨hp, fun vs z => by rw [upd_same] at z; cases z⟩⟩
theorem jc_inW {ws : List Bool} {x : Bool} (hr : Room j X.A) (ha : JE X Φ a δ (.d (.str (wk x)))) (hb : JR X Φ b δ (SK.w ws)) : JC X Φ .In a b δ (decide (x ∈ ws)) := fun H0 σ H1 sl Q q => by
  refine c_of (pc_din (by have := hr.units; omega) pe_w pe_w) ?_
  refine ha H0 σ H1 sl _ fun v H2 _ e1 i1 => ?_
  refine hb H0 σ H2 (sl.mono e1) _ fun u H3 _ e2 i2 => ?_
  obtain ⟨p, kvs, rfl, _, hp, hk⟩ := i2
  refine ⟨p, valV kvs (.inr (wk x)), rfl, ?_, ?_⟩
  · rw [dt_str i1.2]
    exact DGet.k (k := .inr (wk x)) hp
  · rw [wv_some hk]
    exact q H3 (e1.trans e2)
theorem jc_notInW {ws : List Bool} {x : Bool} (hr : Room j X.A) (ha : JE X Φ a δ (.d (.str (wk x)))) (hb : JR X Φ b δ (SK.w ws)) : JC X Φ .NotIn a b δ (!decide (x ∈ ws)) := fun H0 σ H1 sl Q q => by
  refine c_of (pc_dnotin (by have := hr.units; omega) pe_w pe_w) ?_
  refine ha H0 σ H1 sl _ fun v H2 _ e1 i1 => ?_
  refine hb H0 σ H2 (sl.mono e1) _ fun u H3 _ e2 i2 => ?_
  obtain ⟨p, kvs, rfl, _, hp, hk⟩ := i2
  refine ⟨p, valV kvs (.inr (wk x)), rfl, ?_, ?_⟩
  · rw [dt_str i1.2]
    exact DGet.k (k := .inr (wk x)) hp
  · rw [wv_some hk]
    exact q H3 (e1.trans e2)
theorem putK_keys {kvs : List (L2.Key × V)} {ws : List Bool} {x : Bool} {v : V} (hk : kvs.map (·.1) = ws.map fun b => (.inr (wk b) : L2.Key)) : (putK kvs (.inr (wk x)) v).map (·.1) = (addW ws x).map fun b => (.inr (wk b) : L2.Key) := by
  have hm : (kvs.any fun kv => decide (kv.1 = .inr (wk x))) = decide (x ∈ ws) := by
    rw [← wv_some hk x]
    unfold valV
    rw [Option.isSome_map, Bool.eq_iff_iff, List.find?_isSome, List.any_eq_true]
  unfold putK addW
  rw [hm]
  by_cases h : x ∈ ws
  · rw [if_pos (decide_eq_true h), if_pos h, ← hk, List.map_map]
    refine List.map_congr_left fun q _ => ?_
    show (if q.1 = .inr (wk x) then (q.1, v) else q).1 = q.1
    split <;> rfl
  · rw [if_neg (by simpa using h), if_neg h, List.map_append, List.map_append, hk]
    rfl
/-- e gives some value -/
def JAny (X : Cx) (Φ : Lk) (e : Expr) (δ : Slots) : Prop := ∀ (H0 : Hp) (σ : L2.St) (H1 : Hp), Sl H0 Φ H1 σ δ → ∀ Q : VK, (∀ v H2, Ex H1 H2 → Q v H2) → wE X e σ H1 Q
theorem jany {k : Kd} (h : JE X Φ e δ k) : JAny X Φ e δ := fun H0 σ H1 sl Q q => h H0 σ H1 sl Q fun v H2 F e1 _ => q v H2 e1
theorem jp_putW {i0 : Nat} {y : Str} {p1 p2 : Pos} {ws : List Bool} {x : Bool} (hr : Room j X.A) (hk0 : δ[i0]? = some (some (.o (SK.w ws)))) (hv : JAny X Φ e δ) (hb : JE X Φ b δ (.d (.str (wk x)))) (hz : ws.length ≤ 1000) (hn : E.nx (δ.set i0 (some (.o (SK.w (addW ws x))))))
    (hN : X.N[i0]? = some y := by rfl) (hvis : Vis X.env.scope y := by first | exact Or.inl rfl | exact Or.inr (Or.inl rfl) | exact Or.inr (Or.inr rfl)) (h1 : (y == ("__debug__" : Str)) = false := by decide) (h2 : (y == ("__classdict__" : Str)) = false := by decide)
    (hs : swapsWith e (some (.Subscript (.Name y p1) b p2)) pos.line X.env = pure false := by rfl) : JP X Φ (.Assign [.Subscript (.Name y p1) b p2] e pos) δ E := fun H0 σ H1 D sl g => by
  refine s_of (ps_dput (by have := hr.units; omega) (pe_var hN hvis h1 h2) pe_w pe_w hs) ?_
  refine hv H0 σ H1 sl _ fun v H2 e1 => ?_
  obtain ⟨F, f⟩ := (sl.mono e1).at_
  obtain ⟨o, hso, hio⟩ := f.some_ i0 _ hk0
  refine ⟨o, hso, ?_⟩
  refine hb H0 σ H2 (sl.mono e1) _ fun u H3 _ e2 i2 => ?_
  obtain ⟨⟨p, kvs, rfl, eF, hp, hk⟩, nw⟩ := hio
  have hp3 := e2 _ _ hp
  have hl : kvs.length = ws.length := by
    have := congrArg List.length hk
    simpa using this
  rw [dt_str i2.2]
  refine ⟨p, _, rfl, DPut.k (k := .inr (wk x)) hp3 (by rw [hl, sizeLine_eq]; omega), g.nx _ _ _ (slUpdN ((sl.mono e1).mono e2) hk0 (T := SK.w (addW ws x)) (fun w F' hs' is => ?_) ⟨p, _, rfl, rfl, upd_same, putK_keys hk⟩ (fun ws z => nomatch z)) hn⟩
  rw [hso] at hs'
  cases hs'
  obtain ⟨p', kvs', z1, z2, _⟩ := is
  cases z1
  exact ⟨rfl, z2⟩
theorem jany_getW {ws : List Bool} {x : Bool} {k : Kd} {apos cpos : Pos} (hr : Room j X.A) (ha : JR X Φ a δ (SK.w ws)) (hb : JE X Φ b δ (.d (.str (wk x)))) (hd : JE X Φ c δ k) (m : M2 X a "get" apos b c cpos := by exact ⟨rfl, rfl, rfl, rfl⟩) : JAny X Φ (.Call (.Attribute a "get" apos) [b, c] [] cpos) δ := fun H0 σ H1 sl Q q => by
  refine e_of (pe_dget2 (by have := hr.units; omega) pe_w pe_w pe_w m) ?_
  refine ha H0 σ H1 sl _ fun v H2 G e1 i1 => ?_
  obtain ⟨p, kvs, rfl, _, hp, hk⟩ := i1
  refine ⟨p, rfl, .inl ⟨kvs, .inl hp⟩, ?_⟩
  refine hb H0 σ H2 (sl.mono e1) _ fun u H3 _ e2 i2 => ?_
  refine hd H0 σ H3 ((sl.mono e1).mono e2) _ fun t H4 _ e3 i3 => ?_
  rw [dt_str i2.2]
  exact ⟨_, DGet.k (k := .inr (wk x)) (e3 _ _ (e2 _ _ hp)), q _ H4 ((e1.trans e2).trans e3)⟩
theorem je_lenW {ws : List Bool} {p : Pos} (hm : X.mg "len" = none) (ha : JR X Φ a δ (SK.w ws)) (hg : Gl X "len" := by rfl) (hs : NS a := by exact fun _ _ => rfl) : JE X Φ (.Call (.Name "len" p) [a] [] pos) δ (.d (.int (ws.length : Nat))) := by
  refine je_callR (r := fun xs H Q => ∃ p kvs, xs = [.ref p] ∧ H p = some (.dK kvs) ∧ Q (.int kvs.length) H) (fun pins s σ H xs us Q I r h => ?_) hm PySem.boot_len ha (fun H v G Q is q => ?_) liftd hg (hs := hs)
  · obtain ⟨p, kvs, rfl, hp, q⟩ := h
    obtain ⟨u, rfl, rx⟩ := vals1 r
    rw [ref_of rx]
    exact d_len I (.inl hp) fun t s' I' => ⟨.int _, H, I', ⟨t, rfl⟩, q⟩
  · obtain ⟨p, kvs, rfl, _, hp, hk⟩ := is
    have hl : kvs.length = ws.length := by
      have := congrArg List.length hk
      simpa using this
    exact ⟨p, kvs, rfl, hp, by rw [hl]; exact q _ H [] (Evl.Ex.refl H) ⟨rfl, .int _⟩⟩
theorem je_listW {ws : List Bool} {p : Pos} (hm : X.mg "list" = none) (ha : JR X Φ a δ (SK.w ws)) (hc : X.calm = true := by rfl) (hg : Gl X "list" := by rfl) (hs : NS a := by exact fun _ _ => rfl) : JE X Φ (.Call (.Name "list" p) [a] [] pos) δ (.o (SK.l (ws.map fun b => .str (wk b)))) := by
  refine je_callTR (call_list_dK hc) hm (by decide +kernel) ha (fun H v G Q is q => ?_) lifto hg (hs := hs)
  obtain ⟨p, kvs, rfl, _, hp, hk⟩ := is
  refine ⟨p, kvs, rfl, hp, fun l hl => q _ _ [l] (Evl.Ex.new hl) (is_l hl upd_same ?_)⟩
  generalize upd H l _ = G'
  have e : kvs.map (fun kv => L2.kV kv.1) = ws.map fun b => V.str (wk b) := by
    have := congrArg (List.map L2.kV) hk
    rw [List.map_map, List.map_map] at this
    exact this
  rw [e]
  clear hk e hp q ha
  induction ws with
  | nil => exact .nil
  | cons x t ih => exact .cons (.str _) ih
end
end Pq

namespace Pq
open PySem PySem.Spec L2
open PyProof.Rows hiding St
open Evl (Ex)

/-! ### the rule's search, as it keeps its book -/
def kS (s : Ss) : NestedKey := .tup [.num s.lv, .tup (s.past.map .num), .tup (s.on.map .num), .tup (s.off.map .num), .num s.ready]
theorem kS_data (s : Ss) : (kS s).data = sD s := by
  show PyData.tuple [.int s.lv, .tuple (NestedKey.datas (s.past.map .num)), .tuple (NestedKey.datas (s.on.map .num)), .tuple (NestedKey.datas (s.off.map .num)), .int s.ready] = _
  rw [datas_num, datas_num, datas_num]
  rfl
theorem kS_tup (s : Ss) : TupKey (kS s) := by
  refine ⟨⟨_, rfl⟩, ?_⟩
  show max 0 (max (NestedKey.depthAll (s.past.map .num) + 1) (max (NestedKey.depthAll (s.on.map .num) + 1) (max (NestedKey.depthAll (s.off.map .num) + 1) (max 0 0)))) + 1 ≤ 8
  rw [depths_num, depths_num, depths_num]
  decide
theorem kS_inj {p q : Ss} (h : kS p = kS q) : p = q := by
  unfold kS at h
  injection h with h
  injection h with h1 h
  injection h with h2 h
  injection h with h3 h
  injection h with h4 h
  injection h with h5 _
  injection h1 with h1
  injection h2 with h2
  injection h3 with h3
  injection h4 with h4
  injection h5 with h5
  cases p
  cases q
  simp only [Ss.mk.injEq]
  exact ⟨h1, num_inj h2, num_inj h3, num_inj h4, h5⟩
abbrev Bk := List (Ss × Option (Ss × Int))
def pvD : Option (Ss × Int) → PyData
  | none => .none
  | some q => .tuple [sD q.1, .int q.2]
def bkD (kn : Bk) : List (NestedKey × PyData) := kn.map fun q => (kS q.1, pvD q.2)
def lookB (kn : Bk) (s : Ss) : Option (Option (Ss × Int)) := (kn.find? fun q => decide (q.1 = s)).map (·.2)
theorem look_bk (kn : Bk) (s : Ss) : lookN (bkD kn) (kS s) = (lookB kn s).map pvD := by
  unfold lookN lookB bkD
  induction kn with
  | nil => rfl
  | cons q t ih =>
    rw [List.map_cons, List.find?_cons, List.find?_cons]
    by_cases e : q.1 = s
    · have e' : kS q.1 = kS s := by rw [e]
      simp only [e', e, decide_true]
      rfl
    · have e' : ¬ kS q.1 = kS s := fun z => e (kS_inj z)
      simp only [e', e, decide_false]
      exact ih
theorem lookB_none {kn : Bk} {s : Ss} : lookB kn s = none ↔ s ∉ kn.map (·.1) := by
  unfold lookB
  rw [Option.map_eq_none_iff, List.find?_eq_none]
  constructor
  · intro h z
    obtain ⟨q, hq, e⟩ := List.mem_map.mp z
    exact h q hq (decide_eq_true e)
  · intro h q hq z
    exact h (List.mem_map.mpr ⟨q, hq, of_decide_eq_true z⟩)
theorem has_bk (kn : Bk) (s : Ss) : (lookN (bkD kn) (kS s)).isSome = decide (s ∈ kn.map (·.1)) := by
  rw [look_bk, Option.isSome_map]
  by_cases h : s ∈ kn.map (·.1)
  · rw [decide_eq_true h]
    cases e : lookB kn s with
    | none => exact absurd h (lookB_none.mp e)
    | some o => rfl
  · rw [decide_eq_false h, lookB_none.mpr h]
    rfl
theorem put_bk {kn : Bk} {s : Ss} {o : Option (Ss × Int)} (h : s ∉ kn.map (·.1)) : putN (bkD kn) (kS s) (pvD o) = bkD (kn ++ [(s, o)]) := by
  unfold putN
  rw [look_bk, lookB_none.mpr h]
  simp [bkD]
structure KS where
  kn : Bk
  words : List Bool
  layer : List Ss
def KS.bs (t : KS) : BS Ss := ⟨t.layer, t.kn.map (·.1), t.words⟩
def visK (s : Ss) (t : KS) (i : Int) : Res Ss → KS
  | .over => ⟨t.kn, addW t.words true, t.layer⟩
  | .dry => ⟨t.kn, addW t.words false, t.layer⟩
  | .at x => if x ∈ t.kn.map (·.1) then t else ⟨t.kn ++ [(x, some (s, i))], t.words, t.layer ++ [x]⟩
def behK (W : Wl) (is : List Int) (t : KS) (s : Ss) : KS := is.foldl (fun t i => visK s t i (stepS W s i)) t
def turnK (W : Wl) (is : List Int) (t : KS) : KS := t.layer.foldl (behK W is) ⟨t.kn, t.words, []⟩
def iterK (W : Wl) (is : List Int) : Nat → KS → KS
  | 0, t => t
  | k + 1, t => iterK W is k (turnK W is t)
theorem visK_bs {s : Ss} {t : KS} {i : Int} {r : Res Ss} : (visK s t i r).bs = visit t.bs r := by
  cases r with
  | over => rfl
  | dry => rfl
  | «at» x =>
    show (if x ∈ t.kn.map (·.1) then t else _).bs = if x ∈ t.bs.found then _ else _
    by_cases h : x ∈ t.kn.map (·.1)
    · rw [if_pos h, if_pos (show x ∈ t.bs.found from h)]
    · rw [if_neg h, if_neg (show x ∉ t.bs.found from h)]
      simp [KS.bs]
theorem behK_bs {W : Wl} {s : Ss} : ∀ {is : List Int} {t : KS}, (behK W is t s).bs = (is.map (stepS W s)).foldl visit t.bs
  | [], _ => rfl
  | i :: is, t => by
    show (behK W is (visK s t i (stepS W s i)) s).bs = (is.map (stepS W s)).foldl visit (visit t.bs (stepS W s i))
    rw [behK_bs, visK_bs]
theorem turnK_bs {W : Wl} {is : List Int} {t : KS} : (turnK W is t).bs = bstep (stepS W) is t.bs := by
  have key : ∀ (l : List Ss) (u : KS), (l.foldl (behK W is) u).bs = (outs (stepS W) is l).foldl visit u.bs := by
    intro l
    induction l with
    | nil => intro u; rfl
    | cons s l ih =>
      intro u
      rw [List.foldl_cons, ih, behK_bs]
      unfold outs
      rw [List.flatMap_cons, List.foldl_append]
  exact key t.layer ⟨t.kn, t.words, []⟩
theorem iterK_bs {W : Wl} {is : List Int} : ∀ (k : Nat) {t : KS}, (iterK W is k t).bs = biter (stepS W) is k t.bs
  | 0, _ => rfl
  | k + 1, t => by
    show (iterK W is k (turnK W is t)).bs = biter (stepS W) is k (bstep (stepS W) is t.bs)
    rw [iterK_bs k, turnK_bs]
/-- what the layer held ahead does not matter -/
theorem behK_lay {W : Wl} {s : Ss} : ∀ {is : List Int} {kn : Bk} {ws : List Bool} {L M : List Ss}, behK W is ⟨kn, ws, L ++ M⟩ s = ⟨(behK W is ⟨kn, ws, M⟩ s).kn, (behK W is ⟨kn, ws, M⟩ s).words, L ++ (behK W is ⟨kn, ws, M⟩ s).layer⟩
  | [], _, _, _, _ => rfl
  | i :: is, kn, ws, L, M => by
    show behK W is (visK s ⟨kn, ws, L ++ M⟩ i (stepS W s i)) s = ⟨(behK W is (visK s ⟨kn, ws, M⟩ i (stepS W s i)) s).kn, (behK W is (visK s ⟨kn, ws, M⟩ i (stepS W s i)) s).words, L ++ (behK W is (visK s ⟨kn, ws, M⟩ i (stepS W s i)) s).layer⟩
    cases stepS W s i with
    | over => exact behK_lay
    | dry => exact behK_lay
    | «at» x =>
      show behK W is (if x ∈ kn.map (·.1) then _ else _) s = ⟨(behK W is (if x ∈ kn.map (·.1) then _ else _) s).kn, (behK W is (if x ∈ kn.map (·.1) then _ else _) s).words, L ++ (behK W is (if x ∈ kn.map (·.1) then _ else _) s).layer⟩
      by_cases h : x ∈ kn.map (·.1)
      · simp only [if_pos h]
        exact behK_lay
      · simp only [if_neg h]
        rw [List.append_assoc]
        exact behK_lay
/-- each parent stands ahead of its child -/
def WfB (kn : Bk) : Prop := ∀ (i : Nat) (q : Ss × Option (Ss × Int)), kn[i]? = some q → ∀ s j, q.2 = some (s, j) → s ∈ (kn.take i).map (·.1)
theorem WfB.snoc {kn : Bk} (h : WfB kn) {x s : Ss} {i : Int} (hs : s ∈ kn.map (·.1)) : WfB (kn ++ [(x, some (s, i))]) := by
  intro j q hq t m e
  by_cases hj : j < kn.length
  · rw [List.getElem?_append_left hj] at hq
    rw [List.take_append_of_le_length (Nat.le_of_lt hj)]
    exact h j q hq t m e
  · have hl := (List.getElem?_eq_some_iff.mp hq).1
    rw [List.length_append, List.length_singleton] at hl
    obtain rfl : j = kn.length := by omega
    rw [List.getElem?_append_right (Nat.le_refl _), Nat.sub_self] at hq
    cases hq
    cases e
    rw [List.take_append_of_le_length (Nat.le_refl _), List.take_length]
    exact hs
theorem WfB.none {l : List Ss} : WfB (l.map fun s => (s, none)) := by
  intro i q hq s j e
  rw [List.getElem?_map] at hq
  cases h : l[i]? with
  | none => rw [h] at hq; cases hq
  | some x => rw [h] at hq; cases hq; cases e
theorem WfB.look {kn : Bk} (h : WfB kn) {m : Nat} {s : Ss} (hs : s ∈ (kn.take m).map (·.1)) : ∃ o, lookB kn s = some o ∧ ∀ t j, o = some (t, j) → ∃ m', m' < m ∧ t ∈ (kn.take m').map (·.1) := by
  obtain ⟨q, hq, rfl⟩ := List.mem_map.mp hs
  obtain ⟨j, hj, e⟩ := List.mem_take_iff_getElem.mp hq
  have hjl : j < kn.length := by omega
  have hjm : j < m := by omega
  cases hf : kn.find? (fun p => decide (p.1 = q.1)) with
  | none =>
    rw [List.find?_eq_none] at hf
    exact absurd (decide_eq_true rfl) (hf q (e ▸ List.getElem_mem hjl))
  | some p =>
    obtain ⟨_, i, hi, ei, hlt⟩ := List.find?_eq_some_iff_getElem.mp hf
    refine ⟨p.2, by unfold lookB; rw [hf]; rfl, fun t k ek => ?_⟩
    have hij : i ≤ j := by
      refine Classical.byContradiction fun z => ?_
      have := hlt j (by omega)
      rw [e] at this
      simp at this
    refine ⟨i, by omega, h i p ?_ t k ek⟩
    rw [List.getElem?_eq_getElem hi, ei]
/-- the run to a state -/
def runK (kn : Bk) : Nat → Ss → List Int → List Int
  | 0, s, acc => s.lv :: acc
  | f + 1, s, acc => match lookB kn s with
    | some (some q) => runK kn f q.1 (q.2 :: acc)
    | _ => s.lv :: acc
def runM (kn : Bk) (s : Ss) : List Int := runK kn kn.length s []
theorem runK_len (kn : Bk) : ∀ (f : Nat) (s : Ss) (acc : List Int), (runK kn f s acc).length ≤ f + acc.length + 1
  | 0, s, acc => by show (s.lv :: acc).length ≤ _; simp
  | f + 1, s, acc => by
    unfold runK
    split
    · next q _ =>
      have := runK_len kn f q.1 (q.2 :: acc)
      rw [List.length_cons] at this
      omega
    · rw [List.length_cons]; omega
/-- the invariants of a state's outcomes -/
theorem visK_ok {s : Ss} {t : KS} {i : Int} {r : Res Ss} (hs : s ∈ t.kn.map (·.1)) (h : WfB t.kn) : WfB (visK s t i r).kn ∧ s ∈ (visK s t i r).kn.map (·.1) ∧ (visK s t i r).kn.length ≤ t.kn.length + 1 ∧ (visK s t i r).layer.length ≤ t.layer.length + 1 ∧ (visK s t i r).words.length ≤ t.words.length + 1 := by
  have wl : ∀ b, (addW t.words b).length ≤ t.words.length + 1 := fun b => by
    unfold addW
    split
    · omega
    · rw [List.length_append]; simp
  cases r with
  | over => exact ⟨h, hs, by show t.kn.length ≤ _; omega, by show t.layer.length ≤ _; omega, wl true⟩
  | dry => exact ⟨h, hs, by show t.kn.length ≤ _; omega, by show t.layer.length ≤ _; omega, wl false⟩
  | «at» x =>
    by_cases hx : x ∈ t.kn.map (·.1)
    · rw [show visK s t i (.at x) = t from if_pos hx]
      exact ⟨h, hs, by omega, by omega, by omega⟩
    · rw [show visK s t i (.at x) = ⟨t.kn ++ [(x, some (s, i))], t.words, t.layer ++ [x]⟩ from if_neg hx]
      exact ⟨h.snoc hs, by rw [List.map_append]; exact List.mem_append_left _ hs, by simp, by simp, by simp⟩
theorem addW_two {ws : List Bool} (h : ws.Nodup) (b : Bool) : (addW ws b).Nodup := by
  unfold addW
  split
  · exact h
  · next hb =>
    rw [List.nodup_append]
    exact ⟨h, by simp, fun x hx y hy => by
      rw [List.mem_singleton.mp hy]
      exact fun e => hb (e ▸ hx)⟩
theorem two_words {ws : List Bool} (h : ws.Nodup) : ws.length ≤ 2 := nodup_sub (U := [true, false]) h fun b _ => by cases b <;> simp
theorem fold_words {α : Type} [DecidableEq α] : ∀ (rs : List (Res α)) (st : BS α), st.words.Nodup → (rs.foldl visit st).words.Nodup
  | [], _, h => h
  | r :: rs, st, h => by
    rw [List.foldl_cons]
    refine fold_words rs _ ?_
    cases r with
    | over => exact addW_two h true
    | dry => exact addW_two h false
    | «at» x =>
      show (if x ∈ st.found then st else _).words.Nodup
      split <;> exact h
theorem biter_words {α : Type} [DecidableEq α] {step : α → Int → Res α} {is : List Int} : ∀ (k : Nat) (st : BS α), st.words.Nodup → (biter step is k st).words.Nodup
  | 0, _, h => h
  | k + 1, st, h => biter_words k _ (fold_words _ _ h)

end Pq

namespace Pq
open PySem PySem.Spec L2
open PyProof.Rows hiding St
open Evl (Ex)

/-! ### the search as an object -/
def seF (k r : Addr) (b : Int) : List (Str × V) := putF "busy" (.int b) (putF "runs" (.ref r) (putF "known" (.ref k) []))
theorem se_n1 : ¬ (("known" : Str) = "busy") := by decide +kernel
theorem se_n2 : ¬ (("runs" : Str) = "busy") := by decide +kernel
theorem se_n3 : ¬ (("known" : Str) = "runs") := by decide +kernel
theorem se_eq (k r : Addr) (b : Int) : seF k r b = ([("known", V.ref k), ("runs", V.ref r), ("busy", V.int b)] : List (Str × V)) := by
  have e1 : putF "runs" (V.ref r) (putF "known" (V.ref k) []) = ([("known", V.ref k), ("runs", V.ref r)] : List (Str × V)) := by
    show (if ("known" : Str) = "runs" then [(("known" : Str), V.ref r)] else (("known" : Str), V.ref k) :: putF "runs" (V.ref r) []) = ([("known", V.ref k), ("runs", V.ref r)] : List (Str × V))
    rw [if_neg se_n3]
    rfl
  unfold seF
  rw [e1]
  show (if ("known" : Str) = "busy" then _ else (("known" : Str), V.ref k) :: (if ("runs" : Str) = "busy" then _ else (("runs" : Str), V.ref r) :: putF "busy" (V.int b) [])) = _
  rw [if_neg se_n1, if_neg se_n2]
  rfl
theorem se_known (k r : Addr) (b : Int) : (seF k r b).lookup ("known" : Str) = some (.ref k) := by
  unfold seF
  rw [lookup_putF, if_neg se_n1, lookup_putF, if_neg se_n3, lookup_putF, if_pos rfl]
theorem se_runs (k r : Addr) (b : Int) : (seF k r b).lookup ("runs" : Str) = some (.ref r) := by
  unfold seF
  rw [lookup_putF, if_neg se_n2, lookup_putF, if_pos rfl]
theorem se_busy (k r : Addr) (b : Int) : (seF k r b).lookup ("busy" : Str) = some (.int b) := by
  unfold seF
  rw [lookup_putF, if_pos rfl]
theorem se_no (k r : Addr) (b : Int) {m : Str} (h1 : ¬ m = "busy") (h2 : ¬ m = "runs") (h3 : ¬ m = "known") : (seF k r b).lookup m = none := by
  unfold seF
  rw [lookup_putF, if_neg h1, lookup_putF, if_neg h2, lookup_putF, if_neg h3]
  rfl
theorem se_put (k r : Addr) (b c : Int) : putF "busy" (.int c) (seF k r b) = seF k r c := by
  rw [se_eq, se_eq]
  show (if ("known" : Str) = "busy" then _ else (("known" : Str), V.ref k) :: (if ("runs" : Str) = "busy" then _ else (("runs" : Str), V.ref r) :: (if ("busy" : Str) = "busy" then _ else _))) = _
  rw [if_neg se_n1, if_neg se_n2, if_pos rfl]
/-- a search at p (or anywhere): what is known, which words have come -/
def SK.se (P : Program) (w : World) (C : Addr) (p0 : Option Addr) (kvs : List (NestedKey × PyData)) (ws : List Bool) : SK where
  is H v F := ∃ p k r dx b kv, v = .ref p ∧ (∀ q, p0 = some q → q = p) ∧ F = [p, k, r] ∧ H p = some (.ins C dx (seF k r b)) ∧ IsN P w H k kvs ∧ H r = some (.dK kv) ∧ kv.map (·.1) = ws.map fun b => (.inr (wk b) : L2.Key)
  stay := by
    rintro H H' v F ⟨p, k, r, dx, b, kv, rfl, hq, rfl, hp, hk, hr, hw⟩ e q
    exact ⟨p, k, r, dx, b, kv, rfl, hq, rfl, (q p (by simp)).trans hp, hk.ex e (q k (by simp)), (q r (by simp)).trans hr, hw⟩
  dom := by
    rintro H v F ⟨p, k, r, dx, b, kv, rfl, hq, rfl, hp, ⟨_, raw, hk, _⟩, hr, hw⟩ a ha
    simp only [List.mem_cons, List.not_mem_nil, or_false] at ha
    rcases ha with rfl | rfl | rfl
    · exact ⟨_, hp⟩
    · exact ⟨_, hk⟩
    · exact ⟨_, hr⟩
/-- what the class is -/
structure Sch (K : PySem.W.Frag) (C : Addr) : Prop where
  cls : Cls K C
  nk : NoAttr K C "known"
  nr : NoAttr K C "runs"
  nb : NoAttr K C "busy"
section
variable {X : Cx} {Φ : Lk} {δ : Slots} {E : En} {e a b c : Expr} {es : List Expr} {pos : Pos} {st : Stmt} {j : Nat} {P : Program} {w : World} {C : Addr} {p0 : Option Addr} {kvs : List (NestedKey × PyData)} {ws : List Bool}
theorem jr_any (h : JR X Φ e δ (SK.se P w C p0 kvs ws)) : JR X Φ e δ (SK.se P w C none kvs ws) := fun H0 σ H1 sl Q q => h H0 σ H1 sl Q fun v H2 G ex ⟨p, k, r, dx, b, kv, e1, _, z⟩ => q v H2 G ex ⟨p, k, r, dx, b, kv, e1, (fun _ z => nomatch z), z⟩
theorem jr_known {ap : Pos} (S : Sch X.K C) (h : JR X Φ e δ (SK.se P w C p0 kvs ws)) (hb : attributeBase e "known" X.env (eval e X.env) = eval e X.env := by rfl) : JR X Φ (.Attribute e "known" ap) δ (SK.n P w kvs) := fun H0 σ H1 sl Q q =>
  e_of (pe_fld pe_w hb) (h H0 σ H1 sl _ fun v H2 G ex ⟨p, k, r, dx, b, kv, e1, _, e2, hp, hk, hr, hw⟩ => ⟨p, C, dx, _, _, e1, hp, S.cls, S.nk, se_known k r b, q _ H2 [k] ex ⟨k, rfl, rfl, hk⟩⟩)
theorem jr_runs {ap : Pos} (S : Sch X.K C) (h : JR X Φ e δ (SK.se P w C p0 kvs ws)) (hb : attributeBase e "runs" X.env (eval e X.env) = eval e X.env := by rfl) : JR X Φ (.Attribute e "runs" ap) δ (SK.w ws) := fun H0 σ H1 sl Q q =>
  e_of (pe_fld pe_w hb) (h H0 σ H1 sl _ fun v H2 G ex ⟨p, k, r, dx, b, kv, e1, _, e2, hp, hk, hr, hw⟩ => ⟨p, C, dx, _, _, e1, hp, S.cls, S.nr, se_runs k r b, q _ H2 [r] ex ⟨r, kv, rfl, rfl, hr, hw⟩⟩)
/-- the parts of a search stand apart -/
theorem se_apart {H : Hp} {p k r dx : Addr} {b : Int} {kv : List (L2.Key × V)} (hp : H p = some (.ins C dx (seF k r b))) (hk : IsN P w H k kvs) (hr : H r = some (.dK kv)) : p ≠ k ∧ p ≠ r ∧ k ≠ r := by
  obtain ⟨_, raw, hk, _⟩ := hk
  refine ⟨fun z => ?_, fun z => ?_, fun z => ?_⟩
  · rw [z, hk] at hp; cases hp
  · rw [z, hr] at hp; cases hp
  · rw [z, hr] at hk; cases hk
/-- one of its parts changes -/
theorem sl_part {H0 H : Hp} {σ : L2.St} (sl : Sl H0 Φ H σ δ) {i0 : Nat} {S T : SK} (hk : δ[i0]? = some (some (.o S))) {a : Addr} {o : HO} (hv : ∀ v F, σ[i0]? = some (some v) → S.is H v F → a ∈ F ∧ T.is (upd H a o) v F) (nt : ∀ vs, o ≠ .tup vs) : Sl H0 Φ (upd H a o) σ (δ.set i0 (some (.o T))) :=
  sl.upd hk fun v F hs is h0 => by
    obtain ⟨ha, hT⟩ := hv v F hs is.1
    refine ⟨fun x u na z => by rw [upd_ne (fun y => na (by rw [y]; exact ha))]; exact z, F, ⟨hT, fun x hx => ⟨h0 x hx, fun vs z => ?_⟩⟩, fun x hx => .inl hx⟩
    by_cases e : x = a
    · rw [e, upd_same] at z
      cases z
      exact nt vs rfl
    · rw [upd_ne e] at z
      exact (is.2 x hx).2 vs z
/-- self.busy = max(self.busy, b) -/
theorem jp_busy {i0 : Nat} {x : Str} {n : Int} {p1 p2 p3 p4 p5 p6 : Pos} (S : Sch X.K C) (hk : δ[i0]? = some (some (.o (SK.se P w C p0 kvs ws)))) (hm : X.mg "max" = none) (hb : JE X Φ b δ (.d (.int n))) (hn : E.nx (δ.set i0 (some (.o (SK.se P w C p0 kvs ws)))))
    (hN : X.N[i0]? = some x := by rfl) (hv : Vis X.env.scope x := by first | exact Or.inl rfl | exact Or.inr (Or.inl rfl) | exact Or.inr (Or.inr rfl)) (h1 : (x == ("__debug__" : Str)) = false := by decide) (h2 : (x == ("__classdict__" : Str)) = false := by decide)
    (hg : Gl X "max" := by rfl) (hc : X.calm = true := by rfl) (hs1 : NS (.Attribute (.Name x p4) "busy" p5) := by exact fun _ _ => rfl) (hs2 : NS b := by exact fun _ _ => rfl) (hb1 : attributeBase (.Name x p4) "busy" X.env (eval (.Name x p4) X.env) = eval (.Name x p4) X.env := by rfl)
    (hs : swapsWith (.Call (.Name "max" p3) [.Attribute (.Name x p4) "busy" p5, b] [] p6) (some (.Attribute (.Name x p1) "busy" p2)) pos.line X.env = pure false := by rfl) :
    JP X Φ (.Assign [.Attribute (.Name x p1) "busy" p2] (.Call (.Name "max" p3) [.Attribute (.Name x p4) "busy" p5, b] [] p6) pos) δ E := fun H0 σ H1 D sl g => by
  refine s_of (ps_fld (pe_var hN hv h1 h2) (pe_callB (call_max2 hc) hg hm (by decide +kernel) (pa_cons (pe_fld (pe_var hN hv h1 h2) hb1) (pa_cons pe_w pa_nil (hs2 _ _)) (hs1 _ _)) (he := hs1 _ _) (hpl := hs2.any _ _)) hs) ?_
  obtain ⟨F, f⟩ := sl.at_
  obtain ⟨v, hv0, hi⟩ := f.some_ i0 _ hk
  obtain ⟨⟨p, k, r, dx, b0, kv, rfl, hq, eF, hp, hkn, hr, hw⟩, nw⟩ := hi
  refine ⟨_, hv0, p, C, dx, _, _, rfl, hp, S.cls, S.nb, se_busy k r b0, hb H0 σ H1 sl _ fun u H2 _ e1 i1 => ?_⟩
  have hp2 := e1 _ _ hp
  refine ⟨b0, n, by rw [dt_int i1.2], _, hv0, p, C, dx, _, rfl, hp2, S.cls, S.nb, (by rw [se_eq]; show 3 < 1000; decide), ?_⟩
  rw [se_put]
  refine g.nx _ _ _ (sl_part (sl.mono e1) hk (T := SK.se P w C p0 kvs ws) (a := p) (fun v F' hs' is => ?_) (fun vs z => by cases z)) hn
  rw [hv0] at hs'
  cases hs'
  obtain ⟨p', k', r', dx', b', kv', z1, z0, z2, z3, z4, z5, z6⟩ := is
  cases z1
  rw [hp2] at z3
  cases z3
  obtain ⟨n1, n2, n3⟩ := se_apart hp2 z4 z5
  exact ⟨by rw [z2]; simp, p, _, _, dx, _, kv', rfl, z0, z2, upd_same, z4.ex ((TEx.refl H2).upd (fun ws z => by rw [hp2] at z; cases z)) (upd_ne n1.symm), by rw [upd_ne n2.symm]; exact z5, z6⟩
/-- self.known[k] = v -/
theorem jp_putKn {i0 : Nat} {x : Str} {p1 p2 p3 : Pos} {k : NestedKey} {d : PyData} (S : Sch X.K C) (hr : Room j X.A) (hk0 : δ[i0]? = some (some (.o (SK.se P w C p0 kvs ws)))) (hv : JE X Φ e δ (.d d)) (hb : JE X Φ b δ (.d k.data)) (hk : TupKey k) (hz : kvs.length ≤ 1000000) (hn : E.nx (δ.set i0 (some (.o (SK.se P w C p0 (putN kvs k d) ws)))))
    (hN : X.N[i0]? = some x := by rfl) (hvis : Vis X.env.scope x := by first | exact Or.inl rfl | exact Or.inr (Or.inl rfl) | exact Or.inr (Or.inr rfl)) (h1 : (x == ("__debug__" : Str)) = false := by decide) (h2 : (x == ("__classdict__" : Str)) = false := by decide) (hb1 : attributeBase (.Name x p1) "known" X.env (eval (.Name x p1) X.env) = eval (.Name x p1) X.env := by rfl)
    (hs : swapsWith e (some (.Subscript (.Attribute (.Name x p1) "known" p3) b p2)) pos.line X.env = pure false := by rfl) (hP : P = X.prog := by rfl) (hw : w = X.w := by rfl) : JP X Φ (.Assign [.Subscript (.Attribute (.Name x p1) "known" p3) b p2] e pos) δ E := fun H0 σ H1 D sl g => by
  subst hP hw
  intro pins s I
  refine wpAny_Assign_Subscript (thn (hv.go sl I) fun r s1 ⟨v, H2, F, I2, rv, e1, i1⟩ => ?_) hs
  obtain ⟨Fs, f⟩ := (sl.mono e1).at_
  obtain ⟨o, hso, hio⟩ := f.some_ i0 _ hk0
  obtain ⟨⟨p, kn, r0, dx, b0, kv, rfl, hq, eF, hp, hkn, hr0, hw⟩, nw⟩ := id hio
  refine thn ((pe_fld (pe_var hN hvis h1 h2) hb1).run pins s1 σ H2 (fun v H => v = .ref kn ∧ H = H2) I2 ⟨_, hso, p, C, dx, _, _, rfl, hp, S.cls, S.nk, se_known kn r0 b0, rfl, rfl⟩) fun u s2 ⟨v2, H2', I3, r3, e3, e4⟩ => ?_
  subst e3 e4
  refine thn (hb.go (sl.mono e1) I3) fun iv s3 ⟨y, H4, G, I4, r4, e5, i4⟩ => ?_
  rw [ref_of r3]
  have hp4 := e5 _ _ hp
  have hr4 := e5 _ _ hr0
  have hkn4 : IsN X.prog X.w H4 kn kvs := hkn.ex (.of e5) (by obtain ⟨_, raw, q, _⟩ := hkn; rw [q, e5 _ _ q])
  obtain ⟨n1, n2, n3⟩ := se_apart hp4 hkn4 hr4
  refine n_set (Room.u9 hr) I4 hkn4 hk i4.2 r4 (i1.2.ex (.of e5)) rv (by rw [sizeLine_eq]; omega) fun ob s' I' isn => ?_
  have hob : ∀ vs, ob ≠ .tup vs := fun vs z => by
    obtain ⟨_, raw, q, _⟩ := isn
    rw [upd_same, z] at q
    cases q
  refine ⟨σ, _, I', g.nx _ _ _ (sl_part (sl.mono (e1.trans e5)) hk0 (T := SK.se X.prog X.w C p0 (putN kvs k d) ws) (a := kn) (fun v F' hs' is => ?_) hob) hn⟩
  rw [hso] at hs'
  cases hs'
  obtain ⟨p', k', r', dx', b', kv', z1, z0, z2, z3, z4, z5, z6⟩ := is
  cases z1
  rw [hp4] at z3
  injection z3 with z3
  injection z3 with z31 z32 z33
  have ek := (se_known kn r0 b0).symm.trans ((congrArg (fun l => List.lookup ("known" : Str) l) z33).trans (se_known k' r' b'))
  have er := (se_runs kn r0 b0).symm.trans ((congrArg (fun l => List.lookup ("runs" : Str) l) z33).trans (se_runs k' r' b'))
  cases ek
  cases er
  refine ⟨by rw [z2]; simp, p, kn, r0, dx, b0, kv, rfl, z0, z2, by rw [upd_ne n1]; exact hp4, isn, by rw [upd_ne n3.symm]; exact hr4, hw⟩
/-- self.runs[k] = v -/
theorem jp_putRn {i0 : Nat} {y : Str} {p1 p2 p3 : Pos} {x : Bool} (S : Sch X.K C) (hr : Room j X.A) (hk0 : δ[i0]? = some (some (.o (SK.se P w C p0 kvs ws)))) (hv : JAny X Φ e δ) (hb : JE X Φ b δ (.d (.str (wk x)))) (hz : ws.length ≤ 1000) (hn : E.nx (δ.set i0 (some (.o (SK.se P w C p0 kvs (addW ws x))))))
    (hN : X.N[i0]? = some y := by rfl) (hvis : Vis X.env.scope y := by first | exact Or.inl rfl | exact Or.inr (Or.inl rfl) | exact Or.inr (Or.inr rfl)) (h1 : (y == ("__debug__" : Str)) = false := by decide) (h2 : (y == ("__classdict__" : Str)) = false := by decide) (hb1 : attributeBase (.Name y p1) "runs" X.env (eval (.Name y p1) X.env) = eval (.Name y p1) X.env := by rfl)
    (hs : swapsWith e (some (.Subscript (.Attribute (.Name y p1) "runs" p3) b p2)) pos.line X.env = pure false := by rfl) : JP X Φ (.Assign [.Subscript (.Attribute (.Name y p1) "runs" p3) b p2] e pos) δ E := fun H0 σ H1 D sl g => by
  refine s_of (ps_dput (by have := hr.units; omega) (pe_fld (pe_var hN hvis h1 h2) hb1) pe_w pe_w hs) ?_
  refine hv H0 σ H1 sl _ fun v H2 e1 => ?_
  obtain ⟨F, f⟩ := (sl.mono e1).at_
  obtain ⟨o, hso, hio⟩ := f.some_ i0 _ hk0
  obtain ⟨⟨p, kn, r0, dx, b0, kv, rfl, hq, eF, hp, hkn, hr0, hw⟩, nw⟩ := id hio
  refine ⟨_, hso, p, C, dx, _, _, rfl, hp, S.cls, S.nr, se_runs kn r0 b0, ?_⟩
  refine hb H0 σ H2 (sl.mono e1) _ fun u H3 _ e2 i2 => ?_
  have hp3 := e2 _ _ hp
  have hr3 := e2 _ _ hr0
  have hkn3 : IsN P w H3 kn kvs := hkn.ex (.of e2) (by obtain ⟨_, raw, q, _⟩ := hkn; rw [q, e2 _ _ q])
  obtain ⟨n1, n2, n3⟩ := se_apart hp3 hkn3 hr3
  have hl : kv.length = ws.length := by
    have := congrArg List.length hw
    simpa using this
  rw [dt_str i2.2]
  refine ⟨r0, _, rfl, DPut.k (k := .inr (wk x)) hr3 (by rw [hl, sizeLine_eq]; omega), g.nx _ _ _ (sl_part ((sl.mono e1).mono e2) hk0 (T := SK.se P w C p0 kvs (addW ws x)) (a := r0) (fun w' F' hs' is => ?_) (fun ws z => by cases z)) hn⟩
  rw [hso] at hs'
  cases hs'
  obtain ⟨p', k', r', dx', b', kv', z1, z0, z2, z3, z4, z5, z6⟩ := is
  cases z1
  rw [hp3] at z3
  injection z3 with z3
  injection z3 with z31 z32 z33
  have ek := (se_known kn r0 b0).symm.trans ((congrArg (fun l => List.lookup ("known" : Str) l) z33).trans (se_known k' r' b'))
  have er := (se_runs kn r0 b0).symm.trans ((congrArg (fun l => List.lookup ("runs" : Str) l) z33).trans (se_runs k' r' b'))
  cases ek
  cases er
  exact ⟨by rw [z2]; simp, p, kn, r0, dx, b0, _, rfl, z0, z2, by rw [upd_ne n2]; exact hp3, hkn3.ex ((TEx.refl H3).upd (fun ws z => by rw [hr3] at z; cases z)) (upd_ne n3), upd_same, putK_keys hw⟩
/-! ### methods that leave all as it is -/
structure HasM (P : Program) (w : World) (K : PySem.W.Frag) (mg : Str → Option Value) (base : Heap) (k : Nat) (C : Addr) (m : Str) (ps : List Str) (sp : Sp) : Prop where
  out : ∃ (f : Addr) (fd : FuncData), FnOk P w K mg base CX0 k f fd ps sp ∧ Meth K C m f ∧ Binds K fd ps []
theorem je_meth {S : Rl} {T : SK} {k : Nat} {m : Str} {ps : List Str} {apos : Pos} {pl : Sem Bool} {ks : List Kd} {r : Kd} {o : Expr} (h : HasM X.prog X.w X.K X.mg X.base k C m ps (spF S)) (hc : Cls X.K C) (hr : Room k X.A) (hr0 : JR X Φ o δ T) (hT : ∀ H v G, T.is H v G → ∃ a dx fs, v = .ref a ∧ H a = some (.ins C dx fs) ∧ fs.lookup m = none)
    (ha : JA X Φ (e :: es) δ ks) (hS : S (.bo T :: ks) r) (ho : r.own) (hs : NS e := by exact fun _ _ => rfl) (hs2 : NSs es := by exact fun _ _ => rfl)
    (ht : eval (.Call (.Attribute o m apos) (e :: es) [] pos) X.env = (do
      let ov ← eval o X.env
      standAt apos.atName
      let (f, first) ← holding [ov] (getMethod ov m pl)
      callWith pos f first (backTo pos (starEach (e :: es) X.env)) (backToKw pos (keywordEach [] X.env))) := by rfl) : JE X Φ (.Call (.Attribute o m apos) (e :: es) [] pos) δ r := fun H0 σ H1 sl Q q => by
  obtain ⟨f, fd, ok, mt, bi⟩ := h.out
  refine e_of (pe_meth (pl := pl) pe_w hc mt ok hr bi .nil pass0 pa_w (hst := hs _ _) (hpl := hs2 _ _) (ht := ht)) ?_
  refine hr0 H0 σ H1 sl _ fun v H2 G e1 i1 => ?_
  obtain ⟨a, dx, fs, rfl, hp, hl⟩ := hT H2 v G i1
  refine ⟨a, dx, fs, rfl, hp, hl, ?_⟩
  refine ha H0 σ H2 (sl.mono e1) _ fun vs H3 e2 i2 => ?_
  rw [List.append_nil]
  exact ⟨_, r, hS, ho, .cons ⟨rfl, G, T.ex i1 e2⟩ i2, fun v H4 F e3 i3 => q v H4 F ((e1.trans e2).trans e3) (i3.lift ho (e1.trans e2))⟩
theorem je_meth0 {S : Rl} {T : SK} {k : Nat} {m : Str} {ps : List Str} {apos : Pos} {pl : Sem Bool} {r : Kd} {o : Expr} (h : HasM X.prog X.w X.K X.mg X.base k C m ps (spF S)) (hc : Cls X.K C) (hr : Room k X.A) (hr0 : JR X Φ o δ T) (hT : ∀ H v G, T.is H v G → ∃ a dx fs, v = .ref a ∧ H a = some (.ins C dx fs) ∧ fs.lookup m = none)
    (hS : S [.bo T] r) (ho : r.own)
    (ht : eval (.Call (.Attribute o m apos) [] [] pos) X.env = (do
      let ov ← eval o X.env
      standAt apos.atName
      let (f, first) ← holding [ov] (getMethod ov m pl)
      callWith pos f first (backTo pos (starEach [] X.env)) (backToKw pos (keywordEach [] X.env))) := by rfl) : JE X Φ (.Call (.Attribute o m apos) [] [] pos) δ r := fun H0 σ H1 sl Q q => by
  obtain ⟨f, fd, ok, mt, bi⟩ := h.out
  refine e_of (pe_meth0 (pl := pl) pe_w hc mt ok hr bi .nil pass0 (ht := ht)) ?_
  refine hr0 H0 σ H1 sl _ fun v H2 G e1 i1 => ?_
  obtain ⟨a, dx, fs, rfl, hp, hl⟩ := hT H2 v G i1
  exact ⟨a, dx, fs, rfl, hp, hl, [.bo T], r, hS, ho, .cons ⟨rfl, G, i1⟩ .nil, fun v H4 F e3 i3 => q v H4 F (e1.trans e3) (i3.lift ho e1)⟩
theorem se_meth {m : Str} (h1 : ¬ m = "busy") (h2 : ¬ m = "runs") (h3 : ¬ m = "known") : ∀ H v G, (SK.se P w C p0 kvs ws).is H v G → ∃ a dx fs, v = .ref a ∧ H a = some (.ins C dx fs) ∧ fs.lookup m = none := fun H v G ⟨p, k, r, dx, b, kv, e1, _, _, hp, _⟩ => ⟨p, dx, _, e1, hp, se_no k r b h1 h2 h3⟩
end

end Pq

namespace Pq
open PySem PySem.Spec L2
open PyProof.Rows hiding St
open Evl (Ex)

/-! ### a dict of words compared with {} -/
def wordM (ws : List Bool) : Str := if ws = [] then "safe" else if ws.length = 2 then "both" else wk (ws.headD true)
section
variable {X : Cx} {Φ : Lk} {δ : Slots} {E : En} {e a b c : Expr} {es : List Expr} {pos : Pos} {st : Stmt} {j : Nat}
theorem op_eqW0 (hu : X.A.units < cLine) : OpR X (compareOp .Eq) (fun x y H Q => ∃ a b kvs, x = .ref a ∧ y = .ref b ∧ H a = some (.dK kvs) ∧ H b = some (.dK []) ∧ Q (.bl (decide (kvs = []))) H) := by
  intro pins s σ H x y v u Q I rx ry h
  obtain ⟨a, b, kvs, rfl, rfl, ea, eb, q⟩ := h
  rw [ref_of rx, ref_of ry]
  obtain ⟨_, ya, va, ra, da⟩ := (show ObjOk X.prog X.w H s.heap a (.dK kvs) from I.hok a _ ea)
  obtain ⟨_, yb, vb, rb, db⟩ := (show ObjOk X.prog X.w H s.heap b (.dK []) from I.hok b _ eb)
  have h1 := ra.length
  have h2 := rb.length
  have evb : vb = [] := List.length_eq_zero_iff.mp h2.symm
  subst evb
  refine PySem.W.keq_eq (knd := mixKind X.prog X.w) (r := true) ya yb da db hu (fun hl => ?_) ⟨.bl (decide (kvs = [])), H, I, ?_, q⟩
  · have eva : va = [] := List.length_eq_zero_iff.mp hl
    subst eva
    exact .nil
  · show _ = Value.bool _
    congr 1
    cases kvs with
    | nil =>
      have eva : va = [] := List.length_eq_zero_iff.mp h1.symm
      subst eva
      rfl
    | cons p t =>
      cases va with
      | nil => cases h1
      | cons q r => simp
theorem jc_eqW0 {ws : List Bool} {p2 : Pos} (hr : Room j X.A) (ha : JR X Φ a δ (SK.w ws)) : JC X Φ .Eq a (.Dict [] [] p2) δ (decide (ws = [])) := fun H0 σ H1 sl Q q => by
  refine c_of (pc_op (op_eqW0 (by have := hr.units; omega)) pe_w pe_dnewK) ?_
  refine ha H0 σ H1 sl _ fun v H2 G e1 i1 => ?_
  obtain ⟨p, kvs, rfl, _, hp, hk⟩ := i1
  intro d hd
  refine ⟨p, d, kvs, rfl, rfl, (Evl.Ex.new hd) _ _ hp, upd_same, ?_⟩
  have e : decide (kvs = []) = decide (ws = []) := by
    cases kvs with
    | nil =>
      cases ws with
      | nil => rfl
      | cons x t => cases hk
    | cons x t =>
      cases ws with
      | nil => cases hk
      | cons y u => rfl
  rw [e]
  exact q _ (e1.trans (Evl.Ex.new hd))
end
def s_run_to (P : Program) (w : World) (C : Addr) : Rl := RL (fun (x : Bk × List Bool × Ss × Option Addr) => match x with | (kn, ws, s, p0) => WfB kn ∧ kn.length ≤ 100000 ∧ s ∈ kn.map (·.1)) (fun (kn, ws, s, p0) => [.bo (SK.se P w C p0 (bkD kn) ws), .d (sD s)]) (fun (kn, ws, s, p0) => .d (iL (runM kn s)))
def s_word (P : Program) (w : World) (C : Addr) : Rl := RL (fun (x : List (NestedKey × PyData) × List Bool × Option Addr) => True) (fun (kvs, ws, p0) => [.bo (SK.se P w C p0 kvs ws)]) (fun (kvs, ws, p0) => .d (.str (wordM ws)))
abbrev mInit : Stmt := inClass (top 38) 0
abbrev mBehind : Stmt := inClass (top 38) 1
abbrev mRun : Stmt := inClass (top 38) 2
abbrev mWord : Stmt := inClass (top 38) 3
section
variable {P : Program} {w : World} {K : PySem.W.Frag} {mg : Str → Option Value} {base : Heap}
theorem ok_run_to {k : Nat} {f C : Addr} {fd : FuncData} (S : Sch K C) (F : Fun K "run_to" "Search.run_to" mRun f fd) : FnOk P w K mg base CX0 (k + 1) f fd ["self", "state"] (spF (s_run_to P w C)) := by
  have sc : FnScope ["self", "state", "found", "inflow"] ["self", "state"] (defScope mRun) := ⟨rfl, rfl, rfl, by decide +kernel, rfl, by decide +kernel, by decide +kernel⟩
  have nd : (["self", "state", "found", "inflow"] : List Str).Nodup := by decide +kernel
  refine fn_ok F sc (RL.len fun _ => rfl) (fun cdv A outer s H E ks r hr hS => ?_)
  obtain ⟨⟨kn, ws, s0, p0⟩, ⟨wf, hl, hs0⟩, rfl, rfl⟩ := hS
  refine js_cons (jp_set (i := 2) (je_tup jds_nil (hz := by simp)) trivial ?_ nd)
  refine js_cons (jp_while (fun m δ => ∃ (s : Ss) (acc : List Int) (f : Nat) (x : Option Kd), δ = [some (.bo (SK.se P w C p0 (bkD kn) ws)), some (.d (sD s)), some (.d (iL acc)), x] ∧ s ∈ (kn.take m).map (·.1) ∧ m ≤ f ∧ f + acc.length ≤ kn.length ∧ runK kn f s acc = runM kn s0) kn.length
    ⟨s0, [], kn.length, none, rfl, by rw [List.take_length]; exact hs0, Nat.le_refl _, by simp, rfl⟩ (fun m δ1 hI => ?_))
  · obtain ⟨s, acc, f, x, rfl, hs, hm, hf, hrun⟩ := hI
    obtain ⟨o, ho, hpar⟩ := wf.look hs
    have get : ∀ {Φ : Lk} {p : Pos} {x : Option Kd} {p1 p2 p3 p4 : Pos}, JE (bx P w K mg base ["self", "state", "found", "inflow"] "Search.run_to" mRun _ cdv A outer _ H E) Φ (.Subscript (.Attribute (.Name "self" p1) "known" p2) (.Name "state" p3) p4) [some (.bo (SK.se P w C p0 (bkD kn) ws)), some (.d (sD s)), some (.d (iL acc)), x] (.d (pvD o)) := fun {Φ p x p1 p2 p3 p4} =>
      je_getN (k := kS s) hr (jr_n (jr_known S (jr_vb (i := 0) rfl))) (je_is (je_nm (i := 1) rfl rfl) (kS_data s).symm) (kS_tup s) (by rw [look_bk, ho]; rfl)
    cases o with
    | none =>
      refine ⟨false, jt_is (jt_c (jc_notN (get (p := ⟨0, 0, 0, 0⟩)))) rfl, (fun z => nomatch z), fun _ => ?_⟩
      have e : runK kn f s acc = s.lv :: acc := by
        cases f with
        | zero => rfl
        | succ f => unfold runK; rw [ho]
      refine js_one (jp_ret (je_is (je_cat (je_tup (jds_cons (je_ix (je_nm (i := 1) rfl rfl) je_int rfl) jds_nil) (hz := by simp)) (je_nm (i := 2) (d := .tuple (acc.map .int)) rfl rfl) ?_) ?_) trivial rfl)
      · simp only [List.length_cons, List.length_nil, List.length_map]
        omega
      · rw [← hrun, e]
        rfl
    | some q =>
      obtain ⟨m', hm', ht⟩ := hpar q.1 q.2 rfl
      refine ⟨true, jt_is (jt_c (jc_notN (get (p := ⟨0, 0, 0, 0⟩)))) rfl, fun _ => ?_, (fun z => nomatch z)⟩
      obtain ⟨f, rfl⟩ : ∃ g, f = g + 1 := ⟨f - 1, by omega⟩
      refine js_cons (jp_asg (js := [1, 3]) (ds := [sD q.1, .int q.2]) (get (p := ⟨0, 0, 0, 0⟩)) (tg_tup (nm_cons (i := 1) nd (nm_cons (i := 3) nd nm_nil)) rfl) ?_)
      refine js_one (jp_set (i := 2) (je_is (y := iL (q.2 :: acc)) (je_cat (je_tup (jds_cons (je_nm (i := 3) rfl rfl) jds_nil) (hz := by simp)) (je_nm (i := 2) (d := .tuple (acc.map .int)) rfl rfl) ?_) rfl) trivial ?_ nd)
      · simp only [List.length_cons, List.length_nil, List.length_map]
        omega
      · refine ⟨m', hm', q.1, q.2 :: acc, f, _, rfl, ht, by omega, ?_, ?_⟩
        · rw [List.length_cons]; omega
        · rw [← hrun]
          conv => rhs; unfold runK
          rw [ho]
theorem ok_word {k : Nat} {f C : Addr} {fd : FuncData} (T : Txt mg) (S : Sch K C) (F : Fun K "word" "Search.word" mWord f fd) : FnOk P w K mg base CX0 (k + 1) f fd ["self"] (spF (s_word P w C)) := by
  have sc : FnScope ["self"] ["self"] (defScope mWord) := ⟨rfl, rfl, rfl, by decide +kernel, rfl, by decide +kernel, by decide +kernel⟩
  have nd : (["self"] : List Str).Nodup := by decide +kernel
  refine fn_ok F sc (RL.len fun _ => rfl) (fun cdv A outer s H E ks r hr hS => ?_)
  obtain ⟨⟨kvs, ws, p0⟩, _, rfl, rfl⟩ := hS
  refine js_cons (jp_if (jt_c (jc_eqW0 hr (jr_runs S (jr_vb (i := 0) rfl)))) (fun h => ?_) (fun h => ?_))
  · have h := of_decide_eq_true h
    refine js_one (jp_ret (je_is (je_gs T.SAFE) ?_) trivial rfl)
    unfold wordM
    rw [if_pos h]
  · have h : ws ≠ [] := by simpa using h
    refine js_nil ?_
    refine js_one (jp_ret (je_is (je_ite (x := .str "both") (y := .str (wk (ws.headD true))) (jt_c (jc_eqI (je_lenW T.len (jr_runs S (jr_vb (i := 0) rfl))) je_int)) (fun z => je_gs T.BOTH) (fun z => je_ixL (jr_new (je_listW T.list (jr_runs S (jr_vb (i := 0) rfl)))) je_int ?_)) ?_) trivial rfl)
    · cases ws with
      | nil => exact absurd rfl h
      | cons x t =>
        show atI (PyData.str (wk x) :: t.map fun b => .str (wk b)) 0 = some (.str (wk x))
        unfold atI ixN
        rw [if_pos (by omega), if_pos (by simp)]
        rfl
    · unfold wordM
      rw [if_neg h]
      by_cases z : ws.length = 2
      · rw [if_pos z, if_pos (decide_eq_true (by omega))]
      · rw [if_neg z, if_neg (by simp; omega)]
end

end Pq

namespace Pq
open PySem PySem.Spec L2
open PyProof.Rows hiding St
open Evl (Ex)

/-! ### what a method may change: a frame without its object -/
def cutH (H : Hp) (F : List Addr) : Hp := fun a => if a ∈ F then none else H a
theorem cut_in {H : Hp} {F : List Addr} {a : Addr} (h : a ∈ F) : cutH H F a = none := if_pos h
theorem cut_out {H : Hp} {F : List Addr} {a : Addr} (h : a ∉ F) : cutH H F a = H a := if_neg h
theorem cut_none {H : Hp} {F : List Addr} {a : Addr} (h : cutH H F a = none) : a ∈ F ∨ H a = none := by
  by_cases z : a ∈ F
  · exact .inl z
  · rw [cut_out z] at h; exact .inr h
theorem cut_ex {H : Hp} {F : List Addr} : Ex (cutH H F) H := fun a o z => by
  by_cases h : a ∈ F
  · rw [cut_in h] at z; cases z
  · rw [cut_out h] at z; exact z
theorem own_sl {N : List Str} {H : Hp} {S : SK} {v0 : V} {F : List Addr} {vs : List V} {ds : List PyData} (h : S.is H v0 F) (nt : ∀ a ∈ F, ∀ ws, H a ≠ some (.tup ws)) (hd : DtAll H vs ds) :
    Sl (cutH H F) [] H (L2.start N (v0 :: vs)) (startD N (.o S :: ds.map .d)) := by
  have hl := hd.length
  refine ⟨cut_ex, by simp [L2.start, startD, hl], fun i => if i = 0 then F else [], fun i k q => ?_, fun i q => ?_, fun i j a ne ha => ?_, (fun q hq => nomatch hq)⟩
  · cases i with
    | zero =>
      unfold startD at q
      simp at q
      subst q
      refine ⟨v0, by simp [L2.start], h, fun a ha => ⟨cut_in ha, nt a ha⟩⟩
    | succ i =>
      unfold startD at q
      rw [List.map_cons, List.cons_append, List.getElem?_cons_succ] at q
      by_cases hi : i < ds.length
      · rw [List.getElem?_append_left (by simpa using hi), List.getElem?_map, List.getElem?_map] at q
        cases e : ds[i]? with
        | none => rw [e] at q; cases q
        | some d =>
          rw [e] at q
          cases q
          obtain ⟨v, hv, dv⟩ := hd.at_ e
          refine ⟨v, ?_, ?_⟩
          · unfold L2.start
            rw [List.map_cons, List.cons_append, List.getElem?_cons_succ, List.getElem?_append_left (by simp; omega), List.getElem?_map, hv]
            rfl
          · rw [if_neg (by omega)]
            exact ⟨rfl, dv⟩
      · rw [List.getElem?_append_right (by simp; omega)] at q
        have z := List.mem_of_getElem? q
        rw [List.mem_replicate] at z
        cases z.2
  · cases i with
    | zero => exact absurd (by simp [startD]) (q (.o S))
    | succ i => rfl
  · by_cases e1 : i = 0
    · simp only [if_pos e1] at ha
      have e2 : ¬ j = 0 := fun z => ne (e1.trans z.symm)
      simp only [if_neg e2]
      exact fun z => nomatch z
    · simp only [if_neg e1] at ha
      cases ha
section
variable {X : Cx} {Φ : Lk} {δ : Slots}
/-- a statement by its rule, the rest by what it means -/
theorem js_then {st : Stmt} {rest : List Stmt} {E1 : Slots → Prop} {H0 H : Hp} {σ : L2.St} {D : Ends} (sl : Sl H0 Φ H σ δ) (h : JP X Φ st δ ⟨E1, fun _ => False, fun _ => False, fun _ => False⟩) (k : ∀ σ' H' δ', Sl H0 Φ H' σ' δ' → E1 δ' → wSs X rest D σ' H') : wSs X (st :: rest) D σ H :=
  ss_of (pss_cons ps_w pss_w) (h H0 σ H { D with nx := wSs X rest D } sl ⟨k, fun _ _ _ _ _ _ z => z.elim, fun _ _ _ _ z => z.elim, fun _ _ _ _ z => z.elim⟩)
end
/-! ### the states behind one -/
theorem behK_ok {W : Wl} {s : Ss} : ∀ {is : List Int} {t : KS}, s ∈ t.kn.map (·.1) → WfB t.kn → WfB (behK W is t s).kn ∧ s ∈ (behK W is t s).kn.map (·.1) ∧ (behK W is t s).kn.length ≤ t.kn.length + is.length ∧ (behK W is t s).layer.length ≤ t.layer.length + is.length
  | [], t, h1, h2 => ⟨h2, h1, Nat.le_refl _, Nat.le_refl _⟩
  | i :: is, t, h1, h2 => by
    obtain ⟨a1, a2, a3, a4, _⟩ := visK_ok (s := s) (t := t) (i := i) (r := stepS W s i) h1 h2
    obtain ⟨b1, b2, b3, b4⟩ := behK_ok (W := W) (s := s) (is := is) (t := visK s t i (stepS W s i)) a2 a1
    refine ⟨b1, b2, ?_, ?_⟩
    · show (behK W is (visK s t i (stepS W s i)) s).kn.length ≤ _
      rw [List.length_cons]; omega
    · show (behK W is (visK s t i (stepS W s i)) s).layer.length ≤ _
      rw [List.length_cons]; omega
theorem behK_snoc {W : Wl} {s : Ss} {is : List Int} {t : KS} {i : Int} : behK W (is ++ [i]) t s = visK s (behK W is t s) i (stepS W s i) := by
  unfold behK
  rw [List.foldl_append]
  rfl
theorem behK_nodup {W : Wl} {s : Ss} {is : List Int} {t : KS} (h : t.words.Nodup) : (behK W is t s).words.Nodup := by
  have := behK_bs (W := W) (s := s) (is := is) (t := t)
  rw [show (behK W is t s).words = (behK W is t s).bs.words from rfl, this]
  exact fold_words _ _ h
abbrev new0 (t : KS) : KS := ⟨t.kn, t.words, []⟩
def spBeh (P : Program) (w : World) (C : Addr) : Sp := fun vs H Q _ => ∃ (W : Wl) (r l : Int × Int) (s : Ss) (t : KS) (p : Addr) (F : List Addr) (v1 v2 : V), vs = [.ref p, v1, v2] ∧ Dt H v1 (cD W r l) ∧ Dt H v2 (sD s) ∧
  (W.Ok ∧ RgOk r ∧ s.Sh W ∧ WfB t.kn ∧ t.kn.length ≤ 50000 ∧ s ∈ t.kn.map (·.1) ∧ t.words.Nodup) ∧ (SK.se P w C (some p) (bkD t.kn) t.words).is H (.ref p) F ∧
  ∀ v H' F' G, (∀ a o, a ∉ F → H a = some o → H' a = some o) → (SK.se P w C (some p) (bkD (behK W (rngC r) (new0 t) s).kn) (behK W (rngC r) (new0 t) s).words).is H' (.ref p) F' → (∀ a ∈ F', (a ∈ F ∨ H a = none) ∧ ∀ vs, H' a ≠ some (.tup vs)) →
    (SK.l ((behK W (rngC r) (new0 t) s).layer.map sD)).is H' v G → (∀ a ∈ G, (a ∈ F ∨ H a = none) ∧ a ∉ F') → Q v H'
theorem se_nt {P : Program} {w : World} {C : Addr} {p0 : Option Addr} {kvs : List (NestedKey × PyData)} {ws : List Bool} {H : Hp} {v : V} {F : List Addr} (h : (SK.se P w C p0 kvs ws).is H v F) : ∀ a ∈ F, ∀ vs, H a ≠ some (.tup vs) := by
  obtain ⟨p, k, r, dx, b, kv, rfl, hq, rfl, hp, ⟨_, raw, hk, _⟩, hr, hw⟩ := h
  intro a ha vs z
  simp only [List.mem_cons, List.not_mem_nil, or_false] at ha
  rcases ha with rfl | rfl | rfl
  · rw [hp] at z; cases z
  · rw [hk] at z; cases z
  · rw [hr] at z; cases z
theorem se_at {P : Program} {w : World} {C p : Addr} {kvs : List (NestedKey × PyData)} {ws : List Bool} {H : Hp} {v : V} {F : List Addr} (h : (SK.se P w C (some p) kvs ws).is H v F) : v = .ref p := by
  obtain ⟨p', k, r, dx, b, kv, rfl, hq, _⟩ := h
  rw [hq p rfl]
theorem wk_rD (b : Bool) : PyData.str (wk b) = rD sD (if b = true then .over else .dry) := by
  cases b <;> rfl
section
variable {P : Program} {w : World} {K : PySem.W.Frag} {mg : Str → Option Value} {base : Heap}
theorem ok_behind {k : Nat} {f C : Addr} {fd : FuncData} (T : Txt mg) (S : Sch K C) (h_beats_of : Has P w K mg base k "beats_of" ["well", "state", "inflows"] (spF s_beats_of)) (h_run : HasM P w K mg base k C "run_to" ["self", "state"] (spF (s_run_to P w C))) (F : Fun K "behind" "Search.behind" mBehind f fd) :
    FnOk P w K mg base CX0 (k + 1) f fd ["self", "claim", "state"] (spBeh P w C) := by
  have sc : FnScope ["self", "claim", "state", "found", "inflow", "fresh", "busy"] ["self", "claim", "state"] (defScope mBehind) := ⟨rfl, rfl, rfl, by decide +kernel, rfl, by decide +kernel, by decide +kernel⟩
  have nd : (["self", "claim", "state", "found", "inflow", "fresh", "busy"] : List Str).Nodup := by decide +kernel
  refine F.ok sc (fun vs H Q E h => ?_) (fun cdv A outer sh H vs Q E hr h => ?_)
  · obtain ⟨W, r, l, s, t, p, F, v1, v2, rfl, _⟩ := h
    rfl
  obtain ⟨W, r, l, s, t, p, F, v1, v2, rfl, d1, d2, ⟨ok, rg, sh', wf, hl, hs, hw⟩, hse, q⟩ := h
  refine ⟨wSs (bx P w K mg base ["self", "claim", "state", "found", "inflow", "fresh", "busy"] "Search.behind" mBehind f cdv A outer sh H E) (defBody mBehind), pss_w, ?_⟩
  have sl0 := own_sl (N := ["self", "claim", "state", "found", "inflow", "fresh", "busy"]) hse (se_nt hse) (.cons d1 (.cons d2 .nil))
  refine js_then sl0 (E1 := fun δ => δ = [some (.o (SK.se P w C (some p) (bkD t.kn) t.words)), some (.d (cD W r l)), some (.d (sD s)), some (.o (SK.l [])), none, none, none]) (jp_set (i := 3) (je_lst jds_nil (hz := by simp)) trivial rfl nd) fun σ1 H1 δ1 sl1 e1 => ?_
  subst e1
  have rl : (rngC r).length ≤ 301 := by rw [rngC_len]; have := rg.a; have := rg.b; have := rg.c; omega
  have inv : ∀ i, WfB (behK W ((rngC r).take i) (new0 t) s).kn ∧ s ∈ (behK W ((rngC r).take i) (new0 t) s).kn.map (·.1) ∧ (behK W ((rngC r).take i) (new0 t) s).kn.length ≤ 50301 ∧ (behK W ((rngC r).take i) (new0 t) s).layer.length ≤ 301 ∧ (behK W ((rngC r).take i) (new0 t) s).words.length ≤ 2 := fun i => by
    obtain ⟨a1, a2, a3, a4⟩ := behK_ok (W := W) (s := s) (is := (rngC r).take i) (t := new0 t) hs wf
    have hlt : ((rngC r).take i).length ≤ (rngC r).length := List.length_take_le' _ _
    refine ⟨a1, a2, ?_, ?_, two_words (behK_nodup hw)⟩
    · have : (new0 t).kn.length = t.kn.length := rfl
      omega
    · have : (new0 t).layer.length = 0 := rfl
      omega
  refine js_then sl1 (E1 := fun δ => ∃ a b c, δ = [some (.o (SK.se P w C (some p) (bkD (behK W (rngC r) (new0 t) s).kn) (behK W (rngC r) (new0 t) s).words)), some (.d (cD W r l)), some (.d (sD s)), some (.o (SK.l ((behK W (rngC r) (new0 t) s).layer.map sD))), a, b, c])
    (jp_for (ji_new (je_call h_beats_of hr (ja_cons (jg_d (je_ix (je_nm (i := 1) rfl rfl) je_int rfl)) (ja_cons (jg_d (je_nm (i := 2) rfl rfl)) (ja_cons (jg_d (je_ix (je_nm (i := 1) rfl rfl) je_int rfl)) ja_nil))) ⟨(W, s, r), ⟨ok, sh', rg⟩, rfl, rfl⟩ trivial))
      (fun i δ => ∃ a b c, δ = [some (.o (SK.se P w C (some p) (bkD (behK W ((rngC r).take i) (new0 t) s).kn) (behK W ((rngC r).take i) (new0 t) s).words)), some (.d (cD W r l)), some (.d (sD s)), some (.o (SK.l ((behK W ((rngC r).take i) (new0 t) s).layer.map sD))), a, b, c]) ⟨none, none, none, by rw [List.take_zero]; rfl⟩ (fun Φ hΦ i d δ1 hd hI => ?_) (fun δ1 hI => ?_)) fun σ2 H2 δ2 sl2 e2 => ?_
  · obtain ⟨xa, xb, xc, rfl⟩ := hI
    obtain ⟨bt, hbt, rfl⟩ := get_map hd
    unfold beatsM at hbt
    rw [List.getElem?_map] at hbt
    cases hi : (rngC r)[i]? with
    | none => rw [hi] at hbt; cases hbt
    | some a =>
    rw [hi] at hbt
    cases hbt
    obtain ⟨wf1, hs1, hl1, hy1, hw1⟩ := inv i
    have esn : behK W ((rngC r).take (i + 1)) (new0 t) s = visK s (behK W ((rngC r).take i) (new0 t) s) a (stepS W s a) := by rw [take_succ hi, behK_snoc]
    rw [esn]
    generalize behK W ((rngC r).take i) (new0 t) s = u at *
    refine ⟨[4, 5, 6], [.int a, rD sD (stepS W s a), .int (ledTo W s (movesM W s).1 (movesM W s).2 a).2], tg_tup (nm_cons (i := 4) nd (nm_cons (i := 5) nd (nm_cons (i := 6) nd nm_nil))) rfl, ?_⟩
    refine js_cons (jp_busy (i0 := 0) S rfl T.max (je_nm (i := 6) rfl rfl) ?_)
    cases hres : stepS W s a with
    | over =>
      have word : visK s u a (.over) = ⟨u.kn, addW u.words true, u.layer⟩ := rfl
      refine js_one (jp_if (k := true) (jt_is (jt_c (jc_inT hr (jdp_d (je_is (y := .str (wk true)) (je_nm (i := 5) rfl rfl) rfl)) (jdp_d (je_tup (jds_cons (je_gs T.OVER) (jds_cons (je_gs T.DRY) jds_nil)) (hz := by simp))) (by decide +kernel) (by decide +kernel))) (by decide +kernel)) (fun _ => ?_) (fun z => nomatch z))
      refine js_one (jp_if (jt_c (jc_notInW (x := true) hr (je_is (y := .str (wk true)) (je_nm (i := 5) rfl rfl) rfl) (jr_runs S (jr_vo (i := 0) rfl)))) (fun h => ?_) (fun h => ?_))
      · refine js_one (jp_putRn (i0 := 0) (x := true) S hr rfl (jany (je_cat (je_meth h_run S.cls hr (jr_vo (i := 0) rfl) (se_meth (by decide +kernel) (by decide +kernel) (by decide +kernel)) (ja_cons (jg_d (je_nm (i := 2) rfl rfl)) ja_nil) ⟨(u.kn, u.words, s, some p), ⟨wf1, by omega, hs1⟩, rfl, rfl⟩ trivial) (je_tup (jds_cons (je_nm (i := 4) rfl rfl) jds_nil) (hz := by simp)) ?_)) (je_is (y := .str (wk true)) (je_nm (i := 5) rfl rfl) rfl) (by omega) ?_)
        · have := runK_len u.kn u.kn.length s []
          rw [List.length_map]
          simp only [List.length_cons, List.length_nil] at this ⊢
          unfold runM
          omega
        · exact ⟨_, _, _, rfl⟩
      · have hin : true ∈ u.words := by simpa using h
        have hu : visK s u a .over = u := by
          rw [word]
          unfold addW
          rw [if_pos hin]
        rw [hu]
        exact js_nil ⟨_, _, _, rfl⟩
    | dry =>
      have word : visK s u a (.dry) = ⟨u.kn, addW u.words false, u.layer⟩ := rfl
      refine js_one (jp_if (k := true) (jt_is (jt_c (jc_inT hr (jdp_d (je_is (y := .str (wk false)) (je_nm (i := 5) rfl rfl) rfl)) (jdp_d (je_tup (jds_cons (je_gs T.OVER) (jds_cons (je_gs T.DRY) jds_nil)) (hz := by simp))) (by decide +kernel) (by decide +kernel))) (by decide +kernel)) (fun _ => ?_) (fun z => nomatch z))
      refine js_one (jp_if (jt_c (jc_notInW (x := false) hr (je_is (y := .str (wk false)) (je_nm (i := 5) rfl rfl) rfl) (jr_runs S (jr_vo (i := 0) rfl)))) (fun h => ?_) (fun h => ?_))
      · refine js_one (jp_putRn (i0 := 0) (x := false) S hr rfl (jany (je_cat (je_meth h_run S.cls hr (jr_vo (i := 0) rfl) (se_meth (by decide +kernel) (by decide +kernel) (by decide +kernel)) (ja_cons (jg_d (je_nm (i := 2) rfl rfl)) ja_nil) ⟨(u.kn, u.words, s, some p), ⟨wf1, by omega, hs1⟩, rfl, rfl⟩ trivial) (je_tup (jds_cons (je_nm (i := 4) rfl rfl) jds_nil) (hz := by simp)) ?_)) (je_is (y := .str (wk false)) (je_nm (i := 5) rfl rfl) rfl) (by omega) ?_)
        · have := runK_len u.kn u.kn.length s []
          rw [List.length_map]
          simp only [List.length_cons, List.length_nil] at this ⊢
          unfold runM
          omega
        · exact ⟨_, _, _, rfl⟩
      · have hin : false ∈ u.words := by simpa using h
        have hu : visK s u a .dry = u := by
          rw [word]
          unfold addW
          rw [if_pos hin]
        rw [hu]
        exact js_nil ⟨_, _, _, rfl⟩
    | «at» x =>
      refine js_one (jp_if (k := false) (jt_is (jt_c (jc_inT hr (jdp_d (je_is (y := sD x) (je_nm (i := 5) rfl rfl) rfl)) (jdp_d (je_tup (jds_cons (je_gs T.OVER) (jds_cons (je_gs T.DRY) jds_nil)) (hz := by simp))) ((tm_sD x).shaped (by decide)) (by decide +kernel))) rfl) (fun z => nomatch z) (fun _ => ?_))
      refine js_one (jp_if (jt_c (jc_notInN (k := kS x) hr (je_is (je_nm (i := 5) rfl rfl) (kS_data x).symm) (jr_n (jr_known S (jr_vo (i := 0) rfl))) (.inl (kS_tup x)))) (fun h => ?_) (fun h => ?_))
      · have hx : x ∉ u.kn.map (·.1) := by
          rw [has_bk] at h
          simpa using h
        refine js_cons (jp_putKn (i0 := 0) (k := kS x) (d := pvD (some (s, a))) S hr rfl (je_tup (jds_cons (je_nm (i := 2) rfl rfl) (jds_cons (je_nm (i := 4) rfl rfl) jds_nil)) (hz := by simp)) (je_is (je_nm (i := 5) rfl rfl) (kS_data x).symm) (kS_tup x) (by unfold bkD; rw [List.length_map]; omega) ?_)
        rw [put_bk hx]
        refine js_one (jp_append (i0 := 3) rfl (je_is (y := sD x) (je_nm (i := 5) rfl rfl) rfl) (by rw [List.length_map]; omega) ?_)
        rw [show visK s u a (.at x) = ⟨u.kn ++ [(x, some (s, a))], u.words, u.layer ++ [x]⟩ from if_neg hx]
        have el : (u.layer ++ [x]).map sD = u.layer.map sD ++ [sD x] := by rw [List.map_append]; rfl
        rw [el]
        exact ⟨_, _, _, rfl⟩
      · have hx : x ∈ u.kn.map (·.1) := by
          rw [has_bk] at h
          simpa using h
        rw [show visK s u a (.at x) = u from if_pos hx]
        exact js_nil ⟨_, _, _, rfl⟩
  · obtain ⟨xa, xb, xc, rfl⟩ := hI
    refine ⟨xa, xb, xc, ?_⟩
    have e : (rngC r).take ((beatsM W s r).map btD).length = rngC r := by
      rw [List.length_map]
      unfold beatsM
      rw [List.length_map, List.take_length]
    rw [e]
  obtain ⟨xa, xb, xc, rfl⟩ := e2
  obtain ⟨Fs, f⟩ := sl2.at_
  obtain ⟨v0, hv0, hi0⟩ := f.some_ 0 _ rfl
  obtain ⟨v3, hv3, hi3⟩ := f.some_ 3 _ rfl
  have e0 := se_at hi0.1
  subst e0
  refine ss_of (pss_one (ps_ret (pe_var (i := 3) rfl (.inl rfl)))) ⟨v3, hv3, ?_⟩
  refine q v3 H2 (Fs 0) (Fs 3) (fun x o nx hx => sl2.ex x o (by rw [cut_out nx]; exact hx)) hi0.1 (fun x hx => ⟨cut_none (hi0.2 x hx).1, (hi0.2 x hx).2⟩) hi3.1 (fun x hx => ⟨cut_none (hi3.2 x hx).1, f.apart 3 0 x (by decide) hx⟩)
end

end Pq

namespace Pq
open PySem PySem.Spec L2
open PyProof.Rows hiding St
open Evl (Ex)

/-! ### slots and locks, more rules -/
section
variable {H0 H H' : Hp} {Φ : Lk} {σ : L2.St} {δ : Slots}
theorem sl_lks {Ψ : Lk} (h : Sl H0 Φ H σ δ) (hs : ∀ q ∈ Ψ, q ∈ Φ) : Sl H0 Ψ H σ δ := by
  obtain ⟨F, f⟩ := h.at_
  exact ⟨h.ex, h.len, F, f.some_, f.none_, f.apart, fun q hq => f.lock q (hs q hq)⟩
theorem sl_resig {σ' : L2.St} (h : Sl H0 Φ H σ δ) (hl : σ'.length = σ.length) (hs : ∀ (i : Nat) (k : Kd), δ[i]? = some (some k) → σ'[i]? = σ[i]?) : Sl H0 Φ H σ' δ := by
  obtain ⟨F, f⟩ := h.at_
  refine ⟨h.ex, hl.trans h.len, F, fun i k q => ?_, f.none_, f.apart, f.lock⟩
  obtain ⟨v, hv, hi⟩ := f.some_ i k q
  exact ⟨v, (hs i k q).trans hv, hi⟩
theorem sl_lock {q : Addr × SK} (h : Sl H0 Φ H σ δ) (hq : q ∈ Φ) : q.2.is H (.ref q.1) [q.1] := by
  obtain ⟨F, f⟩ := h.at_
  exact (f.lock q hq).1
/-- a locked object changes -/
theorem sl_relock {p : Addr} {T T' : SK} (h : Sl H0 ((p, T) :: Φ) H σ δ) (h0 : H0 p = none) (hlk : ∀ q ∈ Φ, q.1 ≠ p) (te : TEx H H') (e1 : ∀ a o, a ≠ p → H a = some o → H' a = some o) (ht : T'.is H' (.ref p) [p]) : Sl H0 ((p, T') :: Φ) H' σ δ := by
  obtain ⟨F, f⟩ := h.at_
  obtain ⟨lp, np⟩ := f.lock (p, T) List.mem_cons_self
  refine ⟨fun a o e => e1 a o (fun z => by rw [z, h0] at e; cases e) (h.ex a o e), h.len, F, fun j w q => ?_, f.none_, f.apart, fun q hq => ?_⟩
  · obtain ⟨u, hu, hq⟩ := f.some_ j w q
    refine ⟨u, hu, hq.stay te fun a ha => ?_⟩
    obtain ⟨_, o, z, _⟩ := hq.dom a ha
    have nap : a ≠ p := fun y => np j (y ▸ ha)
    rw [z, e1 a o nap z]
  · rcases List.mem_cons.mp hq with e | hq
    · subst e
      exact ⟨ht, np⟩
    · obtain ⟨l1, l2⟩ := f.lock q (List.mem_cons_of_mem _ hq)
      obtain ⟨o, z⟩ := q.2.dom l1 q.1 List.mem_cons_self
      refine ⟨q.2.stay l1 te fun a ha => ?_, l2⟩
      obtain rfl : a = q.1 := by simpa using ha
      rw [z, e1 _ o (hlk q hq) z]
/-- a call changes a slot's object, and hands new things back -/
theorem slf_call {F : Nat → List Addr} {i : Nat} {S S' : SK} {v : V} {F' : List Addr} {Ψ : Lk} (sl : Sl H0 Φ H σ δ) (f : SlF H0 Φ H σ δ F) (hk : δ[i]? = some (some (.o S))) (hv : σ[i]? = some (some v)) (k1 : ∀ a o, a ∉ F i → H a = some o → H' a = some o) (k2 : S'.is H' v F')
    (k3 : ∀ a ∈ F', (a ∈ F i ∨ H a = none) ∧ ∀ vs, H' a ≠ some (.tup vs)) (k4 : ∀ q ∈ Ψ, q.2.is H' (.ref q.1) [q.1] ∧ (q.1 ∈ F i ∨ H q.1 = none) ∧ q.1 ∉ F') : Sl H0 (Ψ ++ Φ) H' σ (δ.set i (some (.o S'))) := by
  have hl : i < δ.length := (List.getElem?_eq_some_iff.mp hk).1
  have fr : ∀ a, (a ∈ F i ∨ H a = none) → H0 a = none := fun a ha => by
    rcases ha with z | z
    · exact (f.dom z).1
    · exact Evl.fresh_back sl.ex z
  have oth : ∀ j a, j ≠ i → a ∈ F j → ¬ (a ∈ F i ∨ H a = none) := fun j a ej ha z => by
    rcases z with z | z
    · exact f.apart j i a ej ha z
    · obtain ⟨_, o, q, _⟩ := f.dom ha
      rw [z] at q
      cases q
  have te : TEx H H' := fun a vs e => k1 a _ (fun z => by
    obtain ⟨_, o, q, nt⟩ := f.dom z
    rw [e] at q
    cases q
    exact nt vs rfl) e
  refine ⟨fun a o e => k1 a o (fun z => by rw [(f.dom z).1] at e; cases e) (sl.ex a o e), by simp [sl.len], fun j => if j = i then F' else F j, fun j w q => ?_, fun j q => ?_, fun j m a ne ha => ?_, fun q hq => ?_⟩
  · by_cases ej : j = i
    · subst ej
      rw [List.getElem?_set_self hl] at q
      cases q
      simp only [if_pos rfl]
      exact ⟨v, hv, k2, fun a ha => ⟨fr a (k3 a ha).1, (k3 a ha).2⟩⟩
    · rw [List.getElem?_set_ne (Ne.symm ej)] at q
      simp only [if_neg ej]
      obtain ⟨u, hu, hq⟩ := f.some_ j w q
      refine ⟨u, hu, hq.stay te fun a ha => ?_⟩
      obtain ⟨_, o, z, _⟩ := hq.dom a ha
      rw [z, k1 a o (f.apart j i a ej ha) z]
  · by_cases ej : j = i
    · subst ej
      exact absurd (List.getElem?_set_self hl) (q _)
    · simp only [if_neg ej]
      exact f.none_ j fun w z => q w (by rw [List.getElem?_set_ne (Ne.symm ej)]; exact z)
  · by_cases e1 : j = i
    · simp only [if_pos e1] at ha
      have e2 : ¬ m = i := fun z => ne (e1.trans z.symm)
      simp only [if_neg e2]
      exact fun z => oth m a e2 z (k3 a ha).1
    · simp only [if_neg e1] at ha
      by_cases e2 : m = i
      · simp only [if_pos e2]
        exact fun z => oth j a e1 ha (k3 a z).1
      · simp only [if_neg e2]
        exact f.apart j m a ne ha
  · rcases List.mem_append.mp hq with hq | hq
    · obtain ⟨a1, a2, a3⟩ := k4 q hq
      refine ⟨a1, fun j hj => ?_⟩
      by_cases ej : j = i
      · simp only [if_pos ej] at hj
        exact a3 hj
      · simp only [if_neg ej] at hj
        exact oth j q.1 ej hj a2
    · obtain ⟨l1, l2⟩ := f.lock q hq
      obtain ⟨o, z⟩ := q.2.dom l1 q.1 List.mem_cons_self
      refine ⟨q.2.stay l1 te fun a ha => ?_, fun j hj => ?_⟩
      · obtain rfl : a = q.1 := by simpa using ha
        rw [z, k1 _ o (l2 i) z]
      · by_cases ej : j = i
        · simp only [if_pos ej] at hj
          rcases (k3 _ hj).1 with y | y
          · exact l2 i y
          · rw [z] at y; cases y
        · simp only [if_neg ej] at hj
          exact l2 j hj
end
/-! ### the call of behind -/
structure HasB (P : Program) (w : World) (K : PySem.W.Frag) (mg : Str → Option Value) (base : Heap) (k : Nat) (C : Addr) : Prop where
  out : ∃ (f : Addr) (fd : FuncData), FnOk P w K mg base CX0 k f fd ["self", "claim", "state"] (spBeh P w C) ∧ Meth K C "behind" f ∧ Binds K fd ["self", "claim", "state"] []
theorem beh_call {X : Cx} {Φ : Lk} {δ : Slots} {H0 H : Hp} {σ : L2.St} {k : Nat} {C p : Addr} {W : Wl} {r l : Int × Int} {s : Ss} {t : KS} {n1 n2 n3 : Str} {i1 i2 i3 : Nat} {p1 p2 p3 p4 pos : Pos} {pl : Sem Bool} {Q : VK} (S : Sch X.K C) (h : HasB X.prog X.w X.K X.mg X.base k C) (hr : Room k X.A)
    (sl : Sl H0 Φ H σ δ) (h1 : δ[i1]? = some (some (.o (SK.se X.prog X.w C (some p) (bkD t.kn) t.words)))) (h2 : δ[i2]? = some (some (.d (cD W r l)))) (h3 : δ[i3]? = some (some (.d (sD s)))) (ok : W.Ok ∧ RgOk r ∧ s.Sh W ∧ WfB t.kn ∧ t.kn.length ≤ 50000 ∧ s ∈ t.kn.map (·.1) ∧ t.words.Nodup)
    (q : ∀ a vs H', Sl H0 ((a, SK.lx vs ((behK W (rngC r) (new0 t) s).layer.map sD)) :: Φ) H' σ (δ.set i1 (some (.o (SK.se X.prog X.w C (some p) (bkD (behK W (rngC r) (new0 t) s).kn) (behK W (rngC r) (new0 t) s).words)))) → H' a = some (.lst vs) → (∀ x ∈ Φ, x.1 ≠ a) → Q (.ref a) H')
    (hN1 : X.N[i1]? = some n1 := by rfl) (hN2 : X.N[i2]? = some n2 := by rfl) (hN3 : X.N[i3]? = some n3 := by rfl)
    (v1 : Vis X.env.scope n1 := by first | exact Or.inl rfl | exact Or.inr (Or.inl rfl) | exact Or.inr (Or.inr rfl)) (v2 : Vis X.env.scope n2 := by first | exact Or.inl rfl | exact Or.inr (Or.inl rfl) | exact Or.inr (Or.inr rfl)) (v3 : Vis X.env.scope n3 := by first | exact Or.inl rfl | exact Or.inr (Or.inl rfl) | exact Or.inr (Or.inr rfl))
    (d1 : (n1 == ("__debug__" : Str)) = false := by decide) (d2 : (n2 == ("__debug__" : Str)) = false := by decide) (d3 : (n3 == ("__debug__" : Str)) = false := by decide) (c1 : (n1 == ("__classdict__" : Str)) = false := by decide) (c2 : (n2 == ("__classdict__" : Str)) = false := by decide) (c3 : (n3 == ("__classdict__" : Str)) = false := by decide)
    (hs : NS (.Name n2 p3) := by exact fun _ _ => rfl) (hs2 : NSs [.Name n3 p4] := by exact fun _ _ => rfl) (hs3 : NS (.Name n3 p4) := by exact fun _ _ => rfl)
    (ht : eval (.Call (.Attribute (.Name n1 p1) "behind" p2) [.Name n2 p3, .Name n3 p4] [] pos) X.env = (do
      let ov ← eval (.Name n1 p1) X.env
      standAt p2.atName
      let (f, first) ← holding [ov] (getMethod ov "behind" pl)
      callWith pos f first (backTo pos (starEach [.Name n2 p3, .Name n3 p4] X.env)) (backToKw pos (keywordEach [] X.env))) := by rfl) :
    wE X (.Call (.Attribute (.Name n1 p1) "behind" p2) [.Name n2 p3, .Name n3 p4] [] pos) σ H Q := by
  obtain ⟨f, fd, fo, mt, bi⟩ := h.out
  refine e_of (pe_meth (pl := pl) (pe_var hN1 v1 d1 c1) S.cls mt fo hr bi .nil pass0 (pa_cons (pe_var hN2 v2 d2 c2) (pa_cons (pe_var hN3 v3 d3 c3) pa_nil (hs3 _ _)) (hs _ _)) (hst := hs _ _) (hpl := hs2 _ _) (ht := ht)) ?_
  obtain ⟨F, fl⟩ := sl.at_
  obtain ⟨u1, e1, x1⟩ := fl.some_ i1 _ h1
  obtain ⟨u2, e2, x2⟩ := fl.some_ i2 _ h2
  obtain ⟨u3, e3, x3⟩ := fl.some_ i3 _ h3
  have e0 := se_at x1.1
  subst e0
  obtain ⟨a0, dx, fs, ea, hp, hm⟩ := se_meth (m := "behind") (by decide +kernel) (by decide +kernel) (by decide +kernel) _ _ _ x1.1
  cases ea
  refine ⟨_, e1, p, dx, fs, rfl, hp, hm, u2, e2, u3, e3, W, r, l, s, t, p, F i1, u2, u3, rfl, x2.2, x3.2, ok, x1.1, fun v H' F' G k1 k2 k3 k4 k5 => ?_⟩
  obtain ⟨a, vs, rfl, rfl, ha, hd⟩ := k4
  have ga := k5 a List.mem_cons_self
  refine q a vs H' (slf_call (Ψ := [(a, SK.lx vs ((behK W (rngC r) (new0 t) s).layer.map sD))]) sl fl h1 e1 k1 k2 k3 fun y hy => ?_) ha fun y hy z => ?_
  · obtain rfl : y = _ := by simpa using hy
    exact ⟨⟨a, rfl, rfl, ha, hd⟩, ga.1, ga.2⟩
  · obtain ⟨l1, l2⟩ := fl.lock y hy
    obtain ⟨o, w⟩ := y.2.dom l1 y.1 List.mem_cons_self
    rcases ga.1 with g | g
    · exact l2 i1 (z ▸ g)
    · rw [← z, w] at g; cases g

end Pq

namespace Pq
open PySem PySem.Spec L2
open PyProof.Rows hiding St
open Evl (Ex)

/-! ### the book stays right -/
structure KInv (W : Wl) (n : Int) (t : KS) : Prop where
  wf : WfB t.kn
  nd : (t.kn.map (·.1)).Nodup
  ok : ∀ s ∈ t.kn.map (·.1), s.Ok W n
  lay : ∀ s ∈ t.layer, s ∈ t.kn.map (·.1)
  words : t.words.Nodup
  len : t.layer.length ≤ t.kn.length
theorem KInv.size {W : Wl} {n : Int} {t : KS} (ok : W.Ok) (f : Few W n) (h : KInv W n t) : t.kn.length ≤ 3402 := by
  have h1 := nodup_sub h.nd fun x hx => mem_statesU ok (h.ok x hx)
  have h2 := statesU_len ok f
  rw [List.length_map] at h1
  omega
theorem KInv.vis {W : Wl} {n : Int} {t : KS} {s : Ss} {i : Int} (ok : W.Ok) (n4 : n ≤ 4) (h : KInv W n t) (hs : s ∈ t.kn.map (·.1)) : KInv W n (visK s t i (stepS W s i)) ∧ ∀ x ∈ t.kn.map (·.1), x ∈ (visK s t i (stepS W s i)).kn.map (·.1) := by
  obtain ⟨a1, a2, a3, a4, a5⟩ := visK_ok (i := i) (r := stepS W s i) hs h.wf
  have hso := h.ok s hs
  cases hr : stepS W s i with
  | over => exact ⟨⟨h.wf, h.nd, h.ok, h.lay, addW_two h.words true, h.len⟩, fun x hx => hx⟩
  | dry => exact ⟨⟨h.wf, h.nd, h.ok, h.lay, addW_two h.words false, h.len⟩, fun x hx => hx⟩
  | «at» x =>
    by_cases hx : x ∈ t.kn.map (·.1)
    · rw [show visK s t i (.at x) = t from if_pos hx]
      exact ⟨h, fun x hx => hx⟩
    · have e : visK s t i (.at x) = ⟨t.kn ++ [(x, some (s, i))], t.words, t.layer ++ [x]⟩ := if_neg hx
      rw [hr, e] at a1
      rw [e]
      have ek : (t.kn ++ [(x, some (s, i))]).map (·.1) = t.kn.map (·.1) ++ [x] := by rw [List.map_append]; rfl
      refine ⟨⟨a1, ?_, ?_, ?_, h.words, ?_⟩, ?_⟩
      · show ((t.kn ++ [(x, some (s, i))]).map (·.1)).Nodup
        rw [ek, List.nodup_append]
        exact ⟨h.nd, by simp, fun y hy z hz => by
          rw [List.mem_singleton.mp hz]
          exact fun e => hx (e ▸ hy)⟩
      · intro y hy
        have hy : y ∈ (t.kn ++ [(x, some (s, i))]).map (·.1) := hy
        rw [ek] at hy
        rcases List.mem_append.mp hy with z | z
        · exact h.ok y z
        · rw [List.mem_singleton.mp z]
          exact stepS_ok ok n4 hso hr
      · intro y hy
        show y ∈ (t.kn ++ [(x, some (s, i))]).map (·.1)
        rw [ek]
        rcases List.mem_append.mp hy with z | z
        · exact List.mem_append_left _ (h.lay y z)
        · exact List.mem_append_right _ z
      · show (t.layer ++ [x]).length ≤ (t.kn ++ [(x, some (s, i))]).length
        have := h.len
        simp
        omega
      · intro y hy
        show y ∈ (t.kn ++ [(x, some (s, i))]).map (·.1)
        rw [ek]
        exact List.mem_append_left _ hy
theorem KInv.beh {W : Wl} {n : Int} {s : Ss} (ok : W.Ok) (n4 : n ≤ 4) : ∀ {is : List Int} {t : KS}, KInv W n t → s ∈ t.kn.map (·.1) → KInv W n (behK W is t s) ∧ ∀ x ∈ t.kn.map (·.1), x ∈ (behK W is t s).kn.map (·.1)
  | [], t, h, _ => ⟨h, fun _ h => h⟩
  | i :: is, t, h, hs => by
    obtain ⟨a1, a2⟩ := KInv.vis (i := i) ok n4 h hs
    obtain ⟨b1, b2⟩ := KInv.beh (is := is) ok n4 a1 (a2 s hs)
    exact ⟨b1, fun x hx => b2 x (a2 x hx)⟩
theorem KInv.fresh0 {W : Wl} {n : Int} {t : KS} (h : KInv W n t) : KInv W n (new0 t) := ⟨h.wf, h.nd, h.ok, (fun s z => by cases z), h.words, Nat.zero_le _⟩
/-- what a turn has done behind i states -/
abbrev midK (W : Wl) (is : List Int) (t : KS) (i : Nat) : KS := (t.layer.take i).foldl (behK W is) (new0 t)
theorem midK_succ {W : Wl} {is : List Int} {t : KS} {i : Nat} {s : Ss} (h : t.layer[i]? = some s) : midK W is t (i + 1) = behK W is (midK W is t i) s := by
  unfold midK
  rw [take_succ h, List.foldl_append]
  rfl
theorem midK_part {W : Wl} {is : List Int} {t : KS} {i : Nat} {s : Ss} (h : t.layer[i]? = some s) : midK W is t (i + 1) = ⟨(behK W is (new0 (midK W is t i)) s).kn, (behK W is (new0 (midK W is t i)) s).words, (midK W is t i).layer ++ (behK W is (new0 (midK W is t i)) s).layer⟩ := by
  rw [midK_succ h]
  have := behK_lay (W := W) (s := s) (is := is) (kn := (midK W is t i).kn) (ws := (midK W is t i).words) (L := (midK W is t i).layer) (M := [])
  rw [List.append_nil] at this
  exact this
theorem midK_end {W : Wl} {is : List Int} {t : KS} : midK W is t t.layer.length = turnK W is t := by
  unfold midK
  rw [List.take_length]
  rfl
theorem KInv.mid {W : Wl} {n : Int} {is : List Int} {t : KS} (ok : W.Ok) (n4 : n ≤ 4) (h : KInv W n t) : ∀ i, KInv W n (midK W is t i) ∧ ∀ x ∈ t.kn.map (·.1), x ∈ (midK W is t i).kn.map (·.1) := by
  have key : ∀ (l : List Ss) (u : KS), KInv W n u → (∀ s ∈ l, s ∈ u.kn.map (·.1)) → KInv W n (l.foldl (behK W is) u) ∧ ∀ x ∈ u.kn.map (·.1), x ∈ (l.foldl (behK W is) u).kn.map (·.1) := by
    intro l
    induction l with
    | nil => intro u hu _; exact ⟨hu, fun _ h => h⟩
    | cons s l ih =>
      intro u hu hl
      obtain ⟨a1, a2⟩ := KInv.beh (is := is) ok n4 hu (hl s List.mem_cons_self)
      obtain ⟨b1, b2⟩ := ih (behK W is u s) a1 fun y hy => a2 y (hl y (List.mem_cons_of_mem _ hy))
      exact ⟨b1, fun x hx => b2 x (a2 x hx)⟩
  exact fun i => key _ _ h.fresh0 fun s hs => h.lay s (List.mem_of_mem_take hs)
theorem KInv.turn {W : Wl} {n : Int} {is : List Int} {t : KS} (ok : W.Ok) (n4 : n ≤ 4) (h : KInv W n t) : KInv W n (turnK W is t) := by
  rw [← midK_end]
  exact (h.mid ok n4 _).1
theorem KInv.iter {W : Wl} {n : Int} {is : List Int} (ok : W.Ok) (n4 : n ≤ 4) : ∀ (k : Nat) {t : KS}, KInv W n t → KInv W n (iterK W is k t)
  | 0, _, h => h
  | k + 1, _, h => KInv.iter ok n4 k (h.turn ok n4)
theorem iterK_succ {W : Wl} {is : List Int} : ∀ (k : Nat) (t : KS), iterK W is (k + 1) t = turnK W is (iterK W is k t)
  | 0, _ => rfl
  | k + 1, t => iterK_succ k (turnK W is t)
theorem turnK_nil {W : Wl} {is : List Int} {t : KS} (h : t.layer = []) : turnK W is t = t := by
  unfold turnK
  rw [h]
  cases t
  simp only at h
  rw [h]
  rfl
theorem iterK_nil {W : Wl} {is : List Int} : ∀ (k : Nat) {t : KS}, t.layer = [] → iterK W is k t = t
  | 0, _, _ => rfl
  | k + 1, t, h => by
    show iterK W is k (turnK W is t) = t
    rw [turnK_nil h]
    exact iterK_nil k h
theorem iterK_add {W : Wl} {is : List Int} : ∀ (k m : Nat) (t : KS), iterK W is (k + m) t = iterK W is m (iterK W is k t)
  | 0, m, t => by rw [Nat.zero_add]; rfl
  | k + 1, m, t => by
    rw [Nat.succ_add]
    exact iterK_add k m _
def initK (W : Wl) (n : Int) (l : Int × Int) : KS := ⟨(begunL W n l).map fun s => (s, none), [], begunL W n l⟩
theorem initK_bs (W : Wl) (n : Int) (l : Int × Int) : (initK W n l).bs = initS W n l := by
  unfold KS.bs initK initS
  simp only [List.map_map]
  congr 1
  exact List.map_id' _
theorem initK_inv {W : Wl} {n : Int} {l : Int × Int} (ok : W.Ok) (n0 : 0 ≤ n) (lv : LvOk W l) : KInv W n (initK W n l) := by
  have e : (initK W n l).kn.map (·.1) = begunL W n l := congrArg BS.found (initK_bs W n l)
  refine ⟨WfB.none, by rw [e]; exact begunL_nodup W n l, by rw [e]; exact begunL_ok ok n0 lv, by rw [e]; exact fun s hs => hs, List.nodup_nil, ?_⟩
  show (begunL W n l).length ≤ ((begunL W n l).map fun s => ((s, none) : Ss × Option (Ss × Int))).length
  rw [List.length_map]
  exact Nat.le_refl _
open Classical in
/-- how many turns the search takes -/
noncomputable def stopK (W : Wl) (r l : Int × Int) (n : Int) : Nat := if h : ∃ k, (biter (stepS W) (rngC r) k (initS W n l)).layer = [] then h.choose else 0
noncomputable def searchK (W : Wl) (r l : Int × Int) (n : Int) : KS := iterK W (rngC r) (stopK W r l n) (initK W n l)
theorem stopK_end {W : Wl} {r l : Int × Int} {n : Int} (ok : W.Ok) (n0 : 0 ≤ n) (n4 : n ≤ 4) (lv : LvOk W l) : (biter (stepS W) (rngC r) (stopK W r l n) (initS W n l)).layer = [] := by
  have h := rule_ends r ok n0 n4 lv
  unfold stopK
  rw [dif_pos h]
  exact h.choose_spec
theorem searchK_bs (W : Wl) (r l : Int × Int) (n : Int) : (searchK W r l n).bs = biter (stepS W) (rngC r) (stopK W r l n) (initS W n l) := by
  unfold searchK
  rw [iterK_bs, initK_bs]
theorem searchK_lay {W : Wl} {r l : Int × Int} {n : Int} (ok : W.Ok) (n0 : 0 ≤ n) (n4 : n ≤ 4) (lv : LvOk W l) : (searchK W r l n).layer = [] := (congrArg BS.layer (searchK_bs W r l n)).trans (stopK_end ok n0 n4 lv)
theorem searchK_inv {W : Wl} {r l : Int × Int} {n : Int} (ok : W.Ok) (n0 : 0 ≤ n) (n4 : n ≤ 4) (lv : LvOk W l) : KInv W n (searchK W r l n) := (initK_inv ok n0 lv).iter ok n4 _

end Pq

namespace Pq
open PySem PySem.Spec L2
open PyProof.Rows hiding St
open Evl (Ex)

/-! ### one turn of the search: layer = [..] -/
abbrev NI : List Str := ["self", "claim", "number", "layer", "state", "fresh"]
def whileBody : Stmt → List Stmt
  | .While _ b _ _ => b
  | _ => []
def layerSt : Stmt := (whileBody ((defBody mInit).getD 4 (.Pass ⟨0, 0, 0, 0⟩))).getD 1 (.Pass ⟨0, 0, 0, 0⟩)
theorem pg_all {X : Cx} {scope : Scope} {tg : Expr} (s : Shared) (H : Hp) (C : Addr) (cl : List (Str × Addr)) (fp : List Addr) : PG (X.blk s H scope (compEnvC scope cl C X.env) fp) tg (gAll X scope tg) := ⟨fun pins s' σ' H' v u Q' I r h => h s H C cl fp pins s' u I r⟩
theorem pi_all {X : Cx} {scope : Scope} {tg iter : Expr} (s : Shared) (H : Hp) (C : Addr) (cl : List (Str × Addr)) (fp : List Addr) : PI (X.blk s H scope (compEnvC scope cl C X.env) fp) tg iter (iAll X scope tg iter) := ⟨fun pins s' σ' H' R' I h => h s H C cl fp pins s' I⟩
theorem pe_all {X : Cx} {scope : Scope} {e : Expr} (s : Shared) (H : Hp) (C : Addr) (cl : List (Str × Addr)) (fp : List Addr) : PE (X.blk s H scope (compEnvC scope cl C X.env) fp) e (eAll X scope e) := ⟨fun pins s' σ' H' Q' I h => h s H C cl fp pins s' I⟩
section
variable {P : Program} {w : World} {K : PySem.W.Frag} {mg : Str → Option Value} {base : Heap}
theorem layer_ok {k : Nat} {f C p : Addr} {cdv : Value} {A : Around} {outer : List Env} {sh : Shared} {Hc : Hp} {EX : XK} {Φ : Lk} {E : En} {W : Wl} {r l : Int × Int} {n : Int} {t : KS} {x4 x5 nn : Option Kd} (S : Sch K C) (hB : HasB P w K mg base k C) (hr : Room k (bx P w K mg base NI "Search.__init__" mInit f cdv A outer sh Hc EX).A)
    (ok : W.Ok) (rg : RgOk r) (few : Few W n) (inv : KInv W n t)
    (hn : E.nx [some (.o (SK.se P w C (some p) (bkD (turnK W (rngC r) t).kn) (turnK W (rngC r) t).words)), some (.d (cD W r l)), nn, some (.o (SK.l ((turnK W (rngC r) t).layer.map sD))), none, none]) :
    JP (bx P w K mg base NI "Search.__init__" mInit f cdv A outer sh Hc EX) Φ layerSt [some (.o (SK.se P w C (some p) (bkD t.kn) t.words)), some (.d (cD W r l)), nn, some (.o (SK.l (t.layer.map sD))), x4, x5] E := fun H0 σ H1 D sl g => by
  have nd : NI.Nodup := by decide +kernel
  have n4 : n ≤ 4 := by have := few.n3; omega
  have mid : ∀ i, KInv W n (midK W (rngC r) t i) ∧ ∀ x ∈ t.kn.map (·.1), x ∈ (midK W (rngC r) t i).kn.map (·.1) := fun i => inv.mid ok n4 i
  have msz : ∀ i, (midK W (rngC r) t i).kn.length ≤ 3402 := fun i => (mid i).1.size ok few
  have mly : ∀ i, (midK W (rngC r) t i).layer.length ≤ 3402 := fun i => Nat.le_trans (mid i).1.len (msz i)
  refine s_of (ps_setLc2 (i := 3) (own := [("state", 4), ("fresh", 5)]) (vs1 := [5]) rfl nd rfl rfl rfl pi_w (blkOk_by rfl) (by decide) pg_all (fun s H C cl fp => pts_nil) pi_all pg_all (fun s H C cl fp => pts_nil) pe_all (by intro _; rfl) (by intro _ _; rfl)) ?_
  show tAsg (tLc2 _ _ _ _ _ _ _ [4, 5] [5]) (gName 3) _ σ H1
  obtain ⟨F, fl⟩ := sl.at_
  obtain ⟨v, hv0, hi⟩ := fl.some_ 3 _ rfl
  obtain ⟨⟨pl, vs, rfl, eF, hp0, hds⟩, nw⟩ := hi
  refine i_of (pi_list (pe_var (i := 3) rfl (.inl rfl))) ⟨_, hv0, pl, rfl, ⟨vs, SqL.of hp0⟩, ?_⟩
  intro Da hD
  have nwp := nw pl (by rw [eF]; exact List.mem_cons_self)
  have slk : Sl H0 ((pl, SK.lx vs (t.layer.map sD)) :: Φ) H1 σ [some (.o (SK.se P w C (some p) (bkD t.kn) t.words)), some (.d (cD W r l)), nn, some (.v (.ref pl)), x4, x5] :=
    sl.locked (i := 3) rfl hv0 (fun F ⟨q, ws, e1, e2, _⟩ => ⟨q, e1, e2⟩) rfl (TEx.refl H1) (fun a o _ z => z) (T := SK.lx vs (t.layer.map sD)) ⟨pl, rfl, rfl, hp0, hds⟩
  have sl0 : Sl H0 ((pl, SK.lx vs (t.layer.map sD)) :: Φ) H1 σ [some (.o (SK.se P w C (some p) (bkD t.kn) t.words)), some (.d (cD W r l)), nn, some (.v (.ref pl)), none, none] := (slk.forget 4).forget 5
  have hD0 : H0 Da = none := Evl.fresh_back sl.ex hD
  have nlk : ∀ q ∈ (pl, SK.lx vs (t.layer.map sD)) :: Φ, q.1 ≠ Da := fun q hq z => by
    obtain ⟨o, ho⟩ := q.2.dom (sl_lock sl0 hq) q.1 List.mem_cons_self
    rw [z, hD] at ho
    cases ho
  have slD : Sl H0 ((Da, SK.lx [] ((midK W (rngC r) t 0).layer.map sD)) :: (pl, SK.lx vs (t.layer.map sD)) :: Φ) (upd H1 Da (.lst [])) σ [some (.o (SK.se P w C (some p) (bkD (midK W (rngC r) t 0).kn) (midK W (rngC r) t 0).words)), some (.d (cD W r l)), nn, some (.v (.ref pl)), none, none] :=
    sl0.lock_new (Ψ := [(Da, SK.lx [] [])]) (Evl.Ex.new hD) fun q hq => by
      obtain rfl : q = (Da, SK.lx [] []) := by simpa using hq
      exact ⟨⟨Da, rfl, rfl, upd_same, .nil⟩, .inl hD⟩
  have wl : (L2.wipe σ [4, 5]).length = σ.length := L2.wipe_length σ [4, 5]
  refine ⟨fun i m H => m = t.layer.length - i ∧ i ≤ t.layer.length ∧ ∃ acc, Sl H0 ((Da, SK.lx acc ((midK W (rngC r) t i).layer.map sD)) :: (pl, SK.lx vs (t.layer.map sD)) :: Φ) H σ [some (.o (SK.se P w C (some p) (bkD (midK W (rngC r) t i).kn) (midK W (rngC r) t i).words)), some (.d (cD W r l)), nn, some (.v (.ref pl)), none, none], ⟨t.layer.length, by simp, Nat.zero_le _, [], slD⟩, ?_⟩
  rintro i m H ⟨rfl, hi', acc, sli⟩
  obtain ⟨pl', epl, _, hpl, hdl⟩ := sl_lock sli (List.mem_cons_of_mem _ List.mem_cons_self)
  cases epl
  obtain ⟨Da', eDa, _, hDa, hdD⟩ := sl_lock sli List.mem_cons_self
  cases eDa
  have lok := list_ok (K := K) (a := pl) (vs := vs) hds.length
  by_cases hlt : i < t.layer.length
  · have hlt' : i < (t.layer.map sD).length := by simpa using hlt
    refine .inr ⟨lok.go i H ⟨hpl, hdl⟩ hlt', fun H' => (i + 1) ≤ t.layer.length ∧ ∃ acc, Sl H0 ((Da, SK.lx acc ((midK W (rngC r) t (i + 1)).layer.map sD)) :: (pl, SK.lx vs (t.layer.map sD)) :: Φ) H' σ [some (.o (SK.se P w C (some p) (bkD (midK W (rngC r) t (i + 1)).kn) (midK W (rngC r) t (i + 1)).words)), some (.d (cD W r l)), nn, some (.v (.ref pl)), none, none], fun H' ⟨z1, z2⟩ => ⟨t.layer.length - (i + 1), by omega, rfl, z1, z2⟩, fun x H' y => ?_⟩
    obtain ⟨exy, d, hd, dd⟩ := lok.yld i H x H' ⟨hpl, hdl⟩ hlt' y
    obtain ⟨s, hs, rfl⟩ := get_map hd
    have hsm := List.mem_of_getElem? hs
    have hin : s ∈ (midK W (rngC r) t i).kn.map (·.1) := (mid i).2 s (inv.lay s hsm)
    have epart := midK_part (W := W) (is := rngC r) hs
    have inv1 := (mid i).1
    have sz1 := msz i
    have ly1 := mly (i + 1)
    rw [epart] at ly1 ⊢
    generalize midK W (rngC r) t i = u at *
    have hout : (behK W (rngC r) (new0 u) s).layer.length ≤ 3402 := by
      rw [List.length_append] at ly1
      omega
    intro s' Hh C' cl fp
    refine (tg_name (i := 4) nd).run _ H' x _ dd fun ws hws hl => ⟨wipe_set σ [4, 5] [4] ws (by decide), ?_⟩
    have sl2 : Sl H0 ((Da, SK.lx acc (u.layer.map sD)) :: (pl, SK.lx vs (t.layer.map sD)) :: Φ) H' (setσ (L2.wipe σ [4, 5]) [4] ws) [some (.o (SK.se P w C (some p) (bkD u.kn) u.words)), some (.d (cD W r l)), nn, some (.v (.ref pl)), some (.d (sD s)), none] :=
      setSl (js := [4]) (ds := [sD s]) (sl_resig (sli.mono exy) wl fun j k hj => by
        rw [wipe_at, if_neg]
        rintro ⟨z, _⟩
        simp only [List.mem_cons, List.not_mem_nil, or_false] at z
        rcases z with rfl | rfl <;> cases hj) hws
    have back : ∀ j : Nat, j < 4 → (setσ (L2.wipe σ [4, 5]) [4] ws)[j]? = σ[j]? := fun j hj => by
      rw [setσ_at _ _ _ _ (by simp; omega), wipe_at, if_neg]
      rintro ⟨z, _⟩
      simp only [List.mem_cons, List.not_mem_nil, or_false] at z
      omega
    have len2 : (setσ (L2.wipe σ [4, 5]) [4] ws).length = σ.length := by rw [setσ_len, wl]
    generalize setσ (L2.wipe σ [4, 5]) [4] ws = σ2 at sl2 back len2 ⊢
    intro s' Hh C' cl fp
    refine i_of (pi_list pe_w) ?_
    refine beh_call (δ := [some (.o (SK.se P w C (some p) (bkD u.kn) u.words)), some (.d (cD W r l)), nn, some (.v (.ref pl)), some (.d (sD s)), none]) (t := u) (i1 := 0) (i2 := 1) (i3 := 4) S hB hr sl2 rfl rfl rfl ⟨ok, rg, (inv1.ok s hin).sh, inv1.wf, by omega, hin, inv1.words⟩ fun a vs' H4 sl4 ha na => ?_
    refine ⟨a, rfl, ⟨vs', SqL.of ha⟩, ?_⟩
    have nDa : Da ≠ a := na (Da, SK.lx acc (u.layer.map sD)) List.mem_cons_self
    generalize behK W (rngC r) (new0 u) s = b at *
    have src : ∀ {H5 : Hp} {δ5 : Slots} {Ψ : Lk}, Sl H0 Ψ H5 σ2 δ5 → (a, SK.lx vs' (b.layer.map sD)) ∈ Ψ → H5 a = some (.lst vs') ∧ DtAll H5 vs' (b.layer.map sD) := fun {H5 δ5 Ψ} z hz => by
      obtain ⟨a', ea, _, z1, z2⟩ := sl_lock z hz
      cases ea
      exact ⟨z1, z2⟩
    have dlen : vs'.length = (b.layer.map sD).length := (src sl4 List.mem_cons_self).2.length
    have lok1 := list_ok (K := K) (a := a) (vs := vs') dlen
    have nlk1 : ∀ q ∈ (a, SK.lx vs' (b.layer.map sD)) :: (pl, SK.lx vs (t.layer.map sD)) :: Φ, q.1 ≠ Da := fun q hq => by
      rcases List.mem_cons.mp hq with e | hq
      · rw [e]; exact Ne.symm nDa
      · exact nlk q hq
    have slb : Sl H0 ((Da, SK.lx acc ((u.layer ++ b.layer.take 0).map sD)) :: (a, SK.lx vs' (b.layer.map sD)) :: (pl, SK.lx vs (t.layer.map sD)) :: Φ) H4 σ2 [some (.o (SK.se P w C (some p) (bkD b.kn) b.words)), some (.d (cD W r l)), nn, some (.v (.ref pl)), some (.d (sD s)), none] := by
      rw [List.take_zero, List.append_nil]
      refine sl_lks sl4 fun q hq => ?_
      simp only [List.mem_cons] at hq ⊢
      rcases hq with h | h | h | h
      · exact .inr (.inl h)
      · exact .inl h
      · exact .inr (.inr (.inl h))
      · exact .inr (.inr (.inr h))
    refine ⟨fun j k H => k = b.layer.length - j ∧ j ≤ b.layer.length ∧ ∃ acc', Sl H0 ((Da, SK.lx acc' ((u.layer ++ b.layer.take j).map sD)) :: (a, SK.lx vs' (b.layer.map sD)) :: (pl, SK.lx vs (t.layer.map sD)) :: Φ) H σ2 [some (.o (SK.se P w C (some p) (bkD b.kn) b.words)), some (.d (cD W r l)), nn, some (.v (.ref pl)), some (.d (sD s)), none],
      ⟨b.layer.length, by simp, Nat.zero_le _, acc, slb⟩, ?_⟩
    rintro j k H5 ⟨rfl, hj, acc', sl5⟩
    have src5 := src sl5 (List.mem_cons_of_mem _ List.mem_cons_self)
    obtain ⟨Da', eDa, _, hDa5, hdD5⟩ := sl_lock sl5 List.mem_cons_self
    cases eDa
    by_cases hlt1 : j < b.layer.length
    · have hlt1' : j < (b.layer.map sD).length := by simpa using hlt1
      refine .inr ⟨lok1.go j H5 src5 hlt1', fun H' => (j + 1) ≤ b.layer.length ∧ ∃ acc', Sl H0 ((Da, SK.lx acc' ((u.layer ++ b.layer.take (j + 1)).map sD)) :: (a, SK.lx vs' (b.layer.map sD)) :: (pl, SK.lx vs (t.layer.map sD)) :: Φ) H' σ2 [some (.o (SK.se P w C (some p) (bkD b.kn) b.words)), some (.d (cD W r l)), nn, some (.v (.ref pl)), some (.d (sD s)), none],
        fun H' ⟨z1, z2⟩ => ⟨b.layer.length - (j + 1), by omega, rfl, z1, z2⟩, fun x1 H6 y1 => ?_⟩
      obtain ⟨ex6, d1, hd1, dd1⟩ := lok1.yld j H5 x1 H6 src5 hlt1' y1
      obtain ⟨s1, hs1, rfl⟩ := get_map hd1
      intro s' Hh C' cl fp
      refine (tg_name (i := 5) nd).run _ H6 x1 _ dd1 fun ws1 hws1 hl1 => ⟨wipe_set σ2 [5] [5] ws1 (by decide), ?_⟩
      have sl6 := setSl (js := [5]) ((sl5.mono ex6).wipe [5]) hws1
      intro s' Hh C' cl fp
      refine (je_nm (i := 5) (d := sD s1) rfl rfl) H0 _ H6 sl6 _ fun y H7 F7 e7 i7 => ?_
      have hD7 : H7 Da = some (.lst acc') := e7 _ _ (ex6 _ _ hDa5)
      have te : TEx H7 (upd H7 Da (.lst (acc' ++ [y]))) := (TEx.refl H7).upd (fun ws z => by rw [hD7] at z; cases z)
      refine ⟨acc', hD7, ?_, hlt1, acc' ++ [y], sl_relock (sl5.mono (ex6.trans e7)) hD0 nlk1 te (fun x o nx z => by rw [upd_ne nx]; exact z) ⟨Da, rfl, rfl, upd_same, ?_⟩⟩
      · have h1 := hdD5.length
        rw [List.length_map, List.length_append] at h1
        have h2 : (b.layer.take j).length ≤ b.layer.length := List.length_take_le' _ _
        rw [List.length_append] at ly1
        rw [sizeLine_eq]
        omega
      · rw [take_succ hs1, ← List.append_assoc, List.map_append]
        exact ((hdD5.ex (.of (ex6.trans e7))).append (.cons i7.2 .nil)).ex te
    · obtain rfl : j = b.layer.length := by omega
      rw [List.take_length] at sl5
      have stp := lok1.stop H5 src5
      rw [List.length_map] at stp
      refine .inl ⟨stp, hlt, acc', ?_⟩
      refine sl_resig (sl_lks ((sl5.forget 4).forget 5) fun q hq => ?_) len2.symm fun j k hj => ?_
      · simp only [List.mem_cons] at hq ⊢
        rcases hq with h | h | h
        · exact .inl h
        · exact .inr (.inr (.inl h))
        · exact .inr (.inr (.inr h))
      · by_cases hj4 : j < 4
        · exact (back j hj4).symm
        · match j, hj with
          | 0, _ => exact absurd (by decide) hj4
          | 1, _ => exact absurd (by decide) hj4
          | 2, _ => exact absurd (by decide) hj4
          | 3, _ => exact absurd (by decide) hj4
          | 4, hj => cases hj
          | 5, hj => cases hj
          | j + 6, hj => simp at hj
  · obtain rfl : i = t.layer.length := by omega
    rw [midK_end] at sli
    have stp := lok.stop H ⟨hpl, hdl⟩
    rw [List.length_map] at stp
    refine .inl ⟨stp, ?_⟩
    show D.nx (σ.set 3 (some (.ref Da))) H
    have s1 := sli.set_new (Evl.Ex.refl H) (i := 3) (k := .v (.ref Da)) (v := .ref Da) (G := []) ⟨rfl, rfl⟩ (fun _ z => nomatch z)
    have s2 := s1.unlocked (i := 3) (S := SK.l ((turnK W (rngC r) t).layer.map sD)) rfl hD0 nlk (TEx.refl H) (fun a o _ z => z) ⟨Da, acc, rfl, rfl, hDa, by rw [← midK_end]; exact hdD⟩ (fun ws z => by rw [hDa] at z; cases z)
    exact g.nx _ _ _ s2.drop_lock hn
end

end Pq

namespace Pq
open PySem PySem.Spec L2
open PyProof.Rows hiding St
open Evl (Ex)

/-! ### the search is made -/
section
variable {X : Cx} {Φ : Lk} {δ : Slots} {E : En} {e : Expr} {pos : Pos}
/-- x.f = e: the new object becomes a part of x's -/
theorem jp_fldO {S T S' : SK} {i0 : Nat} {x f : Str} {p1 p2 : Pos} (hk : δ[i0]? = some (some (.o S))) (he : JE X Φ e δ (.o T))
    (hc : ∀ H v F u G, S.is H v F → T.is H u G → (∀ a ∈ F, a ∉ G) → ∃ a C dx fs, v = .ref a ∧ H a = some (.ins C dx fs) ∧ a ∈ F ∧ Cls X.K C ∧ NoAttr X.K C f ∧ fs.length < 1000 ∧ S'.is (upd H a (.ins C dx (putF f u fs))) v (F ++ G))
    (hn : E.nx (δ.set i0 (some (.o S')))) (hN : X.N[i0]? = some x := by rfl) (hv : Vis X.env.scope x := by first | exact Or.inl rfl | exact Or.inr (Or.inl rfl) | exact Or.inr (Or.inr rfl)) (h1 : (x == ("__debug__" : Str)) = false := by decide) (h2 : (x == ("__classdict__" : Str)) = false := by decide)
    (hs : swapsWith e (some (.Attribute (.Name x p1) f p2)) pos.line X.env = pure false := by rfl) : JP X Φ (.Assign [.Attribute (.Name x p1) f p2] e pos) δ E := fun H0 σ H1 D sl g => by
  refine s_of (ps_fld (pe_var hN hv h1 h2) pe_w hs) (he H0 σ H1 sl _ fun u H2 G e1 i1 => ?_)
  obtain ⟨Fs, fl⟩ := sl.at_
  obtain ⟨v, hv0, hi⟩ := fl.some_ i0 _ hk
  have hap : ∀ a ∈ Fs i0, a ∉ G := fun a ha z => by
    obtain ⟨_, o, q, _⟩ := hi.dom a ha
    rw [i1.fresh a z] at q
    cases q
  obtain ⟨a, C, dx, fs, rfl, hp, haF, cl, na, hl, hS⟩ := hc H2 v (Fs i0) u G (S.ex hi.1 e1) i1.1 hap
  refine ⟨_, hv0, a, C, dx, fs, rfl, hp, cl, na, hl, g.nx _ _ _ (sl.upd hk fun v' F' hs' is h0 => ?_) hn⟩
  rw [hv0] at hs'
  cases hs'
  -- the footprint may be told otherwise: the same reading gives the same object
  have hap' : ∀ a ∈ F', a ∉ G := fun a ha z => by
    obtain ⟨_, o, q, _⟩ := is.dom a ha
    rw [i1.fresh a z] at q
    cases q
  obtain ⟨a', C', dx', fs', ea, hp', haF', _, _, _, hS'⟩ := hc H2 _ F' u G (S.ex is.1 e1) i1.1 hap'
  cases ea
  rw [hp] at hp'
  cases hp'
  refine ⟨fun b o nb hb => by rw [upd_ne (fun z => nb (by rw [z]; exact haF'))]; exact e1 b o hb, F' ++ G, ⟨hS', fun b hb => ?_⟩, fun b hb => ?_⟩
  · rcases List.mem_append.mp hb with z | z
    · refine ⟨h0 b z, fun vs q => ?_⟩
      by_cases eb : b = a
      · rw [eb, upd_same] at q; cases q
      · rw [upd_ne eb] at q
        obtain ⟨_, o, w, nt⟩ := is.dom b z
        rw [e1 b o w] at q
        cases q
        exact nt vs rfl
    · refine ⟨Evl.fresh_back sl.ex (i1.fresh b z), fun vs q => ?_⟩
      by_cases eb : b = a
      · rw [eb, upd_same] at q; cases q
      · rw [upd_ne eb] at q
        exact (i1.2 b z).2 vs q
  · rcases List.mem_append.mp hb with z | z
    · exact .inl z
    · exact .inr (i1.fresh b z)
/-- x.f = a number -/
theorem jp_fldI {S S' : SK} {i0 : Nat} {x f : Str} {n : Int} {p1 p2 : Pos} (hk : δ[i0]? = some (some (.o S))) (he : JE X Φ e δ (.d (.int n)))
    (hc : ∀ H v F, S.is H v F → ∃ a C dx fs, v = .ref a ∧ H a = some (.ins C dx fs) ∧ a ∈ F ∧ Cls X.K C ∧ NoAttr X.K C f ∧ fs.length < 1000 ∧ S'.is (upd H a (.ins C dx (putF f (.int n) fs))) v F)
    (hn : E.nx (δ.set i0 (some (.o S')))) (hN : X.N[i0]? = some x := by rfl) (hv : Vis X.env.scope x := by first | exact Or.inl rfl | exact Or.inr (Or.inl rfl) | exact Or.inr (Or.inr rfl)) (h1 : (x == ("__debug__" : Str)) = false := by decide) (h2 : (x == ("__classdict__" : Str)) = false := by decide)
    (hs : swapsWith e (some (.Attribute (.Name x p1) f p2)) pos.line X.env = pure false := by rfl) : JP X Φ (.Assign [.Attribute (.Name x p1) f p2] e pos) δ E := fun H0 σ H1 D sl g => by
  refine s_of (ps_fld (pe_var hN hv h1 h2) pe_w hs) (he H0 σ H1 sl _ fun u H2 G e1 i1 => ?_)
  obtain ⟨Fs, fl⟩ := (sl.mono e1).at_
  obtain ⟨v, hv0, hi⟩ := fl.some_ i0 _ hk
  obtain ⟨a, C, dx, fs, rfl, hp, haF, cl, na, hl, hS⟩ := hc H2 v (Fs i0) hi.1
  rw [dt_int i1.2]
  refine ⟨_, hv0, a, C, dx, fs, rfl, hp, cl, na, hl, g.nx _ _ _ (sl_part (sl.mono e1) hk (T := S') (fun v' F' hs' is => ?_) (fun vs z => by cases z)) hn⟩
  · rw [hv0] at hs'
    cases hs'
    obtain ⟨a', C', dx', fs', ea, hp', haF', _, _, _, hS'⟩ := hc H2 _ F' is
    cases ea
    rw [hp] at hp'
    cases hp'
    exact ⟨haF', hS'⟩
end
def SK.s0 (C p : Addr) : SK where
  is H v F := ∃ dx, v = .ref p ∧ F = [p] ∧ H p = some (.ins C dx [])
  stay := by
    rintro H H' v F ⟨dx, rfl, rfl, hp⟩ e k
    exact ⟨dx, rfl, rfl, (k p (by simp)).trans hp⟩
  dom := by
    rintro H v F ⟨dx, rfl, rfl, hp⟩ a ha
    obtain rfl : a = p := by simpa using ha
    exact ⟨_, hp⟩
def SK.s1 (P : Program) (w : World) (C p : Addr) (kvs : List (NestedKey × PyData)) : SK where
  is H v F := ∃ dx k, v = .ref p ∧ F = [p, k] ∧ H p = some (.ins C dx (putF "known" (.ref k) [])) ∧ IsN P w H k kvs
  stay := by
    rintro H H' v F ⟨dx, k, rfl, rfl, hp, hk⟩ e q
    exact ⟨dx, k, rfl, rfl, (q p (by simp)).trans hp, hk.ex e (q k (by simp))⟩
  dom := by
    rintro H v F ⟨dx, k, rfl, rfl, hp, ⟨_, raw, hk, _⟩⟩ a ha
    simp only [List.mem_cons, List.not_mem_nil, or_false] at ha
    rcases ha with rfl | rfl
    · exact ⟨_, hp⟩
    · exact ⟨_, hk⟩
def SK.s2 (P : Program) (w : World) (C p : Addr) (kvs : List (NestedKey × PyData)) : SK where
  is H v F := ∃ dx k r, v = .ref p ∧ F = [p, k, r] ∧ H p = some (.ins C dx (putF "runs" (.ref r) (putF "known" (.ref k) []))) ∧ IsN P w H k kvs ∧ H r = some (.dK [])
  stay := by
    rintro H H' v F ⟨dx, k, r, rfl, rfl, hp, hk, hr⟩ e q
    exact ⟨dx, k, r, rfl, rfl, (q p (by simp)).trans hp, hk.ex e (q k (by simp)), (q r (by simp)).trans hr⟩
  dom := by
    rintro H v F ⟨dx, k, r, rfl, rfl, hp, ⟨_, raw, hk, _⟩, hr⟩ a ha
    simp only [List.mem_cons, List.not_mem_nil, or_false] at ha
    rcases ha with rfl | rfl | rfl
    · exact ⟨_, hp⟩
    · exact ⟨_, hk⟩
    · exact ⟨_, hr⟩
theorem n_off {P : Program} {w : World} {H : Hp} {k p : Addr} {kvs : List (NestedKey × PyData)} {C dx : Addr} {fs fs' : List (Str × V)} (hk : IsN P w H k kvs) (hp : H p = some (.ins C dx fs)) : k ≠ p ∧ IsN P w (upd H p (.ins C dx fs')) k kvs := by
  have ne : k ≠ p := fun z => by
    obtain ⟨_, raw, q, _⟩ := hk
    rw [z, hp] at q
    cases q
  exact ⟨ne, hk.ex ((TEx.refl H).upd (fun vs z => by rw [hp] at z; cases z)) (upd_ne ne)⟩
def spInit (P : Program) (w : World) (C : Addr) : Sp := fun vs H Q _ => ∃ (W : Wl) (r l : Int × Int) (n : Int) (p dx : Addr) (v1 : V), vs = [.ref p, v1, .int n] ∧ H p = some (.ins C dx []) ∧ Dt H v1 (cD W r l) ∧ (W.Ok ∧ RgOk r ∧ LvOk W l ∧ Few W n) ∧
  ∀ H' F, (∀ a o, a ≠ p → H a = some o → H' a = some o) → (SK.se P w C (some p) (bkD (searchK W r l n).kn) (searchK W r l n).words).is H' (.ref p) F → (∀ a ∈ F, a = p ∨ H a = none) → Q .non H'
section
variable {P : Program} {w : World} {K : PySem.W.Frag} {mg : Str → Option Value} {base : Heap}
theorem ok_init {k : Nat} {f C : Addr} {fd : FuncData} (T : Txt mg) (S : Sch K C) (h_begun_states : Has P w K mg base k "begun_states" ["claim", "number"] (spF s_begun_states)) (hB : HasB P w K mg base k C) (F : Fun K "__init__" "Search.__init__" mInit f fd) :
    FnOk P w K mg base CX0 (k + 1) f fd ["self", "claim", "number"] (spInit P w C) := by
  have sc : FnScope NI ["self", "claim", "number"] (defScope mInit) := ⟨rfl, rfl, rfl, by decide +kernel, rfl, by decide +kernel, by decide +kernel⟩
  have nd : NI.Nodup := by decide +kernel
  refine F.ok sc (fun vs H Q E h => ?_) (fun cdv A outer sh H vs Q E hr h => ?_)
  · obtain ⟨W, r, l, n, p, dx, v1, rfl, _⟩ := h
    rfl
  obtain ⟨W, r, l, n, p, dx, v1, rfl, hp, d1, ⟨ok, rg, lv, few⟩, q⟩ := h
  refine ⟨wSs (bx P w K mg base NI "Search.__init__" mInit f cdv A outer sh H E) (defBody mInit), pss_w, ?_⟩
  have n0 := few.n0
  have n4 : n ≤ 4 := by have := few.n3; omega
  have s0 : (SK.s0 C p).is H (.ref p) [p] := ⟨dx, rfl, rfl, hp⟩
  have sl0 := own_sl (N := NI) s0 (fun a ha vs z => by
    obtain rfl : a = p := by simpa using ha
    rw [hp] at z
    cases z) (.cons d1 (.cons (.int n) .nil))
  have bl : (begunL W n l).length ≤ 10 := by
    unfold begunL
    rw [List.length_map, rngC_len]
    have := lv.a
    have := lv.b
    have := lv.c
    have := ok.top2
    omega
  have ek : dcOut kS (fun _ => PyData.none) (begunL W n l) = bkD (initK W n l).kn := by
    rw [dcOut_nodup (nodup_map (begunL_nodup W n l) fun _ _ _ _ h => kS_inj h)]
    unfold bkD initK
    rw [List.map_map]
    rfl
  have inv0 := initK_inv ok n0 lv
  have fin := searchK_lay (r := r) ok n0 n4 lv
  have main : JS (bx P w K mg base NI "Search.__init__" mInit f cdv A outer sh H E) [] (defBody mInit) (startD NI (.o (SK.s0 C p) :: [cD W r l, .int n].map .d)) ⟨fun δ => ∃ a b c d e, δ = [some (.o (SK.se P w C (some p) (bkD (searchK W r l n).kn) (searchK W r l n).words)), a, b, c, d, e], fun _ => False, fun _ => False, fun _ => False⟩ := by
    refine js_cons (jp_fldO (i0 := 0) (S := SK.s0 C p) (S' := SK.s1 P w C p (bkD (initK W n l).kn)) rfl (je_dcT hr (l := begunL W n l) (e' := sD) (kf := kS) (zf := fun _ => .none) (fun s _ => kS_tup s) (blkOk_by (own := [("state", 4)]) rfl) nd
      (jix (ji_new (je_call h_begun_states hr (ja_cons (jg_d (je_nm (i := 1) rfl rfl)) (ja_cons (jg_d (je_nm (i := 2) rfl rfl)) ja_nil)) ⟨(W, r, l, n), ⟨ok, lv⟩, rfl, rfl⟩ trivial)))
      (fun s hs => ⟨[4], _, by decide, fun s' H' C cl fp => ⟨tg_name (i := 4) nd, je_is (je_nm (i := 4) rfl rfl) (kS_data s).symm, je_non⟩⟩) (by omega)) ?_ ?_)
    · rintro H v F u G ⟨dx, rfl, rfl, hp⟩ ⟨k, rfl, rfl, hk⟩ ap
      obtain ⟨ne, hk'⟩ := n_off (fs' := putF "known" (.ref k) []) hk hp
      refine ⟨p, C, dx, [], rfl, hp, by simp, S.cls, S.nk, by decide, dx, k, rfl, rfl, upd_same, ?_⟩
      rw [← ek]
      exact hk'
    refine js_cons (jp_fldO (i0 := 0) (S := SK.s1 P w C p (bkD (initK W n l).kn)) (S' := SK.s2 P w C p (bkD (initK W n l).kn)) rfl je_newW ?_ ?_)
    · rintro H v F u G ⟨dx, k, rfl, rfl, hp, hk⟩ ⟨r, kv, rfl, rfl, hr, hkv⟩ ap
      have ekv : kv = [] := by
        cases kv with
        | nil => rfl
        | cons a b => cases hkv
      subst ekv
      obtain ⟨ne, hk'⟩ := n_off (fs' := putF "runs" (.ref r) (putF "known" (.ref k) [])) hk hp
      have nr : r ≠ p := fun z => ap p (by simp) (by simp [z])
      exact ⟨p, C, dx, _, rfl, hp, by simp, S.cls, S.nr, (by show 1 < 1000; decide), dx, k, r, rfl, rfl, upd_same, hk', by rw [upd_ne nr]; exact hr⟩
    refine js_cons (jp_fldI (i0 := 0) (S := SK.s2 P w C p (bkD (initK W n l).kn)) (S' := SK.se P w C (some p) (bkD (initK W n l).kn) (initK W n l).words) rfl je_int ?_ ?_)
    · rintro H v F ⟨dx, k, r, rfl, rfl, hp, hk, hr⟩
      obtain ⟨ne, hk'⟩ := n_off (fs' := seF k r 0) hk hp
      have nr : r ≠ p := fun z => by rw [z, hp] at hr; cases hr
      refine ⟨p, C, dx, _, rfl, hp, by simp, S.cls, S.nb, ?_, p, k, r, dx, 0, [], rfl, (fun _ z => by cases z; rfl), rfl, upd_same, hk', by rw [upd_ne nr]; exact hr, rfl⟩
      have := se_eq k r 0
      have l1 := length_putF "runs" (V.ref r) (putF "known" (V.ref k) [])
      have l2 := length_putF "known" (V.ref k) ([] : List (Str × V))
      simp only [List.length_nil] at l2
      omega
    have bl0 : (bkD (initK W n l).kn).length ≤ 1000000 := by
      unfold bkD initK
      rw [List.length_map, List.length_map]
      omega
    refine js_cons (jp_set (i := 3) (je_isL (es' := (initK W n l).layer.map sD) (je_listN T.list (jr_n (jr_known S (jr_vo (i := 0) rfl))) bl0) ?_) trivial ?_ nd)
    · unfold bkD initK
      rw [List.map_map, List.map_map]
      exact List.map_congr_left fun s _ => kS_data s
    refine js_one (jp_while (fun m δ => ∃ (j : Nat) (x4 x5 : Option Kd), j + m = stopK W r l n ∧ δ = [some (.o (SK.se P w C (some p) (bkD (iterK W (rngC r) j (initK W n l)).kn) (iterK W (rngC r) j (initK W n l)).words)), some (.d (cD W r l)), some (.d (.int n)), some (.o (SK.l ((iterK W (rngC r) j (initK W n l)).layer.map sD))), x4, x5]) (stopK W r l n)
      ⟨0, none, none, Nat.zero_add _, rfl⟩ (fun m δ1 hI => ?_))
    obtain ⟨j, x4, x5, hj, rfl⟩ := hI
    have inv : KInv W n (iterK W (rngC r) j (initK W n l)) := inv0.iter ok n4 j
    have sz := inv.size ok few
    refine ⟨!decide ((iterK W (rngC r) j (initK W n l)).layer.map sD = []), jt_is (jt_c (jc_neD hr (jdp_l (jr_vo (i := 3) rfl)) (jdp_l (jr_new (je_lst jds_nil (hz := by simp)))) ((Tm.lst (n := 2) fun d hd => by
      obtain ⟨x, _, rfl⟩ := List.mem_map.mp hd
      exact tm_sD x).shaped (by decide)) (by decide +kernel))) (eqv_nil2 _), fun h => ?_, fun h => ?_⟩
    · have hne : (iterK W (rngC r) j (initK W n l)).layer ≠ [] := by simpa using h
      have hm : 0 < m := by
        refine Nat.pos_of_ne_zero fun z => hne ?_
        have e : j = stopK W r l n := by omega
        rw [e]
        exact fin
      refine js_cons (jp_ifno (jt_is (jt_c (jc_gt (je_lenN T.len (jr_n (jr_known S (jr_vo (i := 0) rfl))) (by unfold bkD; rw [List.length_map]; omega)) (je_gi T.MOST_STATES))) (decide_eq_false (by unfold bkD; rw [List.length_map]; omega))) ?_)
      refine js_one (layer_ok S hB hr ok rg few inv ?_)
      rw [← iterK_succ]
      exact ⟨m - 1, by omega, j + 1, none, none, by omega, rfl⟩
    · have he : (iterK W (rngC r) j (initK W n l)).layer = [] := by simpa using h
      have e : searchK W r l n = iterK W (rngC r) j (initK W n l) := by
        unfold searchK
        rw [← hj, iterK_add, iterK_nil m he]
      rw [e]
      exact ⟨_, _, _, _, _, rfl⟩
  refine main (cutH H [p]) _ H _ sl0 ⟨fun σ H' δ sl ⟨a, b, c, d, e, hδ⟩ => ?_, fun _ _ _ _ _ _ z => z.elim, fun _ _ _ _ z => z.elim, fun _ _ _ _ z => z.elim⟩
  subst hδ
  obtain ⟨Fs, fl⟩ := sl.at_
  obtain ⟨v, hv, hi⟩ := fl.some_ 0 _ rfl
  have e0 := se_at hi.1
  subst e0
  refine q H' (Fs 0) (fun x o nx hx => sl.ex x o (by rw [cut_out (by simpa using nx)]; exact hx)) hi.1 fun x hx => ?_
  rcases cut_none (hi.2 x hx).1 with z | z
  · exact .inl (by simpa using z)
  · exact .inr z
end

end Pq

namespace Pq
open PySem PySem.Spec L2
open PyProof.Rows hiding St
open Evl (Ex)

/-! ### searched, verdict, states -/
structure HasI (P : Program) (w : World) (K : PySem.W.Frag) (mg : Str → Option Value) (base : Heap) (k : Nat) (C : Addr) : Prop where
  out : ∃ (f : Addr) (fd : FuncData), FnOk P w K mg base CX0 k f fd ["self", "claim", "number"] (spInit P w C) ∧ Mk K C f ∧ Binds K fd ["self", "claim", "number"] [] ∧ mg "Search" = some (.ref C)
section
variable {X : Cx} {Φ : Lk} {δ : Slots} {a b : Expr} {pos : Pos}
theorem je_search {k : Nat} {C : Addr} {W : Wl} {r l : Int × Int} {n : Int} {p : Pos} (h : HasI X.prog X.w X.K X.mg X.base k C) (hr : Room (k + 1) X.A) (ha : JE X Φ a δ (.d (cD W r l))) (hb : JE X Φ b δ (.d (.int n))) (ok : W.Ok ∧ RgOk r ∧ LvOk W l ∧ Few W n)
    (hg : Gl X "Search" := by rfl) (hs : NS a := by exact fun _ _ => rfl) (hs2 : NS b := by exact fun _ _ => rfl) : JE X Φ (.Call (.Name "Search" p) [a, b] [] pos) δ (.o (SK.se X.prog X.w C none (bkD (searchK W r l n).kn) (searchK W r l n).words)) := fun H0 σ H1 sl Q q => by
  obtain ⟨f, fd, fo, mk, bi, hm⟩ := h.out
  refine e_of (pe_make mk fo hr hg hm bi .nil pass0 (pa_cons pe_w (pa_cons pe_w pa_nil (hs2 _ _)) (hs _ _)) (he := hs _ _) (hpl := hs2.any _ _)) ?_
  refine ha H0 σ H1 sl _ fun v H2 _ e1 i1 => ?_
  refine hb H0 σ H2 (sl.mono e1) _ fun u H3 _ e2 i2 => ?_
  intro x dx hx hdx ne
  have ex3 : Ex H3 (upd (upd H3 dx (.own x)) x (.ins C dx [])) := fun c o z => by
    rw [upd_ne (fun e => by rw [e, hx] at z; cases z), upd_ne (fun e => by rw [e, hdx] at z; cases z)]
    exact z
  refine ⟨W, r, l, n, x, dx, v, by rw [dt_int i2.2]; rfl, upd_same, i1.2.ex (.of (e2.trans ex3)), ok, fun H' F k1 k2 k3 => ⟨rfl, ?_⟩⟩
  have nt := se_nt k2
  refine q _ H' F ((e1.trans e2).trans fun c o z => ?_) ⟨?_, fun c hc => ⟨?_, nt c hc⟩⟩
  · have nc : c ≠ x := fun e => by rw [e, hx] at z; cases z
    exact k1 c o nc (ex3 c o z)
  · obtain ⟨p', k', r', dx', b', kv', e1, _, z⟩ := k2
    exact ⟨p', k', r', dx', b', kv', e1, (fun _ z => nomatch z), z⟩
  · refine Evl.fresh_back (e1.trans e2) ?_
    rcases k3 c hc with z | z
    · rw [z]; exact hx
    · by_cases ec : c = x
      · rw [ec]; exact hx
      · rw [upd_ne ec] at z
        by_cases ed : c = dx
        · rw [ed]; exact hdx
        · rw [upd_ne ed] at z
          exact z
end
def s_searched (P : Program) (w : World) (C : Addr) : Rl := RL (fun (x : Wl × (Int × Int) × (Int × Int) × Int) => match x with | (W, r, l, n) => W.Ok ∧ RgOk r ∧ LvOk W l ∧ Few W n) (fun (W, r, l, n) => [.d (cD W r l), .d (.int n)]) (fun (W, r, l, n) => .o (SK.se P w C none (bkD (searchK W r l n).kn) (searchK W r l n).words))
def s_verdict : Rl := RL (fun (x : Wl × (Int × Int) × (Int × Int) × Int) => match x with | (W, r, l, n) => W.Ok ∧ RgOk r ∧ LvOk W l ∧ Few W n) (fun (W, r, l, n) => [.d (cD W r l), .d (.int n)]) (fun (W, r, l, n) => .d (.str (wordM (searchK W r l n).words)))
def sortS (l : List Ss) : List Ss := l.mergeSort fun a b => PySem.W.dataLe false id (sD a) (sD b)
theorem sortS_map (l : List Ss) : sortD (l.map sD) = (sortS l).map sD := by
  unfold sortS sortD
  exact (List.map_mergeSort (f := sD) (s := PySem.W.dataLe false id) fun a _ b _ => rfl).symm
theorem mem_sortS {l : List Ss} {p : Ss} : p ∈ sortS l ↔ p ∈ l := List.mem_mergeSort
theorem alike_sD (p q : Ss) : PySem.W.alike (sD p) (sD q) = true := by
  show (PySem.W.alike (.int p.lv) (.int q.lv) && (PySem.W.alikeAll (p.past.map .int) (q.past.map .int) && (PySem.W.alikeAll (p.on.map .int) (q.on.map .int) && (PySem.W.alikeAll (p.off.map .int) (q.off.map .int) && (PySem.W.alike (.int p.ready) (.int q.ready) && PySem.W.alikeAll [] []))))) = true
  rw [alike_ints, alike_ints, alike_ints]
  rfl
theorem allSs (l : List Ss) : PySem.W.AllAlike (l.map sD) := fun d hd e he => by
  obtain ⟨p, _, rfl⟩ := List.mem_map.mp hd
  obtain ⟨q, _, rfl⟩ := List.mem_map.mp he
  exact alike_sD p q
theorem sblSs (l : List Ss) : PySem.W.Sortable (l.map sD) := .inl fun d hd => by
  obtain ⟨p, _, rfl⟩ := List.mem_map.mp hd
  exact ⟨_, _, rfl⟩
theorem dpSs (l : List Ss) : ∀ d ∈ l.map sD, d.depth ≤ 60 := fun d hd => by
  obtain ⟨p, _, rfl⟩ := List.mem_map.mp hd
  exact Nat.le_trans (tm_sD p).dep (by decide)
def s_states : Rl := RL (fun (x : Wl × (Int × Int) × (Int × Int) × Int) => match x with | (W, r, l, n) => W.Ok ∧ RgOk r ∧ LvOk W l ∧ Few W n) (fun (W, r, l, n) => [.d (cD W r l), .d (.int n)]) (fun (W, r, l, n) => .d (.tuple ((sortS ((searchK W r l n).kn.map (·.1))).map sD)))
theorem bk_keys (kn : Bk) : (bkD kn).map (fun q => q.1.data) = (kn.map (·.1)).map sD := by
  unfold bkD
  rw [List.map_map, List.map_map]
  exact List.map_congr_left fun p _ => kS_data p.1
section
variable {P : Program} {w : World} {K : PySem.W.Frag} {mg : Str → Option Value} {base : Heap}
theorem ok_searched {k : Nat} {f C : Addr} {fd : FuncData} (T : Txt mg) (h_need_claim : Has P w K mg base k "need_claim" ["thing"] (spF s_need_claim)) (h_need_number : Has P w K mg base k "need_number" ["number"] (spF s_need_number)) (hI : HasI P w K mg base k C) (F : Fun K "searched" "searched" (top 39) f fd) : FnOk P w K mg base CX0 (k + 2) f fd ["claim", "number"] (spF (s_searched P w C)) := by
  have sc : FnScope ["claim", "number"] ["claim", "number"] (defScope (top 39)) := ⟨rfl, rfl, rfl, by decide +kernel, rfl, by decide +kernel, by decide +kernel⟩
  have nd : (["claim", "number"] : List Str).Nodup := by decide +kernel
  refine fn_ok F sc (RL.len fun _ => rfl) (fun cdv A outer s H E ks r hr hS => ?_)
  obtain ⟨⟨W, r, l, n⟩, ⟨ok, rg, lv, few⟩, rfl, rfl⟩ := hS
  have hr0 : Room k (bx P w K mg base ["claim", "number"] "searched" (top 39) f cdv A outer s H E).A := hr.mono (Nat.le_succ _)
  have n0 := few.n0
  have n3 := few.n3
  refine js_cons (jp_expr (je_call h_need_claim hr0 (ja_cons (jg_d (je_nm (i := 0) rfl rfl)) ja_nil) ⟨(W, r, l), ⟨ok, rg, lv⟩, rfl, rfl⟩ trivial) ?_)
  refine js_cons (jp_expr (je_call h_need_number hr0 (ja_cons (jg_d (je_nm (i := 1) rfl rfl)) ja_nil) ⟨n, ⟨n0, by omega⟩, rfl, rfl⟩ trivial) ?_)
  exact js_one (jp_ret (je_search hI hr (je_nm (i := 0) rfl rfl) (je_nm (i := 1) rfl rfl) ⟨ok, rg, lv, few⟩) trivial rfl)
theorem ok_verdict {k : Nat} {f C : Addr} {fd : FuncData} (S : Sch K C) (h_searched : Has P w K mg base k "searched" ["claim", "number"] (spF (s_searched P w C))) (h_word : HasM P w K mg base k C "word" ["self"] (spF (s_word P w C))) (F : Fun K "verdict" "verdict" (top 40) f fd) : FnOk P w K mg base CX0 (k + 1) f fd ["claim", "number"] (spF s_verdict) := by
  have sc : FnScope ["claim", "number"] ["claim", "number"] (defScope (top 40)) := ⟨rfl, rfl, rfl, by decide +kernel, rfl, by decide +kernel, by decide +kernel⟩
  have nd : (["claim", "number"] : List Str).Nodup := by decide +kernel
  refine fn_ok F sc (RL.len fun _ => rfl) (fun cdv A outer s H E ks r hr hS => ?_)
  obtain ⟨⟨W, r, l, n⟩, ⟨ok, rg, lv, few⟩, rfl, rfl⟩ := hS
  exact js_one (jp_ret (je_meth0 h_word S.cls hr (jr_new (je_call h_searched hr (ja_cons (jg_d (je_nm (i := 0) rfl rfl)) (ja_cons (jg_d (je_nm (i := 1) rfl rfl)) ja_nil)) ⟨(W, r, l, n), ⟨ok, rg, lv, few⟩, rfl, rfl⟩ trivial)) (se_meth (by decide +kernel) (by decide +kernel) (by decide +kernel)) ⟨(_, _, none), trivial, rfl, rfl⟩ trivial) trivial rfl)
theorem ok_states {k : Nat} {f C : Addr} {fd : FuncData} (T : Txt mg) (S : Sch K C) (h_searched : Has P w K mg base k "searched" ["claim", "number"] (spF (s_searched P w C))) (F : Fun K "states" "states" (top 41) f fd) : FnOk P w K mg base CX0 (k + 1) f fd ["claim", "number"] (spF s_states) := by
  have sc : FnScope ["claim", "number"] ["claim", "number"] (defScope (top 41)) := ⟨rfl, rfl, rfl, by decide +kernel, rfl, by decide +kernel, by decide +kernel⟩
  have nd : (["claim", "number"] : List Str).Nodup := by decide +kernel
  refine fn_ok F sc (RL.len fun _ => rfl) (fun cdv A outer s H E ks r hr hS => ?_)
  obtain ⟨⟨W, r, l, n⟩, ⟨ok, rg, lv, few⟩, rfl, rfl⟩ := hS
  have n0 := few.n0
  have n3 := few.n3
  have sz := (searchK_inv (r := r) ok n0 (by omega) lv).size ok few
  refine js_one (jp_ret (je_is (je_tupL T.tuple (jr_new (je_sorted hr T.sorted (jr_new (je_isL (je_listN T.list (jr_n (jr_known S (jr_new (je_call h_searched hr (ja_cons (jg_d (je_nm (i := 0) rfl rfl)) (ja_cons (jg_d (je_nm (i := 1) rfl rfl)) ja_nil)) ⟨(W, r, l, n), ⟨ok, rg, lv, few⟩, rfl, rfl⟩ trivial)))) (by unfold bkD; rw [List.length_map]; omega)) (bk_keys _))) (allSs _) (sblSs _) (by rw [List.length_map, List.length_map]; omega) (dpSs _)))) ?_) trivial rfl)
  rw [sortS_map]
end

end Pq

namespace Pq
open PySem PySem.Spec L2
open PyProof.Rows hiding St
open Evl (Ex)

/-! ### the law's own rule -/
section
variable {X : Cx} {Φ : Lk} {δ : Slots} {E : En} {c : Expr} {pos : Pos} {sts : List Stmt}
theorem js_mono {E1 : Slots → Prop} (h : JS X Φ sts δ { E with nx := E1 }) (himp : ∀ δ', E1 δ' → E.nx δ') : JS X Φ sts δ E := fun H0 σ H1 D sl g => h H0 σ H1 D sl ⟨fun σ H δ s z => g.nx σ H δ s (himp δ z), g.rt, g.bk, g.ct⟩
/-- both ways meet -/
theorem jp_ifM {A B : List Stmt} {k : Bool} (δ2 : Slots) (h : JT X Φ c δ k) (h1 : k = true → JS X Φ A δ { E with nx := fun δ' => δ' = δ2 }) (h2 : k = false → JS X Φ B δ { E with nx := fun δ' => δ' = δ2 }) (hn : E.nx δ2) : JP X Φ (.If c A B pos) δ E :=
  jp_if h (fun z => js_mono (h1 z) fun δ' e => e ▸ hn) (fun z => js_mono (h2 z) fun δ' e => e ▸ hn)
end
theorem sortI_map (l : List Int) : sortD (l.map .int) = (sortI l).map .int := by
  unfold sortI sortD
  refine (List.map_mergeSort (f := PyData.int) (s := PySem.W.dataLe false id) fun a _ b _ => ?_).symm
  exact (congrFun (congrFun (PySem.W.dataLe_int (β := Int) id) a) b).symm
theorem allI (l : List Int) : PySem.W.AllAlike (l.map PyData.int) := fun d hd e he => by
  obtain ⟨p, _, rfl⟩ := List.mem_map.mp hd
  obtain ⟨q, _, rfl⟩ := List.mem_map.mp he
  rfl
theorem sblI (l : List Int) : PySem.W.Sortable (l.map PyData.int) := .inr fun d hd => by
  obtain ⟨p, _, rfl⟩ := List.mem_map.mp hd
  exact ⟨(fun z => by cases z), (fun xs z => by cases z)⟩
theorem dpI (l : List Int) : ∀ d ∈ l.map PyData.int, d.depth ≤ 60 := fun d hd => by
  obtain ⟨p, _, rfl⟩ := List.mem_map.mp hd
  exact Nat.zero_le _
def lbD (x : Res Lw × Int) : PyData := .tuple [rD lwD x.1, .int x.2]
def s__law_start : Rl := RL (fun (x : Wl × Int × Int) => match x with | (W, n, lv) => W.Ok) (fun (W, n, lv) => [.d (wD W), .d (.int n), .d (.int lv)]) (fun (W, n, lv) => .d (lwD (startL W n lv)))
def s__law_seen : Rl := RL (fun (x : Wl × Lw) => match x with | (W, s) => W.Ok ∧ (s.past.length : Int) = W.lag) (fun (W, s) => [.d (wD W), .d (lwD s)]) (fun (W, s) => .d (.int (seenM W s.lv s.past)))
def s__law_beat : Rl := RL (fun (x : Wl × Int × Lw × Int) => match x with | (W, n, s, i) => W.Ok ∧ n ≤ 4 ∧ s.Ok W n) (fun (W, n, s, i) => [.d (wD W), .d (lwD s), .d (.int i)]) (fun (W, n, s, i) => .d (lbD (beatL W s i)))
def s__law_word : Rl := RL (fun (ws : List Bool) => True) (fun ws => [.bo (SK.w ws)]) (fun ws => .d (.str (wordM ws)))
theorem fresh_snoc {W : Wl} {seen a : Int} {l : List Int} : freshL W seen (l ++ [a]) = if -W.rest < stepAge W seen a then freshL W seen l ++ [stepAge W seen a] else freshL W seen l := by
  unfold freshL
  rw [List.map_append, List.filter_append]
  by_cases h : -W.rest < stepAge W seen a
  · rw [if_pos h]
    simp [h]
  · rw [if_neg h]
    simp [h]
theorem fresh_le {W : Wl} {seen : Int} {l : List Int} : (freshL W seen l).length ≤ l.length := by
  unfold freshL
  refine Nat.le_trans (List.length_filter_le _ _) ?_
  rw [List.length_map]
  exact Nat.le_refl _
section
variable {P : Program} {w : World} {K : PySem.W.Frag} {mg : Str → Option Value} {base : Heap}
-- _law_start (top 73)
theorem ok__law_start {k : Nat} {f : Addr} {fd : FuncData} (T : Txt mg) (F : Fun K "_law_start" "_law_start" (top 73) f fd) : FnOk P w K mg base CX0 (k + 1) f fd ["_law_well_here", "_law_many", "_law_level"] (spF s__law_start) := by
  have sc : FnScope ["_law_well_here", "_law_many", "_law_level"] ["_law_well_here", "_law_many", "_law_level"] (defScope (top 73)) := ⟨rfl, rfl, rfl, by decide +kernel, rfl, by decide +kernel, by decide +kernel⟩
  have nd : (["_law_well_here", "_law_many", "_law_level"] : List Str).Nodup := by decide +kernel
  refine fn_ok F sc (RL.len fun _ => rfl) (fun cdv A outer s H E ks r hr hS => ?_)
  obtain ⟨⟨W, n, lv⟩, ok, rfl, rfl⟩ := hS
  refine js_one (jp_ret (je_is (je_tup (jds_cons (je_nm (i := 2) rfl rfl) (jds_cons (je_rep (je_tup (jds_cons (je_nm (i := 2) rfl rfl) jds_nil) (hz := by simp)) (je_ix (je_nm (i := 0) rfl rfl) je_int rfl) (by simp) (by have := ok.lag1; omega) (by have := ok.lag2; omega) (by simp)) (jds_cons (je_tup jds_nil (hz := by simp)) (jds_cons (je_nm (i := 1) rfl rfl) jds_nil)))) (hz := by simp)) (by unfold startL lwD; simp only [flat_rep, iL, List.map_replicate]; rfl)) trivial rfl)

-- _law_seen (top 74)
theorem ok__law_seen {k : Nat} {f : Addr} {fd : FuncData} (T : Txt mg) (F : Fun K "_law_seen" "_law_seen" (top 74) f fd) : FnOk P w K mg base CX0 (k + 1) f fd ["_law_well_here", "_law_here"] (spF s__law_seen) := by
  have sc : FnScope ["_law_well_here", "_law_here", "_law_found"] ["_law_well_here", "_law_here"] (defScope (top 74)) := ⟨rfl, rfl, rfl, by decide +kernel, rfl, by decide +kernel, by decide +kernel⟩
  have nd : (["_law_well_here", "_law_here", "_law_found"] : List Str).Nodup := by decide +kernel
  refine fn_ok F sc (RL.len fun _ => rfl) (fun cdv A outer s H E ks r hr hS => ?_)
  obtain ⟨⟨W, s0⟩, ⟨ok, hl⟩, rfl, rfl⟩ := hS
  refine js_cons (jp_set (i := 2) (je_iteI (jt_c (jc_gt (je_ix (je_nm (i := 0) rfl rfl) je_int rfl) je_int)) (fun h => (je_ix (je_ix (je_nm (i := 1) rfl rfl) je_int rfl) je_int (at0 (l := s0.past) (by intro z; rw [z] at hl; have := of_decide_eq_true h; simp at hl; omega)))) (fun h => (je_ix (je_nm (i := 1) rfl rfl) je_int rfl))) trivial ?_ nd)
  refine js_one (jp_ret (je_is (je_sub (je_nm (i := 2) rfl rfl) (je_mod (je_intI T.int (je_nm (i := 2) rfl rfl)) (je_ix (je_nm (i := 0) rfl rfl) je_int rfl) (by have := ok.step1; omega))) ?_) trivial rfl)
  have e : (PyData.int ((if decide (0 < W.lag) = true then s0.past.headD 0 else s0.lv) - (if decide (0 < W.lag) = true then s0.past.headD 0 else s0.lv) % W.step)) = .int (seenM W s0.lv s0.past) := by
    unfold seenM
    by_cases z : 0 < W.lag <;> simp [z]
  exact e

-- _law_beat (top 75)
theorem ok__law_beat {k : Nat} {f : Addr} {fd : FuncData} (T : Txt mg) (h__law_seen : Has P w K mg base k "_law_seen" ["_law_well_here", "_law_here"] (spF s__law_seen)) (F : Fun K "_law_beat" "_law_beat" (top 75) f fd) : FnOk P w K mg base CX0 (k + 1) f fd ["_law_well_here", "_law_here", "_law_inflow"] (spF s__law_beat) := by
  have sc : FnScope ["_law_well_here", "_law_here", "_law_inflow", "_law_level", "_law_past", "_law_ages", "_law_many", "_law_seen_so", "_law_fresh", "_law_begin", "_law_age", "_law_later"] ["_law_well_here", "_law_here", "_law_inflow"] (defScope (top 75)) := ⟨rfl, rfl, rfl, by decide +kernel, rfl, by decide +kernel, by decide +kernel⟩
  have nd : (["_law_well_here", "_law_here", "_law_inflow", "_law_level", "_law_past", "_law_ages", "_law_many", "_law_seen_so", "_law_fresh", "_law_begin", "_law_age", "_law_later"] : List Str).Nodup := by decide +kernel
  refine fn_ok F sc (RL.len fun _ => rfl) (fun cdv A outer s H E ks r hr hS => ?_)
  obtain ⟨⟨W, n, s0, i⟩, ⟨ok, n4, hs⟩, rfl, rfl⟩ := hS
  refine js_cons (jp_asg (je_nm (i := 1) rfl rfl) (tg_tup (nm_cons (i := 3) nd (nm_cons (i := 4) nd (nm_cons (i := 5) nd (nm_cons (i := 6) nd nm_nil)))) rfl) ?_)
  refine js_cons (jp_par (i := 7) (j := 8) (je_call h__law_seen hr (ja_cons (jg_d (je_nm (i := 0) rfl rfl)) (ja_cons (jg_d (je_nm (i := 1) rfl rfl)) ja_nil)) ⟨(W, s0), ⟨ok, hs.past⟩, rfl, rfl⟩ trivial) (je_lst jds_nil (hz := by simp)) trivial trivial ?_ nd)
  have bn := begin_nn ok hs (seenM W s0.lv s0.past)
  have hlen := hs.len
  have s2 := ok.starts2
  have hal : s0.ages.length ≤ 4 := by omega
  have bdef : beginL W (seenM W s0.lv s0.past) s0 = if W.on ≤ seenM W s0.lv s0.past then min W.starts (s0.many - s0.ages.length) else 0 := rfl
  have beatE : beatL W s0 i = (if s0.lv + i - W.drain * (((allL W s0).filter fun a => decide (0 < a)).length : Int) < 0 ∨ W.top < s0.lv + i - W.drain * (((allL W s0).filter fun a => decide (0 < a)).length : Int) then (if 0 < s0.lv + i - W.drain * (((allL W s0).filter fun a => decide (0 < a)).length : Int) then .over else .dry, (s0.ages.length : Int) + beginL W (seenM W s0.lv s0.past) s0) else
    (.at ⟨s0.lv + i - W.drain * (((allL W s0).filter fun a => decide (0 < a)).length : Int), if 0 < W.lag then (s0.past ++ [s0.lv]).drop 1 else [], sortI (allL W s0), s0.many⟩, (s0.ages.length : Int) + beginL W (seenM W s0.lv s0.past) s0)) := by
    unfold beatL
    simp only []
  have eall : allL W s0 = freshL W (seenM W s0.lv s0.past) s0.ages ++ List.replicate (beginL W (seenM W s0.lv s0.past) s0).toNat 1 := rfl
  have lenall : (allL W s0).length ≤ 100 := by
    rw [eall, List.length_append, List.length_replicate]
    have := fresh_le (W := W) (seen := seenM W s0.lv s0.past) (l := s0.ages)
    have : beginL W (seenM W s0.lv s0.past) s0 ≤ 5 := by rw [bdef]; split <;> omega
    omega
  have bb : beginL W (seenM W s0.lv s0.past) s0 ≤ 5 := by rw [bdef]; split <;> omega
  refine js_cons (jp_set (i := 9) je_int trivial ?_ nd)
  refine js_cons (jp_ifM [some (.d (wD W)), some (.d (lwD s0)), some (.d (.int i)), some (.d (.int s0.lv)), some (.d (iL s0.past)), some (.d (iL s0.ages)), some (.d (.int s0.many)), some (.d (.int (seenM W s0.lv s0.past))), some (.o (SK.l [])), some (.d (.int (beginL W (seenM W s0.lv s0.past) s0))), none, none]
    (jt_c (jc_ge (je_nm (i := 7) rfl rfl) (je_ix (je_nm (i := 0) rfl rfl) je_int rfl))) (fun h => ?_) (fun h => ?_) ?_)
  · refine js_one (jp_set (i := 9) (je_is (y := .int (beginL W (seenM W s0.lv s0.past) s0)) (je_iteI (jt_c (jc_isN (je_nm (i := 6) rfl rfl))) (fun h => (je_ix (je_nm (i := 0) rfl rfl) je_int rfl)) (fun h => (je_min T.min (je_ix (je_nm (i := 0) rfl rfl) je_int rfl) (je_sub (je_nm (i := 6) rfl rfl) (je_lenT T.len (je_nm (i := 5) rfl rfl)))))) ?_) trivial rfl nd)
    have h := of_decide_eq_true h
    rw [if_pos h] at bdef
    rw [bdef, ← minI, List.length_map]
    rfl
  · have h := of_decide_eq_false h
    rw [if_neg h] at bdef
    rw [bdef]
    exact js_nil rfl
  refine js_cons (jp_for (ji_tup (je_nm (i := 5) rfl rfl)) (fun j δ => ∃ x y, δ = [some (.d (wD W)), some (.d (lwD s0)), some (.d (.int i)), some (.d (.int s0.lv)), some (.d (iL s0.past)), some (.d (iL s0.ages)), some (.d (.int s0.many)), some (.d (.int (seenM W s0.lv s0.past))), some (.o (SK.l ((freshL W (seenM W s0.lv s0.past) (s0.ages.take j)).map .int))), some (.d (.int (beginL W (seenM W s0.lv s0.past) s0))), x, y]) ⟨none, none, rfl⟩ (fun Φ hΦ j d δ1 hd hI => ?_) (fun δ1 hI => ?_))
  · obtain ⟨x, y, rfl⟩ := hI
    obtain ⟨a, ha, rfl⟩ := get_map hd
    refine ⟨[10], [.int a], tg_name (i := 10) nd, ?_⟩
    have lj : (freshL W (seenM W s0.lv s0.past) (s0.ages.take j)).length ≤ 4 := Nat.le_trans fresh_le (Nat.le_trans (List.length_take_le' _ _) hal)
    rw [take_succ ha, fresh_snoc]
    refine js_cons (jp_ifM ((fun (z : Int) => [some (Kd.d (wD W)), some (.d (lwD s0)), some (.d (.int i)), some (.d (.int s0.lv)), some (.d (iL s0.past)), some (.d (iL s0.ages)), some (.d (.int s0.many)), some (.d (.int (seenM W s0.lv s0.past))), some (.o (SK.l ((freshL W (seenM W s0.lv s0.past) (s0.ages.take j)).map .int))), some (.d (.int (beginL W (seenM W s0.lv s0.past) s0))), some (.d (.int a)), some (.d (.int z))]) (stepAge W (seenM W s0.lv s0.past) a))
      (jt_c (jc_gt (je_nm (i := 10) rfl rfl) je_int)) (fun h => ?_) (fun h => ?_) ?_)
    · have h := of_decide_eq_true h
      refine js_cons (jp_set (i := 11) (je_min T.min (je_add (je_nm (i := 10) rfl rfl) je_int) (je_ix (je_nm (i := 0) rfl rfl) je_int rfl)) trivial ?_ nd)
      refine js_one (jp_if (jt_w (jw_and (jt_c (jc_le (je_nm (i := 7) rfl rfl) (je_ix (je_nm (i := 0) rfl rfl) je_int rfl))) fun _ => (jw_and1 (jt_c (jc_ge (je_nm (i := 10) rfl rfl) (je_ix (je_nm (i := 0) rfl rfl) je_int rfl)))))) (fun h2 => ?_) (fun h2 => ?_))
      · simp only [Bool.and_eq_true, decide_eq_true_eq] at h2
        rw [step_stop h h2.1 h2.2]
        exact js_one (jp_set (i := 11) (je_sub je_int je_int) trivial rfl nd)
      · have h3 : ¬ ((seenM W s0.lv s0.past) ≤ W.off ∧ W.run ≤ a) := fun z => by
          rw [decide_eq_true z.1, decide_eq_true z.2] at h2
          cases h2
        rw [step_go h h3, ← minI]
        exact js_nil rfl
    · have h := of_decide_eq_false h
      rw [step_neg (by omega)]
      exact js_one (jp_set (i := 11) (je_sub (je_nm (i := 10) rfl rfl) je_int) trivial rfl nd)
    refine js_one (jp_if (jt_c (jc_gt (je_nm (i := 11) rfl rfl) (je_sub je_int (je_ix (je_nm (i := 0) rfl rfl) je_int rfl)))) (fun h => ?_) (fun h => ?_))
    · have h := of_decide_eq_true h
      refine js_one (jp_append (i0 := 8) rfl (je_nm (i := 11) rfl rfl) (by rw [List.length_map]; omega) ?_)
      rw [if_pos (by omega), List.map_append]
      exact ⟨_, _, rfl⟩
    · have h := of_decide_eq_false h
      rw [if_neg (by omega)]
      exact js_nil ⟨_, _, rfl⟩
  obtain ⟨x, y, rfl⟩ := hI
  rw [List.length_map, List.take_length]
  refine js_cons (jp_set (i := 8) (je_isL (es' := (allL W s0).map .int) (je_catL (jr_vo (i := 8) rfl) (jr_new (je_repL (jr_new (je_lst (jds_cons je_int jds_nil) (hz := by simp))) (je_nm (i := 9) rfl rfl) (by omega) (by omega) (by simp))) ?_) ?_) trivial ?_ nd)
  · rw [flat_rep, List.length_map, List.length_replicate]
    have := fresh_le (W := W) (seen := seenM W s0.lv s0.past) (l := s0.ages)
    omega
  · rw [flat_rep, eall, List.map_append, List.map_replicate]
  refine js_cons (jp_set (i := 3) (je_is (y := .int (s0.lv + i - W.drain * (((allL W s0).filter fun a => decide (0 < a)).length : Int))) (je_sub (je_add (je_nm (i := 3) rfl rfl) (je_nm (i := 2) rfl rfl)) (je_mul (je_ix (je_nm (i := 0) rfl rfl) je_int rfl) (je_lenL T.len (jr_new (je_lcT (l := allL W s0) (e' := .int) (f := fun a => decide (0 < a)) (g := .int) intInj (blkOk_by (own := [("_law_age", 10)]) rfl) nd (ji_list (jr_vo (i := 8) rfl))
    (fun a ha => ⟨[10], _, by decide, fun s H C cl fp => ⟨(tg_name (i := 10) nd), (jts_one (jt_c (jc_gt (je_nm (i := 10) rfl rfl) je_int))), fun _ => (je_nm (i := 10) rfl rfl)⟩⟩) (by omega)))) (cmulL (by have := ok.drain1; omega) (by have := ok.drain2; omega)))) (by rw [List.length_map])) trivial ?_ nd)
  generalize s0.lv + i - W.drain * (((allL W s0).filter fun a => decide (0 < a)).length : Int) = lv at *
  refine js_cons (jp_if (jt_w (jw_or (jt_c (jc_lt (je_nm (i := 3) rfl rfl) je_int)) fun _ => (jw_or1 (jt_c (jc_gt (je_nm (i := 3) rfl rfl) (je_ix (je_nm (i := 0) rfl rfl) je_int rfl)))))) (fun h => ?_) (fun h => ?_))
  · have h : lv < 0 ∨ W.top < lv := by simpa using h
    rw [if_pos h] at beatE
    by_cases z : 0 < lv
    · rw [if_pos z] at beatE
      refine js_one (jp_ret (je_is (je_tup (jds_cons (je_ixL (d := .str "over") (jr_new (je_lst (jds_cons je_str (jds_cons je_str jds_nil)) (hz := by simp))) (je_intB T.int (je_c (jc_gt (je_nm (i := 3) rfl rfl) je_int))) ?_) (jds_cons (je_add (je_lenT T.len (je_nm (i := 5) rfl rfl)) (je_nm (i := 9) rfl rfl)) jds_nil)) (hz := by simp)) ?_) trivial rfl)
      · rw [decide_eq_true z]; rfl
      · rw [beatE, List.length_map]; rfl
    · rw [if_neg z] at beatE
      refine js_one (jp_ret (je_is (je_tup (jds_cons (je_ixL (d := .str "dry") (jr_new (je_lst (jds_cons je_str (jds_cons je_str jds_nil)) (hz := by simp))) (je_intB T.int (je_c (jc_gt (je_nm (i := 3) rfl rfl) je_int))) ?_) (jds_cons (je_add (je_lenT T.len (je_nm (i := 5) rfl rfl)) (je_nm (i := 9) rfl rfl)) jds_nil)) (hz := by simp)) ?_) trivial rfl)
      · rw [decide_eq_false z]; rfl
      · rw [beatE, List.length_map]; rfl
  have h : ¬ (lv < 0 ∨ W.top < lv) := by simpa using h
  rw [if_neg h] at beatE
  have lp : s0.past.length ≤ 1 := by have := hs.past; have := ok.lag2; omega
  refine js_nil ?_
  refine js_cons (jp_set (i := 4) (je_is (y := iL (if 0 < W.lag then (s0.past ++ [s0.lv]).drop 1 else [])) (je_iteT (jt_c (jc_gt (je_ix (je_nm (i := 0) rfl rfl) je_int rfl) je_int)) (fun h => (je_slT (je_cat (je_nm (i := 4) (d := .tuple (s0.past.map .int)) rfl rfl) (je_tup (jds_cons (je_ix (je_nm (i := 1) rfl rfl) je_int rfl) jds_nil) (hz := by simp)) (by simp; omega)) (.some je_int) .none)) (fun h => (je_tup jds_nil (hz := by simp)))) ?_) trivial ?_ nd)
  · by_cases z : 0 < W.lag
    · rw [if_pos z, if_pos (decide_eq_true z)]
      have e : (s0.past.map PyData.int ++ [PyData.int s0.lv]) = (s0.past ++ [s0.lv]).map .int := by rw [List.map_append]; rfl
      rw [e, cutD_drop (k := 1) (by omega)]
      rfl
    · rw [if_neg z, if_neg (by simpa using z)]
      rfl
  refine js_one (jp_ret (je_is (je_tup (jds_cons (je_tup (jds_cons (je_nm (i := 3) rfl rfl) (jds_cons (je_nm (i := 4) rfl rfl) (jds_cons (je_tupL T.tuple (jr_new (je_sorted hr T.sorted (jr_vo (i := 8) rfl) (allI _) (sblI _) (by rw [List.length_map]; omega) (dpI _)))) (jds_cons (je_nm (i := 6) rfl rfl) jds_nil)))) (hz := by simp)) (jds_cons (je_add (je_lenT T.len (je_nm (i := 5) rfl rfl)) (je_nm (i := 9) rfl rfl)) jds_nil)) (hz := by simp)) ?_) trivial rfl)
  rw [beatE, sortI_map, List.length_map]
  rfl
theorem ok__law_word {k : Nat} {f : Addr} {fd : FuncData} (T : Txt mg) (F : Fun K "_law_word" "_law_word" (top 77) f fd) : FnOk P w K mg base CX0 (k + 1) f fd ["_law_words"] (spF s__law_word) := by
  have sc : FnScope ["_law_words"] ["_law_words"] (defScope (top 77)) := ⟨rfl, rfl, rfl, by decide +kernel, rfl, by decide +kernel, by decide +kernel⟩
  have nd : (["_law_words"] : List Str).Nodup := by decide +kernel
  refine fn_ok F sc (RL.len fun _ => rfl) (fun cdv A outer s H E ks r hr hS => ?_)
  obtain ⟨ws, _, rfl, rfl⟩ := hS
  refine js_cons (jp_if (jt_c (jc_eqW0 hr (jr_vb (i := 0) rfl))) (fun h => ?_) (fun h => ?_))
  · have h := of_decide_eq_true h
    refine js_one (jp_ret (je_is je_str ?_) trivial rfl)
    unfold wordM
    rw [if_pos h]
  · have h : ws ≠ [] := by simpa using h
    refine js_nil ?_
    refine js_one (jp_ret (je_is (je_ite (x := .str "both") (y := .str (wk (ws.headD true))) (jt_c (jc_eqI (je_lenW T.len (jr_vb (i := 0) rfl)) je_int)) (fun z => je_str) (fun z => je_ixL (jr_new (je_listW T.list (jr_vb (i := 0) rfl))) je_int ?_)) ?_) trivial rfl)
    · cases ws with
      | nil => exact absurd rfl h
      | cons x t =>
        show atI (PyData.str (wk x) :: t.map fun b => .str (wk b)) 0 = some (.str (wk x))
        unfold atI ixN
        rw [if_pos (by omega), if_pos (by simp)]
        rfl
    · unfold wordM
      rw [if_neg h]
      by_cases z : ws.length = 2
      · rw [if_pos z, if_pos (decide_eq_true (by omega))]
      · rw [if_neg z, if_neg (by simp; omega)]
end

end Pq

namespace Pq
open PySem PySem.Spec L2
open PyProof.Rows hiding St
open Evl (Ex)

/-! ### the law's own search -/
theorem part_size {α : Type} [DecidableEq α] {step : α → Int → Res α} {is : List Int} {st : BS α} (nd : st.found.Nodup) {i : Nat} {s : α} (hs : st.layer[i]? = some s) (j : Nat) :
    (((is.take j).map (step s)).foldl visit ((outs step is (st.layer.take i)).foldl visit ⟨[], st.found, st.words⟩)).found.length ≤ (bstep step is st).found.length ∧ (((is.take j).map (step s)).foldl visit ((outs step is (st.layer.take i)).foldl visit ⟨[], st.found, st.words⟩)).layer.length ≤ (bstep step is st).found.length := by
  have e1 : outs step is st.layer = outs step is (st.layer.take i) ++ ((is.take j).map (step s) ++ ((is.drop j).map (step s) ++ outs step is (st.layer.drop (i + 1)))) := by
    rw [← List.append_assoc ((is.take j).map (step s)), ← List.map_append, List.take_append_drop]
    unfold outs
    rw [← List.append_assoc]
    have e2 : st.layer = st.layer.take (i + 1) ++ st.layer.drop (i + 1) := (List.take_append_drop _ _).symm
    conv => lhs; rw [e2]
    rw [List.flatMap_append, flat_take _ hs]
  have g1 := fold_grow (outs step is (st.layer.take i)) ⟨[], st.found, st.words⟩ nd
  have g2 := fold_grow ((is.take j).map (step s)) _ g1.1
  have e3 : bstep step is st = ((is.drop j).map (step s) ++ outs step is (st.layer.drop (i + 1))).foldl visit (((is.take j).map (step s)).foldl visit ((outs step is (st.layer.take i)).foldl visit ⟨[], st.found, st.words⟩)) := by
    unfold bstep
    rw [e1, List.foldl_append, List.foldl_append]
  have h := fold_done ((is.drop j).map (step s) ++ outs step is (st.layer.drop (i + 1))) (((is.take j).map (step s)).foldl visit ((outs step is (st.layer.take i)).foldl visit ⟨[], st.found, st.words⟩))
  rw [← e3] at h
  have h1 := nodup_sub g2.1 h.1
  refine ⟨h1, ?_⟩
  have a1 := g1.2
  have a2 := g2.2
  simp only [List.length_nil] at a1
  omega
def kL (s : Lw) : NestedKey := .tup [.num s.lv, .tup (s.past.map .num), .tup (s.ages.map .num), .num s.many]
theorem kL_data (s : Lw) : (kL s).data = lwD s := by
  show PyData.tuple [.int s.lv, .tuple (NestedKey.datas (s.past.map .num)), .tuple (NestedKey.datas (s.ages.map .num)), .int s.many] = _
  rw [datas_num, datas_num]
  rfl
theorem kL_tup (s : Lw) : TupKey (kL s) := by
  refine ⟨⟨_, rfl⟩, ?_⟩
  show max 0 (max (NestedKey.depthAll (s.past.map .num) + 1) (max (NestedKey.depthAll (s.ages.map .num) + 1) (max 0 0))) + 1 ≤ 8
  rw [depths_num, depths_num]
  decide
theorem kL_inj {p q : Lw} (h : kL p = kL q) : p = q := by
  unfold kL at h
  injection h with h
  injection h with h1 h
  injection h with h2 h
  injection h with h3 h
  injection h with h4 _
  injection h1 with h1
  injection h2 with h2
  injection h3 with h3
  injection h4 with h4
  cases p
  cases q
  simp only [Lw.mk.injEq]
  exact ⟨h1, num_inj h2, num_inj h3, h4⟩
theorem lwDInj {l : List Lw} : ∀ x ∈ l, ∀ y ∈ l, lwD x = lwD y → x = y := fun x _ y _ h => by
  refine kL_inj ?_
  have e := congrArg (fun d => match d with | .tuple [.int a, .tuple b, .tuple c, .int e] => (a, b, c, e) | _ => (0, [], [], 0)) h
  cases x
  cases y
  simp only [lwD, Prod.mk.injEq] at e
  obtain ⟨e1, e2, e3, e4⟩ := e
  rw [e1, iL_inj e2, iL_inj e3, e4]
theorem tm_lwD (p : Lw) : Tm 2 (lwD p) := Tm.tup fun x hx => by
  simp only [List.mem_cons, List.not_mem_nil, or_false] at hx
  rcases hx with rfl | rfl | rfl | rfl
  · exact Tm.int _
  · exact tm_iL
  · exact tm_iL
  · exact Tm.int _
def fD (l : List Lw) : List (NestedKey × PyData) := l.map fun s => (kL s, .bool true)
theorem has_fD (l : List Lw) (s : Lw) : (lookN (fD l) (kL s)).isSome = decide (s ∈ l) := by
  unfold lookN fD
  induction l with
  | nil => rfl
  | cons q t ih =>
    rw [List.map_cons, List.find?_cons]
    by_cases e : q = s
    · subst e
      simp
    · have e' : ¬ kL q = kL s := fun z => e (kL_inj z)
      simp only [e', decide_false]
      rw [ih]
      have e2 : ¬ s = q := fun z => e z.symm
      simp [e2]
theorem put_fD {l : List Lw} {s : Lw} (h : s ∉ l) : putN (fD l) (kL s) (.bool true) = fD (l ++ [s]) := by
  have hl := has_fD l s
  rw [decide_eq_false h] at hl
  unfold putN
  rw [hl]
  simp [fD]
/-- a tuple of three, its second thing an object -/
def SK.sn (S : SK) : SK where
  is H v F := ∃ t u x z, v = .ref t ∧ H t = some (.tup [u, x, z]) ∧ S.is H x F
  stay := by
    rintro H H' v F ⟨t, u, x, z, rfl, ht, h⟩ e k
    exact ⟨t, u, x, z, rfl, e t _ ht, S.stay h e k⟩
  dom := by
    rintro H v F ⟨t, u, x, z, rfl, ht, h⟩ a ha
    exact S.dom h a ha
section
variable {X : Cx} {Φ : Lk} {δ : Slots} {E : En} {e a b c : Expr} {pos : Pos} {S : SK}
theorem jr_mid {p2 : Pos} {j : Nat} (h : JR X Φ e δ (SK.sn S)) : JR X Φ (.Subscript e (.Constant (.int 1) j p2) pos) δ S := fun H0 σ H1 sl Q q => by
  refine e_of (pe_ix ix_tup pe_w pe_w (fun _ _ => rfl)) ?_
  refine h H0 σ H1 sl _ fun v H2 F e1 i1 => ?_
  refine je_int H0 σ H2 (sl.mono e1) _ fun u H3 _ e2 i2 => ?_
  obtain ⟨t, u1, x, z, rfl, ht, p2⟩ := (SK.sn S).ex i1 e2
  exact ⟨t, [u1, x, z], 1, x, rfl, dt_int i2.2, SqT.of ht, rfl, q x H3 F (e1.trans e2) p2⟩
/-- return a, x, c: x an own name -/
theorem jp_retMid {j : Nat} {x : Str} {k : Nat} {px pt : Pos} {k1 k3 : Kd} (ha : JE X Φ a δ k1) (hx : δ[j]? = some (some (.o S))) (hb : JE X Φ c δ k3) (hr : E.rt (.o (SK.sn S))) (hN : X.N[j]? = some x := by rfl)
    (hv : Vis X.env.scope x := by first | exact Or.inl rfl | exact Or.inr (Or.inl rfl) | exact Or.inr (Or.inr rfl)) (h1 : (x == ("__debug__" : Str)) = false := by decide) (h2 : (x == ("__classdict__" : Str)) = false := by decide)
    (n1 : NS a := by exact fun _ _ => rfl) (n2 : NS (.Name x px) := by exact fun _ _ => rfl) (n3 : NS c := by exact fun _ _ => rfl) : JP X Φ (.Return (some (.Tuple [a, .Name x px, c] k pt)) pos) δ E := fun H0 σ H1 D sl g => by
  refine s_of (ps_ret (pe_tup (pa_cons pe_w (pa_cons (pe_var hN hv h1 h2) (pa_cons pe_w pa_nil (n3 _ _)) (n2 _ _)) (n1 _ _)))) ?_
  refine ha H0 σ H1 sl _ fun u H2 _ e1 _ => ?_
  obtain ⟨F, f⟩ := (sl.mono e1).at_
  obtain ⟨v, hs, hi⟩ := f.some_ j _ hx
  refine ⟨v, hs, ?_⟩
  refine hb H0 σ H2 (sl.mono e1) _ fun z H3 _ e2 _ => ⟨by simp [sizeLine_eq], fun p hp => ?_⟩
  have ex : Ex H2 (upd H3 p (.tup [u, v, z])) := e2.trans (Evl.Ex.new hp)
  exact g.rt (.ref p) _ (.o (SK.sn S)) (F j) ⟨σ, δ, sl.mono (e1.trans ex)⟩ ⟨⟨p, u, v, z, rfl, upd_same, (hi.ex ex).1⟩, (hi.ex ex).2⟩ hr
end
noncomputable def comeW (W : Wl) (r l : Int × Int) (n : Int) : List Bool := (biter (stepL W) (rngC r) (stopK W r l n) (initL W n l)).words
theorem comeW_eq {W : Wl} {r l : Int × Int} {n : Int} (ok : W.Ok) (n0 : 0 ≤ n) : comeW W r l n = (searchK W r l n).words := by
  have h := congrArg BS.words (searchK_bs W r l n)
  rw [both_searches ok n0] at h
  exact h.symm
def s__law_come (P : Program) (w : World) : Rl := RL (fun (x : Wl × (Int × Int) × (Int × Int) × Int) => match x with | (W, r, l, n) => W.Ok ∧ RgOk r ∧ LvOk W l ∧ Few W n) (fun (W, r, l, n) => [.d (wD W), .d (dD r), .d (dD l), .d (.int n), .d (.int 1000000)]) (fun (W, r, l, n) => .o (SK.sn (SK.w (comeW W r l n))))
section
variable {P : Program} {w : World} {K : PySem.W.Frag} {mg : Str → Option Value} {base : Heap}
-- _law_come (top 76)
theorem ok__law_come {k : Nat} {f : Addr} {fd : FuncData} (T : Txt mg) (h__law_start : Has P w K mg base k "_law_start" ["_law_well_here", "_law_many", "_law_level"] (spF s__law_start)) (h__law_beat : Has P w K mg base k "_law_beat" ["_law_well_here", "_law_here", "_law_inflow"] (spF s__law_beat)) (F : Fun K "_law_come" "_law_come" (top 76) f fd) : FnOk P w K mg base CX0 (k + 1) f fd ["_law_well_here", "_law_inflows", "_law_levels", "_law_many", "_law_most_so"] (spF (s__law_come P w)) := by
  have sc : FnScope ["_law_well_here", "_law_inflows", "_law_levels", "_law_many", "_law_most_so", "_law_layer", "_law_found", "_law_words", "_law_busy_so", "_law_beats_so", "_law_later", "_law_here", "_law_inflow", "_law_far", "_law_busy", "_law_level"] ["_law_well_here", "_law_inflows", "_law_levels", "_law_many", "_law_most_so"] (defScope (top 76)) := ⟨rfl, rfl, rfl, by decide +kernel, rfl, by decide +kernel, by decide +kernel⟩
  have nd : (["_law_well_here", "_law_inflows", "_law_levels", "_law_many", "_law_most_so", "_law_layer", "_law_found", "_law_words", "_law_busy_so", "_law_beats_so", "_law_later", "_law_here", "_law_inflow", "_law_far", "_law_busy", "_law_level"] : List Str).Nodup := by decide +kernel
  refine fn_ok F sc (RL.len fun _ => rfl) (fun cdv A outer s H E ks r hr hS => ?_)
  obtain ⟨⟨W, r, l, n⟩, ⟨ok, rg, lv, few⟩, rfl, rfl⟩ := hS
  have n0 := few.n0
  have n3 := few.n3
  have n4 : n ≤ 4 := by omega
  have il : (rngC l).length ≤ 6 := by rw [rngC_len]; have := lv.a; have := lv.b; have := lv.c; have := ok.top2; omega
  have ndL : ((rngC l).map (startL W n)).Nodup := nodup_map (rngI_nodup _ _) fun x _ y _ h => congrArg Lw.lv h
  refine js_cons (jp_setLcT (i := 5) (l := rngC l) (e' := .int) (f := fun _ => true) (g := fun v => lwD (startL W n v)) intInj (blkOk_by (own := [("_law_level", 15)]) rfl) nd (jix (ji_is (ji_range2 T.range (je_ix (je_nm (i := 2) rfl rfl) je_int rfl) (je_add (je_ix (je_nm (i := 2) rfl rfl) je_int rfl) je_int) (by have := lv.a; have := lv.b; have := lv.c; have := ok.top2; omega) (by have := lv.a; have := lv.b; have := lv.c; have := ok.top2; omega) (by have := lv.a; have := lv.b; have := lv.c; have := ok.top2; omega) (by have := lv.a; have := lv.b; have := lv.c; have := ok.top2; omega)) (rngI_map _ _)))
    (fun v hv => ⟨[15], _, by decide, fun s H C cl fp => ⟨tg_name (i := 15) nd, jts_nil, fun _ => je_call h__law_start hr (ja_cons (jg_d (je_nm (i := 0) rfl rfl)) (ja_cons (jg_d (je_nm (i := 3) rfl rfl)) (ja_cons (jg_d (je_nm (i := 15) rfl rfl)) ja_nil))) ⟨(W, n, v), ok, rfl, rfl⟩ trivial⟩⟩) (by omega) ?_)
  have e1 : ((rngC l).filter fun _ => true).map (fun v => lwD (startL W n v)) = ((rngC l).map (startL W n)).map lwD := by rw [filtT, List.map_map]; rfl
  rw [e1]
  refine js_cons (jp_par (i := 6) (j := 7) (k := .o (SK.n P w (fD ((rngC l).map (startL W n))))) (je_dictN (l := (rngC l).map (startL W n)) (kf := kL) (zf := fun _ => .bool true) hr T.dict (jr_new (je_isL (je_lcT (l := (rngC l).map (startL W n)) (e' := lwD) (f := fun _ => true) (g := fun s => .tuple [lwD s, .bool true]) lwDInj (blkOk_by (own := [("_law_here", 11)]) rfl) nd
      (ji_list (jr_vo (i := 5) rfl)) (fun s hs => ⟨[11], _, by decide, fun s' H C cl fp => ⟨tg_name (i := 11) nd, jts_nil, fun _ => je_tup (jds_cons (je_nm (i := 11) rfl rfl) (jds_cons je_bl jds_nil)) (hz := by simp)⟩⟩) (by rw [List.length_map]; omega)) (by rw [filtT]; exact List.map_congr_left fun p _ => by rw [kL_data])))
      (fun p _ => kL_tup p) (nodup_map ndL fun _ _ _ _ h => kL_inj h) (by rw [List.length_map]; omega)) je_newW trivial trivial ?_ nd)
  refine js_cons (jp_asg (js := [8, 9]) (ds := [.int 0, .int 0]) (je_tup (jds_cons je_int (jds_cons je_int jds_nil)) (hz := by simp)) (tg_tup (nm_cons (i := 8) nd (nm_cons (i := 9) nd nm_nil)) rfl) ?_)
  have stp : (biter (stepL W) (rngC r) (stopK W r l n) (initL W n l)).layer = [] := by
    have h := stopK_end (r := r) ok n0 n4 lv
    rw [both_searches ok n0] at h
    exact List.map_eq_nil_iff.mp h
  have nd0 : (initL W n l).found.Nodup := ndL
  have sz : ∀ k, (biter (stepL W) (rngC r) k (initL W n l)).found.length ≤ 3402 := fun k => by
    have h := biter_size (Q := fun s : Ss => s.Ok W n) (U := statesU W n) (step := stepS W) (is := rngC r) (fun x hx => mem_statesU ok hx) (fun x hx i _ y e => stepS_ok ok n4 hx e) k (st := initS W n l) (begunL_nodup W n l) (begunL_ok ok n0 lv) (begunL_ok ok n0 lv)
    rw [both_searches ok n0] at h
    have h2 := statesU_len ok few
    have h3 : ((biter (stepL W) (rngC r) k (initL W n l)).found.map (phi W)).length ≤ (statesU W n).length := h
    rw [List.length_map] at h3
    omega
  refine js_cons (jp_while (fun m δ => ∃ (j : Nat) (bs bt : Int) (x10 x11 x12 x13 x14 x15 : Option Kd), j + m = stopK W r l n ∧ δ = [some (.d (wD W)), some (.d (dD r)), some (.d (dD l)), some (.d (.int n)), some (.d (.int 1000000)), some (.o (SK.l ((biter (stepL W) (rngC r) j (initL W n l)).layer.map lwD))), some (.o (SK.n P w (fD (biter (stepL W) (rngC r) j (initL W n l)).found))), some (.o (SK.w (biter (stepL W) (rngC r) j (initL W n l)).words)), some (.d (.int bs)), some (.d (.int bt)), x10, x11, x12, x13, x14, x15]) (stopK W r l n)
    ⟨0, _, _, _, _, _, _, _, _, Nat.zero_add _, rfl⟩ (fun m δ1 hI => ?_))
  · obtain ⟨j, bs, bt, x10, x11, x12, x13, x14, x15, hj, rfl⟩ := hI
    have lok : ∀ x ∈ (biter (stepL W) (rngC r) j (initL W n l)).layer, x.Ok W n := (biter_inv (Q := fun s : Lw => s.Ok W n) (step := stepL W) (is := rngC r) (fun x hx i _ y e => beat_ok ok hx e) j (initL W n l) (initL_ok ok n0) (initL_ok ok n0)).1
    have ndj : (biter (stepL W) (rngC r) j (initL W n l)).found.Nodup := biter_nodup j nd0
    have ndw : (biter (stepL W) (rngC r) j (initL W n l)).words.Nodup := biter_words j _ List.nodup_nil
    have szj := sz j
    have szj1 := sz (j + 1)
    rw [biter_succ] at szj1
    have lj : (biter (stepL W) (rngC r) j (initL W n l)).layer ≠ [] → 0 < m := fun h => by
      refine Nat.pos_of_ne_zero fun z => h ?_
      have e : j = stopK W r l n := by omega
      rw [e]
      exact stp
    have fin : (biter (stepL W) (rngC r) j (initL W n l)).layer = [] → (biter (stepL W) (rngC r) j (initL W n l)).words = comeW W r l n := fun h => by
      unfold comeW
      rw [biter_end h stp]
    have nxt : biter (stepL W) (rngC r) (j + 1) (initL W n l) = bstep (stepL W) (rngC r) (biter (stepL W) (rngC r) j (initL W n l)) := biter_succ j _
    generalize biter (stepL W) (rngC r) j (initL W n l) = st at *
    refine ⟨!decide (st.layer.map lwD = []), jt_is (jt_c (jc_neD hr (jdp_l (jr_vo (i := 5) rfl)) (jdp_l (jr_new (je_lst jds_nil (hz := by simp)))) ((Tm.lst (n := 2) fun d hd => by
      obtain ⟨x, _, rfl⟩ := List.mem_map.mp hd
      exact tm_lwD x).shaped (by decide)) (by decide +kernel))) (eqv_nil2 _), fun h => ?_, fun h => ?_⟩
    · have hm := lj (by simpa using h)
      refine js_cons (jp_par (i := 10) (j := 9) (je_lst jds_nil (hz := by simp)) (je_add (je_nm (i := 9) rfl rfl) je_int) trivial trivial ?_ nd)
      refine js_cons (jp_forO (i0 := 5) (ds := st.layer.map lwD) rfl (fun ad i δ => ∃ (bs : Int) (x11 x12 x13 x14 : Option Kd), δ = [some (.d (wD W)), some (.d (dD r)), some (.d (dD l)), some (.d (.int n)), some (.d (.int 1000000)), some (.v (.ref ad)), some (.o (SK.n P w (fD ((outs (stepL W) (rngC r) (st.layer.take i)).foldl visit ⟨[], st.found, st.words⟩).found))), some (.o (SK.w ((outs (stepL W) (rngC r) (st.layer.take i)).foldl visit ⟨[], st.found, st.words⟩).words)), some (.d (.int bs)), some (.d (.int (bt + 1))), some (.o (SK.l (((outs (stepL W) (rngC r) (st.layer.take i)).foldl visit ⟨[], st.found, st.words⟩).layer.map lwD))), x11, x12, x13, x14, x15])
        (fun ad i δ1 ⟨a, b, c, d, e, h⟩ => by rw [h]; rfl) (fun ad => ⟨bs, x11, x12, x13, x14, rfl⟩) (fun ad vs Φ' hΦ i q δ1 hq hI => ?_) (fun ad δ1 hI => ?_))
      · obtain ⟨bs, x11, x12, x13, x14, rfl⟩ := hI
        obtain ⟨s, hs, rfl⟩ := get_map hq
        have sok := lok s (List.mem_of_getElem? hs)
        have psz := part_size (step := stepL W) (is := rngC r) ndj hs
        have pw : ((outs (stepL W) (rngC r) (st.layer.take i)).foldl visit ⟨[], st.found, st.words⟩).words.Nodup := fold_words _ _ ndw
        have esn : (outs (stepL W) (rngC r) (st.layer.take (i + 1))).foldl visit ⟨[], st.found, st.words⟩ = ((rngC r).map (stepL W s)).foldl visit ((outs (stepL W) (rngC r) (st.layer.take i)).foldl visit ⟨[], st.found, st.words⟩) := by
          unfold outs
          rw [flat_take _ hs, List.foldl_append]
        rw [esn]
        generalize (outs (stepL W) (rngC r) (st.layer.take i)).foldl visit ⟨[], st.found, st.words⟩ = u at *
        refine ⟨[11], _, tg_name (i := 11) nd, ?_⟩
        refine js_one (jp_for (ji_is (ji_range2 T.range (je_ix (je_nm (i := 1) rfl rfl) je_int rfl) (je_add (je_ix (je_nm (i := 1) rfl rfl) je_int rfl) je_int) (by have := rg.a; have := rg.b; have := rg.c; omega) (by have := rg.a; have := rg.b; have := rg.c; omega) (by have := rg.a; have := rg.b; have := rg.c; omega) (by have := rg.a; have := rg.b; have := rg.c; omega)) (rngI_map _ _)) (fun g δ => ∃ (bs : Int) (x12 x13 x14 : Option Kd), δ = [some (.d (wD W)), some (.d (dD r)), some (.d (dD l)), some (.d (.int n)), some (.d (.int 1000000)), some (.v (.ref ad)), some (.o (SK.n P w (fD ((((rngC r).take g).map (stepL W s)).foldl visit u).found))), some (.o (SK.w ((((rngC r).take g).map (stepL W s)).foldl visit u).words)), some (.d (.int bs)), some (.d (.int (bt + 1))), some (.o (SK.l (((((rngC r).take g).map (stepL W s)).foldl visit u).layer.map lwD))), some (.d (lwD s)), x12, x13, x14, x15])
          ⟨bs, x12, x13, x14, rfl⟩ (fun Φ2 hΦ2 g d δ1 hd hI => ?_) (fun δ1 hI => ?_))
        · obtain ⟨bs, x12, x13, x14, rfl⟩ := hI
          obtain ⟨a, ha, rfl⟩ := get_map hd
          have ha : (rngC r)[g]? = some a := ha
          have ps := psz g
          have pv : ((((rngC r).take g).map (stepL W s)).foldl visit u).words.length ≤ 2 := two_words (fold_words _ _ pw)
          have egn : (((rngC r).take (g + 1)).map (stepL W s)).foldl visit u = visit ((((rngC r).take g).map (stepL W s)).foldl visit u) (stepL W s a) := by
            rw [take_succ ha, List.map_append, List.foldl_append]
            rfl
          rw [egn]
          generalize (((rngC r).take g).map (stepL W s)).foldl visit u = z at *
          refine ⟨[12], _, tg_name (i := 12) nd, ?_⟩
          refine js_cons (jp_asg (js := [13, 14]) (ds := [rD lwD (stepL W s a), .int (beatL W s a).2]) (je_call h__law_beat hr (ja_cons (jg_d (je_nm (i := 0) rfl rfl)) (ja_cons (jg_d (je_nm (i := 11) rfl rfl)) (ja_cons (jg_d (je_nm (i := 12) rfl rfl)) ja_nil))) ⟨(W, n, s, a), ⟨ok, n4, sok⟩, rfl, rfl⟩ trivial) (tg_tup (nm_cons (i := 13) nd (nm_cons (i := 14) nd nm_nil)) rfl) ?_)
          refine js_cons (jp_set (i := 8) (je_max T.max (je_nm (i := 8) rfl rfl) (je_nm (i := 14) rfl rfl)) trivial ?_ nd)
          cases hres : stepL W s a with
        | over =>
          refine js_one (jp_if (k := true) (jt_val (je_isi (tn := "str") T.isinstance T.str (by decide +kernel) rfl (je_is (y := .str (wk true)) (je_nm (i := 13) rfl rfl) rfl))) (fun _ => ?_) (fun z => nomatch z))
          exact js_one (jp_putW (i0 := 7) (x := true) hr rfl (jany_getW (x := true) hr (jr_vo (i := 7) rfl) (je_is (y := .str (wk true)) (je_nm (i := 13) rfl rfl) rfl) (je_nm (i := 9) rfl rfl)) (je_is (y := .str (wk true)) (je_nm (i := 13) rfl rfl) rfl) (by omega) ⟨_, _, _, _, rfl⟩)
        | dry =>
          refine js_one (jp_if (k := true) (jt_val (je_isi (tn := "str") T.isinstance T.str (by decide +kernel) rfl (je_is (y := .str (wk false)) (je_nm (i := 13) rfl rfl) rfl))) (fun _ => ?_) (fun z => nomatch z))
          exact js_one (jp_putW (i0 := 7) (x := false) hr rfl (jany_getW (x := false) hr (jr_vo (i := 7) rfl) (je_is (y := .str (wk false)) (je_nm (i := 13) rfl rfl) rfl) (je_nm (i := 9) rfl rfl)) (je_is (y := .str (wk false)) (je_nm (i := 13) rfl rfl) rfl) (by omega) ⟨_, _, _, _, rfl⟩)
          | «at» x =>
            refine js_one (jp_if (k := false) (jt_val (je_isi (tn := "str") T.isinstance T.str (by decide +kernel) rfl (je_is (y := lwD x) (je_nm (i := 13) rfl rfl) rfl))) (fun z => nomatch z) (fun _ => ?_))
            refine js_one (jp_if (jt_c (jc_notInN (k := kL x) hr (je_is (je_nm (i := 13) rfl rfl) (kL_data x).symm) (jr_n (jr_vo (i := 6) rfl)) (.inl (kL_tup x)))) (fun h => ?_) (fun h => ?_))
            · have hx : x ∉ z.found := by
                rw [has_fD] at h
                simpa using h
              refine js_cons (jp_putN (i0 := 6) (k := kL x) hr rfl je_bl (je_is (je_nm (i := 13) rfl rfl) (kL_data x).symm) (kL_tup x) (by unfold fD; rw [List.length_map]; omega) ?_)
              rw [put_fD hx]
              refine js_one (jp_append (i0 := 10) rfl (je_is (y := lwD x) (je_nm (i := 13) rfl rfl) rfl) (by rw [List.length_map]; omega) ?_)
              rw [show visit z (.at x) = ⟨z.layer ++ [x], z.found ++ [x], z.words⟩ from if_neg hx]
              have el : (z.layer ++ [x]).map lwD = z.layer.map lwD ++ [lwD x] := by rw [List.map_append]; rfl
              rw [el]
              exact ⟨_, _, _, _, rfl⟩
            · have hx : x ∈ z.found := by
                rw [has_fD] at h
                simpa using h
              rw [show visit z (.at x) = z from if_pos hx]
              exact js_nil ⟨_, _, _, _, rfl⟩
        · obtain ⟨bs, x12, x13, x14, rfl⟩ := hI
          have e : (rngC r).take ((rngI r.1 (r.2 + 1 - r.1).toNat).map PyData.int).length = rngC r := by
            rw [List.length_map]
            exact List.take_length
          rw [e]
          exact ⟨_, _, _, _, _, rfl⟩
      obtain ⟨bs, x11, x12, x13, x14, rfl⟩ := hI
      have e : (outs (stepL W) (rngC r) (st.layer.take (st.layer.map lwD).length)).foldl visit ⟨[], st.found, st.words⟩ = bstep (stepL W) (rngC r) st := by
        rw [List.length_map, List.take_length]
        rfl
      rw [e]
      refine js_cons (jp_ifno (jt_is (jt_c (jc_gt (je_lenN T.len (jr_n (jr_vo (i := 6) rfl)) (by unfold fD; rw [List.length_map]; omega)) (je_nm (i := 4) rfl rfl))) (decide_eq_false (by unfold fD; rw [List.length_map]; omega))) ?_)
      refine js_one (jp_move (i := 5) (j := 10) rfl (by decide) ?_ nd)
      refine ⟨m - 1, by omega, j + 1, bs, bt + 1, none, x11, x12, x13, x14, x15, by omega, ?_⟩
      rw [nxt]
      rfl
    · have he : st.layer = [] := by simpa using h
      rw [fin he]
      exact js_one (jp_retMid (j := 7) (je_listN T.list (jr_n (jr_vo (i := 6) rfl)) (by unfold fD; rw [List.length_map]; omega)) rfl (je_nm (i := 8) rfl rfl) rfl)

end
end Pq

namespace Pq
open PySem PySem.Spec L2
open PyProof.Rows hiding St
open Evl (Ex)

/-! ### where the law draws its numbers from -/
structure MS where
  cs : List Int
  ls : List Int
  k : Int
structure MS.Ok (st : MS) : Prop where
  len : st.ls.length = st.cs.length
  pos : 0 < st.cs.length
  few : st.cs.length ≤ 1000
  k0 : 0 ≤ st.k
theorem mn1 : ¬ (("cells" : Str) = "spot") := by decide +kernel
theorem mn2 : ¬ (("left" : Str) = "spot") := by decide +kernel
theorem mn3 : ¬ (("cells" : Str) = "left") := by decide +kernel
def mK (c l : Addr) (k : Int) : List (L2.Key × V) := [(.inr "cells", .ref c), (.inr "left", .ref l), (.inr "spot", .int k)]
theorem kne {a b : Str} (h : ¬ a = b) : ¬ ((Sum.inr a : L2.Key) = .inr b) := fun z => h (by injection z)
theorem m_cells (c l : Addr) (k : Int) : valV (mK c l k) (.inr "cells") = some (.ref c) := valV_pos rfl
theorem m_left (c l : Addr) (k : Int) : valV (mK c l k) (.inr "left") = some (.ref l) := by
  unfold mK
  rw [valV_neg (kne mn3), valV_pos rfl]
theorem m_spot (c l : Addr) (k : Int) : valV (mK c l k) (.inr "spot") = some (.int k) := by
  unfold mK
  rw [valV_neg (kne mn1), valV_neg (kne mn2), valV_pos rfl]
theorem m_put (c l : Addr) (k k' : Int) : putK (mK c l k) (.inr "spot") (.int k') = mK c l k' := by
  unfold putK
  rw [if_pos (by rw [valV_any, m_spot]; rfl)]
  unfold mK
  simp only [List.map_cons, List.map_nil]
  rw [if_neg (kne mn1), if_neg (kne mn2), if_true]
theorem m_disp (c l : Addr) (k : Int) : mergeK [] (mK c l k) = mK c l k := by
  have p1 : putK ([] : List (L2.Key × V)) (.inr "cells") (.ref c) = [(.inr "cells", .ref c)] := rfl
  have p2 : putK ([(.inr "cells", .ref c)] : List (L2.Key × V)) (.inr "left") (.ref l) = [(.inr "cells", .ref c), (.inr "left", .ref l)] := by
    unfold putK
    rw [if_neg]
    · rfl
    · rw [valV_any, valV_neg (kne mn3)]
      exact Bool.false_ne_true
  have p3 : putK ([(.inr "cells", .ref c), (.inr "left", .ref l)] : List (L2.Key × V)) (.inr "spot") (.int k) = mK c l k := by
    unfold putK
    rw [if_neg]
    · rfl
    · rw [valV_any, valV_neg (kne mn1), valV_neg (kne mn2)]
      exact Bool.false_ne_true
  show putK (putK (putK ([] : List (L2.Key × V)) (.inr "cells") (.ref c)) (.inr "left") (.ref l)) (.inr "spot") (.int k) = _
  rw [p1, p2, p3]
def SK.m (p0 : Option Addr) (st : MS) : SK where
  is H v F := ∃ p c l, v = .ref p ∧ (∀ q, p0 = some q → q = p) ∧ F = [p, c, l] ∧ H p = some (.dK (mK c l st.k)) ∧ H c = some (.lst (st.cs.map .int)) ∧ H l = some (.lst (st.ls.map .int)) ∧ c ≠ l
  stay := by
    rintro H H' v F ⟨p, c, l, rfl, hq, rfl, hp, hc, hl, ne⟩ e k
    exact ⟨p, c, l, rfl, hq, rfl, (k p (by simp)).trans hp, (k c (by simp)).trans hc, (k l (by simp)).trans hl, ne⟩
  dom := by
    rintro H v F ⟨p, c, l, rfl, hq, rfl, hp, hc, hl, ne⟩ a ha
    simp only [List.mem_cons, List.not_mem_nil, or_false] at ha
    rcases ha with rfl | rfl | rfl
    · exact ⟨_, hp⟩
    · exact ⟨_, hc⟩
    · exact ⟨_, hl⟩
theorem m_nt {p0 : Option Addr} {st : MS} {H : Hp} {v : V} {F : List Addr} (h : (SK.m p0 st).is H v F) : ∀ a ∈ F, ∀ vs, H a ≠ some (.tup vs) := by
  obtain ⟨p, c, l, rfl, hq, rfl, hp, hc, hl, ne⟩ := h
  intro a ha vs z
  simp only [List.mem_cons, List.not_mem_nil, or_false] at ha
  rcases ha with rfl | rfl | rfl
  · rw [hp] at z; cases z
  · rw [hc] at z; cases z
  · rw [hl] at z; cases z
theorem m_at {p : Addr} {st : MS} {H : Hp} {v : V} {F : List Addr} (h : (SK.m (some p) st).is H v F) : v = .ref p := by
  obtain ⟨p', c, l, rfl, hq, _⟩ := h
  rw [hq p rfl]
section
variable {X : Cx} {Φ : Lk} {δ : Slots} {E : En} {e a b c : Expr} {es : List Expr} {pos : Pos} {p0 : Option Addr} {st : MS} {j : Nat}
theorem units1 (hr : Room j X.A) : X.A.units + 1 < cLine := by
  have := hr.units
  omega
theorem je_mspot {p1 : Pos} {jj} (hr : Room j X.A) (ha : JR X Φ a δ (SK.m p0 st)) : JE X Φ (.Subscript a (.Constant (.str "spot") jj p1) pos) δ (.d (.int st.k)) := fun H0 σ H1 sl Q q => by
  refine e_of (pe_dget (units1 hr) pe_w pe_w (fun _ _ => rfl)) ?_
  refine ha H0 σ H1 sl _ fun v H2 G e1 i1 => ?_
  refine je_str H0 σ H2 (sl.mono e1) _ fun u H3 _ e2 i2 => ?_
  obtain ⟨p, c, l, rfl, _, _, hp, _⟩ := (SK.m p0 st).ex i1 e2
  rw [dt_str i2.2]
  refine ⟨p, _, rfl, ?_, q _ H3 [] (e1.trans e2) ⟨rfl, .int _⟩⟩
  rw [← m_spot c l st.k]
  exact DGet.k (k := .inr "spot") hp
theorem jr_mcells {p1 : Pos} {jj} (hr : Room j X.A) (ha : JR X Φ a δ (SK.m p0 st)) : JR X Φ (.Subscript a (.Constant (.str "cells") jj p1) pos) δ (SK.l (st.cs.map .int)) := fun H0 σ H1 sl Q q => by
  refine e_of (pe_dget (units1 hr) pe_w pe_w (fun _ _ => rfl)) ?_
  refine ha H0 σ H1 sl _ fun v H2 G e1 i1 => ?_
  refine je_str H0 σ H2 (sl.mono e1) _ fun u H3 _ e2 i2 => ?_
  obtain ⟨p, c, l, rfl, _, _, hp, hc, _⟩ := (SK.m p0 st).ex i1 e2
  rw [dt_str i2.2]
  refine ⟨p, .ref c, rfl, ?_, q _ H3 [c] (e1.trans e2) ⟨c, _, rfl, rfl, hc, DtAll.ofInts _ _⟩⟩
  rw [← m_cells c l st.k]
  exact DGet.k (k := .inr "cells") hp
theorem jr_mleft {p1 : Pos} {jj} (hr : Room j X.A) (ha : JR X Φ a δ (SK.m p0 st)) : JR X Φ (.Subscript a (.Constant (.str "left") jj p1) pos) δ (SK.l (st.ls.map .int)) := fun H0 σ H1 sl Q q => by
  refine e_of (pe_dget (units1 hr) pe_w pe_w (fun _ _ => rfl)) ?_
  refine ha H0 σ H1 sl _ fun v H2 G e1 i1 => ?_
  refine je_str H0 σ H2 (sl.mono e1) _ fun u H3 _ e2 i2 => ?_
  obtain ⟨p, c, l, rfl, _, _, hp, hc, hl, _⟩ := (SK.m p0 st).ex i1 e2
  rw [dt_str i2.2]
  refine ⟨p, .ref l, rfl, ?_, q _ H3 [l] (e1.trans e2) ⟨l, _, rfl, rfl, hl, DtAll.ofInts _ _⟩⟩
  rw [← m_left c l st.k]
  exact DGet.k (k := .inr "left") hp
theorem m_ne {H : Hp} {p c l : Addr} {k : Int} {xs ys : List V} (hp : H p = some (.dK (mK c l k))) (hc : H c = some (.lst xs)) (hl : H l = some (.lst ys)) : c ≠ p ∧ l ≠ p := ⟨(fun z => by rw [z, hp] at hc; cases hc), (fun z => by rw [z, hp] at hl; cases hl)⟩
/-- m["spot"] = e -/
theorem jp_mspot {i0 : Nat} {x : Str} {p1 p2 p3 : Pos} {jj} {k' : Int} (hr : Room j X.A) (hk0 : δ[i0]? = some (some (.o (SK.m p0 st)))) (hv : JE X Φ e δ (.d (.int k'))) (hn : E.nx (δ.set i0 (some (.o (SK.m p0 ⟨st.cs, st.ls, k'⟩)))))
    (hN : X.N[i0]? = some x := by rfl) (hvis : Vis X.env.scope x := by first | exact Or.inl rfl | exact Or.inr (Or.inl rfl) | exact Or.inr (Or.inr rfl)) (h1 : (x == ("__debug__" : Str)) = false := by decide) (h2 : (x == ("__classdict__" : Str)) = false := by decide)
    (hs : swapsWith e (some (.Subscript (.Name x p1) (.Constant (.str "spot") jj p3) p2)) pos.line X.env = pure false := by rfl) : JP X Φ (.Assign [.Subscript (.Name x p1) (.Constant (.str "spot") jj p3) p2] e pos) δ E := fun H0 σ H1 D sl g => by
  refine s_of (ps_dput (units1 hr) (pe_var hN hvis h1 h2) pe_w pe_w hs) ?_
  refine hv H0 σ H1 sl _ fun v H2 _ e1 i1 => ?_
  obtain ⟨F, f⟩ := (sl.mono e1).at_
  obtain ⟨o, hso, hio⟩ := f.some_ i0 _ hk0
  refine ⟨o, hso, ?_⟩
  refine je_str H0 σ H2 (sl.mono e1) _ fun u H3 _ e2 i2 => ?_
  obtain ⟨p, c, l, rfl, hq, eF, hp, hc, hl, ne⟩ := (SK.m p0 st).ex hio.1 e2
  rw [dt_str i2.2]
  obtain ⟨n1, n2⟩ := m_ne hp hc hl
  refine ⟨p, _, rfl, DPut.k (k := .inr "spot") hp (by show 3 < sizeLine; decide), ?_⟩
  rw [dt_int i1.2, m_put]
  refine g.nx _ _ _ (sl_part ((sl.mono e1).mono e2) hk0 (T := SK.m p0 ⟨st.cs, st.ls, k'⟩) (a := p) (fun w F' hs' is => ?_) (fun ws z => by cases z)) hn
  rw [hso] at hs'
  cases hs'
  obtain ⟨p', c', l', z1, z0, z2, z3, z4, z5, z6⟩ := is
  cases z1
  rw [hp] at z3
  injection z3 with z3
  injection z3 with z3
  injection z3 with z31 z32
  injection z32 with z33 z34
  injection z31 with _ z31
  injection z31 with z31
  injection z33 with _ z33
  injection z33 with z33
  subst z31 z33
  exact ⟨by rw [z2]; simp, p, c, l, rfl, z0, z2, upd_same, by rw [upd_ne n1]; exact hc, by rw [upd_ne n2]; exact hl, ne⟩
/-- m["left"][i] = e -/
theorem jp_mleft {i0 : Nat} {x : Str} {p1 p2 p3 p4 : Pos} {jj} {n i : Int} {g : Nat} (hr : Room j X.A) (hk0 : δ[i0]? = some (some (.o (SK.m p0 st)))) (hv : JE X Φ e δ (.d (.int n))) (hb : JE X Φ b δ (.d (.int i))) (hi : ixN st.ls.length i = some g) (hn : E.nx (δ.set i0 (some (.o (SK.m p0 ⟨st.cs, st.ls.set g n, st.k⟩)))))
    (hN : X.N[i0]? = some x := by rfl) (hvis : Vis X.env.scope x := by first | exact Or.inl rfl | exact Or.inr (Or.inl rfl) | exact Or.inr (Or.inr rfl)) (h1 : (x == ("__debug__" : Str)) = false := by decide) (h2 : (x == ("__classdict__" : Str)) = false := by decide)
    (ha : ∀ v, assign (.Subscript (.Subscript (.Name x p1) (.Constant (.str "left") jj p3) p4) b p2) X.env v = (do
      let ov ← holding [v] (eval (.Subscript (.Name x p1) (.Constant (.str "left") jj p3) p4) X.env)
      let iv ← holding [v, ov] (eval b X.env)
      standAt p2
      holding [v, ov, iv] (setItem ov iv v)
      release [v, ov, iv] []) := by intro _; rfl)
    (hs : swapsWithSole [.Subscript (.Subscript (.Name x p1) (.Constant (.str "left") jj p3) p4) b p2] e pos.line X.env = pure false := by rfl) (hw : swappedStores [.Subscript (.Subscript (.Name x p1) (.Constant (.str "left") jj p3) p4) b p2] e X.env = pure none := by rfl)
    (h3 : (assignEach [.Subscript (.Subscript (.Name x p1) (.Constant (.str "left") jj p3) p4) b p2] X.env).map (·.2) = [assign (.Subscript (.Subscript (.Name x p1) (.Constant (.str "left") jj p3) p4) b p2) X.env] := by rfl) : JP X Φ (.Assign [.Subscript (.Subscript (.Name x p1) (.Constant (.str "left") jj p3) p4) b p2] e pos) δ E := fun H0 σ H1 D sl g' => by
  refine s_of (ps_asg pe_w (pg_sub (pe_dget (units1 hr) (pe_var hN hvis h1 h2) pe_str (fun _ _ => rfl)) pe_w set_list ha) hs hw h3) ?_
  refine hv H0 σ H1 sl _ fun v H2 _ e1 i1 => ?_
  obtain ⟨F, f⟩ := (sl.mono e1).at_
  obtain ⟨o, hso, hio⟩ := f.some_ i0 _ hk0
  obtain ⟨p, c, l, rfl, hq, eF, hp, hc, hl, ne⟩ := id hio.1
  have dg : DGet H2 p (.str "left") (some (.ref l)) := by
    rw [← m_left c l st.k]
    exact DGet.k (k := .inr "left") hp
  refine ⟨_, hso, p, .ref l, rfl, dg, ?_⟩
  refine hb H0 σ H2 (sl.mono e1) _ fun u H3 _ e2 i2 => ?_
  have hp3 := e2 _ _ hp
  have hc3 := e2 _ _ hc
  have hl3 := e2 _ _ hl
  obtain ⟨n1, n2⟩ := m_ne hp3 hc3 hl3
  refine ⟨l, _, i, g, rfl, dt_int i2.2, hl3, by rw [List.length_map]; exact hi, ?_⟩
  rw [dt_int i1.2]
  refine g'.nx _ _ _ (sl_part ((sl.mono e1).mono e2) hk0 (T := SK.m p0 ⟨st.cs, st.ls.set g n, st.k⟩) (a := l) (fun w F' hs' is => ?_) (fun ws z => by cases z)) hn
  rw [hso] at hs'
  cases hs'
  obtain ⟨p', c', l', z1, z0, z2, z3, z4, z5, z6⟩ := is
  cases z1
  rw [hp3] at z3
  injection z3 with z3
  injection z3 with z3
  injection z3 with z31 z32
  injection z32 with z33 z34
  injection z31 with _ z31
  injection z31 with z31
  injection z33 with _ z33
  injection z33 with z33
  subst z31 z33
  exact ⟨by rw [z2]; simp, p, c, l, rfl, z0, z2, by rw [upd_ne n2.symm]; exact hp3, by rw [upd_ne ne]; exact hc3, by rw [upd_same, List.map_set], ne⟩
theorem je_fdiv {i j : Int} (ha : JE X Φ a δ (.d (.int i))) (hb : JE X Φ b δ (.d (.int j))) (hc : CDiv i j) : JE X Φ (.BinOp a .FloorDiv b pos) δ (.d (.int (i / j))) := je_opI (g := fun i j => i / j) op_fdiv ha hb hc
theorem je_pow {i j : Int} (ha : JE X Φ a δ (.d (.int i))) (hb : JE X Φ b δ (.d (.int j))) (hc : CPow i j) : JE X Φ (.BinOp a .Pow b pos) δ (.d (.int (i ^ j.toNat))) := je_opI (g := fun i j => i ^ j.toNat) op_pow ha hb hc
end
def mixM (c s : Int) : Int :=
  ((((c * 40503 + s * 69069 + 12345) % 2147483647) * 48271 + c + s) % 2147483647 * 16807 + s * s * 7919) % 2147483647
theorem mix_nn (c s : Int) : 0 ≤ mixM c s := Int.emod_nonneg _ (by decide)
def s__law_mix : Rl := RL (fun (x : Int × Int) => match x with | (c, s) => 0 ≤ s ∧ s ≤ 100000) (fun (c, s) => [.d (.int c), .d (.int s)]) (fun (c, s) => .d (.int (mixM c s)))
theorem cmulR {i j : Int} (h1 : 0 ≤ j) (h2 : j ≤ 1000000) : CMul i j := .inr (by omega)
section
variable {P : Program} {w : World} {K : PySem.W.Frag} {mg : Str → Option Value} {base : Heap}
-- _law_mix (top 69)
theorem ok__law_mix {k : Nat} {f : Addr} {fd : FuncData} (T : Txt mg) (F : Fun K "_law_mix" "_law_mix" (top 69) f fd) : FnOk P w K mg base CX0 (k + 1) f fd ["_law_cell", "_law_spot"] (spF s__law_mix) := by
  have sc : FnScope ["_law_cell", "_law_spot", "_law_first", "_law_second"] ["_law_cell", "_law_spot"] (defScope (top 69)) := ⟨rfl, rfl, rfl, by decide +kernel, rfl, by decide +kernel, by decide +kernel⟩
  have nd : (["_law_cell", "_law_spot", "_law_first", "_law_second"] : List Str).Nodup := by decide +kernel
  refine fn_ok F sc (RL.len fun _ => rfl) (fun cdv A outer s H E ks r hr hS => ?_)
  obtain ⟨⟨c, s0⟩, ⟨k0, k1⟩, rfl, rfl⟩ := hS
  refine js_cons (jp_set (i := 2) (je_mod (je_intI T.int (je_add (je_add (je_mul (je_nm (i := 0) rfl rfl) je_int (cmulR (by omega) (by omega))) (je_mul (je_nm (i := 1) rfl rfl) je_int (cmulR (by omega) (by omega)))) je_int)) je_int (by decide)) trivial ?_ nd)
  refine js_cons (jp_set (i := 3) (je_mod (je_intI T.int (je_add (je_add (je_mul (je_nm (i := 2) rfl rfl) je_int (cmulR (by omega) (by omega))) (je_nm (i := 0) rfl rfl)) (je_nm (i := 1) rfl rfl))) je_int (by decide)) trivial ?_ nd)
  refine js_one (jp_ret (je_is (je_mod (je_intI T.int (je_add (je_mul (je_nm (i := 3) rfl rfl) je_int (cmulR (by omega) (by omega))) (je_mul (je_mul (je_nm (i := 1) rfl rfl) (je_nm (i := 1) rfl rfl) (cmulR (by omega) (by omega))) je_int (cmulR (by omega) (by omega))))) je_int (by decide)) (by rfl)) trivial rfl)

end
end Pq

namespace Pq
open PySem PySem.Spec L2
open PyProof.Rows hiding St
open Evl (Ex)

/-! ### functions that draw -/
abbrev MPost (β : Type) := MS → β → PyData → MS → Prop
/-- the first argument is the state of the draws -/
def spM {β : Type} (pre : MS → β → Prop) (ks : β → List Kd) (post : MPost β) : Sp := fun vs H Q _ => ∃ (st : MS) (x : β) (p : Addr) (F : List Addr) (us : List V), vs = .ref p :: us ∧ AsAll (cutH H F) (ks x) us ∧ (SK.m (some p) st).is H (.ref p) F ∧ pre st x ∧
  ∀ v d H' F' st', (∀ a o, a ∉ F → H a = some o → H' a = some o) → (SK.m (some p) st').is H' (.ref p) F' → (∀ a ∈ F', (a ∈ F ∨ H a = none) ∧ ∀ vs, H' a ≠ some (.tup vs)) → post st x d st' → Dt H' v d → Q v H'
theorem own_slK {N : List Str} {H : Hp} {S : SK} {v0 : V} {F : List Addr} {vs : List V} {ks : List Kd} (h : S.is H v0 F) (nt : ∀ a ∈ F, ∀ ws, H a ≠ some (.tup ws)) (hd : AsAll (cutH H F) ks vs) :
    Sl (cutH H F) [] H (L2.start N (v0 :: vs)) (startD N (.o S :: ks)) := by
  have hl := hd.len
  refine ⟨cut_ex, by simp [L2.start, startD, hl], fun i => if i = 0 then F else [], fun i k q => ?_, fun i q => ?_, fun i j a ne ha => ?_, (fun q hq => nomatch hq)⟩
  · cases i with
    | zero =>
      unfold startD at q
      simp at q
      subst q
      refine ⟨v0, by simp [L2.start], h, fun a ha => ⟨cut_in ha, nt a ha⟩⟩
    | succ i =>
      unfold startD at q
      rw [List.map_cons, List.cons_append, List.getElem?_cons_succ] at q
      by_cases hi : i < ks.length
      · rw [List.getElem?_append_left (by simpa using hi), List.getElem?_map] at q
        cases e : ks[i]? with
        | none => rw [e] at q; cases q
        | some k' =>
          rw [e] at q
          cases q
          obtain ⟨v, hv, dv⟩ := hd.get e
          refine ⟨v, ?_, ?_⟩
          · unfold L2.start
            rw [List.map_cons, List.cons_append, List.getElem?_cons_succ, List.getElem?_append_left (by simp; omega), List.getElem?_map, hv]
            rfl
          · rw [if_neg (by omega)]
            exact dv.ex cut_ex
      · rw [List.getElem?_append_right (by simp; omega)] at q
        have z := List.mem_of_getElem? q
        rw [List.mem_replicate] at z
        cases z.2
  · cases i with
    | zero => exact absurd (by simp [startD]) (q (.o S))
    | succ i => rfl
  · by_cases e1 : i = 0
    · simp only [if_pos e1] at ha
      have e2 : ¬ j = 0 := fun z => ne (e1.trans z.symm)
      simp only [if_neg e2]
      exact fun z => nomatch z
    · simp only [if_neg e1] at ha
      cases ha
section
variable {P : Program} {w : World} {K : PySem.W.Frag} {mg : Str → Option Value} {base : Heap}
/-- what such a body must bring about -/
abbrev BodyM {β : Type} (post : MPost β) (p : Addr) (st : MS) (x : β) (H0 : Hp) (D : Ends) : Prop := ∀ v d σ' H' δ' st', Sl H0 [] H' σ' δ' → δ'[0]? = some (some (.o (SK.m (some p) st'))) → post st x d st' → Dt H' v d → D.rt v H'
theorem fnM_ok {β : Type} {pre : MS → β → Prop} {ks : β → List Kd} {post : MPost β} {x qual : Str} {st : Stmt} {f : Addr} {fd : FuncData} {N ps : List Str} {k : Nat} (F : Fun K x qual st f fd) (sc : FnScope N ps (defScope st)) (hlen : ∀ b, (ks b).length + 1 = ps.length)
    (body : ∀ (cdv : Value) (A : Around) (outer : List Env) (s : Shared) (H : Hp) (E : XK) (st0 : MS) (b : β) (p : Addr), Room k (bx P w K mg base N qual st f cdv A outer s H E).A → pre st0 b → ∀ (H0 : Hp) (D : Ends), BodyM post p st0 b H0 D → ∀ (σ : L2.St) (H1 : Hp), Sl H0 [] H1 σ (startD N (.o (SK.m (some p) st0) :: ks b)) → wSs (bx P w K mg base N qual st f cdv A outer s H E) (defBody st) D σ H1) :
    FnOk P w K mg base CX0 (k + 1) f fd ps (spM pre ks post) := by
  refine F.ok sc (fun vs H Q E h => ?_) (fun cdv A outer s H vs Q E hr h => ?_)
  · obtain ⟨st0, b, p, F, us, rfl, ha, _⟩ := h
    rw [List.length_cons, ← ha.len]
    exact hlen b
  · obtain ⟨st0, b, p, F, us, rfl, ha, hm, hp, q⟩ := h
    refine ⟨wSs (bx P w K mg base N qual st f cdv A outer s H E) (defBody st), pss_w, ?_⟩
    refine body cdv A outer s H E st0 b p hr hp (cutH H F) _ (fun v d σ' H' δ' st' sl h0 po dt => ?_) _ H (own_slK hm (m_nt hm) ha)
    obtain ⟨Fs, fl⟩ := sl.at_
    obtain ⟨u, hu, hi⟩ := fl.some_ 0 _ h0
    have e0 := m_at hi.1
    subst e0
    exact q v d H' (Fs 0) st' (fun a o na hx => sl.ex a o (by rw [cut_out na]; exact hx)) hi.1 (fun a ha => ⟨cut_none (hi.2 a ha).1, (hi.2 a ha).2⟩) po dt
end
structure HasX {β : Type} (P : Program) (w : World) (K : PySem.W.Frag) (mg : Str → Option Value) (base : Heap) (k : Nat) (x : Str) (ps : List Str) (pre : MS → β → Prop) (ks : β → List Kd) (post : MPost β) : Prop where
  out : Has P w K mg base k x ps (spM pre ks post)
section
variable {X : Cx} {Φ : Lk} {δ : Slots} {E : En} {e a b c : Expr} {es : List Expr} {pos : Pos} {p0 : Option Addr} {st : MS} {j : Nat}
/-- f(m, ..), the others data -/
theorem jx_callM {β : Type} {pre : MS → β → Prop} {ks : β → List Kd} {post : MPost β} {x : β} {k i : Nat} {f n : Str} {ps : List Str} {p1 p2 : Pos} {R : PyData → Slots → Prop} (h : Has X.prog X.w X.K X.mg X.base k f ps (spM pre ks post)) (hr : Room k X.A) (hk : δ[i]? = some (some (.o (SK.m p0 st)))) (ha : JA X Φ es δ (ks x)) (hd : ∀ y ∈ ks x, ∃ z, y = .d z) (hp : pre st x)
    (hR : ∀ d st', post st x d st' → R d (δ.set i (some (.o (SK.m p0 st')))))
    (hN : X.N[i]? = some n := by rfl) (hv : Vis X.env.scope n := by first | exact Or.inl rfl | exact Or.inr (Or.inl rfl) | exact Or.inr (Or.inr rfl)) (h1 : (n == ("__debug__" : Str)) = false := by decide) (h2 : (n == ("__classdict__" : Str)) = false := by decide)
    (hg : Gl X f := by rfl) (hdb : (f == ("__debug__" : Str)) = false := by decide) (hs : NS (.Name n p1) := by exact fun _ _ => rfl) (hs2 : NSs es := by exact fun _ _ => rfl) : JX X Φ (.Call (.Name f p2) (.Name n p1 :: es) [] pos) δ R := fun H0 σ H1 sl Q q => by
  obtain ⟨fa, fd, ok, hm, kp, bi⟩ := h.out
  refine e_of (pe_call ok hr hg hm kp bi .nil pass0 (pa_cons (pe_var hN hv h1 h2) pa_w (hs _ _)) hdb (he := hs _ _) (hpl := hs2 _ _)) ?_
  obtain ⟨F0, f0⟩ := sl.at_
  obtain ⟨v, hv0, _⟩ := f0.some_ i _ hk
  refine ⟨v, hv0, ?_⟩
  refine ha H0 σ H1 sl _ fun us H2 e1 i1 => ?_
  show spM pre ks post ((v :: us) ++ []) H2 Q E0
  rw [List.append_nil]
  obtain ⟨F, fl⟩ := (sl.mono e1).at_
  obtain ⟨v', hv1, hi⟩ := fl.some_ i _ hk
  rw [hv0] at hv1
  cases hv1
  have nt := m_nt hi.1
  obtain ⟨p, c, l, rfl, hq, eF, hpp, hc, hl, ne⟩ := id hi.1
  have te : TEx H2 (cutH H2 (F i)) := fun y vs z => by
    rw [cut_out (fun w => nt y w vs z)]
    exact z
  refine ⟨st, x, p, F i, us, rfl, ?_, ⟨p, c, l, rfl, (fun _ z => by cases z; rfl), eF, hpp, hc, hl, ne⟩, hp, fun u d H' F' st' k1 k2 k3 k4 k5 => ?_⟩
  · have key : ∀ {ks : List Kd} {us : List V}, (∀ y ∈ ks, ∃ z, y = .d z) → AsAll H2 ks us → AsAll (cutH H2 (F i)) ks us := by
      intro ks us hd ha
      induction ha with
      | nil => exact .nil
      | cons r t ih =>
        refine .cons ?_ (ih fun y hy => hd y (List.mem_cons_of_mem _ hy))
        obtain ⟨z, rfl⟩ := hd _ List.mem_cons_self
        exact ⟨rfl, r.2.ex te⟩
    exact key hd i1
  · obtain ⟨p', c', l', e1', hq', z⟩ := k2
    cases e1'
    have s2 := slf_call (Ψ := []) (S' := SK.m p0 st') (sl.mono e1) fl hk hv0 k1 ⟨p, c', l', rfl, hq, z⟩ k3 (fun _ z => nomatch z)
    exact q u H' d _ (hR d st' k4) s2 k5 ((TEx.of e1).trans fun y vs z => k1 y _ (fun w => nt y w vs z) z)
/-- a number that is drawn -/
def drawPre : MS → Int → Prop := fun st lim => st.Ok ∧ st.k ≤ 90000 ∧ 1 ≤ lim ∧ lim ≤ 100000
def drawPost : MPost Int := fun st lim d st' => ∃ v, d = .int v ∧ 0 ≤ v ∧ v < lim ∧ st'.Ok ∧ st'.k = st.k + 1
abbrev sp__law_draw : Sp := spM drawPre (fun lim => [.d (.int lim)]) drawPost
theorem jx_draw {i k : Nat} {lim : Int} {n : Str} {p1 p2 : Pos} {R : Int → Slots → Prop} (h : Has X.prog X.w X.K X.mg X.base k "_law_draw" ["_law_m", "_law_limit"] sp__law_draw) (hr : Room k X.A) (hk : δ[i]? = some (some (.o (SK.m p0 st)))) (ha : JE X Φ a δ (.d (.int lim))) (hp : drawPre st lim)
    (hR : ∀ v st', 0 ≤ v → v < lim → st'.Ok → st'.k = st.k + 1 → R v (δ.set i (some (.o (SK.m p0 st')))))
    (hN : X.N[i]? = some n := by rfl) (hv : Vis X.env.scope n := by first | exact Or.inl rfl | exact Or.inr (Or.inl rfl) | exact Or.inr (Or.inr rfl)) (h1 : (n == ("__debug__" : Str)) = false := by decide) (h2 : (n == ("__classdict__" : Str)) = false := by decide)
    (hg : Gl X "_law_draw" := by rfl) (hs : NS (.Name n p1) := by exact fun _ _ => rfl) (hsa : NS a := by exact fun _ _ => rfl) (hs2 : NSs [a] := by exact fun _ _ => rfl) : JXi X Φ (.Call (.Name "_law_draw" p2) [.Name n p1, a] [] pos) δ R :=
  jx_callM (x := lim) h hr hk (ja_cons (jg_d ha) ja_nil hsa) (fun y hy => by
    obtain rfl : y = .d (.int lim) := by simpa using hy
    exact ⟨_, rfl⟩) hp (fun d st' ⟨v, e, v0, v1, o, e2⟩ => ⟨v, e, hR v st' v0 v1 o e2⟩) hN hv h1 h2 hg (by decide) hs hs2
end
def begunCs (ns : List Int) : List Int := if ns = [] then [0] else ns
def begunMS (ns : List Int) : MS := ⟨begunCs ns, (begunCs ns).map fun c => if 10 ^ 18 ≤ c then c else 0, 0⟩
theorem begunMS_ok {ns : List Int} (h : ns.length ≤ 63) : (begunMS ns).Ok := by
  unfold begunMS begunCs
  refine ⟨by simp, ?_, ?_, Int.le_refl _⟩
  · show 0 < (if ns = [] then [0] else ns).length
    split
    · decide
    · next h => exact List.length_pos_iff.mpr h
  · show (if ns = [] then [0] else ns).length ≤ 1000
    split
    · decide
    · omega
/-- the script: a list of numbers, the caller's or the module's own -/
def SK.sq (K : PySem.W.Frag) (ns : List Int) : SK where
  is H v F := ∃ p, v = .ref p ∧ ((F = [p] ∧ Rd H p (.lst (ns.map V.int))) ∨ (F = [] ∧ ∀ H', SqL K H' p (ns.map V.int)))
  stay := by
    rintro H H' v F ⟨p, rfl, h⟩ e k
    rcases h with ⟨rfl, h⟩ | ⟨rfl, h⟩
    · have q := k p (by simp)
      refine ⟨p, rfl, .inl ⟨rfl, ?_⟩⟩
      rcases h with h | ⟨o, h⟩
      · exact .inl (q.trans h)
      · exact .inr ⟨o, q.trans h⟩
    · exact ⟨p, rfl, .inr ⟨rfl, h⟩⟩
  dom := by
    rintro H v F ⟨p, rfl, h⟩ a ha
    rcases h with ⟨rfl, h⟩ | ⟨rfl, h⟩
    · obtain rfl : a = p := by simpa using ha
      rcases h with h | ⟨o, h⟩
      · exact ⟨_, h⟩
      · exact ⟨_, h⟩
    · exact nomatch ha
theorem sq_get {K : PySem.W.Frag} {ns : List Int} {H : Hp} {v : V} {F : List Addr} (h : (SK.sq K ns).is H v F) : ∃ p, v = .ref p ∧ SqL K H p (ns.map V.int) := by
  obtain ⟨p, rfl, ⟨_, h⟩ | ⟨_, h⟩⟩ := h
  · exact ⟨p, rfl, .inl h⟩
  · exact ⟨p, rfl, h H⟩
theorem sq_put {K : PySem.W.Frag} {ns : List Int} {H : Hp} {p : Addr} (h : SqL K H p (ns.map V.int)) : ∃ F, (SK.sq K ns).is H (.ref p) F := by
  rcases h with h | h
  · exact ⟨_, p, rfl, .inl ⟨rfl, h⟩⟩
  · exact ⟨_, p, rfl, .inr ⟨rfl, fun _ => .inr h⟩⟩
section
variable {X : Cx} {Φ : Lk} {δ : Slots} {a : Expr} {pos : Pos}
theorem je_lenS {ns : List Int} {p : Pos} (hm : X.mg "len" = none) (ha : JR X Φ a δ (SK.sq X.K ns)) (hg : Gl X "len" := by rfl) (hs : NS a := by exact fun _ _ => rfl) : JE X Φ (.Call (.Name "len" p) [a] [] pos) δ (.d (.int (ns.length : Nat))) :=
  je_callR call_len_seq hm PySem.boot_len ha (fun H v G Q is q => by
    obtain ⟨p, rfl, hp⟩ := sq_get is
    have e : ((ns.map V.int).length : Int) = (ns.length : Nat) := by rw [List.length_map]
    exact ⟨p, _, rfl, .inl hp, by rw [e]; exact q _ H [] (Evl.Ex.refl H) ⟨rfl, .int _⟩⟩) liftd hg (hs := hs)
theorem je_listS {ns : List Int} {p : Pos} (hm : X.mg "list" = none) (ha : JR X Φ a δ (SK.sq X.K ns)) (hg : Gl X "list" := by rfl) (hs : NS a := by exact fun _ _ => rfl) : JE X Φ (.Call (.Name "list" p) [a] [] pos) δ (.o (SK.l (ns.map .int))) :=
  je_callTR call_list_of hm (by decide +kernel) ha (fun H v G Q is q => by
    obtain ⟨p, rfl, hp⟩ := sq_get is
    exact ⟨p, _, rfl, .inl hp, fun l hl => q _ _ [l] (Evl.Ex.new hl) (is_l hl upd_same ((DtAll.ofInts H ns).ex (.of (Evl.Ex.new hl))))⟩) lifto hg (hs := hs)
theorem jdp_s {ns : List Int} (h : JR X Φ a δ (SK.sq X.K ns)) : JDp X Φ a δ (.list (ns.map .int)) := fun H0 σ H1 sl Q q => h H0 σ H1 sl Q fun v H2 G e1 i => by
  obtain ⟨p, rfl, hp⟩ := sq_get i
  exact q _ H2 e1 (.lst hp (DtAll.dp _ _ (DtAll.ofInts H2 ns)))
end
def s__law_begun (K : PySem.W.Frag) : Rl := RL (fun (ns : List Int) => ns.length ≤ 63) (fun ns => [.bo (SK.sq K ns)]) (fun ns => .o (SK.m none (begunMS ns)))
section
variable {X : Cx} {Φ : Lk} {δ : Slots} {E : En} {e : Expr} {pos : Pos}
theorem jp_retM {i : Nat} {x : Str} {cs ls : List Int} {p1 p2 p3 p4 p5 p6 : Pos} {j1 j2 j3 j4} (hx : δ[i]? = some (some (.o (SK.l (cs.map .int))))) (he : JE X Φ e δ (.o (SK.l (ls.map .int)))) (hr : E.rt (.o (SK.m none ⟨cs, ls, 0⟩))) (hN : X.N[i]? = some x := by rfl)
    (hv : Vis X.env.scope x := by first | exact Or.inl rfl | exact Or.inr (Or.inl rfl) | exact Or.inr (Or.inr rfl)) (h1 : (x == ("__debug__" : Str)) = false := by decide) (h2 : (x == ("__classdict__" : Str)) = false := by decide) :
    JP X Φ (.Return (some (.Dict [some (.Constant (.str "cells") j1 p1), some (.Constant (.str "left") j2 p2), some (.Constant (.str "spot") j3 p3)] [.Name x p4, e, .Constant (.int 0) j4 p5] p6)) pos) δ E := fun H0 σ H1 D sl g => by
  refine s_of (ps_ret (pe_disp (pps_cons pe_str (pe_var hN hv h1 h2) (pps_cons pe_str pe_w (pps_cons pe_str pe_int pps_nil))) rfl rfl (by simp) (by simp))) ?_
  intro p hp
  have hp0 : H0 p = none := Evl.fresh_back sl.ex hp
  have sl1 : Sl H0 ([(p, SK.w [])] ++ Φ) (upd H1 p (.dK [])) σ δ := sl.lock_new (Evl.Ex.new hp) fun q hq => by
    obtain rfl : q = (p, SK.w []) := by simpa using hq
    exact ⟨⟨p, [], rfl, rfl, upd_same, rfl⟩, .inl hp⟩
  obtain ⟨F, f⟩ := sl1.at_
  obtain ⟨v, hv0, hi⟩ := f.some_ i _ hx
  refine ⟨v, hv0, ?_⟩
  refine he H0 σ _ sl1.drop_lock _ fun u H2 G e1 i1 => ?_
  obtain ⟨⟨c, vc, rfl, eF, hc, hdc⟩, nwc⟩ := hi
  obtain ⟨⟨l, vl, rfl, rfl, hl, hdl⟩, nwl⟩ := i1
  have evc := hdc.ints
  have evl := hdl.ints
  subst evc evl
  have hp2 : H2 p = some (.dK []) := e1 _ _ upd_same
  have hc2 := e1 _ _ hc
  have ncp : c ≠ p := fun z => by rw [z, hp2] at hc2; cases hc2
  have nlp : l ≠ p := fun z => by rw [z, hp2] at hl; cases hl
  have ncl : c ≠ l := fun z => by
    have := (nwl l (by simp)).1
    rw [← z, hc] at this
    cases this
  refine ⟨hp2, mK c l 0, rfl, by show 3 ≤ 15; decide, ?_⟩
  rw [m_disp]
  have te : TEx H2 (upd H2 p (.dK (mK c l 0))) := (TEx.refl H2).upd (fun vs z => by rw [hp2] at z; cases z)
  have hlk : ∀ q ∈ Φ, q.1 ≠ p := fun q hq z => by
    obtain ⟨o, ho⟩ := q.2.dom (sl_lock sl hq) q.1 List.mem_cons_self
    rw [z, hp] at ho
    cases ho
  refine g.rt (.ref p) _ (.o (SK.m none ⟨cs, ls, 0⟩)) [p, c, l] ⟨σ, δ, (sl1.mono e1).dropd hp0 hlk te (fun a o na z => by rw [upd_ne na]; exact z)⟩ ⟨⟨p, c, l, rfl, (fun _ z => nomatch z), rfl, upd_same, by rw [upd_ne ncp]; exact hc2, by rw [upd_ne nlp]; exact hl, ncl⟩, fun a ha => ?_⟩ hr
  simp only [List.mem_cons, List.not_mem_nil, or_false] at ha
  rcases ha with rfl | rfl | rfl
  · exact ⟨hp0, fun vs z => by rw [upd_same] at z; cases z⟩
  · refine ⟨(nwc a (by rw [eF]; simp)).1, fun vs z => by rw [upd_ne ncp, hc2] at z; cases z⟩
  · refine ⟨Evl.fresh_back sl1.ex (nwl a (by simp)).1, fun vs z => by rw [upd_ne nlp, hl] at z; cases z⟩
end
theorem at_mod {ls : List Int} {n : Nat} (hl : ls.length = n) (hn : 0 < n) {k : Int} : ∃ (g : Nat) (v : Int), ixN n (k % (n : Int)) = some g ∧ atI (ls.map PyData.int) (k % (n : Int)) = some (.int v) := by
  subst hl
  have h0 : 0 ≤ k % (ls.length : Int) := Int.emod_nonneg k (by omega)
  have h1 : k % (ls.length : Int) < ls.length := Int.emod_lt_of_pos k (by omega)
  generalize k % (ls.length : Int) = i at *
  obtain ⟨g, rfl⟩ : ∃ g : Nat, i = (g : Int) := ⟨i.toNat, by omega⟩
  have hg : g < ls.length := by omega
  have e : ixN ls.length (g : Int) = some g := by
    unfold ixN
    rw [if_pos h0, if_pos (by omega)]
    rfl
  refine ⟨g, ls[g], e, ?_⟩
  unfold atI
  rw [List.length_map, e]
  show (ls.map PyData.int)[g]? = _
  rw [List.getElem?_map, List.getElem?_eq_getElem hg]
  rfl
section
variable {P : Program} {w : World} {K : PySem.W.Frag} {mg : Str → Option Value} {base : Heap}
theorem ok__law_begun {k : Nat} {f : Addr} {fd : FuncData} (T : Txt mg) (F : Fun K "_law_begun" "_law_begun" (top 70) f fd) : FnOk P w K mg base CX0 (k + 1) f fd ["_law_script"] (spF (s__law_begun K)) := by
  have sc : FnScope ["_law_script", "_law_some", "_law_cell"] ["_law_script"] (defScope (top 70)) := ⟨rfl, rfl, rfl, by decide +kernel, rfl, by decide +kernel, by decide +kernel⟩
  have nd : (["_law_script", "_law_some", "_law_cell"] : List Str).Nodup := by decide +kernel
  refine fn_ok F sc (RL.len fun _ => rfl) (fun cdv A outer s H E ks r hr hS => ?_)
  obtain ⟨ns, hl, rfl, rfl⟩ := hS
  refine js_cons (jp_set (i := 1) (k := .o (SK.l ((begunCs ns).map .int))) (je_if (k := !decide (ns.map PyData.int = [])) (jt_is (jt_c (jc_neD hr (jdp_s (jr_vb (i := 0) rfl)) (jdp_l (jr_new (je_lst jds_nil (hz := by simp)))) ((Tm.lst (n := 2) fun d hd => by
      obtain ⟨x, _, rfl⟩ := List.mem_map.mp hd
      exact Tm.int x).shaped (by decide)) (by decide +kernel))) (eqv_nil2 _)) (fun h => je_isL (je_listS T.list (jr_vb (i := 0) rfl)) ?_) (fun h => je_isL (je_lst (jds_cons je_int jds_nil) (hz := by simp)) ?_) lifto) trivial ?_ nd)
  · have h : ns ≠ [] := by simpa using h
    unfold begunCs
    rw [if_neg h]
  · have h : ns = [] := by simpa using h
    unfold begunCs
    rw [if_pos h]
    rfl
  have hb : (begunCs ns).length ≤ 1000 := by
    unfold begunCs
    split
    · decide
    · omega
  refine js_one (jp_retM (i := 1) (cs := begunCs ns) (ls := (begunCs ns).map fun c => if 10 ^ 18 ≤ c then c else 0) rfl (je_isL (je_lcT (l := begunCs ns) (e' := .int) (f := fun _ => true) (g := fun c => .int (if 10 ^ 18 ≤ c then c else 0)) intInj (blkOk_by (own := [("_law_cell", 2)]) rfl) nd (ji_list (jr_vo (i := 1) rfl))
    (fun c hc => ⟨[2], _, by decide, fun s H C cl fp => ⟨tg_name (i := 2) nd, jts_nil, fun _ => je_is (je_iteI (jt_c (jc_ge (je_nm (i := 2) rfl rfl) (je_pow je_int je_int ⟨by decide, by decide, by decide⟩))) (fun h => je_nm (i := 2) rfl rfl) (fun h => je_int)) ?_⟩⟩) (by omega)) ?_) ?_)
  · simp only [decide_eq_true_eq]
    rfl
  · rw [filtT, List.map_map]
    rfl
  · rfl
end

end Pq

namespace Pq
open PySem PySem.Spec L2
open PyProof.Rows hiding St
open Evl (Ex)

/-! ### numbers drawn one after another -/
def JXs (X : Cx) (Φ : Lk) (es : List Expr) (δ : Slots) (R : List PyData → Slots → Prop) : Prop := ∀ (H0 : Hp) (σ : L2.St) (H1 : Hp), Sl H0 Φ H1 σ δ → ∀ Q : List V → Hp → Prop, (∀ vs H2 ds δ', R ds δ' → Sl H0 Φ H2 σ δ' → DtAll H2 vs ds → TEx H1 H2 → Q vs H2) → wA X es σ H1 Q
section
variable {X : Cx} {Φ : Lk} {δ : Slots} {E : En} {e a b c : Expr} {es : List Expr} {pos : Pos} {p0 : Option Addr} {st : MS} {j : Nat}
theorem jxs_nil {R : List PyData → Slots → Prop} (h : R [] δ) : JXs X Φ [] δ R := fun _ _ H1 sl _ q => a_of pa_nil (q [] H1 [] δ h sl .nil (TEx.refl _))
theorem jxs_cons {Ra : PyData → Slots → Prop} {R : List PyData → Slots → Prop} (h : JX X Φ e δ Ra) (t : ∀ d δ1, Ra d δ1 → JXs X Φ es δ1 (fun ds δ2 => R (d :: ds) δ2)) (hs : NS e := by exact fun _ _ => rfl) : JXs X Φ (e :: es) δ R := fun H0 σ H1 sl Q q =>
  a_of (pa_cons pe_w pa_w (hs _ _)) (h H0 σ H1 sl _ fun v H2 d δ1 r sl1 dv te1 => t d δ1 r H0 σ H2 sl1 _ fun vs H3 ds δ2 r2 sl2 dvs te2 => q (v :: vs) H3 (d :: ds) δ2 r2 sl2 (.cons (dv.ex te2) dvs) (te1.trans te2))
theorem jx_tup {R : PyData → Slots → Prop} {k : Nat} (h : JXs X Φ es δ fun ds δ' => ds.length ≤ 1000 ∧ R (.tuple ds) δ') : JX X Φ (.Tuple es k pos) δ R := fun H0 σ H1 sl Q q =>
  e_of (pe_tup pa_w) (h H0 σ H1 sl _ fun vs H2 ds δ' r sl' dvs te => ⟨by rw [dvs.length]; exact Nat.le_of_lt (small1000 r.1), fun p hp => q _ _ _ δ' r.2 (sl'.mono (Evl.Ex.new hp)) (.tup upd_same (dvs.ex (.of (Evl.Ex.new hp)))) (te.trans (.of (Evl.Ex.new hp)))⟩)
theorem jx_cat {Ra R : PyData → Slots → Prop} (ha : JX X Φ a δ Ra) (hb : ∀ d δ1, Ra d δ1 → ∃ ds, d = .tuple ds ∧ JX X Φ b δ1 fun d' δ2 => ∃ es', d' = .tuple es' ∧ ds.length + es'.length ≤ 1000 ∧ R (.tuple (ds ++ es')) δ2) : JX X Φ (.BinOp a .Add b pos) δ R := fun H0 σ H1 sl Q q => by
  refine e_of (pe_op op_catA pe_w pe_w) ?_
  refine ha H0 σ H1 sl _ fun v H2 d δ1 r1 sl1 dv te1 => ?_
  obtain ⟨ds, rfl, hb'⟩ := hb d δ1 r1
  refine hb' H0 σ H2 sl1 _ fun u H3 d' δ2 ⟨es', e, hz, r2⟩ sl2 du te2 => ?_
  subst e
  obtain ⟨p, vs, rfl, hp, hd⟩ := dt_tup (dv.ex te2)
  obtain ⟨p', vs', rfl, hp', hd'⟩ := dt_tup du
  have te := te1.trans te2
  refine ⟨p, p', vs, vs', rfl, rfl, SqT.of hp, SqT.of hp', by rw [hd.length, hd'.length]; exact Nat.le_of_lt (small1000 hz), fun e0 => ?_, fun e0 e1 => ?_, fun _ _ t ht => ?_⟩
  · subst e0
    cases hd
    exact q _ H3 _ δ2 r2 sl2 (.tup hp' hd') te
  · subst e1
    cases hd'
    rw [List.append_nil] at r2
    exact q _ H3 _ δ2 r2 sl2 (.tup hp hd) te
  · exact q _ _ _ δ2 r2 (sl2.mono (Evl.Ex.new ht)) (.tup upd_same ((hd.append hd').ex (.of (Evl.Ex.new ht)))) (te.trans (.of (Evl.Ex.new ht)))
/-- c + a drawn number -/
theorem jx_cdraw {i k : Nat} {lim n0 : Int} {n : Str} {p1 p2 : Pos} {R : Int → Slots → Prop} (hc : JE X Φ c δ (.d (.int n0))) (h : Has X.prog X.w X.K X.mg X.base k "_law_draw" ["_law_m", "_law_limit"] sp__law_draw) (hr : Room k X.A) (hk : δ[i]? = some (some (.o (SK.m p0 st)))) (ha : JE X Φ a δ (.d (.int lim))) (hp : drawPre st lim)
    (hR : ∀ v st', 0 ≤ v → v < lim → st'.Ok → st'.k = st.k + 1 → R (n0 + v) (δ.set i (some (.o (SK.m p0 st')))))
    (hN : X.N[i]? = some n := by rfl) (hv : Vis X.env.scope n := by first | exact Or.inl rfl | exact Or.inr (Or.inl rfl) | exact Or.inr (Or.inr rfl)) (h1 : (n == ("__debug__" : Str)) = false := by decide) (h2 : (n == ("__classdict__" : Str)) = false := by decide)
    (hg : Gl X "_law_draw" := by rfl) (hs : NS (.Name n p1) := by exact fun _ _ => rfl) (hsa : NS a := by exact fun _ _ => rfl) (hs2 : NSs [a] := by exact fun _ _ => rfl) {pd : Pos} : JXi X Φ (.BinOp c .Add (.Call (.Name "_law_draw" p2) [.Name n p1, a] [] pd) pos) δ R :=
  jxi_add (Ra := fun i' δ' => i' = n0 ∧ δ' = δ) (jxi_of hc ⟨rfl, rfl⟩) fun i' δ1 ⟨e1, e2⟩ => by
    subst e1 e2
    exact jx_draw h hr hk ha hp hR hN hv h1 h2 hg hs hsa hs2
/-- min(a, b), b draws -/
theorem jx_min {i : Int} {p : Pos} {R : Int → Slots → Prop} (hm : X.mg "min" = none) (ha : JE X Φ a δ (.d (.int i))) (hb : JXi X Φ b δ fun j δ' => R (min i j) δ') (hc : X.calm = true := by rfl) (hg : Gl X "min" := by rfl) (hs : NS a := by exact fun _ _ => rfl) (hs2 : NS b := by exact fun _ _ => rfl) : JXi X Φ (.Call (.Name "min" p) [a, b] [] pos) δ R := fun H0 σ H1 sl Q q => by
  refine e_of (pe_callB (call_min2 hc) hg hm (by decide +kernel) (pa_cons pe_w (pa_cons pe_w pa_nil (hs2 _ _)) (hs _ _)) (he := hs _ _) (hpl := hs2.any _ _)) ?_
  refine ha H0 σ H1 sl _ fun v H2 _ e1 i1 => ?_
  refine hb H0 σ H2 (sl.mono e1) _ fun u H3 d δ' ⟨jj, ed, r⟩ sl' du te => ?_
  subst ed
  refine ⟨i, jj, by rw [dt_int i1.2, dt_int du], ?_⟩
  rw [minI, Int.min_comm]
  exact q _ H3 _ δ' ⟨_, rfl, by first | exact r | exact Int.min_comm i jj ▸ r⟩ sl' (.int _) ((TEx.of e1).trans te)
/-- what follows a test, each way -/
theorem js_ifD {A B rest : List Stmt} {k : Bool} {H0 H : Hp} {σ : L2.St} {D : Ends} (sl : Sl H0 Φ H σ δ) (h : JT X Φ c δ k) (h1 : k = true → ∀ H2, Sl H0 Φ H2 σ δ → wSs X A { D with nx := wSs X rest D } σ H2) (h2 : k = false → ∀ H2, Sl H0 Φ H2 σ δ → wSs X B { D with nx := wSs X rest D } σ H2) : wSs X (.If c A B pos :: rest) D σ H :=
  ss_of (pss_cons ps_w pss_w) (s_of (ps_if pt_w pss_w pss_w) (h H0 σ H sl _ fun H2 e1 => by
    cases k with
    | true =>
      show wSs X A _ σ H2
      exact h1 rfl H2 (sl.mono e1)
    | false =>
      show wSs X B _ σ H2
      exact h2 rfl H2 (sl.mono e1)))
theorem js_ret {R : PyData → Slots → Prop} {H0 H : Hp} {σ : L2.St} {D : Ends} (sl : Sl H0 Φ H σ δ) (h : JX X Φ e δ R) (hr : ∀ v H2 d δ', R d δ' → Sl H0 Φ H2 σ δ' → Dt H2 v d → D.rt v H2) : wSs X [.Return (some e) pos] D σ H :=
  ss_of (pss_one (ps_ret pe_w)) (h H0 σ H sl _ fun v H2 d δ' r sl' dv _ => hr v H2 d δ' r sl' dv)
theorem js_nilD {H : Hp} {σ : L2.St} {D : Ends} (h : D.nx σ H) : wSs X [] D σ H := ss_of pss_nil h
end
def wellPre : MS → Unit → Prop := fun st _ => st.Ok ∧ st.k ≤ 80000
structure Wl.Ok0 (W : Wl) : Prop where
  top1 : 2 ≤ W.top
  top2 : W.top ≤ 5
  drain1 : 1 ≤ W.drain
  drain2 : W.drain ≤ 3
  on1 : 1 ≤ W.on
  on2 : W.on ≤ W.top
  off1 : 0 ≤ W.off
  off2 : W.off ≤ W.on - 1
  step1 : 1 ≤ W.step
  step2 : W.step ≤ 2
  lag1 : 0 ≤ W.lag
  lag2 : W.lag ≤ 1
def wellPost : MPost Unit := fun st _ d st' => ∃ W, d = wD W ∧ W.Ok0 ∧ st'.Ok ∧ st'.k = st.k + 9
abbrev sp__law_well : Sp := spM wellPre (fun _ => [.d (.int 5), .d (.int 1)]) wellPost
def rangePre : MS → Unit → Prop := fun st _ => st.Ok ∧ st.k ≤ 80000
def rangePost : MPost Unit := fun st _ d st' => ∃ r, d = dD r ∧ RgOk r ∧ r.2 ≤ 5 ∧ st'.Ok ∧ st'.k = st.k + 2
abbrev sp__law_range : Sp := spM rangePre (fun _ => [.d (.int 4), .d (.int 3), .d (.int 300)]) rangePost
section
variable {P : Program} {w : World} {K : PySem.W.Frag} {mg : Str → Option Value} {base : Heap}
theorem ok__law_draw {k : Nat} {f : Addr} {fd : FuncData} (T : Txt mg) (h__law_mix : Has P w K mg base k "_law_mix" ["_law_cell", "_law_spot"] (spF s__law_mix)) (F : Fun K "_law_draw" "_law_draw" (top 71) f fd) : FnOk P w K mg base CX0 (k + 1) f fd ["_law_m", "_law_limit"] sp__law_draw := by
  have sc : FnScope ["_law_m", "_law_limit", "_law_spot", "_law_here", "_law_left"] ["_law_m", "_law_limit"] (defScope (top 71)) := ⟨rfl, rfl, rfl, by decide +kernel, rfl, by decide +kernel, by decide +kernel⟩
  have nd : (["_law_m", "_law_limit", "_law_spot", "_law_here", "_law_left"] : List Str).Nodup := by decide +kernel
  refine fnM_ok F sc (fun _ => rfl) (fun cdv A outer s H E st lim p hr hp H0 D hD σ H1 sl => ?_)
  obtain ⟨ok, k9, l1, l2⟩ := hp
  have hlen := ok.len
  have hpos := ok.pos
  have hk0 := ok.k0
  obtain ⟨g, v, hg, hv⟩ := at_mod hlen hpos (k := st.k)
  obtain ⟨g2, c, hg2, hc⟩ := at_mod rfl hpos (k := st.k)
  refine js_then sl (E1 := fun δ => δ = [some (.o (SK.m (some p) st)), some (.d (.int lim)), some (.d (.int st.k)), none, none]) (jp_set (i := 2) (je_mspot hr (jr_vo (i := 0) rfl)) trivial rfl nd) fun σ H1 δ sl e => ?_
  subst e
  refine js_then sl (E1 := fun δ => δ = [some (.o (SK.m (some p) ⟨st.cs, st.ls, st.k + 1⟩)), some (.d (.int lim)), some (.d (.int st.k)), none, none]) (jp_mspot (i0 := 0) hr rfl (je_add (je_nm (i := 2) rfl rfl) je_int) rfl) fun σ H1 δ sl e => ?_
  subst e
  refine js_then sl (E1 := fun δ => δ = [some (.o (SK.m (some p) ⟨st.cs, st.ls, st.k + 1⟩)), some (.d (.int lim)), some (.d (.int st.k)), some (.d (.int (st.k % (st.cs.length : Int)))), none]) (jp_set (i := 3) (je_is (y := .int (st.k % (st.cs.length : Int))) (je_mod (je_intI T.int (je_nm (i := 2) rfl rfl)) (je_lenL T.len (jr_mcells hr (jr_vo (i := 0) rfl))) (by rw [List.length_map]; exact Int.natCast_pos.mpr hpos)) (by rw [List.length_map])) trivial rfl nd) fun σ H1 δ sl e => ?_
  subst e
  refine js_then sl (E1 := fun δ => δ = [some (.o (SK.m (some p) ⟨st.cs, st.ls, st.k + 1⟩)), some (.d (.int lim)), some (.d (.int st.k)), some (.d (.int (st.k % (st.cs.length : Int)))), some (.d (.int v))]) (jp_set (i := 4) (je_ixL (jr_mleft hr (jr_vo (i := 0) rfl)) (je_nm (i := 3) rfl rfl) hv) trivial rfl nd) fun σ H1 δ sl e => ?_
  subst e
  refine js_ifD sl (jt_c (jc_gt (je_nm (i := 4) rfl rfl) je_int)) (fun h H2 sl => ?_) (fun h H2 sl => ?_)
  · refine js_then sl (E1 := fun δ => δ = [some (.o (SK.m (some p) ⟨st.cs, st.ls.set g (v / lim), st.k + 1⟩)), some (.d (.int lim)), some (.d (.int st.k)), some (.d (.int (st.k % (st.cs.length : Int)))), some (.d (.int v))]) (jp_mleft (i0 := 0) (g := g) hr rfl (je_fdiv (je_nm (i := 4) rfl rfl) (je_nm (i := 1) rfl rfl) ⟨by omega, by omega⟩) (je_nm (i := 3) rfl rfl) (by show ixN st.ls.length _ = _; rw [hlen]; exact hg) rfl) fun σ H1 δ sl e => ?_
    subst e
    refine js_ret sl (jx_of (je_mod (je_intI T.int (je_nm (i := 4) rfl rfl)) (je_nm (i := 1) rfl rfl) (by omega))) fun u H3 d δ' ⟨e1, e2⟩ sl' dv => ?_
    subst e1 e2
    exact hD u _ _ H3 _ ⟨st.cs, st.ls.set g (v / lim), st.k + 1⟩ sl' rfl ⟨_, rfl, Int.emod_nonneg _ (by omega), Int.emod_lt_of_pos _ (by omega), ⟨by show (st.ls.set g _).length = _; rw [List.length_set]; exact hlen, ok.pos, ok.few, by show 0 ≤ st.k + 1; omega⟩, rfl⟩ dv
  · refine js_nilD ?_
    refine js_ret sl (jx_of (je_mod (je_intI T.int (je_fdiv (je_call h__law_mix hr (ja_cons (jg_d (je_ixL (jr_mcells hr (jr_vo (i := 0) rfl)) (je_nm (i := 3) rfl rfl) hc)) (ja_cons (jg_d (je_nm (i := 2) rfl rfl)) ja_nil)) ⟨(c, st.k), ⟨by omega, by omega⟩, rfl, rfl⟩ trivial) je_int ⟨by decide, by decide⟩)) (je_nm (i := 1) rfl rfl) (by omega))) fun u H3 d δ' ⟨e1, e2⟩ sl' dv => ?_
    subst e1 e2
    exact hD u _ _ H3 _ ⟨st.cs, st.ls, st.k + 1⟩ sl' rfl ⟨_, rfl, Int.emod_nonneg _ (by omega), Int.emod_lt_of_pos _ (by omega), ⟨hlen, ok.pos, ok.few, by show 0 ≤ st.k + 1; omega⟩, rfl⟩ dv

end
end Pq

namespace Pq
open PySem PySem.Spec L2
open PyProof.Rows hiding St
open Evl (Ex)

section
variable {P : Program} {w : World} {K : PySem.W.Frag} {mg : Str → Option Value} {base : Heap}
theorem ok__law_well {k : Nat} {f : Addr} {fd : FuncData} (h_draw : Has P w K mg base k "_law_draw" ["_law_m", "_law_limit"] sp__law_draw) (F : Fun K "_law_well" "_law_well" (top 72) f fd) : FnOk P w K mg base CX0 (k + 1) f fd ["_law_m", "_law_top", "_law_lag"] sp__law_well := by
  have sc : FnScope ["_law_m", "_law_top", "_law_lag", "_law_high", "_law_on", "_law_start_here"] ["_law_m", "_law_top", "_law_lag"] (defScope (top 72)) := ⟨rfl, rfl, rfl, by decide +kernel, rfl, by decide +kernel, by decide +kernel⟩
  have nd : (["_law_m", "_law_top", "_law_lag", "_law_high", "_law_on", "_law_start_here"] : List Str).Nodup := by decide +kernel
  refine fnM_ok F sc (fun _ => rfl) (fun cdv A outer s H E st _ p hr hp H0 D hD σ H1 sl => ?_)
  obtain ⟨o, k9⟩ := hp

  refine js_then sl (E1 := fun δ => ∃ v st1, δ = [some (.o (SK.m (some p) st1)), some (.d (.int 5)), some (.d (.int 1)), some (.d (.int (2 + v))), none, none] ∧ 0 ≤ v ∧ v < 4 ∧ st1.Ok ∧ st1.k = st.k + 1)
    (jp_setX (i := 3) (jx_cdraw (i := 0) (R := fun i δ' => ∃ v st1, i = 2 + v ∧ 0 ≤ v ∧ v < 4 ∧ st1.Ok ∧ st1.k = st.k + 1 ∧ δ' = [some (.o (SK.m (some p) st1)), some (.d (.int 5)), some (.d (.int 1)), none, none, none]) je_int h_draw hr rfl (je_sub (je_nm (i := 1) rfl rfl) je_int) ⟨o, by omega, by omega, by omega⟩ (fun v st' a b c d => ⟨v, st', rfl, a, by omega, c, d, rfl⟩)) (fun d δ' ⟨i, e1, v, st1, e2, a, b, c, e, e3⟩ => ⟨v, st1, by rw [e1, e2, e3]; rfl, a, b, c, e⟩) nd) fun σ H1 δ sl e => ?_
  obtain ⟨v, st1, rfl, v0, v1, o, e1⟩ := e

  refine js_then sl (E1 := fun δ => ∃ u st2, δ = [some (.o (SK.m (some p) st2)), some (.d (.int 5)), some (.d (.int 1)), some (.d (.int (2 + v))), some (.d (.int (1 + u))), none] ∧ 0 ≤ u ∧ u < 2 + v ∧ st2.Ok ∧ st2.k = st.k + 2)
    (jp_setX (i := 4) (jx_cdraw (i := 0) (R := fun i δ' => ∃ u st2, i = 1 + u ∧ 0 ≤ u ∧ u < 2 + v ∧ st2.Ok ∧ st2.k = st.k + 2 ∧ δ' = [some (.o (SK.m (some p) st2)), some (.d (.int 5)), some (.d (.int 1)), some (.d (.int (2 + v))), none, none]) je_int h_draw hr rfl (je_nm (i := 3) rfl rfl) ⟨o, by omega, by omega, by omega⟩ (fun v st' a b c d => ⟨v, st', rfl, a, by omega, c, by omega, rfl⟩)) (fun d δ' ⟨i, e1, v, st1, e2, a, b, c, e, e3⟩ => ⟨v, st1, by rw [e1, e2, e3]; rfl, a, b, c, e⟩) nd) fun σ H1 δ sl e => ?_
  obtain ⟨u, st2, rfl, u0, u1, o, e2⟩ := e

  refine js_then sl (E1 := fun δ => ∃ a b c d st3, δ = [some (.o (SK.m (some p) st3)), some (.d (.int 5)), some (.d (.int 1)), some (.d (.int (2 + v))), some (.d (.int (1 + u))), some (.d (.tuple [.int (2 + v), .int (1 + a), .int (1 + u), .int b, .int (1 + c), .int (1 + d)]))] ∧ 0 ≤ a ∧ a < 3 ∧ 0 ≤ b ∧ b < 1 + u ∧ 0 ≤ c ∧ c < 3 ∧ 0 ≤ d ∧ d < 3 ∧ st3.Ok ∧ st3.k = st.k + 6)
    (jp_setX (i := 5) (R := fun x δ' => ∃ a b c d st3, x = .tuple [.int (2 + v), .int (1 + a), .int (1 + u), .int b, .int (1 + c), .int (1 + d)] ∧ δ' = [some (.o (SK.m (some p) st3)), some (.d (.int 5)), some (.d (.int 1)), some (.d (.int (2 + v))), some (.d (.int (1 + u))), none] ∧ 0 ≤ a ∧ a < 3 ∧ 0 ≤ b ∧ b < 1 + u ∧ 0 ≤ c ∧ c < 3 ∧ 0 ≤ d ∧ d < 3 ∧ st3.Ok ∧ st3.k = st.k + 6) (jx_tup ?_) (fun x δ' ⟨a, b, c, d, st3, e1, e2, q⟩ => ⟨a, b, c, d, st3, by rw [e1, e2]; rfl, q⟩) nd) fun σ H1 δ sl e => ?_
  · refine jxs_cons (jx_of (je_nm (i := 3) rfl rfl)) (fun x δ1 h => ?_)
    obtain ⟨rfl, rfl⟩ := h
    refine jxs_cons (jx_cdraw (i := 0) (R := fun i δ' => ∃ z9 st', i = 1 + z9 ∧ 0 ≤ z9 ∧ z9 < 3 ∧ st'.Ok ∧ st'.k = st.k + 3 ∧ δ' = [some (.o (SK.m (some p) st')), some (.d (.int 5)), some (.d (.int 1)), some (.d (.int (2 + v))), some (.d (.int (1 + u))), none]) je_int h_draw hr rfl je_int ⟨o, by omega, by omega, by omega⟩ (fun v st' a b c d => ⟨v, st', rfl, a, by omega, c, by omega, rfl⟩)) (fun x δ1 h => ?_)
    obtain ⟨_, rfl, a, sa, rfl, a0, a1, o, ea, rfl⟩ := h
    refine jxs_cons (jx_of (je_nm (i := 4) rfl rfl)) (fun x δ1 h => ?_)
    obtain ⟨rfl, rfl⟩ := h
    refine jxs_cons (jx_draw (i := 0) (R := fun i δ' => ∃ st', 0 ≤ i ∧ i < 1 + u ∧ st'.Ok ∧ st'.k = st.k + 4 ∧ δ' = [some (.o (SK.m (some p) st')), some (.d (.int 5)), some (.d (.int 1)), some (.d (.int (2 + v))), some (.d (.int (1 + u))), none]) h_draw hr rfl (je_nm (i := 4) rfl rfl) ⟨o, by omega, by omega, by omega⟩ (fun v st' a b c d => ⟨st', a, by omega, c, by omega, rfl⟩)) (fun x δ1 h => ?_)
    obtain ⟨b, rfl, sb, b0, b1, o, eb, rfl⟩ := h
    refine jxs_cons (jx_cdraw (i := 0) (R := fun i δ' => ∃ z9 st', i = 1 + z9 ∧ 0 ≤ z9 ∧ z9 < 3 ∧ st'.Ok ∧ st'.k = st.k + 5 ∧ δ' = [some (.o (SK.m (some p) st')), some (.d (.int 5)), some (.d (.int 1)), some (.d (.int (2 + v))), some (.d (.int (1 + u))), none]) je_int h_draw hr rfl je_int ⟨o, by omega, by omega, by omega⟩ (fun v st' a b c d => ⟨v, st', rfl, a, by omega, c, by omega, rfl⟩)) (fun x δ1 h => ?_)
    obtain ⟨_, rfl, c, sc', rfl, c0, c1, o, ec, rfl⟩ := h
    refine jxs_cons (jx_cdraw (i := 0) (R := fun i δ' => ∃ z9 st', i = 1 + z9 ∧ 0 ≤ z9 ∧ z9 < 3 ∧ st'.Ok ∧ st'.k = st.k + 6 ∧ δ' = [some (.o (SK.m (some p) st')), some (.d (.int 5)), some (.d (.int 1)), some (.d (.int (2 + v))), some (.d (.int (1 + u))), none]) je_int h_draw hr rfl je_int ⟨o, by omega, by omega, by omega⟩ (fun v st' a b c d => ⟨v, st', rfl, a, by omega, c, by omega, rfl⟩)) (fun x δ1 h => ?_)
    obtain ⟨_, rfl, d, sd, rfl, d0, d1, o, ed, rfl⟩ := h
    exact jxs_nil ⟨by simp, a, b, c, d, sd, rfl, rfl, a0, a1, b0, b1, c0, c1, d0, d1, o, ed⟩
  obtain ⟨a, b, c, d, st3, rfl, a0, a1, b0, b1, c0, c1, d0, d1, o, e3⟩ := e

  refine js_ret sl (R := fun x δ' => ∃ g h i st4, x = .tuple [.int (2 + v), .int (1 + a), .int (1 + u), .int b, .int (1 + c), .int (1 + d), .int (1 + g), .int (1 + h), .int i] ∧ δ' = [some (.o (SK.m (some p) st4)), some (.d (.int 5)), some (.d (.int 1)), some (.d (.int (2 + v))), some (.d (.int (1 + u))), some (.d (.tuple [.int (2 + v), .int (1 + a), .int (1 + u), .int b, .int (1 + c), .int (1 + d)]))] ∧ 0 ≤ g ∧ g < 2 ∧ 0 ≤ h ∧ h < 2 ∧ 0 ≤ i ∧ i < 2 ∧ st4.Ok ∧ st4.k = st.k + 9) (jx_cat (jx_of (je_nm (i := 5) rfl rfl)) fun x δ1 h => ?_) fun y H2 x δ' hx sl' dv => ?_
  · obtain ⟨rfl, rfl⟩ := h
    refine ⟨_, rfl, jx_tup ?_⟩
    refine jxs_cons (jx_cdraw (i := 0) (R := fun i δ' => ∃ z9 st', i = 1 + z9 ∧ 0 ≤ z9 ∧ z9 < 2 ∧ st'.Ok ∧ st'.k = st.k + 7 ∧ δ' = [some (.o (SK.m (some p) st')), some (.d (.int 5)), some (.d (.int 1)), some (.d (.int (2 + v))), some (.d (.int (1 + u))), some (.d (.tuple [.int (2 + v), .int (1 + a), .int (1 + u), .int b, .int (1 + c), .int (1 + d)]))]) je_int h_draw hr rfl je_int ⟨o, by omega, by omega, by omega⟩ (fun v st' a b c d => ⟨v, st', rfl, a, by omega, c, by omega, rfl⟩)) (fun x δ1 h => ?_)
    obtain ⟨_, rfl, g, sg, rfl, g0, g1, o, eg, rfl⟩ := h
    refine jxs_cons (jx_cdraw (i := 0) (R := fun i δ' => ∃ z9 st', i = 1 + z9 ∧ 0 ≤ z9 ∧ z9 < 2 ∧ st'.Ok ∧ st'.k = st.k + 8 ∧ δ' = [some (.o (SK.m (some p) st')), some (.d (.int 5)), some (.d (.int 1)), some (.d (.int (2 + v))), some (.d (.int (1 + u))), some (.d (.tuple [.int (2 + v), .int (1 + a), .int (1 + u), .int b, .int (1 + c), .int (1 + d)]))]) je_int h_draw hr rfl je_int ⟨o, by omega, by omega, by omega⟩ (fun v st' a b c d => ⟨v, st', rfl, a, by omega, c, by omega, rfl⟩)) (fun x δ1 h => ?_)
    obtain ⟨_, rfl, h, sh, rfl, h0, h1, o, eh, rfl⟩ := h
    refine jxs_cons (jx_draw (i := 0) (R := fun i δ' => ∃ st', 0 ≤ i ∧ i < 2 ∧ st'.Ok ∧ st'.k = st.k + 9 ∧ δ' = [some (.o (SK.m (some p) st')), some (.d (.int 5)), some (.d (.int 1)), some (.d (.int (2 + v))), some (.d (.int (1 + u))), some (.d (.tuple [.int (2 + v), .int (1 + a), .int (1 + u), .int b, .int (1 + c), .int (1 + d)]))]) h_draw hr rfl (je_add (je_nm (i := 2) rfl rfl) je_int) ⟨o, by omega, by omega, by omega⟩ (fun v st' a b c d => ⟨st', a, by omega, c, by omega, rfl⟩)) (fun x δ1 h => ?_)
    obtain ⟨i, rfl, si, i0, i1, o, ei, rfl⟩ := h
    exact jxs_nil ⟨by simp, _, rfl, by simp, g, h, i, si, rfl, rfl, g0, g1, h0, h1, i0, i1, o, ei⟩
  · obtain ⟨g, h, i, st4, rfl, rfl, g0, g1, h0, h1, i0, i1, o, e4⟩ := hx
    exact hD y _ _ H2 _ st4 sl' rfl ⟨⟨2 + v, 1 + a, 1 + u, b, 1 + c, 1 + d, 1 + g, 1 + h, i⟩, rfl, ⟨by show 2 ≤ 2 + v; omega, by show 2 + v ≤ 5; omega, by show 1 ≤ 1 + a; omega, by show 1 + a ≤ 3; omega, by show 1 ≤ 1 + u; omega, by show 1 + u ≤ 2 + v; omega, by show 0 ≤ b; omega, by show b ≤ 1 + u - 1; omega, by show 1 ≤ 1 + h; omega, by show 1 + h ≤ 2; omega, by show 0 ≤ i; omega, by show i ≤ 1; omega⟩, o, e4⟩ dv

theorem ok__law_range {k : Nat} {f : Addr} {fd : FuncData} (T : Txt mg) (h_draw : Has P w K mg base k "_law_draw" ["_law_m", "_law_limit"] sp__law_draw) (F : Fun K "_law_range" "_law_range" (top 78) f fd) : FnOk P w K mg base CX0 (k + 1) f fd ["_law_m", "_law_low", "_law_wide", "_law_most_so"] sp__law_range := by
  have sc : FnScope ["_law_m", "_law_low", "_law_wide", "_law_most_so", "_law_begin"] ["_law_m", "_law_low", "_law_wide", "_law_most_so"] (defScope (top 78)) := ⟨rfl, rfl, rfl, by decide +kernel, rfl, by decide +kernel, by decide +kernel⟩
  have nd : (["_law_m", "_law_low", "_law_wide", "_law_most_so", "_law_begin"] : List Str).Nodup := by decide +kernel
  refine fnM_ok F sc (fun _ => rfl) (fun cdv A outer s H E st _ p hr hp H0 D hD σ H1 sl => ?_)
  obtain ⟨o, k9⟩ := hp

  refine js_then sl (E1 := fun δ => ∃ v st1, δ = [some (.o (SK.m (some p) st1)), some (.d (.int 4)), some (.d (.int 3)), some (.d (.int 300)), some (.d (.int v))] ∧ 0 ≤ v ∧ v < 4 ∧ st1.Ok ∧ st1.k = st.k + 1)
    (jp_setX (i := 4) (jx_draw (i := 0) (R := fun i δ' => ∃ st1, 0 ≤ i ∧ i < 4 ∧ st1.Ok ∧ st1.k = st.k + 1 ∧ δ' = [some (.o (SK.m (some p) st1)), some (.d (.int 4)), some (.d (.int 3)), some (.d (.int 300)), none]) h_draw hr rfl (je_nm (i := 1) rfl rfl) ⟨o, by omega, by omega, by omega⟩ (fun v st' a b c d => ⟨st', a, by omega, c, d, rfl⟩)) (fun d δ' ⟨i, e1, st1, a, b, c, e, e3⟩ => ⟨i, st1, by rw [e1, e3]; rfl, a, b, c, e⟩) nd) fun σ H1 δ sl e => ?_
  obtain ⟨v, st1, rfl, v0, v1, o, e1⟩ := e
  refine js_ret sl (R := fun x δ' => ∃ j st2, x = .tuple [.int v, .int (min 300 (v + j))] ∧ δ' = [some (.o (SK.m (some p) st2)), some (.d (.int 4)), some (.d (.int 3)), some (.d (.int 300)), some (.d (.int v))] ∧ 0 ≤ j ∧ j < 3 ∧ st2.Ok ∧ st2.k = st.k + 2) (jx_tup ?_) fun y H2 x δ' hx sl' dv => ?_
  · refine jxs_cons (jx_of (je_nm (i := 4) rfl rfl)) (fun x δ1 h => ?_)
    obtain ⟨rfl, rfl⟩ := h
    refine jxs_cons (jx_min (R := fun i δ' => ∃ j st', i = min 300 (v + j) ∧ 0 ≤ j ∧ j < 3 ∧ st'.Ok ∧ st'.k = st.k + 2 ∧ δ' = [some (.o (SK.m (some p) st')), some (.d (.int 4)), some (.d (.int 3)), some (.d (.int 300)), some (.d (.int v))]) T.min (je_nm (i := 3) rfl rfl) (jx_cdraw (i := 0) (lim := 3) (je_nm (i := 4) rfl rfl) h_draw hr rfl (je_nm (i := 2) rfl rfl) ⟨o, by omega, by omega, by omega⟩ (fun v st' a b c d => ⟨v, st', rfl, a, by omega, c, by omega, rfl⟩))) (fun x δ1 h => ?_)
    obtain ⟨_, rfl, j, sj, rfl, j0, j1, o, ej, rfl⟩ := h
    exact jxs_nil ⟨by simp, j, sj, rfl, rfl, j0, j1, o, ej⟩
  · obtain ⟨j, st2, rfl, rfl, j0, j1, o, e2⟩ := hx
    exact hD y _ _ H2 _ st2 sl' rfl ⟨(v, min 300 (v + j)), rfl, ⟨by show 0 ≤ v; omega, by show v ≤ min 300 (v + j); omega, by show min 300 (v + j) ≤ 300; omega⟩, by show min 300 (v + j) ≤ 5; omega, o, e2⟩ dv

end
end Pq

namespace Pq
open PySem PySem.Spec L2
open PyProof.Rows hiding St
open Evl (Ex)

/-! ### d != {} -/
section
variable {prog : Program} {w : World} {A : Around} {E : Value → Shared → Prop} {s : Shared}
theorem samePairs0 {nm : String} {a b : Addr} {oa ob : Obj} {es : Array DictEntry} {ep ep' : Nat} {Q : Bool → Shared → Prop} (ha : (a == sysModules) = false) (hb : (b == sysModules) = false) (hoa : s.heap.get? a = some oa) (hda : oa.data = .dict es ep) (hob : s.heap.get? b = some ob) (hdb : ob.data = .dict #[] ep') (h : Q (es.size == 0) s) :
    wpAny (model prog w) A (Builtin.Dict.samePairs nm a b) Q E s := by
  unfold Builtin.Dict.samePairs Builtin.Dict.showsAll
  rw [if_neg (show ¬ (a == sysModules) = true by rw [ha]; exact Bool.false_ne_true), if_neg (show ¬ (b == sysModules) = true by rw [hb]; exact Bool.false_ne_true)]
  refine wpAny_bind (wpAny_pure (wpAny_bind (wpAny_pure ?_)))
  refine wpAny_bind (wpAny_dictEntries hoa hda ?_)
  dsimp only
  refine wpAny_bind (wpAny_dictEntries hob hdb ?_)
  by_cases hsz : es.size = 0
  · obtain rfl := Array.eq_empty_of_size_eq_zero hsz
    rw [if_neg (by simp)]
    refine wpAny_bind (wpAny_dictEpoch hoa hda ?_)
    refine wpAny_bind ?_
    rw [Std.Legacy.Range.forIn_eq_forIn_range']
    simp only [Std.Legacy.Range.size, Nat.sub_zero, Nat.add_sub_cancel, Nat.div_one]
    refine wpAny_forIn_list _ (fun rest q s' => s' = s ∧ q = (none, ()) ∧ rest = []) _ ?_ ?_ _ _ ⟨rfl, rfl, rfl⟩
    · rintro x rest q s' ⟨_, _, hr⟩
      cases hr
    · rintro q s' ⟨rfl, rfl, _⟩
      refine wpAny_pure ?_
      exact h
  · rw [if_pos (by simpa using hsz)]
    have hbf : (es.size == 0) = false := by simpa using hsz
    rw [hbf] at h
    exact wpAny_bind (wpAny_rule (wpAny_pure h))
theorem ne_empty {a b : Addr} {oa ob : Obj} {es : Array DictEntry} {ep ep' : Nat} {Q : Value → Shared → Prop} (ta : s.TypeIs (.ref a) "dict") (tb : s.TypeIs (.ref b) "dict") (ha : (a == sysModules) = false) (hb : (b == sysModules) = false) (hoa : s.heap.get? a = some oa) (hda : oa.data = .dict es ep) (hob : s.heap.get? b = some ob) (hdb : ob.data = .dict #[] ep') (hu : A.units < cLine) (h : Q (.bool (!(es.size == 0))) s) :
    wpAny (model prog w) A (compareOp .NotEq (.ref a) (.ref b)) Q E s := by
  refine wpAny_richCompare_same_room (op := .NotEq) ta tb PySem.F.slot_dict_ne (wpAny_call_entry PySem.F.slot_dict_ne ta PySem.F.entry_dict_ne ?_ (PySem.F.args_dict_ne_2 _ _)) hu
  show wpAny _ _ (Builtin.Dict.dictSlotArgs "__ne__" ⟨[.ref a, .ref b], []⟩ >>= _) _ _ s
  refine wpAny_bind ?_
  unfold Builtin.Dict.dictSlotArgs
  refine wpAny_bind (wpAny_notOrdered_dict ta ?_)
  show wpAny _ _ (pure (Value.ref a, Value.ref b)) _ _ s
  refine wpAny_pure ?_
  refine wpAny_bind (wpAny_isInstance (T := "dict") tb PySem.F.sub_dict_dict ?_)
  simp only [Bool.not_true, Bool.false_eq_true, if_false]
  refine wpAny_bind (wpAny_pure (wpAny_bind (wpAny_pure ?_)))
  refine wpAny_bind (samePairs0 ha hb hoa hda hob hdb ?_)
  refine wpAny_pure ⟨_, rfl, ?_, ?_⟩
  · exact fun x => nomatch x
  · simpa using h
end
section
variable {X : Cx} {Φ : Lk} {δ : Slots} {E : En} {e a b c : Expr} {pos : Pos} {j : Nat}
theorem jc_neN0 {P : Program} {w : World} {kvs : List (NestedKey × PyData)} {p2 : Pos} (hr : Room j X.A) (ha : JR X Φ a δ (SK.nr P w kvs)) (hP : P = X.prog := by rfl) (hw : w = X.w := by rfl) : JC X Φ .NotEq a (.Dict [] [] p2) δ (!decide (kvs = [])) := fun H0 σ H1 sl Q q => by
  subst hP hw
  intro pins s I
  refine thn (ha.go sl I) fun v s1 ⟨x, H2, F, I2, r2, e1, i1⟩ => ?_
  refine thn ((je_newN (P := X.prog) (w := X.w)).go (sl.mono e1) I2) fun u s2 ⟨y, H3, G, I3, r3, e2, i2⟩ => ?_
  obtain ⟨p, rfl, _, hd⟩ := (SK.nr X.prog X.w kvs).ex i1 e2
  obtain ⟨⟨p2, rfl, _, hd2⟩, _⟩ := i2
  rw [ref_of r2, ref_of r3]
  have t1 := rdN_type I3 hd
  have t2 := rdN_type I3 hd2.rd
  obtain ⟨hs, raw, rd, rk⟩ := hd
  obtain ⟨hs2, raw2, rd2, rk2⟩ := hd2
  obtain ⟨xs, rx, o, es, ep, ho, hx, hdt, he, _⟩ := RdN.phi I3 rd
  obtain ⟨xs2, rx2, o2, es2, ep2, ho2, hx2, hdt2, he2, _⟩ := RdN.phi I3 (.inl rd2)
  cases rk2
  cases rx2
  have ees : es2 = #[] := Array.toList_eq_nil_iff.mp he2
  subst ees
  have hsz : es.size = kvs.length := by rw [size_of_entries he, ← rx.len, rk.len]
  refine ne_empty t1 t2 hs hs2 ho hdt ho2 hdt2 (by have := hr.units; omega) ⟨.bl (!decide (kvs = [])), H3, I3, ?_, q H3 (e1.trans e2)⟩
  show _ = Value.bool _
  congr 2
  rw [hsz]
  cases kvs with
  | nil => rfl
  | cons x t => simp
/-- x, y = a name: a borrowed pair is taken apart -/
theorem jp_unPrB {i j m : Nat} {x y z : Str} {k : Nat} {px py pz pt : Pos} {S T : SK} (hd : δ[m]? = some (some (.bo (SK.pr S T)))) (hn : E.nx ((δ.set i (some (.bo S))).set j (some (.bo T)))) (hN : X.N.Nodup) (hm : X.N[m]? = some z := by rfl) (hi : X.N[i]? = some x := by rfl) (hj : X.N[j]? = some y := by rfl)
    (hv : Vis X.env.scope z := by first | exact Or.inl rfl | exact Or.inr (Or.inl rfl) | exact Or.inr (Or.inr rfl)) (d1 : (z == ("__debug__" : Str)) = false := by decide) (d2 : (z == ("__classdict__" : Str)) = false := by decide)
    (hx : Loc X.env.scope x := by first | exact Or.inl rfl | exact Or.inr rfl) (hy : Loc X.env.scope y := by first | exact Or.inl rfl | exact Or.inr rfl)
    (fx : X.fn x = true ∨ X.env.scope.names.lookup x = some .local := by first | exact .inl rfl | exact .inr rfl) (fy : X.fn y = true ∨ X.env.scope.names.lookup y = some .local := by first | exact .inl rfl | exact .inr rfl)
    (s1 : (assignEach (.Name x px :: [.Name y py]) X.env).map (·.2) = assign (.Name x px) X.env :: (assignEach [.Name y py] X.env).map (·.2) := by rfl)
    (s2 : (assignEach (.Name y py :: []) X.env).map (·.2) = assign (.Name y py) X.env :: (assignEach [] X.env).map (·.2) := by rfl)
    (hc : X.calm = true := by rfl) (hl : (assignEach [.Name x px, .Name y py] X.env).length = [Expr.Name x px, Expr.Name y py].length := by rfl) (hst : (assignEach [.Name x px, .Name y py] X.env).findIdx? (·.1) = none := by rfl)
    (hs : swapsWithSole [.Tuple [.Name x px, .Name y py] k pt] (.Name z pz) pos.line X.env = pure false := by rfl) (hw : swappedStores [.Tuple [.Name x px, .Name y py] k pt] (.Name z pz) X.env = pure none := by rfl)
    (h1 : (assignEach [.Tuple [.Name x px, .Name y py] k pt] X.env).map (·.2) = [assign (.Tuple [.Name x px, .Name y py] k pt) X.env] := by rfl) : JP X Φ (.Assign [.Tuple [.Name x px, .Name y py] k pt] (.Name z pz) pos) δ E := fun H0 σ H1 D sl g => by
  refine s_of (ps_asg (pe_var hm hv d1 d2) (pg_tup hc (pgs_cons (pg_name hN hi hx fx) (pgs_cons (pg_name hN hj hy fy) pgs_nil s2) s1) hl hst) hs hw h1) ?_
  obtain ⟨F, f⟩ := sl.at_
  obtain ⟨v, hv0, ⟨_, G, t, u, z', F1, F2, rfl, ht, _, b1, b2, _⟩⟩ := f.some_ m _ hd
  have ht1 := sl.ex _ _ ht
  refine ⟨_, hv0, t, [u, z'], rfl, SqT.of ht1, rfl, u, [z'], rfl, z', [], rfl, rfl, g.nx _ _ _ ?_ hn⟩
  have s1 := sl.set_new (Evl.Ex.refl H1) (i := i) (k := .bo S) (v := u) (G := []) ⟨rfl, F1, b1⟩ (fun _ z => nomatch z)
  exact s1.set_new (Evl.Ex.refl H1) (i := j) (k := .bo T) (v := z') (G := []) ⟨rfl, F2, b2⟩ (fun _ z => nomatch z)
end
/-- a tuple of two pairs, each a thing and a word -/
def SK.t2 (u1 u2 : V) (w1 w2 : Str) : SK where
  is H v F := ∃ p a1 a2, v = .ref p ∧ F = [p] ∧ H p = some (.tup [.ref a1, .ref a2]) ∧ H a1 = some (.tup [u1, .str w1]) ∧ H a2 = some (.tup [u2, .str w2])
  stay := by
    rintro H H' v F ⟨p, a1, a2, rfl, rfl, hp, h1, h2⟩ e k
    exact ⟨p, a1, a2, rfl, rfl, e _ _ hp, e _ _ h1, e _ _ h2⟩
  dom := by
    rintro H v F ⟨p, a1, a2, rfl, rfl, hp, h1, h2⟩ a ha
    obtain rfl : a = p := by simpa using ha
    exact ⟨_, hp⟩
section
variable {X : Cx} {Φ : Lk} {δ : Slots} {E : En} {pos : Pos} {j : Nat}
/-- for x1, x2 in ((y1, w1), (y2, w2)): two turns -/
theorem jp_for2 {body : List Stmt} {i1 i2 j1 j2 : Nat} {S1 S2 : SK} {w1 w2 x1 x2 y1 y2 : Str} {k k1 k2 k3 : Nat} {jj1 jj2} {q0 q1 q2 q3 q4 q5 q6 q7 q8 q9 : Pos} (b1 : δ[i1]? = some (some (.bo S1))) (b2 : δ[i2]? = some (some (.bo S2))) (I : Nat → Slots → Prop) (h0 : I 0 δ)
    (hs0 : ∀ Φ' δ1, I 0 δ1 → JS X Φ' body ((δ1.set j1 (some (.bo S1))).set j2 (some (.d (.str w1)))) ⟨I 1, E.rt, E.nx, I 1⟩)
    (hs1 : ∀ Φ' δ1, I 1 δ1 → JS X Φ' body ((δ1.set j1 (some (.bo S2))).set j2 (some (.d (.str w2)))) ⟨I 2, E.rt, E.nx, I 2⟩) (hd : ∀ δ1, I 2 δ1 → E.nx δ1) (nd : X.N.Nodup)
    (hN1 : X.N[i1]? = some y1 := by rfl) (hN2 : X.N[i2]? = some y2 := by rfl) (hM1 : X.N[j1]? = some x1 := by rfl) (hM2 : X.N[j2]? = some x2 := by rfl)
    (v1 : Vis X.env.scope y1 := by first | exact Or.inl rfl | exact Or.inr (Or.inl rfl) | exact Or.inr (Or.inr rfl)) (v2 : Vis X.env.scope y2 := by first | exact Or.inl rfl | exact Or.inr (Or.inl rfl) | exact Or.inr (Or.inr rfl))
    (d1 : (y1 == ("__debug__" : Str)) = false := by decide) (c1 : (y1 == ("__classdict__" : Str)) = false := by decide) (d2 : (y2 == ("__debug__" : Str)) = false := by decide) (c2 : (y2 == ("__classdict__" : Str)) = false := by decide)
    (hx : Loc X.env.scope x1 := by first | exact Or.inl rfl | exact Or.inr rfl) (hy : Loc X.env.scope x2 := by first | exact Or.inl rfl | exact Or.inr rfl)
    (fx : X.fn x1 = true ∨ X.env.scope.names.lookup x1 = some .local := by first | exact .inl rfl | exact .inr rfl) (fy : X.fn x2 = true ∨ X.env.scope.names.lookup x2 = some .local := by first | exact .inl rfl | exact .inr rfl)
    (s1 : (assignEach (.Name x1 q0 :: [.Name x2 q1]) X.env).map (·.2) = assign (.Name x1 q0) X.env :: (assignEach [.Name x2 q1] X.env).map (·.2) := by rfl)
    (s2 : (assignEach (.Name x2 q1 :: []) X.env).map (·.2) = assign (.Name x2 q1) X.env :: (assignEach [] X.env).map (·.2) := by rfl)
    (hl : (assignEach [.Name x1 q0, .Name x2 q1] X.env).length = [Expr.Name x1 q0, Expr.Name x2 q1].length := by rfl) (hst : (assignEach [.Name x1 q0, .Name x2 q1] X.env).findIdx? (·.1) = none := by rfl)
    (n1 : NS (.Name y1 q2) := by exact fun _ _ => rfl) (n2 : NS (.Name y2 q3) := by exact fun _ _ => rfl) (n3 : NS (.Constant (.str w1) jj1 q4) := by exact fun _ _ => rfl) (n4 : NS (.Constant (.str w2) jj2 q5) := by exact fun _ _ => rfl)
    (n5 : NS (.Tuple [.Name y1 q2, .Constant (.str w1) jj1 q4] k1 q6) := by exact fun _ _ => rfl) (n6 : NS (.Tuple [.Name y2 q3, .Constant (.str w2) jj2 q5] k2 q7) := by exact fun _ _ => rfl)
    (hp : PassesOwn (model X.prog X.w) X.A X.env X.xe := by exact PassesOwn.never) (hc : X.calm = true := by rfl) (hf : ∀ x, foldedSetIterable (.Tuple [.Tuple [.Name y1 q2, .Constant (.str w1) jj1 q4] k1 q6, .Tuple [.Name y2 q3, .Constant (.str w2) jj2 q5] k2 q7] k3 q8) X.env x = pure x := by intro _; rfl) :
    JP X Φ (.For (.Tuple [.Name x1 q0, .Name x2 q1] k q9) (.Tuple [.Tuple [.Name y1 q2, .Constant (.str w1) jj1 q4] k1 q6, .Tuple [.Name y2 q3, .Constant (.str w2) jj2 q5] k2 q7] k3 q8) body [] pos) δ E := fun H0 σ H1 D sl g => by
  refine s_of (ps_for hp hc (pi_tup (pe_tup (pa_cons (pe_tup (pa_cons (pe_var hN1 v1 d1 c1) (pa_cons pe_str pa_nil (n3 _ _)) (n1 _ _))) (pa_cons (pe_tup (pa_cons (pe_var hN2 v2 d2 c2) (pa_cons pe_str pa_nil (n4 _ _)) (n2 _ _))) pa_nil (n6 _ _)) (n5 _ _)))) (pg_tup hc (pgs_cons (pg_name nd hM1 hx fx) (pgs_cons (pg_name nd hM2 hy fy) pgs_nil s2) s1) hl hst) pss_w hf) ?_
  obtain ⟨F, f⟩ := sl.at_
  obtain ⟨u1, hu1, ⟨_, G1, g1⟩⟩ := f.some_ i1 _ b1
  obtain ⟨u2, hu2, ⟨_, G2, g2⟩⟩ := f.some_ i2 _ b2
  refine ⟨u1, hu1, by show 2 ≤ sizeLine; decide, fun a1 ha1 => ?_⟩
  refine ⟨u2, hu2, by show 2 ≤ sizeLine; decide, fun a2 ha2 => ?_⟩
  refine ⟨by show 2 ≤ sizeLine; decide, fun p hp' => ?_⟩
  have x1' : Ex H1 (upd H1 a1 (.tup [u1, .str w1])) := Evl.Ex.new ha1
  have x2' := Evl.Ex.new (o := HO.tup [u2, .str w2]) ha2
  have x3' := Evl.Ex.new (o := HO.tup [.ref a1, .ref a2]) hp'
  refine ⟨p, rfl, ⟨_, SqT.of upd_same⟩, ?_⟩
  have st0 := sl.lock_new (Ψ := [(p, SK.t2 u1 u2 w1 w2)]) ((x1'.trans x2').trans x3') fun q hq => by
    obtain rfl : q = (p, SK.t2 u1 u2 w1 w2) := by simpa using hq
    exact ⟨⟨p, a1, a2, rfl, rfl, upd_same, x3' _ _ (x2' _ _ upd_same), x3' _ _ upd_same⟩, .inr ⟨_, upd_same⟩⟩
  generalize upd (upd (upd H1 a1 (.tup [u1, .str w1])) a2 (.tup [u2, .str w2])) p (.tup [.ref a1, .ref a2]) = Hs at st0 ⊢
  refine ⟨fun i m σ H => m + i = 2 ∧ ∃ δ1, Sl H0 ([(p, SK.t2 u1 u2 w1 w2)] ++ Φ) H σ δ1 ∧ I i δ1, ⟨2, rfl, δ, st0, h0⟩, ?_⟩
  rintro i m σ H ⟨him, δ1, sl1, hI⟩
  obtain ⟨p', b1', b2', ep, _, t0, t1, t2⟩ := sl_lock sl1 (List.mem_append_left _ List.mem_cons_self)
  cases ep
  match i, m, him, hI with
  | 2, 0, _, hI => exact .inl ⟨⟨_, SqT.of t0, Nat.le_refl _⟩, g.nx σ H δ1 sl1.drop_locks (hd δ1 hI)⟩
  | 0, 2, _, hI =>
    refine .inr ⟨⟨_, _, SqT.of t0, rfl⟩, fun σ H => ∃ δ1, Sl H0 ([(p, SK.t2 u1 u2 w1 w2)] ++ Φ) H σ δ1 ∧ I 1 δ1, fun σ' H' z => ⟨1, by decide, rfl, z⟩, fun x H' y => ?_⟩
    obtain ⟨rfl, y⟩ := y
    have ex := y _ (SqT.of t0)
    cases ex
    refine ⟨b1', [u1, .str w1], rfl, SqT.of t1, rfl, u1, [.str w1], rfl, .str w1, [], rfl, rfl, ?_⟩
    have s3 := (sl1.set_new (Evl.Ex.refl _) (i := j1) (k := .bo S1) (v := u1) (G := []) ⟨rfl, G1, g1⟩ (fun _ z => nomatch z)).set_new (Evl.Ex.refl _) (i := j2) (k := .d (.str w1)) (v := .str w1) (G := []) ⟨rfl, .str _⟩ (fun _ z => nomatch z)
    exact hs0 _ δ1 hI H0 _ _ _ s3 ⟨fun σ3 H3 δ3 s3 q3 => ⟨δ3, s3, q3⟩, fun v3 H3 k3 F3 ⟨σ3, δ3, s3⟩ => g.rt v3 H3 k3 F3 ⟨σ3, δ3, s3.drop_locks⟩, fun σ3 H3 δ3 s3 q3 => g.nx σ3 H3 δ3 s3.drop_locks q3, fun σ3 H3 δ3 s3 q3 => ⟨δ3, s3, q3⟩⟩
  | 1, 1, _, hI =>
    refine .inr ⟨⟨_, _, SqT.of t0, rfl⟩, fun σ H => ∃ δ1, Sl H0 ([(p, SK.t2 u1 u2 w1 w2)] ++ Φ) H σ δ1 ∧ I 2 δ1, fun σ' H' z => ⟨0, by decide, rfl, z⟩, fun x H' y => ?_⟩
    obtain ⟨rfl, y⟩ := y
    have ex := y _ (SqT.of t0)
    cases ex
    refine ⟨b2', [u2, .str w2], rfl, SqT.of t2, rfl, u2, [.str w2], rfl, .str w2, [], rfl, rfl, ?_⟩
    have s3 := (sl1.set_new (Evl.Ex.refl _) (i := j1) (k := .bo S2) (v := u2) (G := []) ⟨rfl, G2, g2⟩ (fun _ z => nomatch z)).set_new (Evl.Ex.refl _) (i := j2) (k := .d (.str w2)) (v := .str w2) (G := []) ⟨rfl, .str _⟩ (fun _ z => nomatch z)
    exact hs1 _ δ1 hI H0 _ _ _ s3 ⟨fun σ3 H3 δ3 s3 q3 => ⟨δ3, s3, q3⟩, fun v3 H3 k3 F3 ⟨σ3, δ3, s3⟩ => g.rt v3 H3 k3 F3 ⟨σ3, δ3, s3.drop_locks⟩, fun σ3 H3 δ3 s3 q3 => g.nx σ3 H3 δ3 s3.drop_locks q3, fun σ3 H3 δ3 s3 q3 => ⟨δ3, s3, q3⟩⟩
end
theorem at_first {α : Type} {e : α → PyData} {x : α} {t : List α} : atI ((x :: t).map e) 0 = some (e x) := by
  unfold atI ixN
  rw [if_pos (by omega), if_pos (by simp)]
  rfl
theorem at_last {α : Type} {e : α → PyData} {l : List α} (h : l ≠ []) : atI (l.map e) (-1) = some (e (l.getLast h)) := by
  have hl : 0 < l.length := List.length_pos_iff.mpr h
  have e0 : ixN l.length (-1) = some (l.length - 1) := by
    unfold ixN
    rw [if_neg (by omega), if_pos (by omega)]
    congr 1
    omega
  unfold atI
  rw [List.length_map, e0]
  simp only [Option.bind_some, List.getElem?_map]
  rw [← List.getLast?_eq_getElem?, List.getLast?_eq_some_getLast h]
  rfl

end Pq

namespace Pq
open PySem PySem.Spec L2
open PyProof.Rows hiding St
open Evl (Ex)

/-! ### both papers are right -/
def s__law_papers_right (P : Program) (w : World) : Rl := RL (fun (x : Wl × (Int × Int) × Int) => match x with | (W, r, n) => W.Ok ∧ RgOk r ∧ 0 ≤ n ∧ n ≤ 4) (fun (W, r, n) => [.d (wD W), .d (dD r), .d (.int n), .bo (SK.pr (SK.n P w (hD (fullM W r n).1)) (SK.n P w (rkD (fullM W r n).2)))]) (fun _ => .d (.bool true))
section
variable {P : Program} {w : World} {K : PySem.W.Frag} {mg : Str → Option Value} {base : Heap}
-- _law_papers_right (top 84)
theorem ok__law_papers_right {k : Nat} {f : Addr} {fd : FuncData} (T : Txt mg) (h_control_paper : Has P w K mg base k "control_paper" ["well", "inflows", "number", "place"] (spF s_control_paper)) (h_check_control : Has P w K mg base k "check_control" ["well", "inflows", "number", "place", "paper"] (spF s_check_control)) (F : Fun K "_law_papers_right" "_law_papers_right" (top 84) f fd) : FnOk P w K mg base CX0 (k + 1) f fd ["_law_well_here", "_law_inflows", "_law_many", "_law_game_here"] (spF (s__law_papers_right P w)) := by
  have sc : FnScope ["_law_well_here", "_law_inflows", "_law_many", "_law_game_here", "_law_held_so", "_law_lost", "_law_some", "_law_word_here", "_law_paper", "_law_pair"] ["_law_well_here", "_law_inflows", "_law_many", "_law_game_here"] (defScope (top 84)) := ⟨rfl, rfl, rfl, by decide +kernel, rfl, by decide +kernel, by decide +kernel⟩
  have nd : (["_law_well_here", "_law_inflows", "_law_many", "_law_game_here", "_law_held_so", "_law_lost", "_law_some", "_law_word_here", "_law_paper", "_law_pair"] : List Str).Nodup := by decide +kernel
  refine fn_ok F sc (RL.len fun _ => rfl) (fun cdv A outer s H E ks r hr hS => ?_)
  obtain ⟨⟨W, r, n⟩, ⟨ok, rg, n0, n4⟩, rfl, rfl⟩ := hS
  have gi := fullM_inv r ok n0 n4
  have gl := gi.len
  have tprs : Tm 4 (.tuple ((sortPr (fullM W r n).2).map prD)) := Tm.tup fun d hd => by
    obtain ⟨x, _, rfl⟩ := List.mem_map.mp hd
    exact tm_prD x
  have tshape : SeqAt.shaped (.tuple ((sortPr (fullM W r n).2).map prD)) = true := tprs.shaped (by decide)
  refine js_cons (jp_unPrB (i := 4) (j := 5) (m := 3) rfl ?_ nd)
  refine js_cons (jp_for2 (i1 := 4) (i2 := 5) (j1 := 6) (j2 := 7) rfl rfl (fun i δ => ∃ a b c d, δ = [some (.d (wD W)), some (.d (dD r)), some (.d (.int n)), some (.bo (SK.pr (SK.n P w (hD (fullM W r n).1)) (SK.n P w (rkD (fullM W r n).2)))), some (.bo (SK.n P w (hD (fullM W r n).1))), some (.bo (SK.n P w (rkD (fullM W r n).2))), a, b, c, d]) ⟨none, none, none, none, rfl⟩ (fun Φ δ1 hI => ?_) (fun Φ δ1 hI => ?_) (fun δ1 hI => ?_) nd)
  · obtain ⟨a, b, c, d, rfl⟩ := hI
    refine js_one (jp_if (jt_c (jc_neN0 hr (jr_n (jr_vb (i := 6) rfl)))) (fun h => ?_) (fun h => js_nil ⟨_, _, _, _, rfl⟩))
    · have hK : (fullM W r n).1 ≠ [] := fun z => by rw [z] at h; cases h
      have hlen : (hD (fullM W r n).1).length ≤ 1000000 := by rw [hD, List.length_map]; omega
      have kok : ∀ p ∈ (fullM W r n).1, p.Ok W n := fun p hp => placesM_ok ok n0 n4 (gi.sub p hp)
      have hne : sortPl ((fullM W r n).1) ≠ [] := fun z => hK (List.eq_nil_of_length_eq_zero (by
        have h1 : (sortPl ((fullM W r n).1)).length = ((fullM W r n).1).length := List.length_mergeSort _
        rw [z] at h1
        exact h1.symm))
      obtain ⟨p0, t0, ht⟩ : ∃ p0 t0, sortPl ((fullM W r n).1) = p0 :: t0 := List.exists_cons_of_ne_nil hne
      have hp0 : p0 ∈ (fullM W r n).1 := mem_sortPl.mp (by rw [ht]; exact List.mem_cons_self)
      have epap : paperM W r n p0 = .tuple [.str "held", .tuple ((planM W r (fullM W r n).1).map plD)] := (if_pos hp0)
      refine js_cons (jp_set (i := 8) (je_is (je_call h_control_paper hr (ja_cons (jg_d (je_nm (i := 0) rfl rfl)) (ja_cons (jg_d (je_nm (i := 1) rfl rfl)) (ja_cons (jg_d (je_nm (i := 2) rfl rfl)) (ja_cons (jg_d (je_ixL (d := pD p0) (jr_new (je_isL (je_sorted hr T.sorted (jr_new (je_isL (je_listN T.list (jr_n (jr_vb (i := 6) rfl)) hlen) (hD_keys _))) (allPl _) (sblPl _) (by rw [List.length_map]; omega) (dpPl _)) (sortPl_map ((fullM W r n).1)))) je_int (by rw [ht]; exact at_first))) ja_nil)))) ⟨(W, r, n, p0), ⟨ok, rg, ⟨n0, n4⟩, kok p0 hp0⟩, rfl, rfl⟩ trivial) epap) trivial ?_ nd)
      have emap : (planM W r (fullM W r n).1).map (fun q => pD q.1) = (sortPl ((fullM W r n).1)).map pD := by unfold planM; rw [List.map_map]; rfl
      have hpl : (planM W r (fullM W r n).1).length ≤ 1000000 := by
        have := congrArg List.length emap
        rw [List.length_map, List.length_map] at this
        have h1 : (sortPl ((fullM W r n).1)).length = ((fullM W r n).1).length := List.length_mergeSort _
        omega
      have hpne : planM W r (fullM W r n).1 ≠ [] := fun z => by
        rw [z, ht] at emap
        cases emap
      refine js_cons (jp_ifno (jt_is (jt_w (jw_or (l := false) (jt_c (jc_neS (je_ix (je_nm (i := 8) rfl rfl) je_int rfl) (je_nm (i := 7) rfl rfl))) fun _ => (jw_or1 (jt_is (jt_c (jc_neD hr (jdp_l (jr_new (je_isL (es' := (sortPl ((fullM W r n).1)).map pD) (je_lcT (l := planM W r (fullM W r n).1) (e' := plD) (f := fun _ => true) (g := fun q => pD q.1) (fun _ _ _ _ h => plD_inj h) (blkOk_by (own := [("_law_pair", 9)]) rfl) nd (jix (ji_tup (je_ix (je_nm (i := 8) rfl rfl) je_int rfl)))
        (fun q hq => ⟨[9], _, by decide, fun s H C cl fp => ⟨tg_name (i := 9) nd, jts_nil, fun _ => je_ix (je_nm (i := 9) rfl rfl) je_int rfl⟩⟩) hpl) (by rw [filtT]; exact emap)))) (jdp_l (jr_new (je_isL (je_sorted hr T.sorted (jr_new (je_isL (je_listN T.list (jr_n (jr_vb (i := 6) rfl)) hlen) (hD_keys _))) (allPl _) (sblPl _) (by rw [List.length_map]; omega) (dpPl _)) (sortPl_map ((fullM W r n).1))))) (tm_lstP.shaped (by decide)) (tm_lstP.shaped (by decide)))) (by rw [Tm.eqv tm_lstP]; rfl))))) (by decide +kernel)) ?_)
      have hgl : ((planM W r (fullM W r n).1).getLast hpne) ∈ planM W r (fullM W r n).1 := List.getLast_mem hpne
      have hgm : ((planM W r (fullM W r n).1).getLast hpne).1 ∈ (fullM W r n).1 := by
        have h1 : pD ((planM W r (fullM W r n).1).getLast hpne).1 ∈ (sortPl ((fullM W r n).1)).map pD := by
          rw [← emap]
          exact List.mem_map_of_mem (f := fun q => pD q.1) hgl
        obtain ⟨x, hx, e⟩ := List.mem_map.mp h1
        rw [← pDInj (l := [x, ((planM W r (fullM W r n).1).getLast hpne).1]) x (by simp) _ (by simp) e]
        exact mem_sortPl.mp hx
      refine js_cons (jp_ifno (jt_is (jt_c (jc_neS (je_call h_check_control hr (ja_cons (jg_d (je_nm (i := 0) rfl rfl)) (ja_cons (jg_d (je_nm (i := 1) rfl rfl)) (ja_cons (jg_d (je_nm (i := 2) rfl rfl)) (ja_cons (jg_d (je_ix (je_ix (je_ix (je_nm (i := 8) rfl rfl) je_int rfl) (je_usub je_int) (at_last hpne)) je_int rfl)) (ja_cons (jg_d (je_nm (i := 8) rfl rfl)) ja_nil))))) (.inl ⟨(W, r, n, ((planM W r (fullM W r n).1).getLast hpne).1, planM W r (fullM W r n).1), ⟨ok, rg, ⟨n0, n4⟩, kok _ hgm, plan_right ok n0 n4 hgm⟩, rfl, rfl⟩) trivial) (je_nm (i := 7) rfl rfl))) (by decide +kernel)) ?_)
      refine js_one (jp_ifno (jt_is (jt_w (jw_and (k := false) (l := true) (jt_is (jt_c (jc_eqS (je_nm (i := 7) rfl rfl) je_str)) (by decide +kernel)) fun z => nomatch z)) (by decide +kernel)) ⟨_, _, _, _, rfl⟩)
  · obtain ⟨a, b, c, d, rfl⟩ := hI
    refine js_one (jp_if (jt_c (jc_neN0 hr (jr_n (jr_vb (i := 6) rfl)))) (fun h => ?_) (fun h => js_nil ⟨_, _, _, _, rfl⟩))
    · have hK : (fullM W r n).2.map (·.1) ≠ [] := fun z => by rw [List.map_eq_nil_iff.mp z] at h; cases h
      have hlen : (rkD (fullM W r n).2).length ≤ 1000000 := by rw [rkD, List.length_map]; omega
      have hlm : ((fullM W r n).2.map (·.1)).length = (fullM W r n).2.length := List.length_map _
      have kok : ∀ p ∈ (fullM W r n).2.map (·.1), p.Ok W n := fun p hp => by
        obtain ⟨q, hq, rfl⟩ := List.mem_map.mp hp
        exact placesM_ok ok n0 n4 (gi.rsub q hq)
      have hne : sortPl ((fullM W r n).2.map (·.1)) ≠ [] := fun z => hK (List.eq_nil_of_length_eq_zero (by
        have h1 : (sortPl ((fullM W r n).2.map (·.1))).length = ((fullM W r n).2.map (·.1)).length := List.length_mergeSort _
        rw [z] at h1
        exact h1.symm))
      obtain ⟨p0, t0, ht⟩ : ∃ p0 t0, sortPl ((fullM W r n).2.map (·.1)) = p0 :: t0 := List.exists_cons_of_ne_nil hne
      have hp0 : p0 ∈ (fullM W r n).2.map (·.1) := mem_sortPl.mp (by rw [ht]; exact List.mem_cons_self)
      have epap : paperM W r n p0 = .tuple [.str "lost", .tuple ((sortPr (fullM W r n).2).map prD)] := (if_neg (fun z => by obtain ⟨q, hq, e⟩ := List.mem_map.mp hp0; exact gi.off p0 z hp0))
      refine js_cons (jp_set (i := 8) (je_is (je_call h_control_paper hr (ja_cons (jg_d (je_nm (i := 0) rfl rfl)) (ja_cons (jg_d (je_nm (i := 1) rfl rfl)) (ja_cons (jg_d (je_nm (i := 2) rfl rfl)) (ja_cons (jg_d (je_ixL (d := pD p0) (jr_new (je_isL (je_sorted hr T.sorted (jr_new (je_isL (je_listN T.list (jr_n (jr_vb (i := 6) rfl)) hlen) (by rw [rkD, List.map_map, List.map_map]; exact List.map_congr_left fun p _ => kP_data p.1))) (allPl _) (sblPl _) (by rw [List.length_map]; omega) (dpPl _)) (sortPl_map ((fullM W r n).2.map (·.1))))) je_int (by rw [ht]; exact at_first))) ja_nil)))) ⟨(W, r, n, p0), ⟨ok, rg, ⟨n0, n4⟩, kok p0 hp0⟩, rfl, rfl⟩ trivial) epap) trivial ?_ nd)
      have emap : (sortPr (fullM W r n).2).map (fun q => pD q.1) = (sortPl ((fullM W r n).2.map (·.1))).map pD := by rw [← sortPr_keys gi.rnd, List.map_map]; rfl
      have hpl : (sortPr (fullM W r n).2).length ≤ 1000000 := by
        have := congrArg List.length emap
        rw [List.length_map, List.length_map] at this
        have h1 : (sortPl ((fullM W r n).2.map (·.1))).length = ((fullM W r n).2.map (·.1)).length := List.length_mergeSort _
        omega
      have hpne : sortPr (fullM W r n).2 ≠ [] := fun z => by
        rw [z, ht] at emap
        cases emap
      refine js_cons (jp_ifno (jt_is (jt_w (jw_or (l := false) (jt_c (jc_neS (je_ix (je_nm (i := 8) rfl rfl) je_int rfl) (je_nm (i := 7) rfl rfl))) fun _ => (jw_or1 (jt_is (jt_c (jc_neD hr (jdp_l (jr_new (je_isL (es' := (sortPl ((fullM W r n).2.map (·.1))).map pD) (je_lcT (l := sortPr (fullM W r n).2) (e' := prD) (f := fun _ => true) (g := fun q => pD q.1) (fun _ _ _ _ h => prD_inj h) (blkOk_by (own := [("_law_pair", 9)]) rfl) nd (jix (ji_tup (je_ix (je_nm (i := 8) rfl rfl) je_int rfl)))
        (fun q hq => ⟨[9], _, by decide, fun s H C cl fp => ⟨tg_name (i := 9) nd, jts_nil, fun _ => je_ix (je_nm (i := 9) rfl rfl) je_int rfl⟩⟩) hpl) (by rw [filtT]; exact emap)))) (jdp_l (jr_new (je_isL (je_sorted hr T.sorted (jr_new (je_isL (je_listN T.list (jr_n (jr_vb (i := 6) rfl)) hlen) (by rw [rkD, List.map_map, List.map_map]; exact List.map_congr_left fun p _ => kP_data p.1))) (allPl _) (sblPl _) (by rw [List.length_map]; omega) (dpPl _)) (sortPl_map ((fullM W r n).2.map (·.1)))))) (tm_lstP.shaped (by decide)) (tm_lstP.shaped (by decide)))) (by rw [Tm.eqv tm_lstP]; rfl))))) (by decide +kernel)) ?_)
      have hgl : ((sortPr (fullM W r n).2).getLast hpne) ∈ sortPr (fullM W r n).2 := List.getLast_mem hpne
      have hgm : ((sortPr (fullM W r n).2).getLast hpne).1 ∈ (fullM W r n).2.map (·.1) := by
        have h1 : pD ((sortPr (fullM W r n).2).getLast hpne).1 ∈ (sortPl ((fullM W r n).2.map (·.1))).map pD := by
          rw [← emap]
          exact List.mem_map_of_mem (f := fun q => pD q.1) hgl
        obtain ⟨x, hx, e⟩ := List.mem_map.mp h1
        rw [← pDInj (l := [x, ((sortPr (fullM W r n).2).getLast hpne).1]) x (by simp) _ (by simp) e]
        exact mem_sortPl.mp hx
      refine js_cons (jp_ifno (jt_is (jt_c (jc_neS (je_call h_check_control hr (ja_cons (jg_d (je_nm (i := 0) rfl rfl)) (ja_cons (jg_d (je_nm (i := 1) rfl rfl)) (ja_cons (jg_d (je_nm (i := 2) rfl rfl)) (ja_cons (jg_d (je_ix (je_ix (je_ix (je_nm (i := 8) rfl rfl) je_int rfl) (je_usub je_int) (at_last hpne)) je_int rfl)) (ja_cons (jg_d (je_nm (i := 8) rfl rfl)) ja_nil))))) (.inr ⟨(W, r, n, ((sortPr (fullM W r n).2).getLast hpne).1, sortPr (fullM W r n).2), ⟨ok, rg, ⟨n0, n4⟩, kok _ hgm, rank_right ok n0 n4 hgm⟩, rfl, rfl⟩) trivial) (je_nm (i := 7) rfl rfl))) (by decide +kernel)) ?_)
      refine js_one (jp_ifno (jt_is (jt_w (jw_and (k := true) (l := false) (jt_is (jt_c (jc_eqS (je_nm (i := 7) rfl rfl) je_str)) (by decide +kernel)) fun _ => (jw_and1 (jt_is (jt_c (jc_neD hr (jdp_d (je_ix (je_nm (i := 8) rfl rfl) je_int rfl)) (jdp_d (je_is (y := .tuple ((sortPr (fullM W r n).2).map prD)) (je_tupL T.tuple (jr_new (je_sorted hr T.sorted (jr_new (je_isL (je_listItems T.list (jr_n (jr_vb (i := 5) rfl)) (by rw [rkD, List.length_map]; omega)) (rk_items _))) (allPr _) (sblPr _) (by rw [List.length_map]; omega) (dpPr _)))) (by rw [sortPr_map]))) tshape tshape)) (by rw [Tm.eqv tprs]; rfl))))) (by decide +kernel)) ⟨_, _, _, _, rfl⟩)
  · obtain ⟨a, b, c, d, rfl⟩ := hI
    exact js_one (jp_ret (je_is je_bl rfl) trivial rfl)
end
end Pq

namespace Pq
open PySem PySem.Spec L2
open PyProof.Rows hiding St
open Evl (Ex)

/-! ### single places and deeds are told right -/
theorem gameM_cov {W : Wl} {r : Int × Int} {S : Pl → Prop} : ∀ (k : Nat) (held : List Pl) (ranks : List (Pl × Int)) (rank : Int), held.length ≤ k → (∀ p, S p → p ∈ held ∨ p ∈ ranks.map (·.1)) → ∀ p, S p → p ∈ (gameM W r held ranks rank).1 ∨ p ∈ (gameM W r held ranks rank).2.map (·.1)
  | k, held, ranks, rank, hk, hc => by
    by_cases h : goneM W r held = []
    · rw [gameM_stop h]
      exact hc
    · rw [gameM_go h]
      have := stay_lt h
      cases k with
      | zero => omega
      | succ k =>
        refine gameM_cov k _ _ _ (by omega) fun p hp => ?_
        rw [List.map_append, List.map_map]
        rcases hc p hp with z | z
        · by_cases hg : p ∈ goneM W r held
          · exact .inr (List.mem_append_right _ (List.mem_map.mpr ⟨p, hg, rfl⟩))
          · exact .inl (List.mem_filter.mpr ⟨z, decide_eq_true hg⟩)
        · exact .inr (List.mem_append_left _ z)
theorem fullM_cov {W : Wl} {n : Int} (r : Int × Int) {p : Pl} (h : p ∈ placesM W n) : p ∈ (fullM W r n).1 ∨ p ∈ (fullM W r n).2.map (·.1) := gameM_cov _ _ _ _ (Nat.le_refl _) (fun _ h => .inl h) p h
def everyM (W : Wl) (r : Int × Int) (n : Int) : List Pl := sortPl ((fullM W r n).1 ++ (fullM W r n).2.map (·.1))
theorem everyM_ne {W : Wl} (r : Int × Int) {n : Int} (ok : W.Ok) (n0 : 0 ≤ n) : everyM W r n ≠ [] := fun z => by
  have hb := mem_placesM ok (begunM_ok ok n0 (Int.le_refl 0) (by have := ok.top1; omega)).pl
  have h : plS (begunM W n 0) ∈ everyM W r n := mem_sortPl.mpr (List.mem_append.mpr (fullM_cov r hb))
  rw [z] at h
  cases h
theorem everyM_ok {W : Wl} {r : Int × Int} {n : Int} (ok : W.Ok) (n0 : 0 ≤ n) (n4 : n ≤ 4) {p : Pl} (h : p ∈ everyM W r n) : p.Ok W n := by
  have gi := fullM_inv r ok n0 n4
  rcases List.mem_append.mp (mem_sortPl.mp h) with z | z
  · exact placesM_ok ok n0 n4 (gi.sub p z)
  · obtain ⟨q, hq, rfl⟩ := List.mem_map.mp z
    exact placesM_ok ok n0 n4 (gi.rsub q hq)
theorem everyM_len {W : Wl} (r : Int × Int) {n : Int} (ok : W.Ok) (n0 : 0 ≤ n) (n4 : n ≤ 4) : (everyM W r n).length ≤ 3750 := by
  have gl := (fullM_inv r ok n0 n4).len
  have h : (everyM W r n).length = ((fullM W r n).1 ++ (fullM W r n).2.map (·.1)).length := List.length_mergeSort _
  rw [h, List.length_append, List.length_map]
  exact gl
theorem at_nat {α : Type} {e : α → PyData} {l : List α} {v : Int} (h0 : 0 ≤ v) (h1 : v < (l.length : Int)) : ∃ x, x ∈ l ∧ atI (l.map e) v = some (e x) := by
  obtain ⟨g, rfl⟩ : ∃ g : Nat, v = (g : Int) := ⟨v.toNat, by omega⟩
  have hg : g < l.length := by omega
  refine ⟨l[g], List.getElem_mem hg, ?_⟩
  have e0 : ixN l.length (g : Int) = some g := by
    unfold ixN
    rw [if_pos h0, if_pos (by omega)]
    rfl
  unfold atI
  rw [List.length_map, e0]
  show (l.map e)[g]? = _
  rw [List.getElem?_map, List.getElem?_eq_getElem hg]
  rfl
section
variable {X : Cx} {Φ : Lk} {δ : Slots} {E : En} {a b c : Expr} {pos : Pos}
/-- a list's name, at a place that is drawn -/
theorem jx_ixV {i0 : Nat} {x : Str} {ds : List PyData} {R : PyData → Slots → Prop} {p1 : Pos} (hk : δ[i0]? = some (some (.o (SK.l ds)))) (hb : JXi X Φ b δ fun i δ' => δ'[i0]? = some (some (.o (SK.l ds))) ∧ ∃ d, atI ds i = some d ∧ R d δ')
    (hN : X.N[i0]? = some x := by rfl) (hv : Vis X.env.scope x := by first | exact Or.inl rfl | exact Or.inr (Or.inl rfl) | exact Or.inr (Or.inr rfl)) (h1 : (x == ("__debug__" : Str)) = false := by decide) (h2 : (x == ("__classdict__" : Str)) = false := by decide) (hs : PlainIx b := by exact fun _ _ => rfl) : JX X Φ (.Subscript (.Name x p1) b pos) δ R := fun H0 σ H1 sl Q q => by
  refine e_of (pe_ix ix_list (pe_var hN hv h1 h2) pe_w hs) ?_
  obtain ⟨F, f⟩ := sl.at_
  obtain ⟨v, hv0, _⟩ := f.some_ i0 _ hk
  refine ⟨v, hv0, ?_⟩
  refine hb H0 σ H1 sl _ fun u H3 d δ' ⟨i, ed, hk', z, hz, hR⟩ sl' du te => ?_
  subst ed
  obtain ⟨F', f'⟩ := sl'.at_
  obtain ⟨v', hv1, hi⟩ := f'.some_ i0 _ hk'
  rw [hv0] at hv1
  cases hv1
  obtain ⟨⟨p, vs, rfl, _, hp, hd⟩, _⟩ := hi
  obtain ⟨y, hy, dy⟩ := atI_dt hd hz
  exact ⟨p, vs, i, y, rfl, dt_int du, SqL.of hp, hy, q y H3 z δ' hR sl' dy te⟩
/-- x, y = a, b: both drawn -/
theorem jp_parXs {i j : Nat} {x y : Str} {px py pt : Pos} {kt k2 pt2} {R : List PyData → Slots → Prop} (h : JXs X Φ [a, b] δ R) (hn : ∀ ds δ', R ds δ' → ∃ d1 d2, ds = [d1, d2] ∧ E.nx ((δ'.set i (some (.d d1))).set j (some (.d d2)))) (hN : X.N.Nodup) (hij : i ≠ j := by decide) (hi : X.N[i]? = some x := by rfl) (hj : X.N[j]? = some y := by rfl)
    (hx : X.env.scope.names.lookup x = some .local := by rfl) (hy : X.env.scope.names.lookup y = some .local := by rfl) (hc : X.calm = true := by rfl)
    (hw : swappedStores [.Tuple [.Name x px, .Name y py] kt pt] (.Tuple [a, b] k2 pt2) X.env = pure (some [x, y]) := by rfl)
    (hs : swapsWithSole [.Tuple [.Name x px, .Name y py] kt pt] (.Tuple [a, b] k2 pt2) pos.line X.env = pure false := by rfl) : JP X Φ (.Assign [.Tuple [.Name x px, .Name y py] kt pt] (.Tuple [a, b] k2 pt2) pos) δ E := fun H0 σ H1 D sl g => by
  refine s_of (ps_par hc hN hi hj hij hx hy pa_w hw hs) ?_
  refine h H0 σ H1 sl _ fun vs H2 ds δ' r sl' dvs te => ?_
  obtain ⟨d1, d2, rfl, hn'⟩ := hn ds δ' r
  cases dvs with
  | cons e1 dvs =>
    cases dvs with
    | cons e2 dvs =>
      cases dvs
      refine ⟨_, _, rfl, g.nx _ _ _ ?_ hn'⟩
      exact (sl'.set_new (Evl.Ex.refl H2) (k := .d d1) ⟨rfl, e1⟩ (fun _ z => nomatch z)).set_new (Evl.Ex.refl H2) (k := .d d2) ⟨rfl, e2⟩ (fun _ z => nomatch z)
end
def stepPre : MS → Wl × (Int × Int) × Int → Prop := fun st x => st.Ok ∧ st.k ≤ 70000 ∧ x.1.Ok ∧ RgOk x.2.1 ∧ 0 ≤ x.2.2 ∧ x.2.2 ≤ 4
def stepKs (P : Program) (w : World) : Wl × (Int × Int) × Int → List Kd := fun x => [.d (wD x.1), .d (dD x.2.1), .d (.int x.2.2), .bo (SK.pr (SK.n P w (hD (fullM x.1 x.2.1 x.2.2).1)) (SK.n P w (rkD (fullM x.1 x.2.1 x.2.2).2)))]
def stepPost : MPost (Wl × (Int × Int) × Int) := fun st _ d st' => d = .bool true ∧ st'.Ok ∧ st'.k = st.k + 6
abbrev sp__law_step_right (P : Program) (w : World) : Sp := spM stepPre (stepKs P w) stepPost
section
variable {P : Program} {w : World} {K : PySem.W.Frag} {mg : Str → Option Value} {base : Heap}
theorem ok__law_step_right {k : Nat} {f : Addr} {fd : FuncData} (T : Txt mg) (h_draw : Has P w K mg base k "_law_draw" ["_law_m", "_law_limit"] sp__law_draw) (h__law_deeds : Has P w K mg base k "_law_deeds" ["_law_well_here", "_law_place"] (spF s__law_deeds)) (h__law_led : Has P w K mg base k "_law_led" ["_law_well_here", "_law_place", "_law_deed", "_law_inflow"] (spF s__law_led))
    (h_is_held : Has P w K mg base k "is_held" ["well", "inflows", "number", "place"] (spF s_is_held)) (h_deeds : Has P w K mg base k "deeds" ["well", "number", "place"] (spF s_deeds)) (h_led : Has P w K mg base k "led" ["well", "number", "place", "deed", "inflow"] (spF s_led)) (F : Fun K "_law_step_right" "_law_step_right" (top 85) f fd) :
    FnOk P w K mg base CX0 (k + 1) f fd ["_law_m", "_law_well_here", "_law_inflows", "_law_many", "_law_game_here"] (sp__law_step_right P w) := by
  have sc : FnScope ["_law_m", "_law_well_here", "_law_inflows", "_law_many", "_law_game_here", "_law_every", "_law_turn", "_law_place", "_law_some", "_law_deed", "_law_inflow"] ["_law_m", "_law_well_here", "_law_inflows", "_law_many", "_law_game_here"] (defScope (top 85)) := ⟨rfl, rfl, rfl, by decide +kernel, rfl, by decide +kernel, by decide +kernel⟩
  have nd : (["_law_m", "_law_well_here", "_law_inflows", "_law_many", "_law_game_here", "_law_every", "_law_turn", "_law_place", "_law_some", "_law_deed", "_law_inflow"] : List Str).Nodup := by decide +kernel
  refine fnM_ok F sc (fun _ => rfl) (fun cdv A outer s H E st x p hr hp H0 D hDn σ H1 sl => ?_)
  obtain ⟨W, r, n⟩ := x
  obtain ⟨o, k9, ok, rg, n0, n4⟩ : st.Ok ∧ st.k ≤ 70000 ∧ W.Ok ∧ RgOk r ∧ 0 ≤ n ∧ n ≤ 4 := hp
  have sl : Sl H0 [] H1 σ [some (.o (SK.m (some p) st)), some (.d (wD W)), some (.d (dD r)), some (.d (.int n)), some (.bo (SK.pr (SK.n P w (hD (fullM W r n).1)) (SK.n P w (rkD (fullM W r n).2)))), none, none, none, none, none, none] := sl
  have gi := fullM_inv r ok n0 n4
  have gl := gi.len
  have evn := everyM_ne r ok n0
  have evo : ∀ q ∈ everyM W r n, q.Ok W n := fun q hq => everyM_ok ok n0 n4 hq
  have evl := everyM_len r ok n0 n4
  have esort : sortD ((hD (fullM W r n).1).map (fun q => q.1.data) ++ (rkD (fullM W r n).2).map (fun q => q.1.data)) = (everyM W r n).map pD := by
    have e1 : (rkD (fullM W r n).2).map (fun q => q.1.data) = ((fullM W r n).2.map (·.1)).map pD := by rw [rkD, List.map_map, List.map_map]; exact List.map_congr_left fun p _ => kP_data p.1
    rw [hD_keys, e1, ← List.map_append, sortPl_map]
    rfl
  have elist : (hD (fullM W r n).1).map (fun q => q.1.data) ++ (rkD (fullM W r n).2).map (fun q => q.1.data) = ((fullM W r n).1 ++ (fullM W r n).2.map (·.1)).map pD := by
    have e1 : (rkD (fullM W r n).2).map (fun q => q.1.data) = ((fullM W r n).2.map (·.1)).map pD := by rw [rkD, List.map_map, List.map_map]; exact List.map_congr_left fun p _ => kP_data p.1
    rw [hD_keys, e1, ← List.map_append]
  have lh : (hD (fullM W r n).1).length ≤ 3750 := by rw [hD, List.length_map]; omega
  have lr : (rkD (fullM W r n).2).length ≤ 3750 := by rw [rkD, List.length_map]; omega
  generalize everyM W r n = ev at *
  refine js_then sl (E1 := fun δ => δ = [some (.o (SK.m (some p) st)), some (.d (wD W)), some (.d (dD r)), some (.d (.int n)), some (.bo (SK.pr (SK.n P w (hD (fullM W r n).1)) (SK.n P w (rkD (fullM W r n).2)))), some (.o (SK.l (ev.map pD))), none, none, none, none, none]) (jp_set (i := 5) (je_isL (je_sorted hr T.sorted (jr_new (je_isL (je_catL (jr_new (je_listN T.list (jr_n (jr_fst (jr_vb (i := 4) rfl))) (by omega))) (jr_new (je_listN T.list (jr_n (jr_snd (jr_vb (i := 4) rfl))) (by omega))) (by rw [List.length_map, List.length_map]; omega)) elist)) (allPl _) (sblPl _) (by rw [List.length_map, List.length_append, List.length_map]; omega) (dpPl _)) (by rw [← elist]; exact esort)) trivial rfl nd) fun σ H1 δ sl e => ?_
  subst e
  refine js_then sl (E1 := fun δ => ∃ st' a b c d e, δ = [some (.o (SK.m (some p) st')), some (.d (wD W)), some (.d (dD r)), some (.d (.int n)), some (.bo (SK.pr (SK.n P w (hD (fullM W r n).1)) (SK.n P w (rkD (fullM W r n).2)))), some (.o (SK.l (ev.map pD))), a, b, c, d, e] ∧ st'.Ok ∧ st'.k = st.k + 6) (jp_for (ji_range1 T.range je_int (by decide) (by decide)) (fun i δ => ∃ st' a b c d e, δ = [some (.o (SK.m (some p) st')), some (.d (wD W)), some (.d (dD r)), some (.d (.int n)), some (.bo (SK.pr (SK.n P w (hD (fullM W r n).1)) (SK.n P w (rkD (fullM W r n).2)))), some (.o (SK.l (ev.map pD))), a, b, c, d, e] ∧ st'.Ok ∧ st'.k = st.k + 3 * (i : Int)) ⟨st, none, none, none, none, none, rfl, o, by simp⟩ (fun Φ hΦ i z δ1 hd hI => ?_) (fun δ1 hI => ?_)) fun σ H1 δ sl e => ?_
  · obtain ⟨st', a, b, c, d, e, rfl, o, ek⟩ := hI
    have hi : i < 2 := by
      have := (List.getElem?_eq_some_iff.mp hd).1
      rwa [rngD_len] at this
    have hd : (rngD 0 2)[i]? = some z := hd
    rw [rngD_get hi] at hd
    cases hd
    refine ⟨[6], _, tg_name (i := 6) nd, ?_⟩
    -- a place
    refine js_cons (jp_setX (i := 7) (R := fun x δ' => ∃ q st1, x = pD q ∧ q ∈ ev ∧ st1.Ok ∧ st1.k = st.k + 3 * (i : Int) + 1 ∧ δ' = [some (.o (SK.m (some p) st1)), some (.d (wD W)), some (.d (dD r)), some (.d (.int n)), some (.bo (SK.pr (SK.n P w (hD (fullM W r n).1)) (SK.n P w (rkD (fullM W r n).2)))), some (.o (SK.l (ev.map pD))), some (.d (.int (0 + (i : Int)))), b, c, d, e]) (jx_ixV (i0 := 5) rfl (jx_draw (i := 0) (lim := (ev.length : Int)) h_draw hr rfl (je_is (je_lenL T.len (jr_vo (i := 5) rfl)) (by rw [List.length_map])) ⟨o, by omega, by have := List.length_pos_iff.mpr evn; omega, by omega⟩ (fun v st2 v0 v1 o2 e2 => ?_))) (fun x δ' hx => ?_) nd)
    · obtain ⟨q, hq, hat⟩ := at_nat (e := pD) v0 v1
      exact ⟨rfl, _, hat, q, st2, rfl, hq, o2, by omega, rfl⟩
    obtain ⟨q, st1, rfl, hq, o1, e1, rfl⟩ := hx
    have qo := evo q hq
    have dk := Pl.Ok.dp ok qo
    refine js_cons (jp_set (i := 8) (je_call h__law_deeds hr (ja_cons (jg_d (je_nm (i := 1) rfl rfl)) (ja_cons (jg_d (je_nm (i := 7) rfl rfl)) ja_nil)) ⟨(W, q), dk, rfl, rfl⟩ trivial) trivial ?_ nd)
    have dl := deedsM_len ok dk.2.2.2.2
    have dn : deedsM W q ≠ [] := fun z => by
      have h : ((0, 0) : Int × Int) ∈ deedsM W q := mem_deeds.mpr ⟨⟨Int.le_refl _, by have := ok.starts1; have := dk.2.2.1; show (0 : Int) ≤ min W.starts q.ready; omega⟩, Int.le_refl _, dk.2.2.2.1⟩
      rw [z] at h
      cases h
    refine js_cons (jp_parXs (i := 9) (j := 10) (R := fun ds δ' => ∃ dd v st3, ds = [dD dd, .int v] ∧ dd ∈ deedsM W q ∧ 0 ≤ v ∧ v < 9 ∧ st3.Ok ∧ st3.k = st.k + 3 * (i : Int) + 3 ∧ δ' = [some (.o (SK.m (some p) st3)), some (.d (wD W)), some (.d (dD r)), some (.d (.int n)), some (.bo (SK.pr (SK.n P w (hD (fullM W r n).1)) (SK.n P w (rkD (fullM W r n).2)))), some (.o (SK.l (ev.map pD))), some (.d (.int (0 + (i : Int)))), some (.d (pD q)), some (.o (SK.l ((deedsM W q).map dD))), d, e]) ?_ (fun ds δ' hx => ?_) nd)
    · refine jxs_cons (jx_ixV (R := fun x δ' => ∃ dd st2, x = dD dd ∧ dd ∈ deedsM W q ∧ st2.Ok ∧ st2.k = st.k + 3 * (i : Int) + 2 ∧ δ' = [some (.o (SK.m (some p) st2)), some (.d (wD W)), some (.d (dD r)), some (.d (.int n)), some (.bo (SK.pr (SK.n P w (hD (fullM W r n).1)) (SK.n P w (rkD (fullM W r n).2)))), some (.o (SK.l (ev.map pD))), some (.d (.int (0 + (i : Int)))), some (.d (pD q)), some (.o (SK.l ((deedsM W q).map dD))), d, e]) (i0 := 8) rfl (jx_draw (i := 0) (lim := ((deedsM W q).length : Int)) h_draw hr rfl (je_is (je_lenL T.len (jr_vo (i := 8) rfl)) (by rw [List.length_map])) ⟨o1, by omega, by have := List.length_pos_iff.mpr dn; omega, by omega⟩ (fun v st2 v0 v1 o2 e2 => ?_))) (fun x δ2 hx => ?_)
      · obtain ⟨dd, hdd, hat⟩ := at_nat (e := dD) v0 v1
        exact ⟨rfl, _, hat, dd, st2, rfl, hdd, o2, by omega, rfl⟩
      obtain ⟨dd, st2, rfl, hdd, o2, e2, rfl⟩ := hx
      refine jxs_cons (jx_draw (i := 0) (R := fun v δ' => ∃ st3, 0 ≤ v ∧ v < 9 ∧ st3.Ok ∧ st3.k = st.k + 3 * (i : Int) + 3 ∧ δ' = [some (.o (SK.m (some p) st3)), some (.d (wD W)), some (.d (dD r)), some (.d (.int n)), some (.bo (SK.pr (SK.n P w (hD (fullM W r n).1)) (SK.n P w (rkD (fullM W r n).2)))), some (.o (SK.l (ev.map pD))), some (.d (.int (0 + (i : Int)))), some (.d (pD q)), some (.o (SK.l ((deedsM W q).map dD))), d, e]) h_draw hr rfl je_int ⟨o2, by omega, by omega, by omega⟩ (fun v st3 v0 v1 o3 e3 => ⟨st3, v0, v1, o3, by omega, rfl⟩)) (fun x δ3 hx => ?_)
      obtain ⟨v, rfl, st3, v0, v1, o3, e3, rfl⟩ := hx
      exact jxs_nil ⟨dd, v, st3, rfl, hdd, v0, v1, o3, e3, rfl⟩
    obtain ⟨dd, v, st3, rfl, hdd, v0, v1, o3, e3, rfl⟩ := hx
    refine ⟨_, _, rfl, ?_⟩
    refine js_cons (jp_ifno (jt_is (jt_c (jc_neB (je_call h_is_held hr (ja_cons (jg_d (je_nm (i := 1) rfl rfl)) (ja_cons (jg_d (je_nm (i := 2) rfl rfl)) (ja_cons (jg_d (je_nm (i := 3) rfl rfl)) (ja_cons (jg_d (je_nm (i := 7) rfl rfl)) ja_nil)))) ⟨(W, r, n, q), ⟨ok, rg, ⟨n0, n4⟩, qo⟩, rfl, rfl⟩ trivial) (je_is (y := .bool (decide (q ∈ (fullM W r n).1))) (je_c (jc_inN (k := kP q) hr (je_is (je_nm (i := 7) rfl rfl) (kP_data q).symm) (jr_n (jr_fst (jr_vb (i := 4) rfl))) (.inl (kP_tup q)))) ?_))) (by simp)) ?_)
    · rw [look_hD]
      by_cases h : q ∈ (fullM W r n).1
      · rw [if_pos h, decide_eq_true h]; rfl
      · rw [if_neg h, decide_eq_false h]; rfl
    have td : Tm 2 (.tuple ((deedsM W q).map dD)) := Tm.tup fun y hy => by
      obtain ⟨z, _, rfl⟩ := List.mem_map.mp hy
      exact tm_dD z
    refine js_cons (jp_ifno (jt_is (jt_c (jc_neD hr (jdp_d (je_call h_deeds hr (ja_cons (jg_d (je_nm (i := 1) rfl rfl)) (ja_cons (jg_d (je_nm (i := 3) rfl rfl)) (ja_cons (jg_d (je_nm (i := 7) rfl rfl)) ja_nil))) ⟨(W, n, q), ⟨ok, qo, n0, by omega⟩, rfl, rfl⟩ trivial)) (jdp_d (je_tupL T.tuple (jr_vo (i := 8) rfl))) (td.shaped (by decide)) (td.shaped (by decide)))) (by rw [Tm.eqv td]; rfl)) ?_)
    have tl : Tm 2 (rD pD (ledBy W q dd v)) := tm_rD tm_pD _
    refine js_one (jp_ifno (jt_is (jt_c (jc_neD hr (jdp_d (je_call h_led hr (ja_cons (jg_d (je_nm (i := 1) rfl rfl)) (ja_cons (jg_d (je_nm (i := 3) rfl rfl)) (ja_cons (jg_d (je_nm (i := 7) rfl rfl)) (ja_cons (jg_d (je_nm (i := 9) rfl rfl)) (ja_cons (jg_d (je_nm (i := 10) rfl rfl)) ja_nil))))) ⟨(W, n, q, dd, v), ⟨ok, qo, ⟨n0, by omega⟩, hdd, v0, by omega⟩, rfl, rfl⟩ trivial)) (jdp_d (je_call h__law_led hr (ja_cons (jg_d (je_nm (i := 1) rfl rfl)) (ja_cons (jg_d (je_nm (i := 7) rfl rfl)) (ja_cons (jg_d (je_nm (i := 9) rfl rfl)) (ja_cons (jg_d (je_nm (i := 10) rfl rfl)) ja_nil)))) ⟨(W, q, dd, v), ⟨ok, qo.sh⟩, rfl, rfl⟩ trivial)) (tl.shaped (by decide)) (tl.shaped (by decide)))) (by rw [Tm.eqv tl]; rfl)) ?_)
    exact ⟨st3, _, _, _, _, _, rfl, o3, by rw [e3]; push_cast; omega⟩
  · obtain ⟨st', a, b, c, d, e, rfl, o, ek⟩ := hI
    rw [rngD_len] at ek
    exact ⟨st', a, b, c, d, e, rfl, o, ek⟩
  · obtain ⟨st', a, b, c, d, e, rfl, o, ek⟩ := e
    refine js_ret sl (jx_of je_bl) fun u H2 d δ' ⟨e1, e2⟩ sl' dv => ?_
    subst e1 e2
    exact hDn u _ _ H2 _ st' sl' rfl ⟨rfl, o, ek⟩ dv
end
end Pq

namespace Pq
open PySem PySem.Spec L2
open PyProof.Rows hiding St
open Evl (Ex)

/-! ### the states of a safe claim stand at places that are held -/
def s__law_safe_right (P : Program) (w : World) : Rl := RL (fun (x : Wl × (Int × Int) × Int) => match x with | (W, r, n) => W.Ok ∧ RgOk r ∧ Few W n) (fun (W, r, n) => [.d (wD W), .d (dD r), .d (.int n), .bo (SK.pr (SK.n P w (hD (fullM W r n).1)) (SK.n P w (rkD (fullM W r n).2)))]) (fun _ => .d (.bool true))
section
variable {P : Program} {w : World} {K : PySem.W.Frag} {mg : Str → Option Value} {base : Heap}
theorem ok__law_safe_right {k : Nat} {f : Addr} {fd : FuncData} (T : Txt mg) (h__law_come : Has P w K mg base k "_law_come" ["_law_well_here", "_law_inflows", "_law_levels", "_law_many", "_law_most_so"] (spF (s__law_come P w))) (h_verdict : Has P w K mg base k "verdict" ["claim", "number"] (spF s_verdict)) (h__law_word : Has P w K mg base k "_law_word" ["_law_words"] (spF s__law_word)) (h_states : Has P w K mg base k "states" ["claim", "number"] (spF s_states))
    (F : Fun K "_law_safe_right" "_law_safe_right" (top 86) f fd) : FnOk P w K mg base CX0 (k + 1) f fd ["_law_well_here", "_law_inflows", "_law_many", "_law_game_here"] (spF (s__law_safe_right P w)) := by
  have sc : FnScope ["_law_well_here", "_law_inflows", "_law_many", "_law_game_here", "_law_level", "_law_claim", "_law_come_here", "_law_state"] ["_law_well_here", "_law_inflows", "_law_many", "_law_game_here"] (defScope (top 86)) := ⟨rfl, rfl, rfl, by decide +kernel, rfl, by decide +kernel, by decide +kernel⟩
  have nd : (["_law_well_here", "_law_inflows", "_law_many", "_law_game_here", "_law_level", "_law_claim", "_law_come_here", "_law_state"] : List Str).Nodup := by decide +kernel
  refine fn_ok F sc (RL.len fun _ => rfl) (fun cdv A outer s H E ks rr hr hS => ?_)
  obtain ⟨⟨W, r, n⟩, ⟨ok, rg, few⟩, rfl, rfl⟩ := hS
  have n0 := few.n0
  have n3 := few.n3
  have n4 : n ≤ 4 := by omega
  refine js_cons (jp_for (ji_is (ji_range1 (n := W.top + 1) T.range (je_add (je_ix (je_nm (i := 0) rfl rfl) je_int rfl) je_int) (by have := ok.top2; omega) (by have := ok.top1; omega)) (rngI_map _ _)) (fun i δ => ∃ a b c d, δ = [some (.d (wD W)), some (.d (dD r)), some (.d (.int n)), some (.bo (SK.pr (SK.n P w (hD (fullM W r n).1)) (SK.n P w (rkD (fullM W r n).2)))), a, b, c, d]) ⟨none, none, none, none, rfl⟩ (fun Φ hΦ i z δ1 hd hI => ?_) (fun δ1 hI => ?_))
  · obtain ⟨a, b, c, d, rfl⟩ := hI
    obtain ⟨lv, hlv, rfl⟩ := get_map hd
    have hlv := mem_rngI.mp (List.mem_of_getElem? hlv)
    have lvo : LvOk W (lv, lv) := ⟨hlv.1, Int.le_refl _, by show lv ≤ W.top; omega⟩
    refine ⟨[4], _, tg_name (i := 4) nd, ?_⟩
    refine js_cons (jp_set (i := 5) (je_is (y := cD W r (lv, lv)) (je_tup (jds_cons (je_nm (i := 0) rfl rfl) (jds_cons (je_nm (i := 1) rfl rfl) (jds_cons (je_tup (jds_cons (je_nm (i := 4) rfl rfl) (jds_cons (je_nm (i := 4) rfl rfl) jds_nil)) (hz := by simp)) jds_nil))) (hz := by simp)) rfl) trivial ?_ nd)
    refine js_cons (jp_set (i := 6) (je_call h__law_come hr (ja_cons (jg_d (je_nm (i := 0) rfl rfl)) (ja_cons (jg_d (je_nm (i := 1) rfl rfl)) (ja_cons (jg_d (je_is (y := dD (lv, lv)) (je_tup (jds_cons (je_nm (i := 4) rfl rfl) (jds_cons (je_nm (i := 4) rfl rfl) jds_nil)) (hz := by simp)) rfl)) (ja_cons (jg_d (je_nm (i := 2) rfl rfl)) (ja_cons (jg_d (je_is (y := .int 1000000) (je_pow je_int je_int ⟨by decide, by decide, by decide⟩) (congrArg PyData.int (by decide))) ) ja_nil))))) ⟨(W, r, (lv, lv), n), ⟨ok, rg, lvo, few⟩, rfl, rfl⟩ trivial) trivial ?_ nd)
    refine js_cons (jp_ifno (jt_is (jt_c (jc_neS (je_call h_verdict hr (ja_cons (jg_d (je_nm (i := 5) rfl rfl)) (ja_cons (jg_d (je_nm (i := 2) rfl rfl)) ja_nil)) ⟨(W, r, (lv, lv), n), ⟨ok, rg, lvo, few⟩, rfl, rfl⟩ trivial) (je_call h__law_word hr (ja_cons (jg_r (jr_mid (jr_vo (i := 6) rfl))) ja_nil) ⟨_, trivial, rfl, rfl⟩ trivial))) (by rw [comeW_eq ok n0]; simp)) ?_)
    refine js_one (jp_if (jt_c (jc_eqW0 hr (jr_mid (jr_vo (i := 6) rfl)))) (fun h => ?_) (fun h => js_nil ⟨_, _, _, _, rfl⟩))
    have hw : (searchK W r (lv, lv) n).words = [] := by
      rw [← comeW_eq ok n0]
      exact of_decide_eq_true h
    have safe : ∀ s ∈ (searchK W r (lv, lv) n).kn.map (·.1), plS s ∈ (fullM W r n).1 := fun s hs => by
      have e := searchK_bs W r (lv, lv) n
      refine safe_held ok n0 n4 lvo (stopK_end (r := r) ok n0 n4 lvo) ?_ ?_
      · rw [← e]; exact hw
      · rw [← e]; exact hs
    refine js_one (jp_for (ji_tup (je_call h_states hr (ja_cons (jg_d (je_nm (i := 5) rfl rfl)) (ja_cons (jg_d (je_nm (i := 2) rfl rfl)) ja_nil)) ⟨(W, r, (lv, lv), n), ⟨ok, rg, lvo, few⟩, rfl, rfl⟩ trivial)) (fun i δ => ∃ a b c d, δ = [some (.d (wD W)), some (.d (dD r)), some (.d (.int n)), some (.bo (SK.pr (SK.n P w (hD (fullM W r n).1)) (SK.n P w (rkD (fullM W r n).2)))), a, b, c, d]) ⟨_, _, _, _, rfl⟩ (fun Φ hΦ i z δ1 hd hI => ?_) (fun δ1 hI => ?_))
    · obtain ⟨a, b, c, d, rfl⟩ := hI
      obtain ⟨s, hs, rfl⟩ := get_map hd
      have hp := safe s (mem_sortS.mp (List.mem_of_getElem? hs))
      refine ⟨[7], _, tg_name (i := 7) nd, ?_⟩
      exact js_one (jp_ifno (jt_is (jt_c (jc_notInN (k := kP (plS s)) hr (je_is (je_cat (je_tup (jds_cons (je_ix (je_nm (i := 7) rfl rfl) je_int rfl) jds_nil) (hz := by simp)) (je_slT (je_nm (i := 7) rfl rfl) (.some je_int) .none) (Nat.le_of_ble_eq_true rfl)) (by rw [kP_data]; rfl)) (jr_n (jr_fst (jr_vb (i := 3) rfl))) (.inl (kP_tup _)))) (by rw [look_hD, if_pos hp]; rfl)) ⟨_, _, _, _, rfl⟩)
    · obtain ⟨a, b, c, d, rfl⟩ := hI
      exact ⟨_, _, _, _, rfl⟩
  · obtain ⟨a, b, c, d, rfl⟩ := hI
    exact js_one (jp_ret (je_is je_bl rfl) trivial rfl)
end
end Pq

namespace Pq
open PySem PySem.Spec L2
open PyProof.Rows hiding St
open Evl (Ex)

/-! ### rules for the law itself -/
section
variable {X : Cx} {Φ : Lk} {δ : Slots} {E : En} {e a b c : Expr} {es : List Expr} {pos : Pos} {p0 : Option Addr} {st : MS} {stt : Stmt} {j : Nat}
/-- arguments beside the state of the draws -/
def JAc (X : Cx) (Φ : Lk) (es : List Expr) (δ : Slots) (ks : List Kd) (i : Nat) : Prop := ∀ (H0 : Hp) (σ : L2.St) (H1 : Hp), Sl H0 Φ H1 σ δ → ∀ Q : List V → Hp → Prop, (∀ us H2, Ex H1 H2 → (∀ F, SlF H0 Φ H2 σ δ F → AsAll (cutH H2 (F i)) ks us) → Q us H2) → wA X es σ H1 Q
theorem jac_nil {i : Nat} : JAc X Φ [] δ [] i := fun _ _ H1 _ _ q => a_of pa_nil (q [] H1 (Evl.Ex.refl H1) fun _ _ => .nil)
theorem cutF_dt {H0 H : Hp} {σ : L2.St} {F : Nat → List Addr} (f : SlF H0 Φ H σ δ F) (i : Nat) {v : V} {d : PyData} (h : Dt H v d) : Dt (cutH H (F i)) v d := h.ex fun y vs z => by
  rw [cut_out (fun w => by
    obtain ⟨_, o, q, nt⟩ := f.dom w
    rw [z] at q
    cases q
    exact nt vs rfl)]
  exact z
theorem jac_d {i : Nat} {d : PyData} {ks : List Kd} (h : JE X Φ e δ (.d d)) (t : JAc X Φ es δ ks i) (hs : NS e := by exact fun _ _ => rfl) : JAc X Φ (e :: es) δ (.d d :: ks) i := fun H0 σ H1 sl Q q =>
  a_of (pa_cons pe_w pa_w (hs _ _)) (h H0 σ H1 sl _ fun v H2 _ e1 i1 => t H0 σ H2 (sl.mono e1) _ fun vs H3 e2 i2 => q _ H3 (e1.trans e2) fun F f => .cons ⟨rfl, cutF_dt f i (i1.2.ex (.of e2))⟩ (i2 F f))
theorem jac_o {i g : Nat} {x : Str} {S : SK} {ks : List Kd} {p1 : Pos} (hd : δ[g]? = some (some (.o S))) (ne : g ≠ i) (t : JAc X Φ es δ ks i) (hN : X.N[g]? = some x := by rfl) (hv : Vis X.env.scope x := by first | exact Or.inl rfl | exact Or.inr (Or.inl rfl) | exact Or.inr (Or.inr rfl))
    (h1 : (x == ("__debug__" : Str)) = false := by decide) (h2 : (x == ("__classdict__" : Str)) = false := by decide) (hs : NS (.Name x p1) := by exact fun _ _ => rfl) : JAc X Φ (.Name x p1 :: es) δ (.bo S :: ks) i := fun H0 σ H1 sl Q q => by
  refine a_of (pa_cons (pe_var hN hv h1 h2) pa_w (hs _ _)) ?_
  obtain ⟨F0, f0⟩ := sl.at_
  obtain ⟨v, hv0, _⟩ := f0.some_ g _ hd
  refine ⟨v, hv0, t H0 σ H1 sl _ fun vs H3 e2 i2 => q _ H3 e2 fun F f => .cons ⟨rfl, F g, ?_⟩ (i2 F f)⟩
  obtain ⟨v', hv1, hi⟩ := f.some_ g _ hd
  rw [hv0] at hv1
  cases hv1
  refine S.stay hi.1 (fun y vs z => ?_) fun y hy => cut_out (f.apart g i y ne hy)
  rw [cut_out (fun w => by
    obtain ⟨_, o, q, nt⟩ := f.dom w
    rw [z] at q
    cases q
    exact nt vs rfl)]
  exact z
theorem jx_callB {β : Type} {pre : MS → β → Prop} {ks : β → List Kd} {post : MPost β} {x : β} {k i : Nat} {f n : Str} {ps : List Str} {p1 p2 : Pos} {R : PyData → Slots → Prop} (h : Has X.prog X.w X.K X.mg X.base k f ps (spM pre ks post)) (hr : Room k X.A) (hk : δ[i]? = some (some (.o (SK.m p0 st)))) (ha : JAc X Φ es δ (ks x) i) (hp : pre st x)
    (hR : ∀ d st', post st x d st' → R d (δ.set i (some (.o (SK.m p0 st')))))
    (hN : X.N[i]? = some n := by rfl) (hv : Vis X.env.scope n := by first | exact Or.inl rfl | exact Or.inr (Or.inl rfl) | exact Or.inr (Or.inr rfl)) (h1 : (n == ("__debug__" : Str)) = false := by decide) (h2 : (n == ("__classdict__" : Str)) = false := by decide)
    (hg : Gl X f := by rfl) (hdb : (f == ("__debug__" : Str)) = false := by decide) (hs : NS (.Name n p1) := by exact fun _ _ => rfl) (hs2 : NSs es := by exact fun _ _ => rfl) : JX X Φ (.Call (.Name f p2) (.Name n p1 :: es) [] pos) δ R := fun H0 σ H1 sl Q q => by
  obtain ⟨fa, fd, ok, hm, kp, bi⟩ := h.out
  refine e_of (pe_call ok hr hg hm kp bi .nil pass0 (pa_cons (pe_var hN hv h1 h2) pa_w (hs _ _)) hdb (he := hs _ _) (hpl := hs2 _ _)) ?_
  obtain ⟨F0, f0⟩ := sl.at_
  obtain ⟨v, hv0, _⟩ := f0.some_ i _ hk
  refine ⟨v, hv0, ?_⟩
  refine ha H0 σ H1 sl _ fun us H2 e1 i1 => ?_
  show spM pre ks post ((v :: us) ++ []) H2 Q E0
  rw [List.append_nil]
  obtain ⟨F, fl⟩ := (sl.mono e1).at_
  obtain ⟨v', hv1, hi⟩ := fl.some_ i _ hk
  rw [hv0] at hv1
  cases hv1
  have nt := m_nt hi.1
  obtain ⟨p, c, l, rfl, hq, eF, hpp, hc, hl, ne⟩ := id hi.1
  refine ⟨st, x, p, F i, us, rfl, i1 F fl, ⟨p, c, l, rfl, (fun _ z => by cases z; rfl), eF, hpp, hc, hl, ne⟩, hp, fun u d H' F' st' k1 k2 k3 k4 k5 => ?_⟩
  obtain ⟨p', c', l', e1', hq', z⟩ := k2
  cases e1'
  have s2 := slf_call (Ψ := []) (S' := SK.m p0 st') (sl.mono e1) fl hk hv0 k1 ⟨p, c', l', rfl, hq, z⟩ k3 (fun _ z => nomatch z)
  exact q u H' d _ (hR d st' k4) s2 k5 ((TEx.of e1).trans fun y vs z => k1 y _ (fun w => nt y w vs z) z)
/-- if not e: .. , e draws and is true -/
theorem jp_ifnoX {A : List Stmt} {p1 : Pos} (h : JX X Φ e δ fun d δ' => d = .bool true ∧ E.nx δ') (he : ∀ whole, isTrue e X.env whole = (do let v ← whole; standAt e.pos; holding [v] (truthy v)) := by intro _; rfl) : JP X Φ (.If (.UnaryOp .Not e p1) A [] pos) δ E := fun H0 σ H1 D sl g =>
  s_of (ps_if (pt_not (pt_val pe_w he)) pss_w pss_w) (h H0 σ H1 sl _ fun v H2 d δ' ⟨ed, hn⟩ sl' dv _ => by
    subst ed
    refine ⟨true, dt_bl dv, ?_⟩
    show wSs X [] D σ H2
    exact ss_of pss_nil (g.nx σ H2 δ' sl' hn))
/-- a tuple that stands still, its first thing at p -/
def SK.tp (p : Addr) (x : V) : SK where
  is H v F := ∃ t, v = .ref t ∧ F = [t] ∧ H t = some (.tup [.ref p, x])
  stay := by
    rintro H H' v F ⟨t, rfl, rfl, ht⟩ e k
    exact ⟨t, rfl, rfl, e _ _ ht⟩
  dom := by
    rintro H v F ⟨t, rfl, rfl, ht⟩ a ha
    obtain rfl : a = t := by simpa using ha
    exact ⟨_, ht⟩
/-- the first dict of an own pair is locked while a statement runs -/
theorem jp_lockPr {i0 : Nat} {kvs kvs2 : List (NestedKey × PyData)} (hk : δ[i0]? = some (some (.o (SK.pr (SK.n X.prog X.w kvs) (SK.n X.prog X.w kvs2)))))
    (h : ∀ t p o raw x Ψ, (p, SK.fz X.prog X.w o raw kvs) ∈ Ψ → (t, SK.tp p x) ∈ Ψ → JP X Ψ stt (δ.set i0 (some (.v (.ref t)))) ⟨fun δ' => δ'[i0]? = some (some (.v (.ref t))) ∧ E.nx (δ'.set i0 (some (.o (SK.pr (SK.n X.prog X.w kvs) (SK.n X.prog X.w kvs2))))), fun _ => False, fun _ => False, fun _ => False⟩) : JP X Φ stt δ E := fun H0 σ H1 D sl g => by
  refine s_of (ps_lock ps_w) ?_
  obtain ⟨F, f⟩ := sl.at_
  obtain ⟨v, hv0, hi⟩ := f.some_ i0 _ hk
  obtain ⟨⟨t, u, x, F1, F2, rfl, ht, eF, ⟨p, rfl, rfl, hsys, raw, hp0, rk⟩, ⟨p2, rfl, rfl, is2⟩, ap⟩, nw⟩ := hi
  have hpF : p ∈ F i0 := by rw [eF]; simp
  have hp2F : p2 ∈ F i0 := by rw [eF]; simp
  have nwp := nw p hpF
  have nwp2 := nw p2 hp2F
  have npp : p ≠ p2 := fun z => ap p (by simp) (by simp [z])
  refine ⟨p, _, hp0, trivial, fun o => ?_⟩
  have te1 : TEx H1 (L2.upd H1 p (.frz o (NObj X.prog X.w p raw))) := (TEx.refl H1).upd nwp.2
  have hup : L2.upd H1 p (.frz o (NObj X.prog X.w p raw)) p = some (.frz o (NObj X.prog X.w p raw)) := upd_same
  have huo : ∀ y, y ≠ p → L2.upd H1 p (.frz o (NObj X.prog X.w p raw)) y = H1 y := fun y hy => upd_ne hy
  generalize L2.upd H1 p (.frz o (NObj X.prog X.w p raw)) = H2 at te1 hup huo ⊢
  have hl : i0 < δ.length := (List.getElem?_eq_some_iff.mp hk).1
  have slk : Sl H0 ((p, SK.fz X.prog X.w o raw kvs) :: (t, SK.tp p (.ref p2)) :: (p2, SK.n X.prog X.w kvs2) :: Φ) H2 σ (δ.set i0 (some (.v (.ref t)))) := by
    refine ⟨fun a o' e => ?_, by simp [sl.len], fun j => if j = i0 then [] else F j, fun j w q => ?_, fun j q => ?_, fun j m a ne ha => ?_, fun q hq => ?_⟩
    · rw [huo a (fun z => by rw [z, nwp.1] at e; cases e)]
      exact sl.ex a o' e
    · by_cases ej : j = i0
      · subst ej
        rw [List.getElem?_set_self hl] at q
        cases q
        exact ⟨_, hv0, by simp only [if_pos rfl]; exact ⟨rfl, rfl⟩⟩
      · rw [List.getElem?_set_ne (Ne.symm ej)] at q
        simp only [if_neg ej]
        obtain ⟨u, hu, hq⟩ := f.some_ j w q
        exact ⟨u, hu, hq.stay te1 fun a ha => huo a fun y => f.apart j i0 a ej ha (y ▸ hpF)⟩
    · by_cases ej : j = i0
      · simp only [if_pos ej]
      · simp only [if_neg ej]
        exact f.none_ j fun w z => q w (by rw [List.getElem?_set_ne (Ne.symm ej)]; exact z)
    · by_cases e1 : j = i0
      · simp only [if_pos e1] at ha; cases ha
      · simp only [if_neg e1] at ha
        by_cases e2 : m = i0
        · simp only [if_pos e2]; exact fun z => nomatch z
        · simp only [if_neg e2]; exact f.apart j m a ne ha
    · have noF : ∀ a, a ∈ F i0 → ∀ j : Nat, a ∉ (if j = i0 then [] else F j) := fun a ha j hj => by
        by_cases ej : j = i0
        · simp only [if_pos ej] at hj; cases hj
        · simp only [if_neg ej] at hj
          exact f.apart j i0 a ej hj ha
      have noT : ∀ j : Nat, t ∉ (if j = i0 then [] else F j) := fun j hj => by
        by_cases ej : j = i0
        · simp only [if_pos ej] at hj; cases hj
        · simp only [if_neg ej] at hj
          obtain ⟨_, o', z, nt⟩ := f.dom hj
          rw [ht] at z
          cases z
          exact nt _ rfl
      simp only [List.mem_cons] at hq
      rcases hq with rfl | rfl | rfl | hq
      · exact ⟨⟨p, rfl, rfl, hsys, hup, rk.ex te1⟩, noF p hpF⟩
      · exact ⟨⟨t, rfl, rfl, te1 _ _ ht⟩, noT⟩
      · exact ⟨⟨p2, rfl, rfl, is2.ex te1 (huo p2 npp.symm)⟩, noF p2 hp2F⟩
      · obtain ⟨l1, l2⟩ := f.lock q hq
        refine ⟨q.2.stay l1 te1 fun a ha => ?_, fun j hj => ?_⟩
        · obtain rfl : a = q.1 := by simpa using ha
          exact huo _ fun y => l2 i0 (y ▸ hpF)
        · by_cases ej : j = i0
          · simp only [if_pos ej] at hj; cases hj
          · simp only [if_neg ej] at hj; exact l2 j hj
  have nlk : ∀ q ∈ Φ, q.1 ≠ p ∧ q.1 ≠ p2 := fun q hq => ⟨fun z => (f.lock q hq).2 i0 (z ▸ hpF), fun z => (f.lock q hq).2 i0 (z ▸ hp2F)⟩
  refine h t p o raw (.ref p2) _ List.mem_cons_self (List.mem_cons_of_mem _ List.mem_cons_self) H0 σ _ _ slk ⟨fun σ' H' δ' s3 ⟨hv1, hn⟩ => ?_, fun _ _ _ _ _ _ z => z.elim, fun _ _ _ _ z => z.elim, fun _ _ _ _ z => z.elim⟩
  obtain ⟨p', e, _, _, z1, z2⟩ := sl_lock s3 List.mem_cons_self
  cases e
  obtain ⟨t', e, _, zt⟩ := sl_lock s3 (List.mem_cons_of_mem _ List.mem_cons_self)
  cases e
  have zn : IsN X.prog X.w H' p2 kvs2 := by
    obtain ⟨p2', e, _, zn⟩ := sl_lock s3 (List.mem_cons_of_mem _ (List.mem_cons_of_mem _ List.mem_cons_self))
    cases e
    exact zn
  have te2 : TEx H' (L2.upd H' p (NObj X.prog X.w p raw)) := (TEx.refl H').upd (fun vs z => by rw [z1] at z; cases z)
  refine ⟨z1, g.nx σ' _ _ ?_ hn⟩
  obtain ⟨G, fg⟩ := s3.at_
  obtain ⟨w', hw', hwi⟩ := fg.some_ i0 _ hv1
  obtain ⟨_, rfl⟩ := hwi
  have hl' : i0 < δ'.length := (List.getElem?_eq_some_iff.mp hv1).1
  have np := (fg.lock _ List.mem_cons_self).2
  have np2 := (fg.lock _ (List.mem_cons_of_mem _ (List.mem_cons_of_mem _ List.mem_cons_self))).2
  have oth : ∀ y, y ≠ p → L2.upd H' p (NObj X.prog X.w p raw) y = H' y := fun y hy => upd_ne hy
  refine ⟨fun a o' e => ?_, by simp [s3.len], fun j => if j = i0 then [p] ++ [p2] else G j, fun j w q => ?_, fun j q => ?_, fun j m a ne ha => ?_, fun q hq => ?_⟩
  · rw [oth a (fun z => by rw [z, nwp.1] at e; cases e)]
    exact s3.ex a o' e
  · by_cases ej : j = i0
    · subst ej
      rw [List.getElem?_set_self hl'] at q
      cases q
      refine ⟨_, hw', ?_⟩
      simp only [if_pos rfl]
      refine ⟨⟨t, .ref p, .ref p2, [p], [p2], rfl, te2 _ _ zt, rfl, ⟨p, rfl, rfl, hsys, raw, upd_same, z2.ex te2⟩, ⟨p2, rfl, rfl, zn.ex te2 (oth p2 npp.symm)⟩, by simpa using npp⟩, fun a ha => ?_⟩
      have ha : a = p ∨ a = p2 := by simpa using ha
      rcases ha with rfl | rfl
      · exact ⟨nwp.1, fun vs z => by rw [upd_same] at z; cases z⟩
      · refine ⟨nwp2.1, fun vs z => ?_⟩
        rw [oth a npp.symm] at z
        obtain ⟨_, raw2, q2, _⟩ := zn
        rw [q2] at z
        cases z
    · rw [List.getElem?_set_ne (Ne.symm ej)] at q
      simp only [if_neg ej]
      obtain ⟨u, hu, hq⟩ := fg.some_ j w q
      exact ⟨u, hu, hq.stay te2 fun a ha => oth a fun y => np j (y ▸ ha)⟩
  · by_cases ej : j = i0
    · subst ej
      exact absurd (List.getElem?_set_self hl') (q _)
    · simp only [if_neg ej]
      exact fg.none_ j fun w z => q w (by rw [List.getElem?_set_ne (Ne.symm ej)]; exact z)
  · by_cases e1 : j = i0
    · simp only [if_pos e1] at ha
      have e2 : ¬ m = i0 := fun z => ne (e1.trans z.symm)
      simp only [if_neg e2]
      simp only [List.cons_append, List.nil_append, List.mem_cons, List.not_mem_nil, or_false] at ha
      rcases ha with rfl | rfl
      · exact np m
      · exact np2 m
    · simp only [if_neg e1] at ha
      by_cases e2 : m = i0
      · simp only [if_pos e2]
        intro z
        simp only [List.cons_append, List.nil_append, List.mem_cons, List.not_mem_nil, or_false] at z
        rcases z with rfl | rfl
        · exact np j ha
        · exact np2 j ha
      · simp only [if_neg e2]; exact fg.apart j m a ne ha
  · obtain ⟨l1, l2⟩ := fg.lock q (by simp [hq])
    obtain ⟨k1, k2⟩ := nlk q hq
    refine ⟨q.2.stay l1 te2 fun a ha => ?_, fun j hj => ?_⟩
    · obtain rfl : a = q.1 := by simpa using ha
      exact oth _ k1
    · by_cases ej : j = i0
      · simp only [if_pos ej] at hj
        simp only [List.cons_append, List.nil_append, List.mem_cons, List.not_mem_nil, or_false] at hj
        rcases hj with z | z
        · exact k1 z
        · exact k2 z
      · simp only [if_neg ej] at hj; exact l2 j hj
/-- the keys of the first dict of a locked pair -/
theorem ji_lockPr {tg : Expr} {i0 jj : Nat} {x : Str} {y : V} {p1 p2 : Pos} {t p : Addr} {o : Obj} {raw : Raw} {kvs : List (NestedKey × PyData)} (hd : δ[i0]? = some (some (.v (.ref t)))) (hl : (p, SK.fz X.prog X.w o raw kvs) ∈ Φ) (ht : (t, SK.tp p y) ∈ Φ) (hN : X.N[i0]? = some x := by rfl) (hvis : Vis X.env.scope x := by first | exact Or.inl rfl | exact Or.inr (Or.inl rfl) | exact Or.inr (Or.inr rfl))
    (h1 : (x == ("__debug__" : Str)) = false := by decide) (h2 : (x == ("__classdict__" : Str)) = false := by decide) : JIx X Φ tg (.Subscript (.Name x p1) (.Constant (.int 0) jj p2) pos) δ (kvs.map fun q => q.1.data) := fun H0 σ H1 sl R q => by
  refine i_of (pi_keysN (pe_ix ix_tup (pe_var hN hvis h1 h2) pe_int (fun _ _ => rfl))) ?_
  obtain ⟨F, f⟩ := sl.at_
  obtain ⟨v, hs, hi⟩ := f.some_ i0 _ hd
  obtain ⟨_, rfl⟩ := hi
  obtain ⟨p', e, _, hsys, hp, rk⟩ := (f.lock _ hl).1
  cases e
  obtain ⟨t', e, _, ht'⟩ := (f.lock _ ht).1
  cases e
  exact ⟨_, hs, t, [.ref p, y], 0, .ref p, rfl, rfl, SqT.of ht', rfl, p, o, raw, rfl, hsys, hp, q _ H1 _ (Evl.Ex.refl H1) (keysN_ok rk.len) (fun H H' s e => ⟨e _ _ s.1, s.2.ex (.of e)⟩) ⟨hp, rk⟩⟩
end

end Pq

namespace Pq
open PySem PySem.Spec L2
open PyProof.Rows hiding St
open Evl (Ex)

/-! ### the law -/
theorem Few.pos {W : Wl} {n : Int} (f : Few W n) : 0 ≤ n ∧ n ≤ 3 ∧ n ≤ 4 ∧ 0 ≤ n + 1 ∧ n + 1 ≤ 4 := by
  have := f.n0
  have := f.n3
  omega
theorem upP_D (p : Pl) : pD (upP p) = .tuple [.int p.lv, iL p.on, iL p.off, .int (p.ready + 1)] := rfl
def s_law (K : PySem.W.Frag) : Rl := RL (fun (ns : List Int) => ns.length ≤ 63) (fun ns => [.bo (SK.sq K ns)]) (fun _ => .d (.bool true))
section
variable {P : Program} {w : World} {K : PySem.W.Frag} {mg : Str → Option Value} {base : Heap}
theorem ok_law {k : Nat} {f : Addr} {fd : FuncData} (T : Txt mg) (h__law_begun : Has P w K mg base k "_law_begun" ["_law_script"] (spF (s__law_begun K))) (h_draw : Has P w K mg base k "_law_draw" ["_law_m", "_law_limit"] sp__law_draw) (h_well : Has P w K mg base k "_law_well" ["_law_m", "_law_top", "_law_lag"] sp__law_well) (h_range : Has P w K mg base k "_law_range" ["_law_m", "_law_low", "_law_wide", "_law_most_so"] sp__law_range)
    (h__law_game : Has P w K mg base k "_law_game" ["_law_well_here", "_law_inflows", "_law_many"] (spF (s__law_game P w))) (h_papers : Has P w K mg base k "_law_papers_right" ["_law_well_here", "_law_inflows", "_law_many", "_law_game_here"] (spF (s__law_papers_right P w))) (h_step : Has P w K mg base k "_law_step_right" ["_law_m", "_law_well_here", "_law_inflows", "_law_many", "_law_game_here"] (sp__law_step_right P w))
    (h_safe : Has P w K mg base k "_law_safe_right" ["_law_well_here", "_law_inflows", "_law_many", "_law_game_here"] (spF (s__law_safe_right P w))) (h_is_held : Has P w K mg base k "is_held" ["well", "inflows", "number", "place"] (spF s_is_held)) (F : Fun K "law" "law" (top 87) f fd) :
    FnOk P w K mg base CX0 (k + 1) f fd ["_law_script"] (spF (s_law K)) := by
  have sc : FnScope ["_law_script", "_law_m", "_law_turn", "_law_well_here", "_law_inflows", "_law_many", "_law_game_here", "_law_more", "_law_less", "_law_place", "_law_far"] ["_law_script"] (defScope (top 87)) := ⟨rfl, rfl, rfl, by decide +kernel, rfl, by decide +kernel, by decide +kernel⟩
  have nd : (["_law_script", "_law_m", "_law_turn", "_law_well_here", "_law_inflows", "_law_many", "_law_game_here", "_law_more", "_law_less", "_law_place", "_law_far"] : List Str).Nodup := by decide +kernel
  refine fn_ok F sc (RL.len fun _ => rfl) (fun cdv A outer s H E ks rr hr hS => ?_)
  obtain ⟨ns, hl, rfl, rfl⟩ := hS
  refine js_cons (jp_set (i := 1) (je_call h__law_begun hr (ja_cons (jg_r (jr_vb (i := 0) rfl)) ja_nil) ⟨ns, hl, rfl, rfl⟩ trivial) trivial ?_ nd)
  have m0 : min 1 (ns.length : Int) ≤ 1 := Int.min_le_left _ _
  have m1 : 0 ≤ min 1 (ns.length : Int) := by omega
  refine js_cons (jp_for (ji_is (ji_range1 (n := 2 + min 1 (ns.length : Int)) T.range (je_is (je_add je_int (je_min T.min je_int (je_lenS T.len (jr_vb (i := 0) rfl)))) (by rw [minI])) (by omega) (by omega)) (rngI_map _ _)) (fun i δ => ∃ st x2 x3 x4 x5 x6 x7 x8 x9 x10, δ = [some (.bo (SK.sq K ns)), some (.o (SK.m none st)), x2, x3, x4, x5, x6, x7, x8, x9, x10] ∧ st.Ok ∧ st.k = 21 * (i : Int))
    ⟨begunMS ns, none, none, none, none, none, none, none, none, none, rfl, begunMS_ok hl, rfl⟩ (fun Φ hΦ i z δ1 hd hI => ?_) (fun δ1 hI => ?_))
  · obtain ⟨st, x2, x3, x4, x5, x6, x7, x8, x9, x10, rfl, o, ek⟩ := hI
    have hi3 : (i : Int) < 3 := by
      have h := (List.getElem?_eq_some_iff.mp hd).1
      rw [List.length_map, rngI_len] at h
      omega
    obtain ⟨tv, _, rfl⟩ := get_map hd
    refine ⟨[2], _, tg_name (i := 2) nd, ?_⟩
    -- the well
    refine js_cons (jp_setX (i := 3) (R := fun x δ' => ∃ W0 st1, x = wD W0 ∧ W0.Ok0 ∧ st1.Ok ∧ st1.k = 21 * (i : Int) + 9 ∧ δ' = [some (.bo (SK.sq K ns)), some (.o (SK.m none st1)), some (.d (.int tv)), x3, x4, x5, x6, x7, x8, x9, x10]) (jx_callM (i := 1) (x := ()) h_well hr rfl (ja_cons (jg_d je_int) (ja_cons (jg_d je_int) ja_nil)) (fun y hy => by
      simp only [List.mem_cons, List.not_mem_nil, or_false] at hy
      rcases hy with rfl | rfl <;> exact ⟨_, rfl⟩) ⟨o, by omega⟩ (fun d st' ⟨W0, e1, ok0, o1, e2⟩ => ⟨W0, st', e1, ok0, o1, by omega, rfl⟩)) (fun x δ' hx => ?_) nd)
    obtain ⟨W0, st1, rfl, ok0, o, e1, rfl⟩ := hx
    refine js_cons (jp_setX (i := 3) (R := fun x δ' => ∃ a b c st2, x = wD (⟨W0.top, W0.drain, W0.on, W0.off, 1 + a, 1 + b, 1 + c, W0.step, W0.lag⟩ : Wl) ∧ 0 ≤ a ∧ a < 3 ∧ 0 ≤ b ∧ b < 2 ∧ 0 ≤ c ∧ c < 5 ∧ st2.Ok ∧ st2.k = 21 * (i : Int) + 12 ∧ δ' = [some (.bo (SK.sq K ns)), some (.o (SK.m none st2)), some (.d (.int tv)), some (.d (wD W0)), x4, x5, x6, x7, x8, x9, x10])
      (jx_cat (Ra := fun x δ' => ∃ a b c st2, x = .tuple [.int W0.top, .int W0.drain, .int W0.on, .int W0.off, .int (1 + a), .int (1 + b), .int (1 + c)] ∧ 0 ≤ a ∧ a < 3 ∧ 0 ≤ b ∧ b < 2 ∧ 0 ≤ c ∧ c < 5 ∧ st2.Ok ∧ st2.k = 21 * (i : Int) + 12 ∧ δ' = [some (.bo (SK.sq K ns)), some (.o (SK.m none st2)), some (.d (.int tv)), some (.d (wD W0)), x4, x5, x6, x7, x8, x9, x10]) (jx_cat (jx_of (je_slT (je_nm (i := 3) rfl rfl) .none (.some je_int))) fun x δ' hx => ?_) fun x δ' hx => ?_) (fun x δ' hx => ?_) nd)
    · obtain ⟨rfl, rfl⟩ := hx
      refine ⟨_, rfl, jx_tup ?_⟩
      refine jxs_cons (jx_cdraw (i := 1) (R := fun v δ' => ∃ z9 st', v = 1 + z9 ∧ 0 ≤ z9 ∧ z9 < 3 ∧ st'.Ok ∧ st'.k = 21 * (i : Int) + 10 ∧ δ' = [some (.bo (SK.sq K ns)), some (.o (SK.m none st')), some (.d (.int tv)), some (.d (wD W0)), x4, x5, x6, x7, x8, x9, x10]) je_int h_draw hr rfl je_int ⟨o, by omega, by omega, by omega⟩ (fun v st' a b c d => ⟨v, st', rfl, a, by omega, c, by omega, rfl⟩)) (fun x δ1 h => ?_)
      obtain ⟨_, rfl, a, sa, rfl, a0, a1, o, ea, rfl⟩ := h
      refine jxs_cons (jx_cdraw (i := 1) (R := fun v δ' => ∃ z9 st', v = 1 + z9 ∧ 0 ≤ z9 ∧ z9 < 2 ∧ st'.Ok ∧ st'.k = 21 * (i : Int) + 11 ∧ δ' = [some (.bo (SK.sq K ns)), some (.o (SK.m none st')), some (.d (.int tv)), some (.d (wD W0)), x4, x5, x6, x7, x8, x9, x10]) je_int h_draw hr rfl je_int ⟨o, by omega, by omega, by omega⟩ (fun v st' a b c d => ⟨v, st', rfl, a, by omega, c, by omega, rfl⟩)) (fun x δ1 h => ?_)
      obtain ⟨_, rfl, b, sb, rfl, b0, b1, o, eb, rfl⟩ := h
      refine jxs_cons (jx_cdraw (i := 1) (R := fun v δ' => ∃ z9 st', v = 1 + z9 ∧ 0 ≤ z9 ∧ z9 < 5 ∧ st'.Ok ∧ st'.k = 21 * (i : Int) + 12 ∧ δ' = [some (.bo (SK.sq K ns)), some (.o (SK.m none st')), some (.d (.int tv)), some (.d (wD W0)), x4, x5, x6, x7, x8, x9, x10]) je_int h_draw hr rfl je_int ⟨o, by omega, by omega, by omega⟩ (fun v st' a b c d => ⟨v, st', rfl, a, by omega, c, by omega, rfl⟩)) (fun x δ1 h => ?_)
      obtain ⟨_, rfl, c, sc', rfl, c0, c1, o, ec, rfl⟩ := h
      exact jxs_nil ⟨by simp, _, rfl, Nat.le_of_ble_eq_true rfl, a, b, c, sc', rfl, a0, a1, b0, b1, c0, c1, o, ec, rfl⟩
    · obtain ⟨a, b, c, st2, rfl, a0, a1, b0, b1, c0, c1, o, e2, rfl⟩ := hx
      exact ⟨_, rfl, jx_mono (jx_of (je_slT (je_nm (i := 3) rfl rfl) (.some je_int) .none)) fun d δ' ⟨h1, h2⟩ => ⟨_, h1, Nat.le_of_ble_eq_true rfl, a, b, c, st2, rfl, a0, a1, b0, b1, c0, c1, o, e2, h2⟩⟩
    obtain ⟨a, b, c, st2, rfl, a0, a1, b0, b1, c0, c1, o, e2, rfl⟩ := hx
    have ok : ((⟨W0.top, W0.drain, W0.on, W0.off, 1 + a, 1 + b, 1 + c, W0.step, W0.lag⟩ : Wl)).Ok := ⟨by show 1 ≤ W0.top; have := ok0.top1; omega, ok0.top2, ok0.drain1, ok0.drain2, ok0.on1, ok0.on2, ok0.off1, ok0.off2, by show 1 ≤ 1 + a; omega, by show 1 + a ≤ 3; omega, by show 1 ≤ 1 + b; omega, by show 1 + b ≤ 2; omega, by show 1 ≤ 1 + c; omega, by show 1 + c ≤ 5; omega, ok0.step1, ok0.step2, ok0.lag1, ok0.lag2⟩
    show JS _ Φ _ [some (.bo (SK.sq K ns)), some (.o (SK.m none st2)), some (.d (.int tv)), some (.d (wD (⟨W0.top, W0.drain, W0.on, W0.off, 1 + a, 1 + b, 1 + c, W0.step, W0.lag⟩ : Wl))), x4, x5, x6, x7, x8, x9, x10] _
    generalize (⟨W0.top, W0.drain, W0.on, W0.off, 1 + a, 1 + b, 1 + c, W0.step, W0.lag⟩ : Wl) = W at ok ⊢
    -- inflows and how many
    refine js_cons (jp_parXs (i := 4) (j := 5) (R := fun ds δ' => ∃ r n st3, ds = [dD r, .int n] ∧ RgOk r ∧ 0 ≤ n ∧ n < 4 ∧ st3.Ok ∧ st3.k = 21 * (i : Int) + 15 ∧ δ' = [some (.bo (SK.sq K ns)), some (.o (SK.m none st3)), some (.d (.int tv)), some (.d (wD W)), x4, x5, x6, x7, x8, x9, x10]) ?_ (fun ds δ' hx => ?_) nd)
    · refine jxs_cons (jx_callM (i := 1) (R := fun x δ' => ∃ r st', x = dD r ∧ RgOk r ∧ st'.Ok ∧ st'.k = 21 * (i : Int) + 14 ∧ δ' = [some (.bo (SK.sq K ns)), some (.o (SK.m none st')), some (.d (.int tv)), some (.d (wD W)), x4, x5, x6, x7, x8, x9, x10]) (x := ()) h_range hr rfl (ja_cons (jg_d je_int) (ja_cons (jg_d je_int) (ja_cons (jg_d je_int) ja_nil))) (fun y hy => by
        simp only [List.mem_cons, List.not_mem_nil, or_false] at hy
        rcases hy with rfl | rfl | rfl <;> exact ⟨_, rfl⟩) ⟨o, by omega⟩ (fun d st' ⟨r, e1, rg, _, o1, e2⟩ => ⟨r, st', e1, rg, o1, by omega, rfl⟩)) (fun x δ1 h => ?_)
      obtain ⟨r, sr, rfl, rg, o, er, rfl⟩ := h
      refine jxs_cons (jx_draw (i := 1) (R := fun v δ' => ∃ st', 0 ≤ v ∧ v < 4 ∧ st'.Ok ∧ st'.k = 21 * (i : Int) + 15 ∧ δ' = [some (.bo (SK.sq K ns)), some (.o (SK.m none st')), some (.d (.int tv)), some (.d (wD W)), x4, x5, x6, x7, x8, x9, x10]) h_draw hr rfl je_int ⟨o, by omega, by omega, by omega⟩ (fun v st' a b c d => ⟨st', a, by omega, c, by omega, rfl⟩)) (fun x δ1 h => ?_)
      obtain ⟨n, rfl, sn, v0, v1, o, en, rfl⟩ := h
      exact jxs_nil ⟨r, n, sn, rfl, rg, v0, v1, o, en, rfl⟩
    obtain ⟨r, n0, st3, rfl, rg, v0, v1, o, e3, rfl⟩ := hx
    refine ⟨_, _, rfl, ?_⟩
    refine js_cons (jp_ifM ((fun n : Int => [some (.bo (SK.sq K ns)), some (.o (SK.m none st3)), some (Kd.d (.int tv)), some (.d (wD W)), some (.d (dD r)), some (.d (.int n)), x6, x7, x8, x9, x10]) (if 4 < W.run + W.rest then min n0 2 else n0)) (jt_c (jc_gt (je_add (je_ix (je_nm (i := 3) rfl rfl) je_int rfl) (je_ix (je_nm (i := 3) rfl rfl) je_int rfl)) je_int)) (fun h => ?_) (fun h => ?_) ?_)
    · have h : 4 < W.run + W.rest := of_decide_eq_true h
      rw [if_pos h]
      exact js_one (jp_set (i := 5) (je_is (y := .int (min n0 2)) (je_min T.min (je_nm (i := 5) rfl rfl) je_int) (by rw [minI])) trivial rfl nd)
    · have h : ¬ 4 < W.run + W.rest := of_decide_eq_false h
      rw [if_neg h]
      exact js_nil rfl
    have few : Few W (if 4 < W.run + W.rest then min n0 2 else n0) := ⟨by split <;> omega, by split <;> omega, fun h => by rw [if_pos h]; omega⟩
    generalize (if 4 < W.run + W.rest then min n0 2 else n0) = n at few ⊢
    obtain ⟨n0', n3, n4, m0', m4⟩ := few.pos
    have gi := fullM_inv r ok n0' n4
    have gl := gi.len
    have gi2 := fullM_inv r ok m0' m4
    -- the game
    refine js_cons (jp_set (i := 6) (je_call h__law_game hr (ja_cons (jg_d (je_nm (i := 3) rfl rfl)) (ja_cons (jg_d (je_nm (i := 4) rfl rfl)) (ja_cons (jg_d (je_nm (i := 5) rfl rfl)) ja_nil))) ⟨(W, r, n), ⟨ok, rg, n0', n4⟩, rfl, rfl⟩ trivial) trivial ?_ nd)
    refine js_cons (jp_ifno (jt_is (jt_not (jt_val (je_call h_papers hr (ja_cons (jg_d (je_nm (i := 3) rfl rfl)) (ja_cons (jg_d (je_nm (i := 4) rfl rfl)) (ja_cons (jg_d (je_nm (i := 5) rfl rfl)) (ja_cons (jg_r (jr_vo (i := 6) rfl)) ja_nil)))) ⟨(W, r, n), ⟨ok, rg, n0', n4⟩, rfl, rfl⟩ trivial))) rfl) ?_)
    refine js_cons (jp_ifnoX (jx_callB (i := 1) (x := (W, r, n)) h_step hr rfl (jac_d (je_nm (i := 3) rfl rfl) (jac_d (je_nm (i := 4) rfl rfl) (jac_d (je_nm (i := 5) rfl rfl) (jac_o (g := 6) rfl (by decide) jac_nil)))) ⟨o, by omega, ok, rg, n0', n4⟩ (fun d st4 ⟨e1, o4, e4⟩ => ⟨e1, ?_⟩)))
    replace e4 : st4.k = 21 * (i : Int) + 21 := by omega
    show JS _ Φ _ [some (.bo (SK.sq K ns)), some (.o (SK.m none st4)), some (.d (.int tv)), some (.d (wD W)), some (.d (dD r)), some (.d (.int n)), some (.o (SK.pr (SK.n P w (hD (fullM W r n).1)) (SK.n P w (rkD (fullM W r n).2)))), x7, x8, x9, x10] _
    refine js_cons (jp_ifno (jt_is (jt_not (jt_val (je_call h_safe hr (ja_cons (jg_d (je_nm (i := 3) rfl rfl)) (ja_cons (jg_d (je_nm (i := 4) rfl rfl)) (ja_cons (jg_d (je_nm (i := 5) rfl rfl)) (ja_cons (jg_r (jr_vo (i := 6) rfl)) ja_nil)))) ⟨(W, r, n), ⟨ok, rg, few⟩, rfl, rfl⟩ trivial))) rfl) ?_)
    -- one pump more
    refine js_cons (jp_set (i := 7) (je_fst (je_call h__law_game hr (ja_cons (jg_d (je_nm (i := 3) rfl rfl)) (ja_cons (jg_d (je_nm (i := 4) rfl rfl)) (ja_cons (jg_d (je_add (je_nm (i := 5) rfl rfl) je_int)) ja_nil))) ⟨(W, r, n + 1), ⟨ok, rg, m0', m4⟩, rfl, rfl⟩ trivial)) trivial ?_ nd)
    refine js_cons (jp_lockPr (i0 := 6) (kvs := hD (fullM W r n).1) (kvs2 := rkD (fullM W r n).2) rfl fun t pa ob raw xx Ψ hz ht => jp_ifno (jt_is (jt_c (jc_neD hr (jdp_l (jr_new (je_isL (es' := []) (je_lcT (l := (fullM W r n).1) (e' := pD) (f := fun p => !(lookN (hD (fullM W r (n + 1)).1) (kP (upP p))).isSome) (g := pD) pDInj (blkOk_by (own := [("_law_place", 9)]) rfl) nd (by rw [← hD_keys]; exact ji_lockPr (i0 := 6) rfl hz ht)
      (fun p hp => ⟨[9], _, by decide, fun s H C cl fp => ⟨tg_name (i := 9) nd, jts_one (jt_c (jc_notInN (k := kP (upP p)) hr (je_is (je_cat (je_slT (je_nm (i := 9) rfl rfl) .none (.some je_int)) (je_tup (jds_cons (je_add (je_ix (je_nm (i := 9) rfl rfl) je_int rfl) je_int) jds_nil) (hz := by simp)) (Nat.le_of_ble_eq_true rfl)) (by rw [kP_data]; rfl)) (jr_n (jr_vo (i := 7) rfl)) (.inl (kP_tup _)))), fun _ => (je_nm (i := 9) rfl rfl)⟩⟩) (by omega)) ?_))) (jdp_l (jr_new (je_lst jds_nil (hz := by simp)))) (by decide +kernel) (by decide +kernel))) (by decide +kernel)) ⟨rfl, ?_⟩)
    · rw [List.filter_eq_nil_iff.mpr, List.map_nil]
      intro p hp
      rw [look_hD, if_pos (held_more ok n0' n3 hp)]
      decide
    -- smaller bounds
    refine js_cons (jp_set (i := 8) (je_fst (je_call h__law_game hr (ja_cons (jg_d (je_nm (i := 3) rfl rfl)) (ja_cons (jg_d (je_is (y := dD (r.1, r.1)) (je_tup (jds_cons (je_ix (je_nm (i := 4) rfl rfl) je_int rfl) (jds_cons (je_ix (je_nm (i := 4) rfl rfl) je_int rfl) jds_nil)) (hz := by simp)) rfl)) (ja_cons (jg_d (je_nm (i := 5) rfl rfl)) ja_nil))) ⟨(W, (r.1, r.1), n), ⟨ok, ⟨rg.a, Int.le_refl _, by have := rg.b; have := rg.c; show r.1 ≤ 300; omega⟩, n0', n4⟩, rfl, rfl⟩ trivial)) trivial ?_ nd)
    refine js_cons (jp_lockPr (i0 := 6) (kvs := hD (fullM W r n).1) (kvs2 := rkD (fullM W r n).2) rfl fun t pa ob raw xx Ψ hz ht => jp_ifno (jt_is (jt_c (jc_neD hr (jdp_l (jr_new (je_isL (es' := []) (je_lcT (l := (fullM W r n).1) (e' := pD) (f := fun p => !(lookN (hD (fullM W (r.1, r.1) n).1) (kP p)).isSome) (g := pD) pDInj (blkOk_by (own := [("_law_place", 9)]) rfl) nd (by rw [← hD_keys]; exact ji_lockPr (i0 := 6) rfl hz ht)
      (fun p hp => ⟨[9], _, by decide, fun s H C cl fp => ⟨tg_name (i := 9) nd, jts_one (jt_c (jc_notInN (k := kP p) hr (je_is (je_nm (i := 9) rfl rfl) (kP_data p).symm) (jr_n (jr_vo (i := 8) rfl)) (.inl (kP_tup _)))), fun _ => (je_nm (i := 9) rfl rfl)⟩⟩) (by omega)) ?_))) (jdp_l (jr_new (je_lst jds_nil (hz := by simp)))) (by decide +kernel) (by decide +kernel))) (by decide +kernel)) ⟨rfl, ?_⟩)
    · rw [List.filter_eq_nil_iff.mpr, List.map_nil]
      intro p hp
      rw [look_hD, if_pos (held_less (r := r) (r' := (r.1, r.1)) ok n0' n4 (Int.le_refl _) rg.b hp)]
      decide
    -- single places
    have ecut : cutD ((hD (fullM W r n).1).map fun q => q.1.data) none (some 1) = ((fullM W r n).1.take 1).map pD := by
      rw [hD_keys]
      unfold cutD
      rw [show (some (1 : Int)) = some ((1 : Nat) : Int) from rfl, HT.sIx_nat, HT.sIx_none, List.drop_zero, Nat.sub_zero, List.map_take, List.length_map]
      by_cases h : 1 ≤ (fullM W r n).1.length
      · rw [Nat.min_eq_left h]
      · rw [Nat.min_eq_right (by omega), List.take_of_length_le (by simp), List.take_of_length_le (by simp; omega)]
    refine js_one (jp_for (ji_new (je_isL (je_slL (jr_new (je_listN T.list (jr_n (jr_fst (jr_vo (i := 6) rfl))) (by rw [hD, List.length_map]; omega))) .none (.some je_int)) ecut)) (fun j δ => ∃ x9 x10, δ = [some (.bo (SK.sq K ns)), some (.o (SK.m none st4)), some (.d (.int tv)), some (.d (wD W)), some (.d (dD r)), some (.d (.int n)), some (.o (SK.pr (SK.n P w (hD (fullM W r n).1)) (SK.n P w (rkD (fullM W r n).2)))), some (.o (SK.n P w (hD (fullM W r (n + 1)).1))), some (.o (SK.n P w (hD (fullM W (r.1, r.1) n).1))), x9, x10]) ⟨_, _, rfl⟩ (fun Φ2 hΦ2 j z δ1 hd hI => ?_) (fun δ1 hI => ?_))
    · obtain ⟨x9', x10', rfl⟩ := hI
      obtain ⟨p, hp, rfl⟩ := get_map hd
      have hp := List.mem_of_mem_take (List.mem_of_getElem? hp)
      have hup := held_more ok n0' n3 hp
      have uok := placesM_ok ok m0' m4 (gi2.sub _ hup)
      have pok := placesM_ok ok n0' n4 (gi.sub _ hp)
      refine ⟨[9], _, tg_name (i := 9) nd, ?_⟩
      refine js_cons (jp_set (i := 10) (je_is (y := pD (upP p)) (je_cat (je_slT (je_nm (i := 9) rfl rfl) .none (.some je_int)) (je_tup (jds_cons (je_add (je_ix (je_nm (i := 9) rfl rfl) je_int rfl) je_int) jds_nil) (hz := by simp)) (Nat.le_of_ble_eq_true rfl)) rfl) trivial ?_ nd)
      refine js_cons (jp_ifno (jt_is (jt_not (jt_val (je_call h_is_held hr (ja_cons (jg_d (je_nm (i := 3) rfl rfl)) (ja_cons (jg_d (je_nm (i := 4) rfl rfl)) (ja_cons (jg_d (je_add (je_nm (i := 5) rfl rfl) je_int)) (ja_cons (jg_d (je_nm (i := 10) rfl rfl)) ja_nil)))) ⟨(W, r, n + 1, upP p), ⟨ok, rg, ⟨m0', m4⟩, uok⟩, rfl, rfl⟩ trivial))) (by rw [decide_eq_true hup]; rfl)) ?_)
      have hless : p ∈ (fullM W (r.2, r.2) n).1 := held_less (r := r) (r' := (r.2, r.2)) ok n0' n4 rg.b (Int.le_refl _) hp
      exact js_one (jp_ifno (jt_is (jt_not (jt_val (je_call h_is_held hr (ja_cons (jg_d (je_nm (i := 3) rfl rfl)) (ja_cons (jg_d (je_is (y := dD (r.2, r.2)) (je_tup (jds_cons (je_ix (je_nm (i := 4) rfl rfl) je_int rfl) (jds_cons (je_ix (je_nm (i := 4) rfl rfl) je_int rfl) jds_nil)) (hz := by simp)) rfl)) (ja_cons (jg_d (je_nm (i := 5) rfl rfl)) (ja_cons (jg_d (je_nm (i := 9) rfl rfl)) ja_nil)))) ⟨(W, (r.2, r.2), n, p), ⟨ok, ⟨by have := rg.a; have := rg.b; show 0 ≤ r.2; omega, Int.le_refl _, rg.c⟩, ⟨n0', n4⟩, pok⟩, rfl, rfl⟩ trivial))) (by rw [decide_eq_true hless]; rfl)) ⟨_, _, rfl⟩)
    · obtain ⟨x9', x10', rfl⟩ := hI
      exact ⟨st4, _, _, _, _, _, _, _, _, _, rfl, o4, by rw [e4]; push_cast; omega⟩
  · obtain ⟨st, x2, x3, x4, x5, x6, x7, x8, x9, x10, rfl, o, ek⟩ := hI
    exact js_one (jp_ret (je_is je_bl rfl) trivial rfl)
end
end Pq

namespace Pq
open PySem PySem.Spec L2
open PyProof.Rows hiding St
open Evl (Ex)

/-! ### what the module's text has written -/
/-- a def of the module -/
def DefAt (K : PySem.W.Frag) (x : Str) (st : Stmt) (f : Addr) : Prop := ∃ fd, PySem.W.nsIn K mainGlobals x = some (some (.ref f)) ∧ Fun K x x st f fd ∧ fd.defaults = .none
/-- a def of a class -/
def MethAt (K : PySem.W.Frag) (C : Addr) (x qual : Str) (st : Stmt) (f : Addr) : Prop := ∃ fd, Meth K C x f ∧ Fun K x qual st f fd
theorem def_at {K : PySem.W.Frag} {x : Str} {st : Stmt} {f : Addr} {od an : Option Addr} {sl : Array (Option Value)} {oc kV doc pm cd ct : Value} (a : PySem.W.nsIn K mainGlobals x = some (some (.ref f)))
    (l : K.lookup f = some ⟨oc, od, .func (PySem.W.fnOf x x (defArgs st) (defBody st) (defScope st) .none kV doc pm an cd ct), sl⟩) (c : PySem.W.codeIn K cd x = true) (k : PySem.W.keepIn K (.ref f) = true) : DefAt K x st f := ⟨_, a, fun_mk l c k, rfl⟩
theorem meth_at {K : PySem.W.Frag} {C : Addr} {x qual : Str} {st : Stmt} {f : Addr} {od an : Option Addr} {sl : Array (Option Value)} {oc kV doc pm cd ct : Value} (a : PySem.W.findIn K (.ref C) x = some (some (.ref f))) (i : PySem.W.isFn K (.ref f) = true)
    (l : K.lookup f = some ⟨oc, od, .func (PySem.W.fnOf x qual (defArgs st) (defBody st) (defScope st) .none kV doc pm an cd ct), sl⟩) (c : PySem.W.codeIn K cd qual = true) (k : PySem.W.keepIn K (.ref f) = true) : MethAt K C x qual st f := ⟨_, ⟨a, i, k⟩, fun_mk l c k⟩
/-- the class -/
structure ClsAt (K : PySem.W.Frag) (C : Addr) : Prop where
  at_ : PySem.W.nsIn K mainGlobals "Search" = some (some (.ref C))
  sch : Sch K C
  makes : PySem.W.makesIn K C = true
  kp : PySem.W.keepIn K (.ref C) = true
theorem cls_at {K : PySem.W.Frag} {C : Addr} (a : PySem.W.nsIn K mainGlobals "Search" = some (some (.ref C))) (pg : PySem.W.plainGet K C Str.empty = true) (hd : PySem.W.hasDictIn K C = true) (po : PySem.W.plainOver K C = true)
    (sa : PySem.W.findIn K (.ref C) "__setattr__" = some (some (.builtin "object.__setattr__"))) (mk : PySem.W.makesIn K C = true) (kc : PySem.W.keepIn K (.ref C) = true)
    (n1 : PySem.W.findIn K (.ref C) "known" = some none) (n2 : PySem.W.findIn K (.ref C) "runs" = some none) (n3 : PySem.W.findIn K (.ref C) "busy" = some none) : ClsAt K C := ⟨a, ⟨⟨pg, hd, po, sa⟩, n1, n2, n3⟩, mk, kc⟩
theorem free_at {K : PySem.W.Frag} {h : Heap} {mg : Str → Option Value} {x : Str} (X : K.In h) (G : h.Ns mainGlobals mg) (a : PySem.W.nsIn K mainGlobals x = some none) : mg x = none := PySem.W.mg_none_of X G a
def NumAt (K : PySem.W.Frag) (x : Str) (n : Int) : Prop := ∃ t, PySem.W.nsIn K mainGlobals x = some (some (.int n t))
theorem num_at {K : PySem.W.Frag} {x : Str} {n : Int} {t} (a : PySem.W.nsIn K mainGlobals x = some (some (.int n t))) : NumAt K x n := ⟨t, a⟩
def WordAt (K : PySem.W.Frag) (x : Str) (n : Str) : Prop := ∃ t, PySem.W.nsIn K mainGlobals x = some (some (.str n t))
theorem word_at {K : PySem.W.Frag} {x : Str} {n : Str} {t} (a : PySem.W.nsIn K mainGlobals x = some (some (.str n t))) : WordAt K x n := ⟨t, a⟩

theorem txt_of {K : PySem.W.Frag} {h : Heap} {mg : Str → Option Value} (X : K.In h) (G : h.Ns mainGlobals mg)
    (b0 : PySem.W.nsIn K mainGlobals "isinstance" = some none)
    (b1 : PySem.W.nsIn K mainGlobals "int" = some none)
    (b2 : PySem.W.nsIn K mainGlobals "bool" = some none)
    (b3 : PySem.W.nsIn K mainGlobals "tuple" = some none)
    (b4 : PySem.W.nsIn K mainGlobals "str" = some none)
    (b5 : PySem.W.nsIn K mainGlobals "list" = some none)
    (b6 : PySem.W.nsIn K mainGlobals "dict" = some none)
    (b7 : PySem.W.nsIn K mainGlobals "len" = some none)
    (b8 : PySem.W.nsIn K mainGlobals "all" = some none)
    (b9 : PySem.W.nsIn K mainGlobals "any" = some none)
    (b10 : PySem.W.nsIn K mainGlobals "sum" = some none)
    (b11 : PySem.W.nsIn K mainGlobals "min" = some none)
    (b12 : PySem.W.nsIn K mainGlobals "max" = some none)
    (b13 : PySem.W.nsIn K mainGlobals "range" = some none)
    (b14 : PySem.W.nsIn K mainGlobals "sorted" = some none)
    (b15 : PySem.W.nsIn K mainGlobals "zip" = some none)
    (cMOST_TOP : NumAt K "MOST_TOP" 200)
    (cMOST_DRAIN : NumAt K "MOST_DRAIN" 50)
    (cMOST_AGE : NumAt K "MOST_AGE" 5)
    (cMOST_STARTS : NumAt K "MOST_STARTS" 5)
    (cMOST_STEP : NumAt K "MOST_STEP" 20)
    (cMOST_LAG : NumAt K "MOST_LAG" 3)
    (cMOST_NUMBER : NumAt K "MOST_NUMBER" 50)
    (cMOST_COUNT : NumAt K "MOST_COUNT" 1000)
    (cMOST_INFLOW : NumAt K "MOST_INFLOW" 300)
    (cMOST_STATES : NumAt K "MOST_STATES" 20000)
    (cMOST_PUMPS : NumAt K "MOST_PUMPS" 12)
    (cOVER : WordAt K "OVER" "over")
    (cDRY : WordAt K "DRY" "dry")
    (cSAFE : WordAt K "SAFE" "safe")
    (cBOTH : WordAt K "BOTH" "both")
    (cHELD : WordAt K "HELD" "held")
    (cLOST : WordAt K "LOST" "lost")
    : Txt mg where
  isinstance := PySem.W.mg_none_of X G b0
  int := PySem.W.mg_none_of X G b1
  bool := PySem.W.mg_none_of X G b2
  tuple := PySem.W.mg_none_of X G b3
  str := PySem.W.mg_none_of X G b4
  list := PySem.W.mg_none_of X G b5
  dict := PySem.W.mg_none_of X G b6
  len := PySem.W.mg_none_of X G b7
  all := PySem.W.mg_none_of X G b8
  any := PySem.W.mg_none_of X G b9
  sum := PySem.W.mg_none_of X G b10
  min := PySem.W.mg_none_of X G b11
  max := PySem.W.mg_none_of X G b12
  range := PySem.W.mg_none_of X G b13
  sorted := PySem.W.mg_none_of X G b14
  zip := PySem.W.mg_none_of X G b15
  MOST_TOP := by
    obtain ⟨t, e⟩ := cMOST_TOP
    exact ⟨t, PySem.W.mg_of X G e⟩
  MOST_DRAIN := by
    obtain ⟨t, e⟩ := cMOST_DRAIN
    exact ⟨t, PySem.W.mg_of X G e⟩
  MOST_AGE := by
    obtain ⟨t, e⟩ := cMOST_AGE
    exact ⟨t, PySem.W.mg_of X G e⟩
  MOST_STARTS := by
    obtain ⟨t, e⟩ := cMOST_STARTS
    exact ⟨t, PySem.W.mg_of X G e⟩
  MOST_STEP := by
    obtain ⟨t, e⟩ := cMOST_STEP
    exact ⟨t, PySem.W.mg_of X G e⟩
  MOST_LAG := by
    obtain ⟨t, e⟩ := cMOST_LAG
    exact ⟨t, PySem.W.mg_of X G e⟩
  MOST_NUMBER := by
    obtain ⟨t, e⟩ := cMOST_NUMBER
    exact ⟨t, PySem.W.mg_of X G e⟩
  MOST_COUNT := by
    obtain ⟨t, e⟩ := cMOST_COUNT
    exact ⟨t, PySem.W.mg_of X G e⟩
  MOST_INFLOW := by
    obtain ⟨t, e⟩ := cMOST_INFLOW
    exact ⟨t, PySem.W.mg_of X G e⟩
  MOST_STATES := by
    obtain ⟨t, e⟩ := cMOST_STATES
    exact ⟨t, PySem.W.mg_of X G e⟩
  MOST_PUMPS := by
    obtain ⟨t, e⟩ := cMOST_PUMPS
    exact ⟨t, PySem.W.mg_of X G e⟩
  OVER := by
    obtain ⟨t, e⟩ := cOVER
    exact ⟨t, PySem.W.mg_of X G e⟩
  DRY := by
    obtain ⟨t, e⟩ := cDRY
    exact ⟨t, PySem.W.mg_of X G e⟩
  SAFE := by
    obtain ⟨t, e⟩ := cSAFE
    exact ⟨t, PySem.W.mg_of X G e⟩
  BOTH := by
    obtain ⟨t, e⟩ := cBOTH
    exact ⟨t, PySem.W.mg_of X G e⟩
  HELD := by
    obtain ⟨t, e⟩ := cHELD
    exact ⟨t, PySem.W.mg_of X G e⟩
  LOST := by
    obtain ⟨t, e⟩ := cLOST
    exact ⟨t, PySem.W.mg_of X G e⟩

section
variable {P : Program} {w : World} {K : PySem.W.Frag} {mg : Str → Option Value} {base : Heap}
theorem hm_mono {j k : Nat} {C : Addr} {x : Str} {ps : List Str} {sp : Sp} (h : HasM P w K mg base j C x ps sp) (hjk : j ≤ k) : HasM P w K mg base k C x ps sp := by
  obtain ⟨f, fd, ok, m, b⟩ := h.out
  exact ⟨f, fd, ok.mono hjk, m, b⟩
theorem hb_mono {j k : Nat} {C : Addr} (h : HasB P w K mg base j C) (hjk : j ≤ k) : HasB P w K mg base k C := by
  obtain ⟨f, fd, ok, m, b⟩ := h.out
  exact ⟨f, fd, ok.mono hjk, m, b⟩
theorem hi_mono {j k : Nat} {C : Addr} (h : HasI P w K mg base j C) (hjk : j ≤ k) : HasI P w K mg base k C := by
  obtain ⟨f, fd, ok, m, b⟩ := h.out
  exact ⟨f, fd, ok.mono hjk, m, b⟩
end
section
variable {P : Program} {w : World} {K : PySem.W.Frag} {h : Heap} {mg : Str → Option Value} {base : Heap}

theorem has__law_begun {f : Addr} (X : K.In h) (G : h.Ns mainGlobals mg) (T : Txt mg) (D : DefAt K "_law_begun" (top 70) f) : Has P w K mg base 1 "_law_begun" ["_law_script"] (spF (s__law_begun K)) := by
  obtain ⟨fd, a, F, _⟩ := D
  exact ⟨f, fd, ok__law_begun (k := 0) T F, PySem.W.mg_of X G a, F.kp, F.binds (ps := ["_law_script"]) fun _ _ _ _ _ _ us hl => match us, hl with | [_], _ => rfl⟩
theorem has__law_mix {f : Addr} (X : K.In h) (G : h.Ns mainGlobals mg) (T : Txt mg) (D : DefAt K "_law_mix" (top 69) f) : Has P w K mg base 1 "_law_mix" ["_law_cell", "_law_spot"] (spF s__law_mix) := by
  obtain ⟨fd, a, F, _⟩ := D
  exact ⟨f, fd, ok__law_mix (k := 0) T F, PySem.W.mg_of X G a, F.kp, F.binds (ps := ["_law_cell", "_law_spot"]) fun _ _ _ _ _ _ us hl => match us, hl with | [_, _], _ => rfl⟩
theorem has__law_draw {f : Addr} (X : K.In h) (G : h.Ns mainGlobals mg) (T : Txt mg) (h__law_mix : Has P w K mg base 1 "_law_mix" ["_law_cell", "_law_spot"] (spF s__law_mix)) (D : DefAt K "_law_draw" (top 71) f) : Has P w K mg base 2 "_law_draw" ["_law_m", "_law_limit"] sp__law_draw := by
  obtain ⟨fd, a, F, _⟩ := D
  exact ⟨f, fd, ok__law_draw (k := 1) T (h__law_mix.mono (by decide)) F, PySem.W.mg_of X G a, F.kp, F.binds (ps := ["_law_m", "_law_limit"]) fun _ _ _ _ _ _ us hl => match us, hl with | [_, _], _ => rfl⟩
theorem has__law_well {f : Addr} (X : K.In h) (G : h.Ns mainGlobals mg) (h_draw : Has P w K mg base 2 "_law_draw" ["_law_m", "_law_limit"] sp__law_draw) (D : DefAt K "_law_well" (top 72) f) : Has P w K mg base 3 "_law_well" ["_law_m", "_law_top", "_law_lag"] sp__law_well := by
  obtain ⟨fd, a, F, _⟩ := D
  exact ⟨f, fd, ok__law_well (k := 2) (h_draw.mono (by decide)) F, PySem.W.mg_of X G a, F.kp, F.binds (ps := ["_law_m", "_law_top", "_law_lag"]) fun _ _ _ _ _ _ us hl => match us, hl with | [_, _, _], _ => rfl⟩
theorem has__law_range {f : Addr} (X : K.In h) (G : h.Ns mainGlobals mg) (T : Txt mg) (h_draw : Has P w K mg base 2 "_law_draw" ["_law_m", "_law_limit"] sp__law_draw) (D : DefAt K "_law_range" (top 78) f) : Has P w K mg base 3 "_law_range" ["_law_m", "_law_low", "_law_wide", "_law_most_so"] sp__law_range := by
  obtain ⟨fd, a, F, _⟩ := D
  exact ⟨f, fd, ok__law_range (k := 2) T (h_draw.mono (by decide)) F, PySem.W.mg_of X G a, F.kp, F.binds (ps := ["_law_m", "_law_low", "_law_wide", "_law_most_so"]) fun _ _ _ _ _ _ us hl => match us, hl with | [_, _, _, _], _ => rfl⟩
theorem has__law_places {f : Addr} (X : K.In h) (G : h.Ns mainGlobals mg) (T : Txt mg) (D : DefAt K "_law_places" (top 79) f) : Has P w K mg base 1 "_law_places" ["_law_well_here", "_law_many"] (spF s__law_places) := by
  obtain ⟨fd, a, F, _⟩ := D
  exact ⟨f, fd, ok__law_places (k := 0) T F, PySem.W.mg_of X G a, F.kp, F.binds (ps := ["_law_well_here", "_law_many"]) fun _ _ _ _ _ _ us hl => match us, hl with | [_, _], _ => rfl⟩
theorem has__law_deeds {f : Addr} (X : K.In h) (G : h.Ns mainGlobals mg) (T : Txt mg) (D : DefAt K "_law_deeds" (top 80) f) : Has P w K mg base 1 "_law_deeds" ["_law_well_here", "_law_place"] (spF s__law_deeds) := by
  obtain ⟨fd, a, F, _⟩ := D
  exact ⟨f, fd, ok__law_deeds (k := 0) T F, PySem.W.mg_of X G a, F.kp, F.binds (ps := ["_law_well_here", "_law_place"]) fun _ _ _ _ _ _ us hl => match us, hl with | [_, _], _ => rfl⟩
theorem has__law_led {f : Addr} (X : K.In h) (G : h.Ns mainGlobals mg) (T : Txt mg) (D : DefAt K "_law_led" (top 81) f) : Has P w K mg base 1 "_law_led" ["_law_well_here", "_law_place", "_law_deed", "_law_inflow"] (spF s__law_led) := by
  obtain ⟨fd, a, F, _⟩ := D
  exact ⟨f, fd, ok__law_led (k := 0) T F, PySem.W.mg_of X G a, F.kp, F.binds (ps := ["_law_well_here", "_law_place", "_law_deed", "_law_inflow"]) fun _ _ _ _ _ _ us hl => match us, hl with | [_, _, _, _], _ => rfl⟩
theorem has__law_keeps {f : Addr} (X : K.In h) (G : h.Ns mainGlobals mg) (T : Txt mg) (h__law_deeds : Has P w K mg base 1 "_law_deeds" ["_law_well_here", "_law_place"] (spF s__law_deeds)) (h__law_led : Has P w K mg base 1 "_law_led" ["_law_well_here", "_law_place", "_law_deed", "_law_inflow"] (spF s__law_led)) (D : DefAt K "_law_keeps" (top 82) f) : Has P w K mg base 2 "_law_keeps" ["_law_well_here", "_law_inflows", "_law_place", "_law_held_so"] (spF (s__law_keeps P w)) := by
  obtain ⟨fd, a, F, _⟩ := D
  exact ⟨f, fd, ok__law_keeps (k := 1) T (h__law_deeds.mono (by decide)) (h__law_led.mono (by decide)) F, PySem.W.mg_of X G a, F.kp, F.binds (ps := ["_law_well_here", "_law_inflows", "_law_place", "_law_held_so"]) fun _ _ _ _ _ _ us hl => match us, hl with | [_, _, _, _], _ => rfl⟩
theorem has__law_game {f : Addr} (X : K.In h) (G : h.Ns mainGlobals mg) (T : Txt mg) (h__law_places : Has P w K mg base 1 "_law_places" ["_law_well_here", "_law_many"] (spF s__law_places)) (h__law_keeps : Has P w K mg base 2 "_law_keeps" ["_law_well_here", "_law_inflows", "_law_place", "_law_held_so"] (spF (s__law_keeps P w))) (D : DefAt K "_law_game" (top 83) f) : Has P w K mg base 3 "_law_game" ["_law_well_here", "_law_inflows", "_law_many"] (spF (s__law_game P w)) := by
  obtain ⟨fd, a, F, _⟩ := D
  exact ⟨f, fd, ok__law_game (k := 2) T (h__law_places.mono (by decide)) (h__law_keeps.mono (by decide)) F, PySem.W.mg_of X G a, F.kp, F.binds (ps := ["_law_well_here", "_law_inflows", "_law_many"]) fun _ _ _ _ _ _ us hl => match us, hl with | [_, _, _], _ => rfl⟩
theorem has_is_whole {f : Addr} (X : K.In h) (G : h.Ns mainGlobals mg) (T : Txt mg) (D : DefAt K "is_whole" (top 18) f) : Has P w K mg base 1 "is_whole" ["thing", "least", "most"] (spF s_is_whole) := by
  obtain ⟨fd, a, F, _⟩ := D
  exact ⟨f, fd, ok_is_whole (k := 0) T F, PySem.W.mg_of X G a, F.kp, F.binds (ps := ["thing", "least", "most"]) fun _ _ _ _ _ _ us hl => match us, hl with | [_, _, _], _ => rfl⟩
theorem has_wrong_part {f : Addr} (X : K.In h) (G : h.Ns mainGlobals mg) (T : Txt mg) (h_is_whole : Has P w K mg base 1 "is_whole" ["thing", "least", "most"] (spF s_is_whole)) (D : DefAt K "wrong_part" (top 19) f) : Has P w K mg base 2 "wrong_part" ["thing"] (spF s_wrong_part) := by
  obtain ⟨fd, a, F, _⟩ := D
  exact ⟨f, fd, ok_wrong_part (k := 1) T (h_is_whole.mono (by decide)) F, PySem.W.mg_of X G a, F.kp, F.binds (ps := ["thing"]) fun _ _ _ _ _ _ us hl => match us, hl with | [_], _ => rfl⟩
theorem has_need_well {f : Addr} (X : K.In h) (G : h.Ns mainGlobals mg) (T : Txt mg) (h_wrong_part : Has P w K mg base 2 "wrong_part" ["thing"] (spF s_wrong_part)) (D : DefAt K "need_well" (top 20) f) : Has P w K mg base 3 "need_well" ["thing"] (spF s_need_well) := by
  obtain ⟨fd, a, F, _⟩ := D
  exact ⟨f, fd, ok_need_well (k := 2) T (h_wrong_part.mono (by decide)) F, PySem.W.mg_of X G a, F.kp, F.binds (ps := ["thing"]) fun _ _ _ _ _ _ us hl => match us, hl with | [_], _ => rfl⟩
theorem has_is_range {f : Addr} (X : K.In h) (G : h.Ns mainGlobals mg) (T : Txt mg) (h_is_whole : Has P w K mg base 1 "is_whole" ["thing", "least", "most"] (spF s_is_whole)) (D : DefAt K "is_range" (top 34) f) : Has P w K mg base 2 "is_range" ["thing", "most"] (spF s_is_range) := by
  obtain ⟨fd, a, F, _⟩ := D
  exact ⟨f, fd, ok_is_range (k := 1) T (h_is_whole.mono (by decide)) F, PySem.W.mg_of X G a, F.kp, F.binds (ps := ["thing", "most"]) fun _ _ _ _ _ _ us hl => match us, hl with | [_, _], _ => rfl⟩
theorem has_need_inflows {f : Addr} (X : K.In h) (G : h.Ns mainGlobals mg) (T : Txt mg) (h_is_range : Has P w K mg base 2 "is_range" ["thing", "most"] (spF s_is_range)) (D : DefAt K "need_inflows" (top 43) f) : Has P w K mg base 3 "need_inflows" ["inflows"] (spF s_need_inflows) := by
  obtain ⟨fd, a, F, _⟩ := D
  exact ⟨f, fd, ok_need_inflows (k := 2) T (h_is_range.mono (by decide)) F, PySem.W.mg_of X G a, F.kp, F.binds (ps := ["inflows"]) fun _ _ _ _ _ _ us hl => match us, hl with | [_], _ => rfl⟩
theorem has_need_pumps {f : Addr} (X : K.In h) (G : h.Ns mainGlobals mg) (T : Txt mg) (h_need_well : Has P w K mg base 3 "need_well" ["thing"] (spF s_need_well)) (h_is_whole : Has P w K mg base 1 "is_whole" ["thing", "least", "most"] (spF s_is_whole)) (D : DefAt K "need_pumps" (top 48) f) : Has P w K mg base 4 "need_pumps" ["well", "number"] (spF s_need_pumps) := by
  obtain ⟨fd, a, F, _⟩ := D
  exact ⟨f, fd, ok_need_pumps (k := 3) T (h_need_well.mono (by decide)) (h_is_whole.mono (by decide)) F, PySem.W.mg_of X G a, F.kp, F.binds (ps := ["well", "number"]) fun _ _ _ _ _ _ us hl => match us, hl with | [_, _], _ => rfl⟩
theorem has_are_counts {f : Addr} (X : K.In h) (G : h.Ns mainGlobals mg) (T : Txt mg) (h_is_whole : Has P w K mg base 1 "is_whole" ["thing", "least", "most"] (spF s_is_whole)) (D : DefAt K "are_counts" (top 23) f) : Has P w K mg base 2 "are_counts" ["thing", "many"] (spF s_are_counts) := by
  obtain ⟨fd, a, F, _⟩ := D
  exact ⟨f, fd, ok_are_counts (k := 1) T (h_is_whole.mono (by decide)) F, PySem.W.mg_of X G a, F.kp, F.binds (ps := ["thing", "many"]) fun _ _ _ _ _ _ us hl => match us, hl with | [_, _], _ => rfl⟩
theorem has_is_place_of {f : Addr} (X : K.In h) (G : h.Ns mainGlobals mg) (T : Txt mg) (h_is_whole : Has P w K mg base 1 "is_whole" ["thing", "least", "most"] (spF s_is_whole)) (h_are_counts : Has P w K mg base 2 "are_counts" ["thing", "many"] (spF s_are_counts)) (D : DefAt K "is_place_of" (top 49) f) : Has P w K mg base 3 "is_place_of" ["well", "number", "thing"] (spF s_is_place_of) := by
  obtain ⟨fd, a, F, _⟩ := D
  exact ⟨f, fd, ok_is_place_of (k := 2) T (h_is_whole.mono (by decide)) (h_are_counts.mono (by decide)) F, PySem.W.mg_of X G a, F.kp, F.binds (ps := ["well", "number", "thing"]) fun _ _ _ _ _ _ us hl => match us, hl with | [_, _, _], _ => rfl⟩
theorem has_need_place {f : Addr} (X : K.In h) (G : h.Ns mainGlobals mg) (T : Txt mg) (h_is_place_of : Has P w K mg base 3 "is_place_of" ["well", "number", "thing"] (spF s_is_place_of)) (D : DefAt K "need_place" (top 53) f) : Has P w K mg base 4 "need_place" ["well", "number", "place"] (spF s_need_place) := by
  obtain ⟨fd, a, F, _⟩ := D
  exact ⟨f, fd, ok_need_place (k := 3) T (h_is_place_of.mono (by decide)) F, PySem.W.mg_of X G a, F.kp, F.binds (ps := ["well", "number", "place"]) fun _ _ _ _ _ _ us hl => match us, hl with | [_, _, _], _ => rfl⟩
theorem has_need_all {f : Addr} (X : K.In h) (G : h.Ns mainGlobals mg) (T : Txt mg) (h_need_well : Has P w K mg base 3 "need_well" ["thing"] (spF s_need_well)) (h_need_inflows : Has P w K mg base 3 "need_inflows" ["inflows"] (spF s_need_inflows)) (h_need_pumps : Has P w K mg base 4 "need_pumps" ["well", "number"] (spF s_need_pumps)) (h_need_place : Has P w K mg base 4 "need_place" ["well", "number", "place"] (spF s_need_place)) (D : DefAt K "need_all" (top 60) f) : Has P w K mg base 5 "need_all" ["well", "inflows", "number", "place"] (spF s_need_all) := by
  obtain ⟨fd, a, F, _⟩ := D
  exact ⟨f, fd, ok_need_all (k := 4) T (h_need_well.mono (by decide)) (h_need_inflows.mono (by decide)) (h_need_pumps.mono (by decide)) (h_need_place.mono (by decide)) F, PySem.W.mg_of X G a, F.kp, F.binds (ps := ["well", "inflows", "number", "place"]) fun _ _ _ _ _ _ us hl => match us, hl with | [_, _, _, _], _ => rfl⟩
theorem has_rows_of {f : Addr} (X : K.In h) (G : h.Ns mainGlobals mg) (T : Txt mg) (D : DefAt K "rows_of" (top 56) f) : Has P w K mg base 1 "rows_of" ["many", "number"] (spF s_rows_of) := by
  obtain ⟨fd, a, F, _⟩ := D
  exact ⟨f, fd, ok_rows_of (k := 0) T F, PySem.W.mg_of X G a, F.kp, F.binds (ps := ["many", "number"]) fun _ _ _ _ _ _ us hl => match us, hl with | [_, _], _ => rfl⟩
theorem has_places_of {f : Addr} (X : K.In h) (G : h.Ns mainGlobals mg) (T : Txt mg) (h_rows_of : Has P w K mg base 1 "rows_of" ["many", "number"] (spF s_rows_of)) (D : DefAt K "places_of" (top 57) f) : Has P w K mg base 2 "places_of" ["well", "number"] (spF s_places_of) := by
  obtain ⟨fd, a, F, _⟩ := D
  exact ⟨f, fd, ok_places_of (k := 1) T (h_rows_of.mono (by decide)) F, PySem.W.mg_of X G a, F.kp, F.binds (ps := ["well", "number"]) fun _ _ _ _ _ _ us hl => match us, hl with | [_, _], _ => rfl⟩
theorem has_deeds_of {f : Addr} (X : K.In h) (G : h.Ns mainGlobals mg) (T : Txt mg) (D : DefAt K "deeds_of" (top 50) f) : Has P w K mg base 1 "deeds_of" ["well", "place"] (spF s_deeds_of) := by
  obtain ⟨fd, a, F, _⟩ := D
  exact ⟨f, fd, ok_deeds_of (k := 0) T F, PySem.W.mg_of X G a, F.kp, F.binds (ps := ["well", "place"]) fun _ _ _ _ _ _ us hl => match us, hl with | [_, _], _ => rfl⟩
theorem has_aged {f : Addr} (X : K.In h) (G : h.Ns mainGlobals mg) (T : Txt mg) (D : DefAt K "aged" (top 27) f) : Has P w K mg base 1 "aged" ["well", "running", "resting", "ready", "started", "stopped"] (spF s_aged) := by
  obtain ⟨fd, a, F, _⟩ := D
  exact ⟨f, fd, ok_aged (k := 0) T F, PySem.W.mg_of X G a, F.kp, F.binds (ps := ["well", "running", "resting", "ready", "started", "stopped"]) fun _ _ _ _ _ _ us hl => match us, hl with | [_, _, _, _, _, _], _ => rfl⟩
theorem has_led_by {f : Addr} (X : K.In h) (G : h.Ns mainGlobals mg) (T : Txt mg) (h_aged : Has P w K mg base 1 "aged" ["well", "running", "resting", "ready", "started", "stopped"] (spF s_aged)) (D : DefAt K "led_by" (top 52) f) : Has P w K mg base 2 "led_by" ["well", "place", "deed", "inflow"] (spF s_led_by) := by
  obtain ⟨fd, a, F, _⟩ := D
  exact ⟨f, fd, ok_led_by (k := 1) T (h_aged.mono (by decide)) F, PySem.W.mg_of X G a, F.kp, F.binds (ps := ["well", "place", "deed", "inflow"]) fun _ _ _ _ _ _ us hl => match us, hl with | [_, _, _, _], _ => rfl⟩
theorem has_does_keep {f : Addr} (X : K.In h) (G : h.Ns mainGlobals mg) (T : Txt mg) (h_led_by : Has P w K mg base 2 "led_by" ["well", "place", "deed", "inflow"] (spF s_led_by)) (D : DefAt K "does_keep" (top 58) f) : Has P w K mg base 3 "does_keep" ["well", "inflows", "place", "deed", "known"] (spF (s_does_keep P w)) := by
  obtain ⟨fd, a, F, _⟩ := D
  exact ⟨f, fd, ok_does_keep (k := 2) T (h_led_by.mono (by decide)) F, PySem.W.mg_of X G a, F.kp, F.binds (ps := ["well", "inflows", "place", "deed", "known"]) fun _ _ _ _ _ _ us hl => match us, hl with | [_, _, _, _, _], _ => rfl⟩
theorem has_solved {f : Addr} (X : K.In h) (G : h.Ns mainGlobals mg) (T : Txt mg) (h_places_of : Has P w K mg base 2 "places_of" ["well", "number"] (spF s_places_of)) (h_deeds_of : Has P w K mg base 1 "deeds_of" ["well", "place"] (spF s_deeds_of)) (h_does_keep : Has P w K mg base 3 "does_keep" ["well", "inflows", "place", "deed", "known"] (spF (s_does_keep P w))) (D : DefAt K "solved" (top 59) f) : Has P w K mg base 4 "solved" ["well", "inflows", "number"] (spF (s_solved P w)) := by
  obtain ⟨fd, a, F, _⟩ := D
  exact ⟨f, fd, ok_solved (k := 3) T (h_places_of.mono (by decide)) (h_deeds_of.mono (by decide)) (h_does_keep.mono (by decide)) F, PySem.W.mg_of X G a, F.kp, F.binds (ps := ["well", "inflows", "number"]) fun _ _ _ _ _ _ us hl => match us, hl with | [_, _, _], _ => rfl⟩
theorem has_control_paper {f : Addr} (X : K.In h) (G : h.Ns mainGlobals mg) (T : Txt mg) (h_need_all : Has P w K mg base 5 "need_all" ["well", "inflows", "number", "place"] (spF s_need_all)) (h_solved : Has P w K mg base 4 "solved" ["well", "inflows", "number"] (spF (s_solved P w))) (h_deeds_of : Has P w K mg base 1 "deeds_of" ["well", "place"] (spF s_deeds_of)) (h_does_keep : Has P w K mg base 3 "does_keep" ["well", "inflows", "place", "deed", "known"] (spF (s_does_keep P w))) (D : DefAt K "control_paper" (top 62) f) : Has P w K mg base 6 "control_paper" ["well", "inflows", "number", "place"] (spF s_control_paper) := by
  obtain ⟨fd, a, F, _⟩ := D
  exact ⟨f, fd, ok_control_paper (k := 5) T (h_need_all.mono (by decide)) (h_solved.mono (by decide)) (h_deeds_of.mono (by decide)) (h_does_keep.mono (by decide)) F, PySem.W.mg_of X G a, F.kp, F.binds (ps := ["well", "inflows", "number", "place"]) fun _ _ _ _ _ _ us hl => match us, hl with | [_, _, _, _], _ => rfl⟩
theorem has_are_pairs {f : Addr} (X : K.In h) (G : h.Ns mainGlobals mg) (T : Txt mg) (h_is_place_of : Has P w K mg base 3 "is_place_of" ["well", "number", "thing"] (spF s_is_place_of)) (D : DefAt K "are_pairs" (top 63) f) : Has P w K mg base 4 "are_pairs" ["well", "number", "thing"] (spF s_are_pairs) := by
  obtain ⟨fd, a, F, _⟩ := D
  exact ⟨f, fd, ok_are_pairs (k := 3) T (h_is_place_of.mono (by decide)) F, PySem.W.mg_of X G a, F.kp, F.binds (ps := ["well", "number", "thing"]) fun _ _ _ _ _ _ us hl => match us, hl with | [_, _, _], _ => rfl⟩
theorem has_is_deed_of {f : Addr} (X : K.In h) (G : h.Ns mainGlobals mg) (T : Txt mg) (h_is_whole : Has P w K mg base 1 "is_whole" ["thing", "least", "most"] (spF s_is_whole)) (h_deeds_of : Has P w K mg base 1 "deeds_of" ["well", "place"] (spF s_deeds_of)) (D : DefAt K "is_deed_of" (top 51) f) : Has P w K mg base 2 "is_deed_of" ["well", "place", "thing"] (spF s_is_deed_of) := by
  obtain ⟨fd, a, F, _⟩ := D
  exact ⟨f, fd, ok_is_deed_of (k := 1) T (h_is_whole.mono (by decide)) (h_deeds_of.mono (by decide)) F, PySem.W.mg_of X G a, F.kp, F.binds (ps := ["well", "place", "thing"]) fun _ _ _ _ _ _ us hl => match us, hl with | [_, _, _], _ => rfl⟩
theorem has_is_plan {f : Addr} (X : K.In h) (G : h.Ns mainGlobals mg) (T : Txt mg) (h_are_pairs : Has P w K mg base 4 "are_pairs" ["well", "number", "thing"] (spF s_are_pairs)) (h_is_deed_of : Has P w K mg base 2 "is_deed_of" ["well", "place", "thing"] (spF s_is_deed_of)) (h_does_keep : Has P w K mg base 3 "does_keep" ["well", "inflows", "place", "deed", "known"] (spF (s_does_keep P w))) (D : DefAt K "is_plan" (top 64) f) : Has P w K mg base 5 "is_plan" ["well", "inflows", "number", "place", "thing"] (spF s_is_plan) := by
  obtain ⟨fd, a, F, _⟩ := D
  exact ⟨f, fd, ok_is_plan (k := 4) T (h_are_pairs.mono (by decide)) (h_is_deed_of.mono (by decide)) (h_does_keep.mono (by decide)) F, PySem.W.mg_of X G a, F.kp, F.binds (ps := ["well", "inflows", "number", "place", "thing"]) fun _ _ _ _ _ _ us hl => match us, hl with | [_, _, _, _, _], _ => rfl⟩
theorem has_does_lose {f : Addr} (X : K.In h) (G : h.Ns mainGlobals mg) (T : Txt mg) (h_led_by : Has P w K mg base 2 "led_by" ["well", "place", "deed", "inflow"] (spF s_led_by)) (D : DefAt K "does_lose" (top 65) f) : Has P w K mg base 3 "does_lose" ["well", "inflows", "place", "deed", "ranks"] (spF (s_does_lose P w)) := by
  obtain ⟨fd, a, F, _⟩ := D
  exact ⟨f, fd, ok_does_lose (k := 2) T (h_led_by.mono (by decide)) F, PySem.W.mg_of X G a, F.kp, F.binds (ps := ["well", "inflows", "place", "deed", "ranks"]) fun _ _ _ _ _ _ us hl => match us, hl with | [_, _, _, _, _], _ => rfl⟩
theorem has_are_ranks {f : Addr} (X : K.In h) (G : h.Ns mainGlobals mg) (T : Txt mg) (h_is_whole : Has P w K mg base 1 "is_whole" ["thing", "least", "most"] (spF s_is_whole)) (h_are_pairs : Has P w K mg base 4 "are_pairs" ["well", "number", "thing"] (spF s_are_pairs)) (h_deeds_of : Has P w K mg base 1 "deeds_of" ["well", "place"] (spF s_deeds_of)) (h_does_lose : Has P w K mg base 3 "does_lose" ["well", "inflows", "place", "deed", "ranks"] (spF (s_does_lose P w))) (D : DefAt K "are_ranks" (top 66) f) : Has P w K mg base 5 "are_ranks" ["well", "inflows", "number", "place", "thing"] (spF s_are_ranks) := by
  obtain ⟨fd, a, F, _⟩ := D
  exact ⟨f, fd, ok_are_ranks (k := 4) T (h_is_whole.mono (by decide)) (h_are_pairs.mono (by decide)) (h_deeds_of.mono (by decide)) (h_does_lose.mono (by decide)) F, PySem.W.mg_of X G a, F.kp, F.binds (ps := ["well", "inflows", "number", "place", "thing"]) fun _ _ _ _ _ _ us hl => match us, hl with | [_, _, _, _, _], _ => rfl⟩
theorem has_check_control {f : Addr} (X : K.In h) (G : h.Ns mainGlobals mg) (T : Txt mg) (h_need_all : Has P w K mg base 5 "need_all" ["well", "inflows", "number", "place"] (spF s_need_all)) (h_is_plan : Has P w K mg base 5 "is_plan" ["well", "inflows", "number", "place", "thing"] (spF s_is_plan)) (h_are_ranks : Has P w K mg base 5 "are_ranks" ["well", "inflows", "number", "place", "thing"] (spF s_are_ranks)) (D : DefAt K "check_control" (top 67) f) : Has P w K mg base 6 "check_control" ["well", "inflows", "number", "place", "paper"] (spF s_check_control) := by
  obtain ⟨fd, a, F, _⟩ := D
  exact ⟨f, fd, ok_check_control (k := 5) T (h_need_all.mono (by decide)) (h_is_plan.mono (by decide)) (h_are_ranks.mono (by decide)) F, PySem.W.mg_of X G a, F.kp, F.binds (ps := ["well", "inflows", "number", "place", "paper"]) fun _ _ _ _ _ _ us hl => match us, hl with | [_, _, _, _, _], _ => rfl⟩
theorem has__law_papers_right {f : Addr} (X : K.In h) (G : h.Ns mainGlobals mg) (T : Txt mg) (h_control_paper : Has P w K mg base 6 "control_paper" ["well", "inflows", "number", "place"] (spF s_control_paper)) (h_check_control : Has P w K mg base 6 "check_control" ["well", "inflows", "number", "place", "paper"] (spF s_check_control)) (D : DefAt K "_law_papers_right" (top 84) f) : Has P w K mg base 7 "_law_papers_right" ["_law_well_here", "_law_inflows", "_law_many", "_law_game_here"] (spF (s__law_papers_right P w)) := by
  obtain ⟨fd, a, F, _⟩ := D
  exact ⟨f, fd, ok__law_papers_right (k := 6) T (h_control_paper.mono (by decide)) (h_check_control.mono (by decide)) F, PySem.W.mg_of X G a, F.kp, F.binds (ps := ["_law_well_here", "_law_inflows", "_law_many", "_law_game_here"]) fun _ _ _ _ _ _ us hl => match us, hl with | [_, _, _, _], _ => rfl⟩
theorem has_is_held {f : Addr} (X : K.In h) (G : h.Ns mainGlobals mg) (T : Txt mg) (h_need_all : Has P w K mg base 5 "need_all" ["well", "inflows", "number", "place"] (spF s_need_all)) (h_solved : Has P w K mg base 4 "solved" ["well", "inflows", "number"] (spF (s_solved P w))) (D : DefAt K "is_held" (top 61) f) : Has P w K mg base 6 "is_held" ["well", "inflows", "number", "place"] (spF s_is_held) := by
  obtain ⟨fd, a, F, _⟩ := D
  exact ⟨f, fd, ok_is_held (k := 5) T (h_need_all.mono (by decide)) (h_solved.mono (by decide)) F, PySem.W.mg_of X G a, F.kp, F.binds (ps := ["well", "inflows", "number", "place"]) fun _ _ _ _ _ _ us hl => match us, hl with | [_, _, _, _], _ => rfl⟩
theorem has_deeds {f : Addr} (X : K.In h) (G : h.Ns mainGlobals mg) (T : Txt mg) (h_need_pumps : Has P w K mg base 4 "need_pumps" ["well", "number"] (spF s_need_pumps)) (h_need_place : Has P w K mg base 4 "need_place" ["well", "number", "place"] (spF s_need_place)) (h_deeds_of : Has P w K mg base 1 "deeds_of" ["well", "place"] (spF s_deeds_of)) (D : DefAt K "deeds" (top 54) f) : Has P w K mg base 5 "deeds" ["well", "number", "place"] (spF s_deeds) := by
  obtain ⟨fd, a, F, _⟩ := D
  exact ⟨f, fd, ok_deeds (k := 4) T (h_need_pumps.mono (by decide)) (h_need_place.mono (by decide)) (h_deeds_of.mono (by decide)) F, PySem.W.mg_of X G a, F.kp, F.binds (ps := ["well", "number", "place"]) fun _ _ _ _ _ _ us hl => match us, hl with | [_, _, _], _ => rfl⟩
theorem has_is_inflow {f : Addr} (X : K.In h) (G : h.Ns mainGlobals mg) (T : Txt mg) (h_is_whole : Has P w K mg base 1 "is_whole" ["thing", "least", "most"] (spF s_is_whole)) (D : DefAt K "is_inflow" (top 29) f) : Has P w K mg base 2 "is_inflow" ["thing"] (spF s_is_inflow) := by
  obtain ⟨fd, a, F, _⟩ := D
  exact ⟨f, fd, ok_is_inflow (k := 1) T (h_is_whole.mono (by decide)) F, PySem.W.mg_of X G a, F.kp, F.binds (ps := ["thing"]) fun _ _ _ _ _ _ us hl => match us, hl with | [_], _ => rfl⟩
theorem has_led {f : Addr} (X : K.In h) (G : h.Ns mainGlobals mg) (T : Txt mg) (h_need_pumps : Has P w K mg base 4 "need_pumps" ["well", "number"] (spF s_need_pumps)) (h_need_place : Has P w K mg base 4 "need_place" ["well", "number", "place"] (spF s_need_place)) (h_is_deed_of : Has P w K mg base 2 "is_deed_of" ["well", "place", "thing"] (spF s_is_deed_of)) (h_is_inflow : Has P w K mg base 2 "is_inflow" ["thing"] (spF s_is_inflow)) (h_led_by : Has P w K mg base 2 "led_by" ["well", "place", "deed", "inflow"] (spF s_led_by)) (D : DefAt K "led" (top 55) f) : Has P w K mg base 5 "led" ["well", "number", "place", "deed", "inflow"] (spF s_led) := by
  obtain ⟨fd, a, F, _⟩ := D
  exact ⟨f, fd, ok_led (k := 4) T (h_need_pumps.mono (by decide)) (h_need_place.mono (by decide)) (h_is_deed_of.mono (by decide)) (h_is_inflow.mono (by decide)) (h_led_by.mono (by decide)) F, PySem.W.mg_of X G a, F.kp, F.binds (ps := ["well", "number", "place", "deed", "inflow"]) fun _ _ _ _ _ _ us hl => match us, hl with | [_, _, _, _, _], _ => rfl⟩
theorem has__law_step_right {f : Addr} (X : K.In h) (G : h.Ns mainGlobals mg) (T : Txt mg) (h_draw : Has P w K mg base 2 "_law_draw" ["_law_m", "_law_limit"] sp__law_draw) (h__law_deeds : Has P w K mg base 1 "_law_deeds" ["_law_well_here", "_law_place"] (spF s__law_deeds)) (h__law_led : Has P w K mg base 1 "_law_led" ["_law_well_here", "_law_place", "_law_deed", "_law_inflow"] (spF s__law_led)) (h_is_held : Has P w K mg base 6 "is_held" ["well", "inflows", "number", "place"] (spF s_is_held)) (h_deeds : Has P w K mg base 5 "deeds" ["well", "number", "place"] (spF s_deeds)) (h_led : Has P w K mg base 5 "led" ["well", "number", "place", "deed", "inflow"] (spF s_led)) (D : DefAt K "_law_step_right" (top 85) f) : Has P w K mg base 7 "_law_step_right" ["_law_m", "_law_well_here", "_law_inflows", "_law_many", "_law_game_here"] (sp__law_step_right P w) := by
  obtain ⟨fd, a, F, _⟩ := D
  exact ⟨f, fd, ok__law_step_right (k := 6) T (h_draw.mono (by decide)) (h__law_deeds.mono (by decide)) (h__law_led.mono (by decide)) (h_is_held.mono (by decide)) (h_deeds.mono (by decide)) (h_led.mono (by decide)) F, PySem.W.mg_of X G a, F.kp, F.binds (ps := ["_law_m", "_law_well_here", "_law_inflows", "_law_many", "_law_game_here"]) fun _ _ _ _ _ _ us hl => match us, hl with | [_, _, _, _, _], _ => rfl⟩
theorem has__law_start {f : Addr} (X : K.In h) (G : h.Ns mainGlobals mg) (T : Txt mg) (D : DefAt K "_law_start" (top 73) f) : Has P w K mg base 1 "_law_start" ["_law_well_here", "_law_many", "_law_level"] (spF s__law_start) := by
  obtain ⟨fd, a, F, _⟩ := D
  exact ⟨f, fd, ok__law_start (k := 0) T F, PySem.W.mg_of X G a, F.kp, F.binds (ps := ["_law_well_here", "_law_many", "_law_level"]) fun _ _ _ _ _ _ us hl => match us, hl with | [_, _, _], _ => rfl⟩
theorem has__law_seen {f : Addr} (X : K.In h) (G : h.Ns mainGlobals mg) (T : Txt mg) (D : DefAt K "_law_seen" (top 74) f) : Has P w K mg base 1 "_law_seen" ["_law_well_here", "_law_here"] (spF s__law_seen) := by
  obtain ⟨fd, a, F, _⟩ := D
  exact ⟨f, fd, ok__law_seen (k := 0) T F, PySem.W.mg_of X G a, F.kp, F.binds (ps := ["_law_well_here", "_law_here"]) fun _ _ _ _ _ _ us hl => match us, hl with | [_, _], _ => rfl⟩
theorem has__law_beat {f : Addr} (X : K.In h) (G : h.Ns mainGlobals mg) (T : Txt mg) (h__law_seen : Has P w K mg base 1 "_law_seen" ["_law_well_here", "_law_here"] (spF s__law_seen)) (D : DefAt K "_law_beat" (top 75) f) : Has P w K mg base 2 "_law_beat" ["_law_well_here", "_law_here", "_law_inflow"] (spF s__law_beat) := by
  obtain ⟨fd, a, F, _⟩ := D
  exact ⟨f, fd, ok__law_beat (k := 1) T (h__law_seen.mono (by decide)) F, PySem.W.mg_of X G a, F.kp, F.binds (ps := ["_law_well_here", "_law_here", "_law_inflow"]) fun _ _ _ _ _ _ us hl => match us, hl with | [_, _, _], _ => rfl⟩
theorem has__law_come {f : Addr} (X : K.In h) (G : h.Ns mainGlobals mg) (T : Txt mg) (h__law_start : Has P w K mg base 1 "_law_start" ["_law_well_here", "_law_many", "_law_level"] (spF s__law_start)) (h__law_beat : Has P w K mg base 2 "_law_beat" ["_law_well_here", "_law_here", "_law_inflow"] (spF s__law_beat)) (D : DefAt K "_law_come" (top 76) f) : Has P w K mg base 3 "_law_come" ["_law_well_here", "_law_inflows", "_law_levels", "_law_many", "_law_most_so"] (spF (s__law_come P w)) := by
  obtain ⟨fd, a, F, _⟩ := D
  exact ⟨f, fd, ok__law_come (k := 2) T (h__law_start.mono (by decide)) (h__law_beat.mono (by decide)) F, PySem.W.mg_of X G a, F.kp, F.binds (ps := ["_law_well_here", "_law_inflows", "_law_levels", "_law_many", "_law_most_so"]) fun _ _ _ _ _ _ us hl => match us, hl with | [_, _, _, _, _], _ => rfl⟩
theorem has_need_claim {f : Addr} (X : K.In h) (G : h.Ns mainGlobals mg) (T : Txt mg) (h_wrong_part : Has P w K mg base 2 "wrong_part" ["thing"] (spF s_wrong_part)) (h_is_range : Has P w K mg base 2 "is_range" ["thing", "most"] (spF s_is_range)) (D : DefAt K "need_claim" (top 35) f) : Has P w K mg base 3 "need_claim" ["thing"] (spF s_need_claim) := by
  obtain ⟨fd, a, F, _⟩ := D
  exact ⟨f, fd, ok_need_claim (k := 2) T (h_wrong_part.mono (by decide)) (h_is_range.mono (by decide)) F, PySem.W.mg_of X G a, F.kp, F.binds (ps := ["thing"]) fun _ _ _ _ _ _ us hl => match us, hl with | [_], _ => rfl⟩
theorem has_is_number {f : Addr} (X : K.In h) (G : h.Ns mainGlobals mg) (T : Txt mg) (h_is_whole : Has P w K mg base 1 "is_whole" ["thing", "least", "most"] (spF s_is_whole)) (D : DefAt K "is_number" (top 21) f) : Has P w K mg base 2 "is_number" ["thing"] (spF s_is_number) := by
  obtain ⟨fd, a, F, _⟩ := D
  exact ⟨f, fd, ok_is_number (k := 1) T (h_is_whole.mono (by decide)) F, PySem.W.mg_of X G a, F.kp, F.binds (ps := ["thing"]) fun _ _ _ _ _ _ us hl => match us, hl with | [_], _ => rfl⟩
theorem has_need_number {f : Addr} (X : K.In h) (G : h.Ns mainGlobals mg) (T : Txt mg) (h_is_number : Has P w K mg base 2 "is_number" ["thing"] (spF s_is_number)) (D : DefAt K "need_number" (top 22) f) : Has P w K mg base 3 "need_number" ["number"] (spF s_need_number) := by
  obtain ⟨fd, a, F, _⟩ := D
  exact ⟨f, fd, ok_need_number (k := 2) T (h_is_number.mono (by decide)) F, PySem.W.mg_of X G a, F.kp, F.binds (ps := ["number"]) fun _ _ _ _ _ _ us hl => match us, hl with | [_], _ => rfl⟩
theorem has_begun_with {f : Addr} (X : K.In h) (G : h.Ns mainGlobals mg) (T : Txt mg) (D : DefAt K "begun_with" (top 24) f) : Has P w K mg base 1 "begun_with" ["well", "number", "level"] (spF s_begun_with) := by
  obtain ⟨fd, a, F, _⟩ := D
  exact ⟨f, fd, ok_begun_with (k := 0) T F, PySem.W.mg_of X G a, F.kp, F.binds (ps := ["well", "number", "level"]) fun _ _ _ _ _ _ us hl => match us, hl with | [_, _, _], _ => rfl⟩
theorem has_begun_states {f : Addr} (X : K.In h) (G : h.Ns mainGlobals mg) (T : Txt mg) (h_begun_with : Has P w K mg base 1 "begun_with" ["well", "number", "level"] (spF s_begun_with)) (D : DefAt K "begun_states" (top 37) f) : Has P w K mg base 2 "begun_states" ["claim", "number"] (spF s_begun_states) := by
  obtain ⟨fd, a, F, _⟩ := D
  exact ⟨f, fd, ok_begun_states (k := 1) T (h_begun_with.mono (by decide)) F, PySem.W.mg_of X G a, F.kp, F.binds (ps := ["claim", "number"]) fun _ _ _ _ _ _ us hl => match us, hl with | [_, _], _ => rfl⟩
theorem has_seen_of {f : Addr} (X : K.In h) (G : h.Ns mainGlobals mg) (T : Txt mg) (D : DefAt K "seen_of" (top 25) f) : Has P w K mg base 1 "seen_of" ["well", "level", "past"] (spF s_seen_of) := by
  obtain ⟨fd, a, F, _⟩ := D
  exact ⟨f, fd, ok_seen_of (k := 0) T F, PySem.W.mg_of X G a, F.kp, F.binds (ps := ["well", "level", "past"]) fun _ _ _ _ _ _ us hl => match us, hl with | [_, _, _], _ => rfl⟩
theorem has_moves_of {f : Addr} (X : K.In h) (G : h.Ns mainGlobals mg) (T : Txt mg) (h_seen_of : Has P w K mg base 1 "seen_of" ["well", "level", "past"] (spF s_seen_of)) (D : DefAt K "moves_of" (top 26) f) : Has P w K mg base 2 "moves_of" ["well", "state"] (spF s_moves_of) := by
  obtain ⟨fd, a, F, _⟩ := D
  exact ⟨f, fd, ok_moves_of (k := 1) T (h_seen_of.mono (by decide)) F, PySem.W.mg_of X G a, F.kp, F.binds (ps := ["well", "state"]) fun _ _ _ _ _ _ us hl => match us, hl with | [_, _], _ => rfl⟩
theorem has_led_to {f : Addr} (X : K.In h) (G : h.Ns mainGlobals mg) (T : Txt mg) (h_aged : Has P w K mg base 1 "aged" ["well", "running", "resting", "ready", "started", "stopped"] (spF s_aged)) (D : DefAt K "led_to" (top 28) f) : Has P w K mg base 2 "led_to" ["well", "state", "started", "stopped", "inflow"] (spF s_led_to) := by
  obtain ⟨fd, a, F, _⟩ := D
  exact ⟨f, fd, ok_led_to (k := 1) T (h_aged.mono (by decide)) F, PySem.W.mg_of X G a, F.kp, F.binds (ps := ["well", "state", "started", "stopped", "inflow"]) fun _ _ _ _ _ _ us hl => match us, hl with | [_, _, _, _, _], _ => rfl⟩
theorem has_beats_of {f : Addr} (X : K.In h) (G : h.Ns mainGlobals mg) (T : Txt mg) (h_moves_of : Has P w K mg base 2 "moves_of" ["well", "state"] (spF s_moves_of)) (h_led_to : Has P w K mg base 2 "led_to" ["well", "state", "started", "stopped", "inflow"] (spF s_led_to)) (D : DefAt K "beats_of" (top 36) f) : Has P w K mg base 3 "beats_of" ["well", "state", "inflows"] (spF s_beats_of) := by
  obtain ⟨fd, a, F, _⟩ := D
  exact ⟨f, fd, ok_beats_of (k := 2) T (h_moves_of.mono (by decide)) (h_led_to.mono (by decide)) F, PySem.W.mg_of X G a, F.kp, F.binds (ps := ["well", "state", "inflows"]) fun _ _ _ _ _ _ us hl => match us, hl with | [_, _, _], _ => rfl⟩
theorem has_searched {C : Addr} {f : Addr} (X : K.In h) (G : h.Ns mainGlobals mg) (T : Txt mg) (h_need_claim : Has P w K mg base 3 "need_claim" ["thing"] (spF s_need_claim)) (h_need_number : Has P w K mg base 3 "need_number" ["number"] (spF s_need_number)) (hI : HasI P w K mg base 5 C) (D : DefAt K "searched" (top 39) f) : Has P w K mg base 7 "searched" ["claim", "number"] (spF (s_searched P w C)) := by
  obtain ⟨fd, a, F, _⟩ := D
  exact ⟨f, fd, ok_searched (k := 5) T (h_need_claim.mono (by decide)) (h_need_number.mono (by decide)) (hi_mono hI (by decide)) F, PySem.W.mg_of X G a, F.kp, F.binds (ps := ["claim", "number"]) fun _ _ _ _ _ _ us hl => match us, hl with | [_, _], _ => rfl⟩
theorem has_verdict {C : Addr} {f : Addr} (X : K.In h) (G : h.Ns mainGlobals mg) (S : Sch K C) (h_searched : Has P w K mg base 7 "searched" ["claim", "number"] (spF (s_searched P w C))) (h_word : HasM P w K mg base 1 C "word" ["self"] (spF (s_word P w C))) (D : DefAt K "verdict" (top 40) f) : Has P w K mg base 8 "verdict" ["claim", "number"] (spF s_verdict) := by
  obtain ⟨fd, a, F, _⟩ := D
  exact ⟨f, fd, ok_verdict (k := 7) S (h_searched.mono (by decide)) (hm_mono h_word (by decide)) F, PySem.W.mg_of X G a, F.kp, F.binds (ps := ["claim", "number"]) fun _ _ _ _ _ _ us hl => match us, hl with | [_, _], _ => rfl⟩
theorem has__law_word {f : Addr} (X : K.In h) (G : h.Ns mainGlobals mg) (T : Txt mg) (D : DefAt K "_law_word" (top 77) f) : Has P w K mg base 1 "_law_word" ["_law_words"] (spF s__law_word) := by
  obtain ⟨fd, a, F, _⟩ := D
  exact ⟨f, fd, ok__law_word (k := 0) T F, PySem.W.mg_of X G a, F.kp, F.binds (ps := ["_law_words"]) fun _ _ _ _ _ _ us hl => match us, hl with | [_], _ => rfl⟩
theorem has_states {C : Addr} {f : Addr} (X : K.In h) (G : h.Ns mainGlobals mg) (T : Txt mg) (S : Sch K C) (h_searched : Has P w K mg base 7 "searched" ["claim", "number"] (spF (s_searched P w C))) (D : DefAt K "states" (top 41) f) : Has P w K mg base 8 "states" ["claim", "number"] (spF s_states) := by
  obtain ⟨fd, a, F, _⟩ := D
  exact ⟨f, fd, ok_states (k := 7) T S (h_searched.mono (by decide)) F, PySem.W.mg_of X G a, F.kp, F.binds (ps := ["claim", "number"]) fun _ _ _ _ _ _ us hl => match us, hl with | [_, _], _ => rfl⟩
theorem has__law_safe_right {f : Addr} (X : K.In h) (G : h.Ns mainGlobals mg) (T : Txt mg) (h__law_come : Has P w K mg base 3 "_law_come" ["_law_well_here", "_law_inflows", "_law_levels", "_law_many", "_law_most_so"] (spF (s__law_come P w))) (h_verdict : Has P w K mg base 8 "verdict" ["claim", "number"] (spF s_verdict)) (h__law_word : Has P w K mg base 1 "_law_word" ["_law_words"] (spF s__law_word)) (h_states : Has P w K mg base 8 "states" ["claim", "number"] (spF s_states)) (D : DefAt K "_law_safe_right" (top 86) f) : Has P w K mg base 9 "_law_safe_right" ["_law_well_here", "_law_inflows", "_law_many", "_law_game_here"] (spF (s__law_safe_right P w)) := by
  obtain ⟨fd, a, F, _⟩ := D
  exact ⟨f, fd, ok__law_safe_right (k := 8) T (h__law_come.mono (by decide)) (h_verdict.mono (by decide)) (h__law_word.mono (by decide)) (h_states.mono (by decide)) F, PySem.W.mg_of X G a, F.kp, F.binds (ps := ["_law_well_here", "_law_inflows", "_law_many", "_law_game_here"]) fun _ _ _ _ _ _ us hl => match us, hl with | [_, _, _, _], _ => rfl⟩
end
section
variable {P : Program} {w : World} {K : PySem.W.Frag} {h : Heap} {mg : Str → Option Value} {base : Heap} {C f : Addr}
theorem has_run_to (S : Sch K C) (D : MethAt K C "run_to" "Search.run_to" mRun f) : HasM P w K mg base 1 C "run_to" ["self", "state"] (spF (s_run_to P w C)) := by
  obtain ⟨fd, M, F⟩ := D
  exact ⟨f, fd, ok_run_to (k := 0) S F, M, F.binds (ps := ["self", "state"]) fun _ _ _ _ _ _ us hl => match us, hl with | [_, _], _ => rfl⟩
theorem has_behind (T : Txt mg) (S : Sch K C) (h_beats_of : Has P w K mg base 3 "beats_of" ["well", "state", "inflows"] (spF s_beats_of)) (h_run : HasM P w K mg base 1 C "run_to" ["self", "state"] (spF (s_run_to P w C))) (D : MethAt K C "behind" "Search.behind" mBehind f) : HasB P w K mg base 4 C := by
  obtain ⟨fd, M, F⟩ := D
  exact ⟨f, fd, ok_behind (k := 3) T S (h_beats_of.mono (by decide)) (hm_mono h_run (by decide)) F, M, F.binds (ps := ["self", "claim", "state"]) fun _ _ _ _ _ _ us hl => match us, hl with | [_, _, _], _ => rfl⟩
theorem has_init (X : K.In h) (G : h.Ns mainGlobals mg) (cl : ClsAt K C) (T : Txt mg) (S : Sch K C) (h_begun_states : Has P w K mg base 2 "begun_states" ["claim", "number"] (spF s_begun_states)) (hB : HasB P w K mg base 4 C) (D : MethAt K C "__init__" "Search.__init__" mInit f) : HasI P w K mg base 5 C := by
  obtain ⟨fd, M, F⟩ := D
  exact ⟨f, fd, ok_init (k := 4) T S (h_begun_states.mono (by decide)) (hb_mono hB (by decide)) F, ⟨cl.makes, M.at_, M.fn, cl.kp⟩, F.binds (ps := ["self", "claim", "number"]) fun _ _ _ _ _ _ us hl => match us, hl with | [_, _, _], _ => rfl, PySem.W.mg_of X G cl.at_⟩
theorem has_word (T : Txt mg) (S : Sch K C) (D : MethAt K C "word" "Search.word" mWord f) : HasM P w K mg base 1 C "word" ["self"] (spF (s_word P w C)) := by
  obtain ⟨fd, M, F⟩ := D
  exact ⟨f, fd, ok_word (k := 0) T S F, M, F.binds (ps := ["self"]) fun _ _ _ _ _ _ us hl => match us, hl with | [_], _ => rfl⟩
end
theorem all_mk {P : Program} {w : World} {K : PySem.W.Frag} {h : Heap} {mg : Str → Option Value} {fa C : Addr} (X : K.In h) (G : h.Ns mainGlobals mg) (hfa : mg "law" = some (.ref fa)) (T : Txt mg) (cl : ClsAt K C)
    {f0 f1 f2 f3 f4 f5 f6 f7 f8 f9 f10 f11 f12 f13 f14 f15 f16 f17 f18 f19 f20 f21 f22 f23 f24 f25 f26 f27 f28 f29 f30 f31 f32 f33 f34 f35 f36 f37 f38 f39 f40 f41 f42 f43 f44 f45 f46 f47 f48 f49 f50 f51 f52 f53 f54 f55 f56 f57 f58 f59 f60 f61 f62 : Addr}
    (D0 : DefAt K "_law_begun" (top 70) f0)
    (D1 : DefAt K "_law_mix" (top 69) f1)
    (D2 : DefAt K "_law_draw" (top 71) f2)
    (D3 : DefAt K "_law_well" (top 72) f3)
    (D4 : DefAt K "_law_range" (top 78) f4)
    (D5 : DefAt K "_law_places" (top 79) f5)
    (D6 : DefAt K "_law_deeds" (top 80) f6)
    (D7 : DefAt K "_law_led" (top 81) f7)
    (D8 : DefAt K "_law_keeps" (top 82) f8)
    (D9 : DefAt K "_law_game" (top 83) f9)
    (D10 : DefAt K "is_whole" (top 18) f10)
    (D11 : DefAt K "wrong_part" (top 19) f11)
    (D12 : DefAt K "need_well" (top 20) f12)
    (D13 : DefAt K "is_range" (top 34) f13)
    (D14 : DefAt K "need_inflows" (top 43) f14)
    (D15 : DefAt K "need_pumps" (top 48) f15)
    (D16 : DefAt K "are_counts" (top 23) f16)
    (D17 : DefAt K "is_place_of" (top 49) f17)
    (D18 : DefAt K "need_place" (top 53) f18)
    (D19 : DefAt K "need_all" (top 60) f19)
    (D20 : DefAt K "rows_of" (top 56) f20)
    (D21 : DefAt K "places_of" (top 57) f21)
    (D22 : DefAt K "deeds_of" (top 50) f22)
    (D23 : DefAt K "aged" (top 27) f23)
    (D24 : DefAt K "led_by" (top 52) f24)
    (D25 : DefAt K "does_keep" (top 58) f25)
    (D26 : DefAt K "solved" (top 59) f26)
    (D27 : DefAt K "control_paper" (top 62) f27)
    (D28 : DefAt K "are_pairs" (top 63) f28)
    (D29 : DefAt K "is_deed_of" (top 51) f29)
    (D30 : DefAt K "is_plan" (top 64) f30)
    (D31 : DefAt K "does_lose" (top 65) f31)
    (D32 : DefAt K "are_ranks" (top 66) f32)
    (D33 : DefAt K "check_control" (top 67) f33)
    (D34 : DefAt K "_law_papers_right" (top 84) f34)
    (D35 : DefAt K "is_held" (top 61) f35)
    (D36 : DefAt K "deeds" (top 54) f36)
    (D37 : DefAt K "is_inflow" (top 29) f37)
    (D38 : DefAt K "led" (top 55) f38)
    (D39 : DefAt K "_law_step_right" (top 85) f39)
    (D40 : DefAt K "_law_start" (top 73) f40)
    (D41 : DefAt K "_law_seen" (top 74) f41)
    (D42 : DefAt K "_law_beat" (top 75) f42)
    (D43 : DefAt K "_law_come" (top 76) f43)
    (D44 : DefAt K "need_claim" (top 35) f44)
    (D45 : DefAt K "is_number" (top 21) f45)
    (D46 : DefAt K "need_number" (top 22) f46)
    (D47 : DefAt K "begun_with" (top 24) f47)
    (D48 : DefAt K "begun_states" (top 37) f48)
    (D49 : DefAt K "seen_of" (top 25) f49)
    (D50 : DefAt K "moves_of" (top 26) f50)
    (D51 : DefAt K "led_to" (top 28) f51)
    (D52 : DefAt K "beats_of" (top 36) f52)
    (D53 : MethAt K C "run_to" "Search.run_to" mRun f53)
    (D54 : MethAt K C "behind" "Search.behind" mBehind f54)
    (D55 : MethAt K C "__init__" "Search.__init__" mInit f55)
    (D56 : DefAt K "searched" (top 39) f56)
    (D57 : MethAt K C "word" "Search.word" mWord f57)
    (D58 : DefAt K "verdict" (top 40) f58)
    (D59 : DefAt K "_law_word" (top 77) f59)
    (D60 : DefAt K "states" (top 41) f60)
    (D61 : DefAt K "_law_safe_right" (top 86) f61)
    (D62 : DefAt K "law" (top 87) f62)
    : ∃ fd : FuncData, (∀ (s : Shared) (v : Value), BindsTo s fd ⟨[v], []⟩ [("_law_script", v)]) ∧ ∀ base : Heap, K.In base → base.Ns mainGlobals mg → FnOk P w K mg base CX0 10 fa fd ["_law_script"] (spF (s_law K)) := by
  obtain ⟨fd, a, F, _⟩ := D62
  have e := hfa.symm.trans (PySem.W.mg_of X G a)
  cases e
  have bd : ∀ (s : Shared) (v : Value), BindsTo s fd ⟨[v], []⟩ [("_law_script", v)] := by
    obtain ⟨oc, od, kV, doc, pm, an, cdv, ct, osl, rfl, lk, hcd⟩ := F.ex
    exact fun s v => .of_eq rfl
  refine ⟨fd, bd, fun base _ _ => ?_⟩
  have S := cl.sch
  have H0 := has__law_begun (P := P) (w := w) (base := base) X G T D0
  have H1 := has__law_mix (P := P) (w := w) (base := base) X G T D1
  have H2 := has__law_draw (P := P) (w := w) (base := base) X G T H1 D2
  have H3 := has__law_well (P := P) (w := w) (base := base) X G H2 D3
  have H4 := has__law_range (P := P) (w := w) (base := base) X G T H2 D4
  have H5 := has__law_places (P := P) (w := w) (base := base) X G T D5
  have H6 := has__law_deeds (P := P) (w := w) (base := base) X G T D6
  have H7 := has__law_led (P := P) (w := w) (base := base) X G T D7
  have H8 := has__law_keeps (P := P) (w := w) (base := base) X G T H6 H7 D8
  have H9 := has__law_game (P := P) (w := w) (base := base) X G T H5 H8 D9
  have H10 := has_is_whole (P := P) (w := w) (base := base) X G T D10
  have H11 := has_wrong_part (P := P) (w := w) (base := base) X G T H10 D11
  have H12 := has_need_well (P := P) (w := w) (base := base) X G T H11 D12
  have H13 := has_is_range (P := P) (w := w) (base := base) X G T H10 D13
  have H14 := has_need_inflows (P := P) (w := w) (base := base) X G T H13 D14
  have H15 := has_need_pumps (P := P) (w := w) (base := base) X G T H12 H10 D15
  have H16 := has_are_counts (P := P) (w := w) (base := base) X G T H10 D16
  have H17 := has_is_place_of (P := P) (w := w) (base := base) X G T H10 H16 D17
  have H18 := has_need_place (P := P) (w := w) (base := base) X G T H17 D18
  have H19 := has_need_all (P := P) (w := w) (base := base) X G T H12 H14 H15 H18 D19
  have H20 := has_rows_of (P := P) (w := w) (base := base) X G T D20
  have H21 := has_places_of (P := P) (w := w) (base := base) X G T H20 D21
  have H22 := has_deeds_of (P := P) (w := w) (base := base) X G T D22
  have H23 := has_aged (P := P) (w := w) (base := base) X G T D23
  have H24 := has_led_by (P := P) (w := w) (base := base) X G T H23 D24
  have H25 := has_does_keep (P := P) (w := w) (base := base) X G T H24 D25
  have H26 := has_solved (P := P) (w := w) (base := base) X G T H21 H22 H25 D26
  have H27 := has_control_paper (P := P) (w := w) (base := base) X G T H19 H26 H22 H25 D27
  have H28 := has_are_pairs (P := P) (w := w) (base := base) X G T H17 D28
  have H29 := has_is_deed_of (P := P) (w := w) (base := base) X G T H10 H22 D29
  have H30 := has_is_plan (P := P) (w := w) (base := base) X G T H28 H29 H25 D30
  have H31 := has_does_lose (P := P) (w := w) (base := base) X G T H24 D31
  have H32 := has_are_ranks (P := P) (w := w) (base := base) X G T H10 H28 H22 H31 D32
  have H33 := has_check_control (P := P) (w := w) (base := base) X G T H19 H30 H32 D33
  have H34 := has__law_papers_right (P := P) (w := w) (base := base) X G T H27 H33 D34
  have H35 := has_is_held (P := P) (w := w) (base := base) X G T H19 H26 D35
  have H36 := has_deeds (P := P) (w := w) (base := base) X G T H15 H18 H22 D36
  have H37 := has_is_inflow (P := P) (w := w) (base := base) X G T H10 D37
  have H38 := has_led (P := P) (w := w) (base := base) X G T H15 H18 H29 H37 H24 D38
  have H39 := has__law_step_right (P := P) (w := w) (base := base) X G T H2 H6 H7 H35 H36 H38 D39
  have H40 := has__law_start (P := P) (w := w) (base := base) X G T D40
  have H41 := has__law_seen (P := P) (w := w) (base := base) X G T D41
  have H42 := has__law_beat (P := P) (w := w) (base := base) X G T H41 D42
  have H43 := has__law_come (P := P) (w := w) (base := base) X G T H40 H42 D43
  have H44 := has_need_claim (P := P) (w := w) (base := base) X G T H11 H13 D44
  have H45 := has_is_number (P := P) (w := w) (base := base) X G T H10 D45
  have H46 := has_need_number (P := P) (w := w) (base := base) X G T H45 D46
  have H47 := has_begun_with (P := P) (w := w) (base := base) X G T D47
  have H48 := has_begun_states (P := P) (w := w) (base := base) X G T H47 D48
  have H49 := has_seen_of (P := P) (w := w) (base := base) X G T D49
  have H50 := has_moves_of (P := P) (w := w) (base := base) X G T H49 D50
  have H51 := has_led_to (P := P) (w := w) (base := base) X G T H23 D51
  have H52 := has_beats_of (P := P) (w := w) (base := base) X G T H50 H51 D52
  have H53 := has_run_to (P := P) (w := w) (mg := mg) (base := base) S D53
  have H54 := has_behind (P := P) (w := w) (mg := mg) (base := base) T S H52 H53 D54
  have H55 := has_init (P := P) (w := w) (base := base) X G cl T S H48 H54 D55
  have H56 := has_searched (P := P) (w := w) (base := base) X G T H44 H46 H55 D56
  have H57 := has_word (P := P) (w := w) (mg := mg) (base := base) T S D57
  have H58 := has_verdict (P := P) (w := w) (base := base) X G S H56 H57 D58
  have H59 := has__law_word (P := P) (w := w) (base := base) X G T D59
  have H60 := has_states (P := P) (w := w) (base := base) X G T S H56 D60
  have H61 := has__law_safe_right (P := P) (w := w) (base := base) X G T H43 H58 H59 H60 D61
  exact ok_law (k := 9) T (H0.mono (by decide)) (H2.mono (by decide)) (H3.mono (by decide)) (H4.mono (by decide)) (H9.mono (by decide)) (H34.mono (by decide)) (H39.mono (by decide)) (H61.mono (by decide)) (H35.mono (by decide)) F
/-- the law's promise at the end of the top -/
theorem law_put {K : PySem.W.Frag} {H : Hp} {a : Addr} {ns : List Int} (hl : ns.length ≤ 63) (h : SqL K H a (ns.map V.int)) : spF (s_law K) [.ref a] H (fun v _ => v = .bl true) fun _ _ _ => False := by
  obtain ⟨G, hG⟩ := sq_put h
  refine ⟨_, _, ⟨ns, hl, rfl, rfl⟩, trivial, .cons ⟨rfl, G, hG⟩ .nil, fun v H' F e i => ?_⟩
  have z : Dt H' v (.bool true) := i.2
  cases z
  rfl
theorem walk {l : PySem.W.OpenLaw} {q : Program} {loose : List Str} {XP : (Str → Option Value) → Heap → Prop} {YP : World → Heap → Prop} {d : DefRec} {K : Params → PySem.W.Frag} (hn : l.most = some 63) (hdf : d.params.defaults = [])
    (hY : ∀ (w : World) (h : Heap), YP w h → (K w.params).In h)
    (F : ∀ (w : World) (mg : Str → Option Value) (fa : Addr) (h : Heap), (K w.params).In h → h.Ns mainGlobals mg → mg d.name = some (.ref fa) →
      ∃ fd : FuncData, (∀ (s : Shared) (u : Value), BindsTo s fd ⟨[u], []⟩ [("_law_script", u)]) ∧ ∀ base : Heap, (K w.params).In base → base.Ns mainGlobals mg → FnOk l.prog w (K w.params) mg base CX0 10 fa fd ["_law_script"] (spF (s_law (K w.params)))) :
    PySem.W.WalkO q loose XP YP l.row.toRowW d [] (fun f vs => PySem.call f vs) :=
  L2.walk_of (n := 63) (k := 10) (x := "_law_script") (CX := fun _ => CX0) (sp := fun w => spF (s_law (K w.params))) hn (by decide) hdf ⟨rfl, by decide, by decide⟩ hY F (fun _ _ a ns hl _ hS => law_put hl hS) fun _ _ _ _ _ z => z
end Pq

open PySem PySem.W PyProof.Rows
set_option maxRecDepth 100000 in
set_option maxHeartbeats 0 in
theorem PySem.Challenge.cw_pumphouse_k77_whole_game_beside_the_rule_holds : PySem.Challenge.rw_pumphouse_k77_whole_game_beside_the_rule.Holds := by
  w_on; o_law; k_head; (case hw => w_witness2)
  k_fill
  refine Pq.walk (l := PySem.Challenge.rw_pumphouse_k77_whole_game_beside_the_rule) rfl rfl (fun w h Y => PySem.W.kIn_of Y) ?F
  case F =>
    intro w mg fa h KX G hmg
    have T : Pq.Txt mg := by
      refine' Pq.txt_of KX G ?b0 ?b1 ?b2 ?b3 ?b4 ?b5 ?b6 ?b7 ?b8 ?b9 ?b10 ?b11 ?b12 ?b13 ?b14 ?b15 ?cMOST_TOP ?cMOST_DRAIN ?cMOST_AGE ?cMOST_STARTS ?cMOST_STEP ?cMOST_LAG ?cMOST_NUMBER ?cMOST_COUNT ?cMOST_INFLOW ?cMOST_STATES ?cMOST_PUMPS ?cOVER ?cDRY ?cSAFE ?cBOTH ?cHELD ?cLOST
      (case b0 => k_is)
      (case b1 => k_is)
      (case b2 => k_is)
      (case b3 => k_is)
      (case b4 => k_is)
      (case b5 => k_is)
      (case b6 => k_is)
      (case b7 => k_is)
      (case b8 => k_is)
      (case b9 => k_is)
      (case b10 => k_is)
      (case b11 => k_is)
      (case b12 => k_is)
      (case b13 => k_is)
      (case b14 => k_is)
      (case b15 => k_is)
      (case cMOST_TOP => (refine' Pq.num_at ?a; (case a => k_is)))
      (case cMOST_DRAIN => (refine' Pq.num_at ?a; (case a => k_is)))
      (case cMOST_AGE => (refine' Pq.num_at ?a; (case a => k_is)))
      (case cMOST_STARTS => (refine' Pq.num_at ?a; (case a => k_is)))
      (case cMOST_STEP => (refine' Pq.num_at ?a; (case a => k_is)))
      (case cMOST_LAG => (refine' Pq.num_at ?a; (case a => k_is)))
      (case cMOST_NUMBER => (refine' Pq.num_at ?a; (case a => k_is)))
      (case cMOST_COUNT => (refine' Pq.num_at ?a; (case a => k_is)))
      (case cMOST_INFLOW => (refine' Pq.num_at ?a; (case a => k_is)))
      (case cMOST_STATES => (refine' Pq.num_at ?a; (case a => k_is)))
      (case cMOST_PUMPS => (refine' Pq.num_at ?a; (case a => k_is)))
      (case cOVER => (refine' Pq.word_at ?a; (case a => k_is)))
      (case cDRY => (refine' Pq.word_at ?a; (case a => k_is)))
      (case cSAFE => (refine' Pq.word_at ?a; (case a => k_is)))
      (case cBOTH => (refine' Pq.word_at ?a; (case a => k_is)))
      (case cHELD => (refine' Pq.word_at ?a; (case a => k_is)))
      (case cLOST => (refine' Pq.word_at ?a; (case a => k_is)))
    refine' Pq.all_mk KX G hmg T ?cl ?D0 ?D1 ?D2 ?D3 ?D4 ?D5 ?D6 ?D7 ?D8 ?D9 ?D10 ?D11 ?D12 ?D13 ?D14 ?D15 ?D16 ?D17 ?D18 ?D19 ?D20 ?D21 ?D22 ?D23 ?D24 ?D25 ?D26 ?D27 ?D28 ?D29 ?D30 ?D31 ?D32 ?D33 ?D34 ?D35 ?D36 ?D37 ?D38 ?D39 ?D40 ?D41 ?D42 ?D43 ?D44 ?D45 ?D46 ?D47 ?D48 ?D49 ?D50 ?D51 ?D52 ?D53 ?D54 ?D55 ?D56 ?D57 ?D58 ?D59 ?D60 ?D61 ?D62
    (case cl => (refine' Pq.cls_at ?a ?pg ?hd ?po ?sa ?mk ?kc ?n1 ?n2 ?n3; (case a => k_is); (case pg => k_is); (case hd => k_is); (case po => k_is); (case sa => k_is); (case mk => k_is); (case kc => k_is); (case n1 => k_is); (case n2 => k_is); (case n3 => k_is)))
    (case D0 => (refine' Pq.def_at ?a ?l ?c ?k; (case a => k_is); (case l => k_is); (case c => k_is); (case k => k_is)))
    (case D1 => (refine' Pq.def_at ?a ?l ?c ?k; (case a => k_is); (case l => k_is); (case c => k_is); (case k => k_is)))
    (case D2 => (refine' Pq.def_at ?a ?l ?c ?k; (case a => k_is); (case l => k_is); (case c => k_is); (case k => k_is)))
    (case D3 => (refine' Pq.def_at ?a ?l ?c ?k; (case a => k_is); (case l => k_is); (case c => k_is); (case k => k_is)))
    (case D4 => (refine' Pq.def_at ?a ?l ?c ?k; (case a => k_is); (case l => k_is); (case c => k_is); (case k => k_is)))
    (case D5 => (refine' Pq.def_at ?a ?l ?c ?k; (case a => k_is); (case l => k_is); (case c => k_is); (case k => k_is)))
    (case D6 => (refine' Pq.def_at ?a ?l ?c ?k; (case a => k_is); (case l => k_is); (case c => k_is); (case k => k_is)))
    (case D7 => (refine' Pq.def_at ?a ?l ?c ?k; (case a => k_is); (case l => k_is); (case c => k_is); (case k => k_is)))
    (case D8 => (refine' Pq.def_at ?a ?l ?c ?k; (case a => k_is); (case l => k_is); (case c => k_is); (case k => k_is)))
    (case D9 => (refine' Pq.def_at ?a ?l ?c ?k; (case a => k_is); (case l => k_is); (case c => k_is); (case k => k_is)))
    (case D10 => (refine' Pq.def_at ?a ?l ?c ?k; (case a => k_is); (case l => k_is); (case c => k_is); (case k => k_is)))
    (case D11 => (refine' Pq.def_at ?a ?l ?c ?k; (case a => k_is); (case l => k_is); (case c => k_is); (case k => k_is)))
    (case D12 => (refine' Pq.def_at ?a ?l ?c ?k; (case a => k_is); (case l => k_is); (case c => k_is); (case k => k_is)))
    (case D13 => (refine' Pq.def_at ?a ?l ?c ?k; (case a => k_is); (case l => k_is); (case c => k_is); (case k => k_is)))
    (case D14 => (refine' Pq.def_at ?a ?l ?c ?k; (case a => k_is); (case l => k_is); (case c => k_is); (case k => k_is)))
    (case D15 => (refine' Pq.def_at ?a ?l ?c ?k; (case a => k_is); (case l => k_is); (case c => k_is); (case k => k_is)))
    (case D16 => (refine' Pq.def_at ?a ?l ?c ?k; (case a => k_is); (case l => k_is); (case c => k_is); (case k => k_is)))
    (case D17 => (refine' Pq.def_at ?a ?l ?c ?k; (case a => k_is); (case l => k_is); (case c => k_is); (case k => k_is)))
    (case D18 => (refine' Pq.def_at ?a ?l ?c ?k; (case a => k_is); (case l => k_is); (case c => k_is); (case k => k_is)))
    (case D19 => (refine' Pq.def_at ?a ?l ?c ?k; (case a => k_is); (case l => k_is); (case c => k_is); (case k => k_is)))
    (case D20 => (refine' Pq.def_at ?a ?l ?c ?k; (case a => k_is); (case l => k_is); (case c => k_is); (case k => k_is)))
    (case D21 => (refine' Pq.def_at ?a ?l ?c ?k; (case a => k_is); (case l => k_is); (case c => k_is); (case k => k_is)))
    (case D22 => (refine' Pq.def_at ?a ?l ?c ?k; (case a => k_is); (case l => k_is); (case c => k_is); (case k => k_is)))
    (case D23 => (refine' Pq.def_at ?a ?l ?c ?k; (case a => k_is); (case l => k_is); (case c => k_is); (case k => k_is)))
    (case D24 => (refine' Pq.def_at ?a ?l ?c ?k; (case a => k_is); (case l => k_is); (case c => k_is); (case k => k_is)))
    (case D25 => (refine' Pq.def_at ?a ?l ?c ?k; (case a => k_is); (case l => k_is); (case c => k_is); (case k => k_is)))
    (case D26 => (refine' Pq.def_at ?a ?l ?c ?k; (case a => k_is); (case l => k_is); (case c => k_is); (case k => k_is)))
    (case D27 => (refine' Pq.def_at ?a ?l ?c ?k; (case a => k_is); (case l => k_is); (case c => k_is); (case k => k_is)))
    (case D28 => (refine' Pq.def_at ?a ?l ?c ?k; (case a => k_is); (case l => k_is); (case c => k_is); (case k => k_is)))
    (case D29 => (refine' Pq.def_at ?a ?l ?c ?k; (case a => k_is); (case l => k_is); (case c => k_is); (case k => k_is)))
    (case D30 => (refine' Pq.def_at ?a ?l ?c ?k; (case a => k_is); (case l => k_is); (case c => k_is); (case k => k_is)))
    (case D31 => (refine' Pq.def_at ?a ?l ?c ?k; (case a => k_is); (case l => k_is); (case c => k_is); (case k => k_is)))
    (case D32 => (refine' Pq.def_at ?a ?l ?c ?k; (case a => k_is); (case l => k_is); (case c => k_is); (case k => k_is)))
    (case D33 => (refine' Pq.def_at ?a ?l ?c ?k; (case a => k_is); (case l => k_is); (case c => k_is); (case k => k_is)))
    (case D34 => (refine' Pq.def_at ?a ?l ?c ?k; (case a => k_is); (case l => k_is); (case c => k_is); (case k => k_is)))
    (case D35 => (refine' Pq.def_at ?a ?l ?c ?k; (case a => k_is); (case l => k_is); (case c => k_is); (case k => k_is)))
    (case D36 => (refine' Pq.def_at ?a ?l ?c ?k; (case a => k_is); (case l => k_is); (case c => k_is); (case k => k_is)))
    (case D37 => (refine' Pq.def_at ?a ?l ?c ?k; (case a => k_is); (case l => k_is); (case c => k_is); (case k => k_is)))
    (case D38 => (refine' Pq.def_at ?a ?l ?c ?k; (case a => k_is); (case l => k_is); (case c => k_is); (case k => k_is)))
    (case D39 => (refine' Pq.def_at ?a ?l ?c ?k; (case a => k_is); (case l => k_is); (case c => k_is); (case k => k_is)))
    (case D40 => (refine' Pq.def_at ?a ?l ?c ?k; (case a => k_is); (case l => k_is); (case c => k_is); (case k => k_is)))
    (case D41 => (refine' Pq.def_at ?a ?l ?c ?k; (case a => k_is); (case l => k_is); (case c => k_is); (case k => k_is)))
    (case D42 => (refine' Pq.def_at ?a ?l ?c ?k; (case a => k_is); (case l => k_is); (case c => k_is); (case k => k_is)))
    (case D43 => (refine' Pq.def_at ?a ?l ?c ?k; (case a => k_is); (case l => k_is); (case c => k_is); (case k => k_is)))
    (case D44 => (refine' Pq.def_at ?a ?l ?c ?k; (case a => k_is); (case l => k_is); (case c => k_is); (case k => k_is)))
    (case D45 => (refine' Pq.def_at ?a ?l ?c ?k; (case a => k_is); (case l => k_is); (case c => k_is); (case k => k_is)))
    (case D46 => (refine' Pq.def_at ?a ?l ?c ?k; (case a => k_is); (case l => k_is); (case c => k_is); (case k => k_is)))
    (case D47 => (refine' Pq.def_at ?a ?l ?c ?k; (case a => k_is); (case l => k_is); (case c => k_is); (case k => k_is)))
    (case D48 => (refine' Pq.def_at ?a ?l ?c ?k; (case a => k_is); (case l => k_is); (case c => k_is); (case k => k_is)))
    (case D49 => (refine' Pq.def_at ?a ?l ?c ?k; (case a => k_is); (case l => k_is); (case c => k_is); (case k => k_is)))
    (case D50 => (refine' Pq.def_at ?a ?l ?c ?k; (case a => k_is); (case l => k_is); (case c => k_is); (case k => k_is)))
    (case D51 => (refine' Pq.def_at ?a ?l ?c ?k; (case a => k_is); (case l => k_is); (case c => k_is); (case k => k_is)))
    (case D52 => (refine' Pq.def_at ?a ?l ?c ?k; (case a => k_is); (case l => k_is); (case c => k_is); (case k => k_is)))
    (case D53 => (refine' Pq.meth_at ?a ?i ?l ?c ?k; (case a => k_is); (case i => k_is); (case l => k_is); (case c => k_is); (case k => k_is)))
    (case D54 => (refine' Pq.meth_at ?a ?i ?l ?c ?k; (case a => k_is); (case i => k_is); (case l => k_is); (case c => k_is); (case k => k_is)))
    (case D55 => (refine' Pq.meth_at ?a ?i ?l ?c ?k; (case a => k_is); (case i => k_is); (case l => k_is); (case c => k_is); (case k => k_is)))
    (case D56 => (refine' Pq.def_at ?a ?l ?c ?k; (case a => k_is); (case l => k_is); (case c => k_is); (case k => k_is)))
    (case D57 => (refine' Pq.meth_at ?a ?i ?l ?c ?k; (case a => k_is); (case i => k_is); (case l => k_is); (case c => k_is); (case k => k_is)))
    (case D58 => (refine' Pq.def_at ?a ?l ?c ?k; (case a => k_is); (case l => k_is); (case c => k_is); (case k => k_is)))
    (case D59 => (refine' Pq.def_at ?a ?l ?c ?k; (case a => k_is); (case l => k_is); (case c => k_is); (case k => k_is)))
    (case D60 => (refine' Pq.def_at ?a ?l ?c ?k; (case a => k_is); (case l => k_is); (case c => k_is); (case k => k_is)))
    (case D61 => (refine' Pq.def_at ?a ?l ?c ?k; (case a => k_is); (case l => k_is); (case c => k_is); (case k => k_is)))
    (case D62 => (refine' Pq.def_at ?a ?l ?c ?k; (case a => k_is); (case l => k_is); (case c => k_is); (case k => k_is)))

