import PyProof.Rows.All
import Wide.All
import OpenK.AllK
import Wide.FinOn
import HandS.ForMost
import KE.GoesMore
import KE.GoesEnum
import HandS.Star
import HandS.Style
import HandS.TupAny
import HandS.IsInst
import HandS.Conv
import HandS.Codes
import HandS.DictComp
import KE.KeyNested
import KE.KDictKeyed
import KE.KDictDisplayH
import KE.KDictWalk
import KE.SortData
import PyProof.ReprReads
import HandS.TupLen
import PyProof.ReprRoads
import PySem.Challenge.RW_asklast_k15_whole_orders
import HandS.TryOnly
-- AskR1
set_option Elab.async false
set_option linter.all false
set_option maxRecDepth 100000
/-! enumerate(t), t a tuple -/
namespace PySem
set_option maxHeartbeats 1000000 in
theorem meets_enumerate_newT {v : Value} {o : Obj} {H : Heap → Prop} (B : Begins v o H) :
    Meets (Builtin.«enumerate.__new__» ⟨[.type "enumerate", v], []⟩) (fun _ R s => H s.heap ∧
      R (.ok (.ret (.ref (s.heap.push o).objs.size))) { s with heap := (s.heap.push o).push { cls := .type "enumerate", data := .fields #[.none, .bool false, .ref s.heap.objs.size, rawInt 0, .none, .none] } }) :=
  .of_wp fun prog w A R s h => by
    obtain ⟨hp, g, d, tk, os⟩ := s; obtain ⟨h1, h⟩ := h
    have hsub := sub_enumerate
    have q1 : ∀ {A' : Around} {E : Value → Shared → Prop} {Q : Value → Shared → Prop}, Q (.ref hp.objs.size) ⟨hp.push o, g, d, tk, os⟩ → wpAny (model prog w) A' (pyIter v) Q E ⟨hp, g, d, tk, os⟩ :=
      fun q => B.iter prog w _ _ ⟨hp, g, d, tk, os⟩ _ h1 q
    wp_walk using q1
    refine wpAny_stack_any fun st => wpAny_pure ?_
    split
    · rename_i c _ _ _ _ _
      cases (c == Value.type "enumerate")
      · wp_walk using q1
        exact ⟨_, rfl, h⟩
      · wp_walk using q1
        exact ⟨_, rfl, h⟩
    · wp_walk using q1
      exact ⟨_, rfl, h⟩
theorem call_enumerate_begins {prog : Program} {w : World} {A : Around} {E : Value → Shared → Prop} {s : Shared} {v : Value} {o : Obj} {H : Heap → Prop} {Q : Value → Shared → Prop} (B : Begins v o H) (h1 : H s.heap)
    (h : ∀ h', IsEnum h' (s.heap.objs.size + 1) s.heap.objs.size 0 .none → h'.get? s.heap.objs.size = some o → h'.objs.size = s.heap.objs.size + 2 →
      (∀ b o, s.heap.get? b = some o → h'.get? b = some o) → Q (.ref (s.heap.objs.size + 1)) { s with heap := h' }) :
    wpAny (model prog w) A (call (.type "enumerate") [v]) Q E s := by
  refine callType_new F.called_enumerate (by decide) (F.typeCall_enumerate_1 _) (F.newCall_enumerate_1 _) (fun obj => F.args_object_init_2 obj _) F.entry_enumerate_new
    (meets_enumerate_newT B) ⟨h1, ?_⟩
  have hz : (s.heap.push o).objs.size = s.heap.objs.size + 1 := Heap.size_push ..
  show _ ∧ _
  rw [hz]
  have he : IsEnum ((s.heap.push o).push { cls := .type "enumerate", data := .fields #[.none, .bool false, .ref s.heap.objs.size, rawInt 0, .none, .none] }) (s.heap.objs.size + 1) s.heap.objs.size 0 .none := by
    have := Heap.get?_push_size (s.heap.push o) (o := { cls := .type "enumerate", data := .fields #[.none, .bool false, .ref s.heap.objs.size, rawInt 0, .none, .none] }) rfl
    rw [hz] at this; exact this
  refine ⟨⟨_, he, rfl⟩, h _ he (Heap.get?_push_of_some _ (Heap.get?_push_size _ B.free)) (by rw [Heap.size_push, hz]) fun b o x => Heap.get?_push_of_some _ (Heap.get?_push_of_some _ x)⟩
end PySem
namespace L2
open PySem PySem.Spec PyProof.Rows
/-- the tuple at a, each item in a new pair -/
def Itet (K : PySem.W.Frag) (a : Addr) : It :=
  ⟨fun i H => ∃ (xs : List V) (x : V), SqT K H a xs ∧ xs[i]? = some x, fun i H v H' => ∃ T x, v = .ref T ∧ H T = none ∧ H' = upd H T (.tup [.int (i : Nat), x]) ∧ ∀ xs, SqT K H a xs → xs[i]? = some x, fun i H => ∃ xs : List V, SqT K H a xs ∧ xs.length = i⟩
theorem turn_enumT {P : Program} {w : World} {K : PySem.W.Frag} {elts : List Expr} {kk : Nat} {tpos : Pos} (a e it : Addr) (hne0 : a ≠ it) (hne1 : a ≠ e) :
    Turn P w K (.Tuple elts kk tpos) (Itet K a) [e, it] e (fun i h => (∃ old, IsEnum h e it ((i : Nat) : Int) old) ∧ h.IsTupleIter it a i ∧ e ≠ it) where
  mem := by simp
  obj := fun i h st b hb => by
    obtain ⟨⟨old, he⟩, ⟨o, ho, hc, hd⟩, _⟩ := st
    have e' : b = e ∨ b = it := by simpa using hb
    rcases e' with z | z
    · rw [z]; exact ⟨_, he, fun v q => nomatch q⟩
    · rw [z]; exact ⟨o, ho, fun v q => by rw [hd] at q; cases q⟩
  keep := fun i h h' st k => let ⟨⟨old, he⟩, hi, hne⟩ := st; ⟨⟨old, k e (by simp) _ he⟩, hi.at fun o q => k it (by simp) o q, hne⟩
  item := by
    intro X hP hw hK hc i pins s σ H E I hf st hg
    subst hP hw hK
    obtain ⟨⟨old, he⟩, hit, hne⟩ := st
    obtain ⟨xs, x, hq, hx⟩ := hg
    obtain ⟨its, rv, p, hz⟩ := I.tuple hq
    obtain ⟨u, hu, ru⟩ := rv.get hx
    have hel : e < s.heap.objs.size := Heap.lt_size he
    have hil : it < s.heap.objs.size := by obtain ⟨_, q, _⟩ := hit; exact Heap.lt_size q
    have hD := Draws.tuple (prog := X.prog) (w := X.w) (A := X.A.in1) (I.ok.hd hc) it a hne0 its.toArray
    have hlt : i < its.toArray.size := by
      rw [List.size_toArray]
      exact (List.getElem?_eq_some_iff.mp hu).1
    refine wpAny_pyNext_enum_itemD hD he ⟨hit, p⟩ hlt hne (by simp [hne, hne1.symm]) fun x' h' tk hP ho hst' hT hsz hk => ?_
    have ex : x' = u := by
      have : its[i]? = some x' := by simpa using hP
      rw [hu] at this
      exact (Option.some.inj this).symm
    subst ex
    refine ⟨_, rfl, wpAny_letOwnedTupleGo_enum (s := { s with heap := h', toks := tk + 1 }) ho fun h'' he' sb => ?_⟩
    have hT2 : h''.get? s.heap.objs.size = some { cls := .type "tuple", data := .seq #[.int i tk, x'] } := (sb.2 _ (Nat.ne_of_gt hel)).trans hT
    have new : ObjOk X.prog X.w (upd H s.heap.objs.size (.tup [.int (i : Nat), x])) h'' s.heap.objs.size (.tup [.int (i : Nat), x]) :=
      ⟨by show 2 ≤ sizeLine; decide, [.int i tk, x'], .cons ⟨_, rfl⟩ (.cons ru .nil), ⟨_, hT2, rfl, _, rfl⟩⟩
    have I1 : Inv X pins σ (upd H s.heap.objs.size (.tup [.int (i : Nat), x])) { s with heap := h'', toks := tk + 1 } :=
      I.turnedNew (ch := [e, it]) (fun b ob hb q => (sb.2 b (fun z => hb (by simp [z]))).trans (hk b ob (fun z => hb (by simp [z])) (fun z => hb (by simp [z])) q)) hf (Nat.le_refl _) new
    refine ⟨.ref s.heap.objs.size, _, I1, rfl, ⟨_, x, rfl, I.hok.fresh (Nat.le_refl _), rfl, fun ys hy => by rw [I.tuple_inj hy hq]; exact hx⟩, ⟨⟨x', ?_⟩, hst'.1.at fun o q => (sb.2 it (Ne.symm hne)).trans q, hne⟩, fun b hb => ?_⟩
    · have e1 : ((i + 1 : Nat) : Int) = (i : Int) + 1 := by omega
      rw [e1]; exact he'
    · have hb' : b < s.heap.objs.size := by
        have e' : b = e ∨ b = it := by simpa using hb
        rcases e' with z | z
        · rw [z]; exact hel
        · rw [z]; exact hil
      rw [upd_ne (Nat.ne_of_lt hb')]
      exact (hf b hb).1
  done := by
    intro X hP hw hK hc i pins s σ H E I hf st hg
    subst hP hw hK
    obtain ⟨⟨old, he⟩, hit, hne⟩ := st
    obtain ⟨xs, hq, hx⟩ := hg
    obtain ⟨its, rv, p, hz⟩ := I.tuple hq
    obtain ⟨f0, f1, f2, f3, f4, f5⟩ := hf it (by simp)
    have hl := rv.length
    have hD := Draws.tuple (prog := X.prog) (w := X.w) (A := X.A.in1) (I.ok.hd hc) it a hne0 its.toArray
    have en : i = its.toArray.size := by rw [List.size_toArray]; omega
    subst en
    exact wpAny_pyNext_enum_endD hD he ⟨hit, p⟩ fun h' eb => ⟨rfl, I.turned (t' := s.toks) (fun b o hb q => eb b o hb q) f0 f1 f3 f4 f5⟩
  self := fun A i s Q E st h => let ⟨⟨_, he⟩, _⟩ := st; wpAny_pyIter_enum he h
def iEnumT (K : PySem.W.Frag) (ta : TA) : TI := fun σ H R => ta σ H fun vs H1 => ∃ a xs, vs = [.ref a] ∧ SqT K H1 a xs ∧ R (Itet K a) H1
theorem pi_enumT {X : Cx} {e : Expr} {ta : TA} {p pos tpos : Pos} {elts : List Expr} {kk : Nat} (hg : Gl X "enumerate") (hm : X.mg "enumerate" = none) (ha : PA X [e] ta) (hs : starEach [e] X.env = [(false, eval e X.env)] := by rfl) :
    PI X (.Tuple elts kk tpos) (.Call (.Name "enumerate" p) [e] [] pos) (iEnumT X.K ta) := by
  refine ⟨fun pins s σ H R I h => ?_⟩
  refine Call_ (ld_blt I hg hm boot_enumerate (PyProof.Rows.callWith_type1 (thn (ha.run pos pins s σ H _ I h) fun us s1 ⟨vs, H1, I1, r1, q1⟩ => ?_) hs rfl))
  obtain ⟨a, xs, ex, hq, q⟩ := q1
  subst ex
  cases r1 with
  | cons r rr =>
    cases rr
    cases r
    obtain ⟨its, rv, p', hz⟩ := I1.tuple hq
    refine call_enumerate_begins (begins_tuple a its.toArray) p' fun h' he hit hsz hk => wpAny_pyIter_enum he ?_
    have I2 : Inv X pins σ H1 { s1 with heap := h' } := I1.kept (t' := s1.toks) hk
    have hal : a < s1.heap.objs.size := p'.lt
    refine ⟨s1.heap.objs.size + 1, [s1.heap.objs.size + 1, s1.heap.objs.size], _, _, H1, rfl, I2, turn_enumT a (s1.heap.objs.size + 1) s1.heap.objs.size (Nat.ne_of_lt hal) (Nat.ne_of_lt (Nat.lt_succ_of_lt hal)), ⟨⟨.none, he⟩, ⟨_, hit, rfl, rfl⟩, Nat.succ_ne_self _⟩, fun b hb => ?_, q⟩
    have e' : b = s1.heap.objs.size + 1 ∨ b = s1.heap.objs.size := by simpa using hb
    have hle : s1.heap.objs.size ≤ b := by
      rcases e' with z | z
      · rw [z]; exact Nat.le_add_right _ _
      · rw [z]; exact Nat.le_refl _
    exact I1.fpOk hle (I1.hok.fresh hle)
end L2
-- AskR2
set_option Elab.async false
set_option linter.all false
set_option maxRecDepth 100000
/-! dicts whose keys are nested tuples and whose values are all True; sorted and repr of data -/
namespace Ask
open PySem PySem.Spec PyProof.Rows L2

/-! ### data as a key -/
mutual
def nkey : PyData → NestedKey
  | .none => .none
  | .bool _ => .none
  | .int i => .num i
  | .str x => .text x
  | .list _ => .none
  | .tuple ds => .tup (nkeys ds)
  | .dict _ => .none
def nkeys : List PyData → List NestedKey
  | [] => []
  | d :: ds => nkey d :: nkeys ds
end
mutual
/-- whole numbers, texts, tuples of such -/
def keyable : PyData → Bool
  | .none => false
  | .bool _ => false
  | .int _ => true
  | .str _ => true
  | .list _ => false
  | .tuple ds => keyables ds
  | .dict _ => false
def keyables : List PyData → Bool
  | [] => true
  | d :: ds => keyable d && keyables ds
end
mutual
theorem nkey_inj : ∀ (d e : PyData), keyable d = true → keyable e = true → nkey d = nkey e → d = e
  | .int i, .int j, _, _, h => by simp only [nkey, NestedKey.num.injEq] at h; rw [h]
  | .str x, .str y, _, _, h => by simp only [nkey, NestedKey.text.injEq] at h; rw [h]
  | .tuple ds, .tuple es, h1, h2, h => by
    simp only [nkey, NestedKey.tup.injEq] at h
    rw [nkeys_inj ds es (by simpa [keyable] using h1) (by simpa [keyable] using h2) h]
  | .int _, .str _, _, _, h => by simp [nkey] at h
  | .int _, .tuple _, _, _, h => by simp [nkey] at h
  | .str _, .int _, _, _, h => by simp [nkey] at h
  | .str _, .tuple _, _, _, h => by simp [nkey] at h
  | .tuple _, .int _, _, _, h => by simp [nkey] at h
  | .tuple _, .str _, _, _, h => by simp [nkey] at h
  | .none, _, h, _, _ => by simp [keyable] at h
  | .bool _, _, h, _, _ => by simp [keyable] at h
  | .list _, _, h, _, _ => by simp [keyable] at h
  | .dict _, _, h, _, _ => by simp [keyable] at h
  | _, .none, _, h, _ => by simp [keyable] at h
  | _, .bool _, _, h, _ => by simp [keyable] at h
  | _, .list _, _, h, _ => by simp [keyable] at h
  | _, .dict _, _, h, _ => by simp [keyable] at h
theorem nkeys_inj : ∀ (ds es : List PyData), keyables ds = true → keyables es = true → nkeys ds = nkeys es → ds = es
  | [], [], _, _, _ => rfl
  | d :: ds, e :: es, h1, h2, h => by
    simp only [keyables, Bool.and_eq_true] at h1 h2
    simp only [nkeys, List.cons.injEq] at h
    rw [nkey_inj d e h1.1 h2.1 h.1, nkeys_inj ds es h1.2 h2.2 h.2]
  | [], _ :: _, _, _, h => by simp [nkeys] at h
  | _ :: _, [], _, _, h => by simp [nkeys] at h
end
section
variable {X : Cx} {pins : List (Addr × Obj)} {σ : L2.St} {H : Hp} {s : Shared}
mutual
theorem nested_of (I : Inv X pins σ H s) : ∀ (d : PyData) (v : V) (u : Value), Dp X.K H v d → keyable d = true → RelV v u → NestedIs s.heap (nkey d) u
  | .int i, _, _, h, _, r => by
    cases h
    obtain ⟨t, rfl⟩ := r
    exact .int i t
  | .str x, _, _, h, _, r => by
    cases h
    obtain ⟨t, rfl⟩ := r
    exact .text x t
  | .tuple ds, _, _, h, hk, r => by
    cases h with
    | tup hs ha =>
      cases r
      obtain ⟨its, rv, ⟨o, ho, hc, n, hd⟩, _⟩ := I.tuple hs
      exact .tup ho hc hd (by
        rw [show its.toArray.toList = its by simp]
        exact nesteds_of I ds _ its ha (by simpa [keyable] using hk) rv)
  | .none, _, _, _, h, _ => by simp [keyable] at h
  | .bool _, _, _, _, h, _ => by simp [keyable] at h
  | .list _, _, _, _, h, _ => by simp [keyable] at h
  | .dict _, _, _, _, h, _ => by simp [keyable] at h
theorem nesteds_of (I : Inv X pins σ H s) : ∀ (ds : List PyData) (vs : List V) (us : List Value), DpAll X.K H vs ds → keyables ds = true → Vals vs us → NestedAll s.heap (nkeys ds) us
  | [], _, _, h, _, r => by
    cases h
    cases r
    exact .nil
  | d :: ds, _, _, h, hk, r => by
    cases h with
    | cons h1 h2 =>
      cases r with
      | cons r1 r2 =>
        simp only [keyables, Bool.and_eq_true] at hk
        exact .cons (nested_of I d _ _ h1 hk.1 r1) (nesteds_of I ds _ _ h2 hk.2 r2)
end
end

/-! ### the dict -/
/-- the entries: the key, the address of its tuple -/
abbrev Ent := NestedKey × Addr
def entN (x : Ent) : NestedKey × Addr × Value := (x.1, x.2, .bool true)
def DNφ (P : Program) (w : World) (a : Addr) (xs : List Ent) : Heap → Prop := fun h =>
  (a == sysModules) = false ∧ xs.length ≤ sizeLine ∧ (xs.map (·.1)).Nodup ∧ ∃ o es ep, h.get? a = some o ∧ o.ExactDict ∧ o.data = .dict es ep ∧ es.toList = (xs.map entN).map (entryOfKey (nestedKind P w))
/-- at a: the dict with the keys xs, all True -/
def DN (P : Program) (w : World) (a : Addr) (xs : List Ent) : HO := .ext (DNφ P w a xs)
theorem dn_ok {P : Program} {w : World} {H : Hp} {h : Heap} {a : Addr} {xs : List Ent} (x : DNφ P w a xs h) : ObjOk P w H h a (DN P w a xs) :=
  ⟨x, let ⟨_, _, _, o, _, _, e, _⟩ := x; ⟨o, e⟩, fun h1 h2 ⟨q1, q2, q3, o, es, ep, e, r⟩ k => ⟨q1, q2, q3, o, es, ep, k o e, r⟩⟩
/-- the tuple at x.2 is the key x.1 -/
def KeyN (K : PySem.W.Frag) (H : Hp) (x : Ent) : Prop := ∃ d, Dp K H (.ref x.2) d ∧ keyable d = true ∧ nkey d = x.1 ∧ x.1.depth ≤ 8
section
variable {X : Cx} {pins : List (Addr × Obj)} {σ : L2.St} {H : Hp} {s : Shared} {a : Addr} {xs : List Ent}
theorem KeyN.is (I : Inv X pins σ H s) {x : Ent} (k : KeyN X.K H x) : (nestedKind X.prog X.w).is s.heap x.1 x.2 := by
  obtain ⟨d, h1, h2, h3, h4⟩ := k
  refine ⟨?_, h4⟩
  rw [← h3]
  exact nested_of I d _ _ h1 h2 rfl
theorem dn_rd (I : Inv X pins σ H s) (e : Rd H a (DN X.prog X.w a xs)) : DNφ X.prog X.w a xs s.heap := (show ObjOk X.prog X.w H s.heap a (DN X.prog X.w a xs) from e.ok I.hok).1
theorem map_entN (xs : List Ent) : (xs.map entN).map (·.1) = xs.map (·.1) := by rw [List.map_map]; rfl
theorem dn_H (I : Inv X pins σ H s) (e : Rd H a (DN X.prog X.w a xs)) (hk : ∀ x ∈ xs, KeyN X.K H x) : (a == sysModules) = false ∧ xs.length ≤ sizeLine ∧ s.heap.DictOfH (nestedKind X.prog X.w) a (xs.map entN) := by
  obtain ⟨q1, q2, q3, o, es, ep, e1, e2, e3, e4⟩ := dn_rd I e
  refine ⟨q1, q2, o, es, ep, e1, e2, e3, e4, fun x hx => ?_, by rw [map_entN]; exact q3⟩
  obtain ⟨y, hy, rfl⟩ := List.mem_map.mp hx
  exact (hk y hy).is I
theorem atKey_entN (xs : List Ent) (k : NestedKey) : (atKey (xs.map entN) k).isSome = decide (k ∈ xs.map (·.1)) := by
  induction xs with
  | nil => rfl
  | cons x xs ih =>
    by_cases h : x.1 = k
    · simp [atKey, entN, h]
    · have h' : ¬ k = x.1 := fun e => h e.symm
      have e1 : (atKey ((x :: xs).map entN) k) = atKey (xs.map entN) k := by simp [atKey, entN, h]
      rw [e1, ih]
      simp [h']
/-- behind d[k] = True -/
def putN (xs : List Ent) (k : NestedKey) (b : Addr) : List Ent := if k ∈ xs.map (·.1) then xs else xs ++ [(k, b)]
theorem storedH_entN (xs : List Ent) (k : NestedKey) (b : Addr) : storedH (xs.map entN) k b (.bool true) = (putN xs k b).map entN := by
  unfold storedH putN
  rw [atKey_entN]
  by_cases h : k ∈ xs.map (·.1)
  · rw [if_pos (decide_eq_true h), if_pos h, List.map_map]
    refine List.map_congr_left fun x _ => ?_
    show putAt k (.bool true) (entN x) = entN x
    unfold putAt
    split
    · rfl
    · rfl
  · rw [if_neg (by simp [h]), if_neg h, List.map_append]
    rfl
theorem putN_len (xs : List Ent) (k : NestedKey) (b : Addr) : (putN xs k b).length ≤ xs.length + 1 := by
  unfold putN
  split
  · exact Nat.le_succ _
  · rw [List.length_append]; exact Nat.le_refl _
end

/-! ### in, not in -/
def rInN (K : PySem.W.Frag) (P : Program) (w : World) (neg : Bool) : R2 := fun x y H Q => ∃ k b a xs, x = .ref b ∧ y = .ref a ∧ KeyN K H (k, b) ∧ Rd H a (DN P w a xs) ∧ (∀ z ∈ xs, KeyN K H z) ∧ Q (.bl (if neg then !decide (k ∈ xs.map (·.1)) else decide (k ∈ xs.map (·.1)))) H
section
variable {X : Cx}
theorem nroom {A : Around} (hu : A.units + 64 < cLine) (prog : Program) (w : World) : (nestedKind prog w).room A.in1 := by
  show A.units + 1 + 8 < cLine
  omega
theorem op_inN (hu : X.A.units + 64 < cLine) : OpR X (compareOp .In) (rInN X.K X.prog X.w false) := by
  intro pins s σ H x y v u Q I rx ry h
  obtain ⟨k, b, a, xs, rfl, rfl, hk, hd, hz, q⟩ := h
  cases rx
  cases ry
  obtain ⟨q1, _, q2⟩ := dn_H I hd hz
  refine in_keyed (nroom hu _ _) (hk.is I) q1 ⟨_, q2, rfl⟩ ⟨.bl _, H, I.tok _, ?_, q⟩
  rw [valueAt_pairsH, Option.isSome_map, atKey_entN]
  rfl
theorem op_notInN (hu : X.A.units + 64 < cLine) : OpR X (compareOp .NotIn) (rInN X.K X.prog X.w true) := by
  intro pins s σ H x y v u Q I rx ry h
  obtain ⟨k, b, a, xs, rfl, rfl, hk, hd, hz, q⟩ := h
  cases rx
  cases ry
  obtain ⟨q1, _, q2⟩ := dn_H I hd hz
  refine notIn_keyed (nroom hu _ _) (hk.is I) q1 ⟨_, q2, rfl⟩ ⟨.bl _, H, I.tok _, ?_, q⟩
  rw [valueAt_pairsH, Option.isSome_map, atKey_entN]
  rfl
/-! ### d[k] = True -/
theorem dn_stored {pins : List (Addr × Obj)} {σ : L2.St} {H : Hp} {s : Shared} {a b : Addr} {k : NestedKey} {xs : List Ent} {h' : Heap} {tk : Nat} (I : Inv X pins σ H s) (hd : H a = some (DN X.prog X.w a xs)) (hl : xs.length < sizeLine)
    (hm : h'.DictOfH (nestedKind X.prog X.w) a (storedH (xs.map entN) k b (.bool true))) (hs : Heap.SameBut a s.heap h') : Inv X pins σ (upd H a (DN X.prog X.w a (putN xs k b))) { s with heap := h', toks := tk } := by
  rw [storedH_entN] at hm
  obtain ⟨o, es, ep, e1, e2, e3, e4, _, e6⟩ := hm
  have q0 := (dn_rd I (.inl hd)).1
  refine d_write I (by rw [hd]; exact True.intro) hs ⟨o, e1⟩ (dn_ok ⟨q0, ?_, ?_, o, es, ep, e1, e2, e3, e4⟩)
  · have := putN_len xs k b
    omega
  · rw [map_entN] at e6
    exact e6
def rSetN (K : PySem.W.Frag) (P : Program) (w : World) : TSet := fun o i v H Q => ∃ k b a xs, o = .ref a ∧ i = .ref b ∧ v = .bl true ∧ KeyN K H (k, b) ∧ H a = some (DN P w a xs) ∧ (∀ z ∈ xs, KeyN K H z) ∧ xs.length < sizeLine ∧ Q (upd H a (DN P w a (putN xs k b)))
theorem set_N (hu : X.A.units + 64 < cLine) : PSet X (rSetN X.K X.prog X.w) := by
  intro pins s σ H o i v ov iv u Q I ro ri rv h
  obtain ⟨k, b, a, xs, rfl, rfl, rfl, hk, hd, hz, hl, q⟩ := h
  cases ro
  cases ri
  obtain rfl : u = Value.bool true := rv
  obtain ⟨q1, q3, q2⟩ := dn_H I (.inl hd) hz
  refine wpAny_setItem_heap (hsz := by rw [List.length_map]; omega) (nroom hu _ _) (hk.is I) q2 fun h' hm hs => ⟨_, dn_stored I hd hl hm hs, q⟩
/-! ### {}, {k: True} -/
def tDNewN (P : Program) (w : World) : TE := fun _ H Q => ∀ p, H p = none → Q (.ref p) (upd H p (DN P w p []))
theorem dn_empty {P : Program} {w : World} {H : Hp} (h : Heap) (hb : sysModules < h.objs.size) : ObjOk P w H (h.push { cls := .type "dict", data := .dict #[] }) h.objs.size (DN P w h.objs.size []) := by
  refine dn_ok ⟨beq_eq_false_iff_ne.mpr (Nat.ne_of_gt hb), Nat.zero_le _, List.nodup_nil, ?_⟩
  obtain ⟨o, es, ep, e1, e2, e3, e4, _⟩ := Heap.DictOfH.new (knd := nestedKind P w) h
  exact ⟨o, es, ep, e1, e2, e3, e4⟩
theorem pe_dnewN {pos : Pos} : PE X (.Dict [] [] pos) (tDNewN X.prog X.w) := ⟨fun _ s _ H _ I h =>
  wpAny_Dict_empty ⟨.ref s.heap.objs.size, _, I.laid (a := s.heap.objs.size) (o := DN X.prog X.w s.heap.objs.size []) (t' := s.toks) (fun _ _ q => Heap.get?_push_of_some _ q) (Nat.le_refl _) (dn_empty s.heap I.big), rfl, h _ (I.hok.fresh (Nat.le_refl _))⟩⟩
def tDisp1 (K : PySem.W.Frag) (P : Program) (w : World) (tk tv : TE) : TE := fun σ H Q => ∀ p, H p = none → tk σ (upd H p (DN P w p [])) fun x H1 => tv σ H1 fun y H2 => ∃ k b, x = .ref b ∧ y = .bl true ∧ KeyN K H2 (k, b) ∧ H2 p = some (DN P w p []) ∧ Q (.ref p) (upd H2 p (DN P w p [(k, b)]))
theorem pe_disp1 {e1 e2 : Expr} {tk tv : TE} {pos : Pos} (hu : X.A.units + 64 < cLine) (h1 : PE X e1 tk) (h2 : PE X e2 tv)
    (hsh : (evalEachOpt [some e1] X.env).zip ((evalEach [e2] X.env).map fun v => do let x ← v; standAt pos; pure x) = [(some (eval e1 X.env), (do let x ← eval e2 X.env; standAt pos; pure x))] := by rfl) :
    PE X (.Dict [some e1] [e2] pos) (tDisp1 X.K X.prog X.w tk tv) := by
  refine ⟨fun pins s σ H Q I h => ?_⟩
  have hu' : (nestedKind X.prog X.w).room X.A := by
    show X.A.units + 8 < cLine
    omega
  have hp := I.hok.fresh (Nat.le_refl s.heap.objs.size)
  have I1 := I.laid (a := s.heap.objs.size) (o := DN X.prog X.w s.heap.objs.size []) (t' := s.toks) (fun _ _ q => Heap.get?_push_of_some _ q) (Nat.le_refl _) (dn_empty s.heap I.big)
  have h := h _ hp
  have e0 := dictDisplay_pairs [(eval e1 X.env, (do let x ← eval e2 X.env; standAt pos; pure x))] (by simp) (by simp)
  rw [arm_eval_Dict, hsh]
  refine wpAny_bind (wpAny_standAt ?_)
  rw [List.map_cons, List.map_nil] at e0
  rw [e0]
  refine wpAny_bind ?_
  refine (wpAny_subDictH (knd := nestedKind X.prog X.w) (Q := fun d s' => wpAny (model X.prog X.w) X.A (pure (Value.ref d)) (EP X pins σ Q) X.xe s') hu' (by simp) ?_)
  show wpAny _ _ (evalPairs [(eval e1 X.env, (do let x ← eval e2 X.env; standAt pos; pure x))]) _ _ _
  unfold evalPairs
  refine wpAny_bind (thn (h1.run pins _ σ _ _ I1 h) fun kv s1 ⟨x, H1, I2, r1, q1⟩ => ?_)
  refine wpAny_bind (wpAny_holding (wpAny_bind (thn (h2.run pins s1 σ H1 _ I2 q1) fun vv s2 ⟨y, H2, I3, r2, q2⟩ => wpAny_bind (wpAny_standAt (wpAny_pure ?_)))))
  unfold evalPairs
  refine wpAny_bind (wpAny_holding (wpAny_pure (wpAny_pure ?_)))
  obtain ⟨k, b, rfl, rfl, hk, hd, q⟩ := q2
  cases r1
  obtain rfl : vv = Value.bool true := r2
  refine ⟨[(k, b, .bool true)], ⟨rfl, rfl, hk.is I3, trivial⟩, ?_, fun h' tk hm hs => wpAny_pure ?_⟩
  · exact (dn_H I3 (.inl hd) (fun _ z => by simp at z)).2.2
  · exact ⟨.ref _, _, dn_stored (xs := []) I3 hd (by show 0 < sizeLine; decide) hm hs, rfl, q⟩
end
end Ask
-- AskR3
set_option Elab.async false
set_option linter.all false
set_option maxRecDepth 100000
/-! len, list, sorted and walks of a dict with nested keys; sorted and repr of data; a dict comprehension with nested keys -/
namespace Ask
open PySem PySem.Spec PyProof.Rows L2
section
variable {X : Cx} {pins : List (Addr × Obj)} {σ : L2.St} {H : Hp} {s : Shared}
/-! ### len(d) -/
theorem call_lenN : CallR X (.builtin "len") (fun vs H Q => ∃ a xs, vs = [.ref a] ∧ Rd H a (DN X.prog X.w a xs) ∧ (∀ z ∈ xs, KeyN X.K H z) ∧ Q (.int xs.length) H) := by
  intro pins s σ H vs us Q I r h
  obtain ⟨a, xs, rfl, hd, hz, q⟩ := h
  obtain ⟨u, rfl, rx⟩ := vals1 r
  cases rx
  obtain ⟨q1, q3, q2⟩ := dn_H I hd hz
  refine call_len_dictH q1 q2 ?_ ⟨.int xs.length, H, I.tok _, ⟨_, by rw [List.length_map]⟩, q⟩
  rw [List.length_map]
  rw [sizeLine_eq] at q3
  omega
/-! ### list(d) -/
theorem call_listN (hc : X.calm = true) : CallR X (.type "list") (fun vs H Q => ∃ a xs, vs = [.ref a] ∧ Rd H a (DN X.prog X.w a xs) ∧ ∀ p, H p = none → Q (.ref p) (upd H p (.lst (xs.map fun x => V.ref x.2)))) := by
  intro pins s σ H vs us Q I r h
  obtain ⟨a, xs, rfl, hd, q⟩ := h
  obtain ⟨u, rfl, rx⟩ := vals1 r
  cases rx
  obtain ⟨q1, q2, q3, o, es, ep, e1, e2, e3, e4⟩ := dn_rd I hd
  have l1 : es.size = xs.length := by rw [size_of_entries e4, List.length_map]
  refine PySem.W.kdl_call (kdl_raw q1 e2 e3) (I.ok.hd hc) e1 (by omega) fun h' tk acc' c' kp e it => ?_
  have ea : acc'.toList = xs.map fun x => Value.ref x.2 := by
    have hl : acc'.toList.length = xs.length := by rw [Array.length_toList, it.1]; exact l1
    apply List.ext_getElem?
    intro j
    rw [List.getElem?_map]
    cases hj : acc'.toList[j]? with
    | none =>
      rw [List.getElem?_eq_none (by have h1 := List.getElem?_eq_none_iff.mp hj; omega)]
      rfl
    | some v =>
      obtain ⟨en, hen, hv⟩ := it.2 j v (by rw [← Array.getElem?_toList]; exact hj)
      have qe := entry_at e4 j
      rw [hen, List.getElem?_map] at qe
      cases hb : xs[j]? with
      | none => rw [hb] at qe; cases qe
      | some b =>
        rw [hb] at qe
        have z := Option.some.inj qe
        rw [hv, z]
        rfl
  have rv : Vals (xs.map fun x => V.ref x.2) acc'.toList := by
    rw [ea]
    clear ea e4 q3 q2 l1 hd q it
    induction xs with
    | nil => exact .nil
    | cons x xs ih => exact .cons rfl ih
  refine ⟨.ref s.heap.objs.size, _, I.laid (t' := tk) (o := .lst (xs.map fun x => V.ref x.2)) kp (Nat.le_refl _) ?_, rfl, q _ (I.hok.fresh (Nat.le_refl _))⟩
  exact ⟨by rw [List.length_map]; exact q2, acc'.toList, c', rv, by rw [Array.toArray_toList]; exact e⟩
/-! ### the keys, walked -/
def Itn (P : Program) (w : World) (d : Addr) (o : Obj) (xs : List Ent) : It :=
  ⟨fun i H => H d = some (.frz o (DN P w d xs)) ∧ i < xs.length, fun i H x H' => H' = H ∧ ∃ e, xs[i]? = some e ∧ x = .ref e.2, fun i H => H d = some (.frz o (DN P w d xs)) ∧ xs.length ≤ i⟩
theorem dn_frz {a : Addr} {o : Obj} {xs : List Ent} (I : Inv X pins σ H s) (e : H a = some (.frz o (DN X.prog X.w a xs))) :
    (a == sysModules) = false ∧ s.heap.get? a = some o ∧ ∃ es ep, o.ExactDict ∧ o.data = .dict es ep ∧ es.size = xs.length ∧ ∀ (i : Nat) (x : Ent), xs[i]? = some x → ∃ en : DictEntry, es[i]? = some en ∧ en.key = .ref x.2 := by
  obtain ⟨g, _⟩ := (show ObjOk X.prog X.w H s.heap a (.frz o (DN X.prog X.w a xs)) from I.hok a _ e)
  obtain ⟨q1, q2, q3, o', es, ep, e1, e2, e3, e4⟩ := dn_rd I (.inr ⟨o, e⟩)
  rw [g] at e1
  cases e1
  refine ⟨q1, g, es, ep, e2, e3, by rw [size_of_entries e4, List.length_map], fun i x hx => ?_⟩
  have z := entry_at e4 i
  rw [List.getElem?_map, hx] at z
  exact ⟨_, z, rfl⟩
theorem turn_keysN {P : Program} {w : World} {K : PySem.W.Frag} {tg : Expr} {d : Addr} {o : Obj} {xs : List Ent} {es : Array DictEntry} {ep : Nat} (it : Addr) (hod : o.data = .dict es ep) : Turn P w K tg (Itn P w d o xs) [it] it (fun i h => h.IsKeyIter it d i xs.length ep) where
  mem := by simp
  obj := fun i h st b hb => by
    obtain rfl : b = it := by simpa using hb
    obtain ⟨oi, e, c, dd⟩ := st
    exact ⟨oi, e, fun v z => by rw [dd] at z; cases z⟩
  keep := fun i h h' st k => st.at fun oi e => k it (by simp) oi e
  item := by
    intro X hP hw hK hc i pins s σ H E I hf st hg
    subst hP hw hK
    obtain ⟨hd, hi⟩ := hg
    obtain ⟨f0, f1, f2, f3, f4, f5⟩ := hf it (by simp)
    obtain ⟨hs, hgd, es', ep', hx, hdt, hsz, ent⟩ := dn_frz I hd
    obtain ⟨rfl, rfl⟩ := dict_ep hod hdt
    obtain ⟨x, hx⟩ : ∃ p, xs[i]? = some p := ⟨xs[i], List.getElem?_eq_getElem hi⟩
    obtain ⟨en, hen, hkey⟩ := ent i x hx
    refine next_key_item st hgd hdt hsz hen fun h' st' sb => ?_
    have I1 : Inv X pins σ H { s with heap := h' } := I.turned (t' := s.toks) (fun b ob hb e => (sb.2 b hb).trans e) f0 f1 f3 f4 f5
    obtain ⟨oi, e, c, dd⟩ := id st'
    exact ⟨en.key, rfl, go_of (s := { s with heap := h' }) e c dd (by decide) ⟨.ref x.2, H, I1, hkey, ⟨rfl, x, hx, rfl⟩, st', fun b hb => (hf b hb).1⟩⟩
  done := by
    intro X hP hw hK hc i pins s σ H E I hf st hg
    subst hP hw hK
    obtain ⟨hd, hi⟩ := hg
    obtain ⟨f0, f1, f2, f3, f4, f5⟩ := hf it (by simp)
    obtain ⟨hs, hgd, es', ep', hx, hdt, hsz, ent⟩ := dn_frz I hd
    obtain ⟨rfl, rfl⟩ := dict_ep hod hdt
    exact next_key_end (I.ok.hd hc) st hgd hdt hsz hi fun h' eb => ⟨rfl, I.turned (t' := s.toks) (fun b ob hb e => eb b ob hb e) f0 f1 f3 f4 f5⟩
  self := fun A i s Q E st h => wpAny_pyIter_keyiter st h
/-- the dict at d is locked -/
def iKeysN (P : Program) (w : World) (td : TE) : TI := fun σ H R => td σ H fun x H1 => ∃ d o xs, x = .ref d ∧ H1 d = some (.frz o (DN P w d xs)) ∧ R (Itn P w d o xs) H1
theorem pi_keysN {tg e : Expr} {td : TE} (he : PE X e td) : PI X tg e (iKeysN X.prog X.w td) := by
  refine ⟨fun pins s σ H R I h => ?_⟩
  refine thn (he.run pins s σ H _ I h) fun u s1 ⟨x, H1, I1, rx, d, o, xs, ex, hd, q⟩ => ?_
  subst ex
  obtain rfl : u = Value.ref d := rx
  obtain ⟨hs, hgd, es, ep, hx, hdt, hsz, ent⟩ := dn_frz I1 hd
  refine iter_keys hs hgd hx hdt (pi_one (tk := s1.toks) I1 _ (turn_keysN _ hdt) ⟨_, Heap.get?_push_size _ rfl, rfl, ?_⟩ q)
  rw [hsz]
  rfl
end

/-! ### sorted(xs) of data -/
section
variable {X : Cx} {pins : List (Addr × Obj)} {σ : L2.St} {H : Hp} {s : Shared}
def dsort (ds : List PyData) : List PyData := ds.mergeSort (PySem.W.dataLe false id)
theorem dpAll_each {K : PySem.W.Frag} {H : Hp} : ∀ {vs : List V} {ds : List PyData}, DpAll K H vs ds → PySem.W.EachIs (Dp K H) vs ds
  | _, _, .nil => .nil
  | _, _, .cons h t => .cons h (dpAll_each t)
theorem each_dpAll {K : PySem.W.Frag} {H : Hp} : ∀ {vs : List V} {ds : List PyData}, PySem.W.EachIs (Dp K H) vs ds → DpAll K H vs ds
  | _, _, .nil => .nil
  | _, _, .cons h t => .cons h (each_dpAll t)
/-- the items: a V and its data -/
theorem each_items (I : Inv X pins σ H s) : ∀ {zs : List (V × PyData)} {us : List Value}, Vals (zs.map (·.1)) us → (∀ z ∈ zs, Dp X.K H z.1 z.2) →
    PySem.W.EachIs (fun u (z : V × PyData) => RelV z.1 u ∧ Dp X.K H z.1 z.2) us zs ∧ PySem.W.EachIs (fun u (z : V × PyData) => ∃ as, Reads s.heap u z.2 as) us zs
  | [], _, r, _ => by cases r; exact ⟨.nil, .nil⟩
  | z :: zs, _, r, h => by
    cases r with
    | cons r rr =>
      obtain ⟨h1, h2⟩ := each_items I rr fun y hy => h y (List.mem_cons_of_mem _ hy)
      have hz := h z (List.mem_cons_self ..)
      exact ⟨.cons ⟨r, hz⟩ h1, .cons (Dp.reads I _ _ _ hz r) h2⟩
theorem out_items {K : PySem.W.Frag} {H : Hp} : ∀ {zs : List (V × PyData)} {us : List Value}, PySem.W.EachIs (fun u (z : V × PyData) => RelV z.1 u ∧ Dp K H z.1 z.2) us zs → Vals (zs.map (·.1)) us ∧ DpAll K H (zs.map (·.1)) (zs.map (·.2))
  | [], _, .nil => ⟨.nil, .nil⟩
  | z :: zs, _, .cons h t => let ⟨a, b⟩ := out_items t; ⟨.cons h.1 a, .cons h.2 b⟩
/-- vs, zipped with its data -/
theorem zip_items {K : PySem.W.Frag} {H : Hp} : ∀ {vs : List V} {ds : List PyData}, DpAll K H vs ds → (vs.zip ds).map (·.1) = vs ∧ (vs.zip ds).map (·.2) = ds ∧ ∀ z ∈ vs.zip ds, Dp K H z.1 z.2
  | _, _, .nil => ⟨rfl, rfl, fun _ z => by simp at z⟩
  | _, _, .cons h t => by
    obtain ⟨a, b, c⟩ := zip_items t
    refine ⟨by simp [a], by simp [b], fun z hz => ?_⟩
    rcases List.mem_cons.mp hz with rfl | hz
    · exact h
    · exact c z hz
def SortOk (ds : List PyData) : Prop := PySem.W.AllAlike ds ∧ PySem.W.Sortable ds ∧ ∀ d ∈ ds, d.depth ≤ 16
theorem sorted_zs (zs : List (V × PyData)) : (zs.mergeSort (PySem.W.dataLe false fun z : V × PyData => z.2)).map (fun z => z.2) = dsort (zs.map fun z => z.2) :=
  PySem.W.sort_maps (s := PySem.W.dataLe false id) (fun z : V × PyData => z.2) fun _ _ _ _ => rfl
def rSortD (K : PySem.W.Frag) : List V → Hp → VK → Prop := fun xs H Q => ∃ a vs ds, xs = [V.ref a] ∧ SqL K H a vs ∧ DpAll K H vs ds ∧ SortOk ds ∧
  ∀ (zs : List (V × PyData)) (p : Addr), H p = none → zs.Perm (vs.zip ds) → zs.map (·.2) = dsort ds → Q (.ref p) (upd H p (.lst (zs.map (·.1))))
theorem call_sortD (hu : X.A.units + 64 < cLine) : CallR X (.builtin "sorted") (rSortD X.K) := by
  intro pins s σ H xs us Q I r h
  obtain ⟨a, vs, ds, rfl, hs, hd, ⟨k1, k2, k3⟩, q⟩ := h
  obtain ⟨u, rfl, rx⟩ := vals1 r
  cases rx
  obtain ⟨its, rv, hl, hz⟩ := I.list hs
  obtain ⟨z1, z2, z3⟩ := zip_items hd
  obtain ⟨E1, E2⟩ := each_items I (zs := vs.zip ds) (us := its) (by rw [z1]; exact rv) z3
  have hlen : (vs.zip ds).length ≤ sizeLine := by
    have := congrArg List.length z1
    rw [List.length_map] at this
    omega
  refine PySem.W.sorted_data (enc := fun z : V × PyData => z.2) hl.isList E1 E2 (by rw [z2]; exact k1) (by rw [z2]; exact k2) hlen (fun b hb => ?_) fun out h1 h2 => ?_
  · have : b.2 ∈ ds := by rw [← z2]; exact List.mem_map_of_mem hb
    have := k3 _ this
    omega
  · obtain ⟨g1, g2⟩ := out_items h2
    obtain ⟨ep, he'⟩ := PyProof.Rows.sortedAll_at s.heap its out.toArray
    have hok : ObjOk X.prog X.w (upd H (s.heap.objs.size + 1) (.lst (((vs.zip ds).mergeSort (PySem.W.dataLe false fun z : V × PyData => z.2)).map (·.1)))) (PyProof.Rows.sortedAll s.heap its out.toArray) (s.heap.objs.size + 1)
        (.lst (((vs.zip ds).mergeSort (PySem.W.dataLe false fun z : V × PyData => z.2)).map (·.1))) := ⟨by rw [g1.length, h1]; exact hlen, out, ep, g1, he'⟩
    exact ⟨.ref _, _, I.laid (t' := s.toks) (a := s.heap.objs.size + 1) (fun _ _ => PyProof.Rows.sortedAll_old) (Nat.le_succ _) hok, rfl, q _ _ (I.hok.fresh (Nat.le_succ _)) (List.mergeSort_perm _ _) (by rw [sorted_zs, z2])⟩
/-- sorted(d), d with the keys xs, that read as ds -/
theorem vals_refsN : ∀ xs : List Ent, Vals (xs.map fun x => V.ref x.2) (xs.map fun x => Value.ref x.2)
  | [] => .nil
  | _ :: r => .cons rfl (vals_refsN r)
def rSortN (P : Program) (w : World) (K : PySem.W.Frag) : List V → Hp → VK → Prop := fun us H Q => ∃ a xs ds, us = [V.ref a] ∧ Rd H a (DN P w a xs) ∧ DpAll K H (xs.map fun x => V.ref x.2) ds ∧ SortOk ds ∧
  ∀ (zs : List (V × PyData)) (p : Addr), H p = none → zs.Perm ((xs.map fun x => V.ref x.2).zip ds) → zs.map (·.2) = dsort ds → Q (.ref p) (upd H p (.lst (zs.map (·.1))))
theorem call_sortN (hc : X.calm = true) (hu : X.A.units + 64 < cLine) : CallR X (.builtin "sorted") (rSortN X.prog X.w X.K) := by
  intro pins s σ H us vals Q I r h
  obtain ⟨a, xs, ds, rfl, hd, hds, ⟨k1, k2, k3⟩, q⟩ := h
  obtain ⟨u, rfl, rx⟩ := vals1 r
  cases rx
  obtain ⟨q1, q2, q3, o, es, ep, e1, e2, e3, e4⟩ := dn_rd I hd
  have l1 : es.size = xs.length := by rw [size_of_entries e4, List.length_map]
  refine Calls.call_function_entry PyProof.Rows.kind_sorted PyProof.Rows.plain_sorted PyProof.Rows.entry_sorted (PyProof.Rows.args_sorted1 _) ?_
  unfold Builtin.«sorted»
  refine wpAny_bind (m := checkCount "sorted" 1 1 _) (wpAny_pure ?_)
  refine wpAny_bind (PySem.W.kdu_collect (A := X.A.in1) (kdl_raw q1 e2 e3) (I.ok.hd hc) e1 (by omega) fun h' tk acc hk it => ?_)
  have ea : acc.toList = xs.map fun x => Value.ref x.2 := by
    have hl : acc.toList.length = xs.length := by rw [Array.length_toList, it.1]; exact l1
    apply List.ext_getElem?
    intro j
    rw [List.getElem?_map]
    cases hj : acc.toList[j]? with
    | none =>
      rw [List.getElem?_eq_none (by have h1 := List.getElem?_eq_none_iff.mp hj; omega)]
      rfl
    | some v =>
      obtain ⟨en, hen, hv⟩ := it.2 j v (by rw [← Array.getElem?_toList]; exact hj)
      have qe := entry_at e4 j
      rw [hen, List.getElem?_map] at qe
      cases hb : xs[j]? with
      | none => rw [hb] at qe; cases qe
      | some b =>
        rw [hb] at qe
        have z := Option.some.inj qe
        rw [hv, z]
        rfl
  have I1 : Inv X pins σ H { s with heap := h', toks := tk } := I.kept hk
  obtain ⟨z1, z2, z3⟩ := zip_items hds
  obtain ⟨E1, E2⟩ := each_items I1 (zs := (xs.map fun x => V.ref x.2).zip ds) (us := acc.toList) (by rw [z1, ea]; exact vals_refsN xs) z3
  have hal : acc.toList.length = xs.length := by rw [ea, List.length_map]
  refine wpAny_bind (wpAny_newList ?_ (by omega))
  have hoL : (h'.push (PyProof.Rows.seqObj "list" acc.toList.toArray 0)).get? h'.objs.size = some (PyProof.Rows.seqObj "list" acc.toList.toArray 0) := Heap.get?_push_size _ rfl
  show wpAny _ _ _ _ _ { s with heap := h'.push (PyProof.Rows.seqObj "list" acc.toList.toArray 0), toks := tk }
  have hold : ∀ b ob, h'.get? b = some ob → (PySem.W.sortingHeap (h'.push (PyProof.Rows.seqObj "list" acc.toList.toArray 0)) h'.objs.size acc.toList).get? b = some ob := fun b ob e => by
    have hb : b ≠ h'.objs.size := Nat.ne_of_lt (Heap.lt_size e)
    exact PySem.W.sortingHeap_old hb (Heap.get?_push_of_some _ e)
  have E3 : PySem.W.EachIs (fun v d => ∃ as, Reads (PySem.W.sortingHeap (h'.push (PyProof.Rows.seqObj "list" acc.toList.toArray 0)) h'.objs.size acc.toList) v d as) acc.toList ds := by
    have E4 := PySem.W.each_map (R := fun v d => ∃ as, Reads (PySem.W.sortingHeap (h'.push (PyProof.Rows.seqObj "list" acc.toList.toArray 0)) h'.objs.size acc.toList) v d as) (fun z : V × PyData => z.2) (E2.mono fun u z ⟨as, hr⟩ => ⟨as, PyProof.Rows.Reads.keeps hold hr⟩)
    rw [z2] at E4
    exact E4
  have S := PySem.W.SortsAt.data (prog := X.prog) (w := X.w) (A := X.A.in1.in1) (s := { s with heap := PySem.W.sortingHeap (h'.push (PyProof.Rows.seqObj "list" acc.toList.toArray 0)) h'.objs.size acc.toList, toks := tk }) E3 k1 k2
    (fun d hd => by have := k3 d hd; show X.A.units + 1 + 1 + d.depth < cLine; omega)
  have E5 := PySem.W.sortVals_data (h' := PySem.W.sortingHeap (h'.push (PyProof.Rows.seqObj "list" acc.toList.toArray 0)) h'.objs.size acc.toList) (enc := fun z : V × PyData => z.2) false E1 (E2.mono fun u z ⟨as, hr⟩ => ⟨as, PyProof.Rows.Reads.keeps hold hr⟩) (by rw [z2]; exact k1)
  rw [z2] at E5
  obtain ⟨g1, g2⟩ := out_items E5
  refine wpAny_bind (wpAny_holding (wpAny_call_entry PyProof.Rows.slot_list_sort ⟨_, hoL, rfl⟩ PyProof.Rows.entry_list_sort
    (PySem.W.list_sort_vals (s := { s with heap := h'.push (PyProof.Rows.seqObj "list" acc.toList.toArray 0), toks := tk }) hoL S (by omega) ⟨_, rfl, ?_⟩) (PyProof.Rows.args_list_sort _)))
  obtain ⟨ep', he'⟩ := PyProof.Rows.sortedHeap_at (vs := acc.toList) (out := (PySem.W.sortVals (PySem.W.dataKind (PySem.W.sortingHeap (h'.push (PyProof.Rows.seqObj "list" acc.toList.toArray 0)) h'.objs.size acc.toList) ds) false acc.toList acc.toList).toArray) hoL
  have hln : (((xs.map fun x => V.ref x.2).zip ds).mergeSort (PySem.W.dataLe false fun z : V × PyData => z.2)).length ≤ sizeLine := by
    rw [List.length_mergeSort]
    have := congrArg List.length z1
    rw [List.length_map, List.length_map] at this
    omega
  have hok : ObjOk X.prog X.w (upd H h'.objs.size (.lst ((((xs.map fun x => V.ref x.2).zip ds).mergeSort (PySem.W.dataLe false fun z : V × PyData => z.2)).map (·.1)))) (PyProof.Rows.sortedHeap (h'.push (PyProof.Rows.seqObj "list" acc.toList.toArray 0)) h'.objs.size acc.toList (PySem.W.sortVals (PySem.W.dataKind (PySem.W.sortingHeap (h'.push (PyProof.Rows.seqObj "list" acc.toList.toArray 0)) h'.objs.size acc.toList) ds) false acc.toList acc.toList).toArray) h'.objs.size
        (.lst ((((xs.map fun x => V.ref x.2).zip ds).mergeSort (PySem.W.dataLe false fun z : V × PyData => z.2)).map (·.1))) := ⟨by rw [List.length_map]; exact hln, _, ep', g1, he'⟩
  refine wpAny_pure ⟨_, rfl, .ref h'.objs.size, _, I1.laid (t' := tk) (fun b u e => ?_) (Nat.le_refl _) hok, rfl, q _ _ (I1.hok.fresh (Nat.le_refl _)) (List.mergeSort_perm _ _) (by rw [sorted_zs, z2])⟩
  rw [PyProof.Rows.sortedHeap_old (Nat.ne_of_lt (Heap.lt_size e)) (by rw [Heap.size_push]; exact Nat.lt_succ_of_lt (Heap.lt_size e))]
  exact Heap.get?_push_of_some _ e
/-! ### repr(x) of data -/
theorem call_reprD (hg : X.A.guards = some []) (hu : X.A.units + 64 < cLine) : CallR X (.builtin "repr") (fun xs H Q => ∃ a d, xs = [.ref a] ∧ Dp X.K H (.ref a) d ∧ d.showable = true ∧ d.hasDict = false ∧ d.depth ≤ 16 ∧ d.shown.length ≤ sizeLine ∧ Q (.str d.shown) H) := by
  intro pins s σ H us vals Q I r h
  obtain ⟨a, d, rfl, hd, h1, h2, h3, h4, q⟩ := h
  obtain ⟨u, rfl, rx⟩ := vals1 r
  cases rx
  obtain ⟨as, hr⟩ := Dp.reads I d _ _ hd rfl
  exact repr_of_reads' hr h1 (PyData.noDict_hsm h2) hg (by omega) (fun _ _ e => e) (fun h' u tk hk => ⟨.str d.shown, H, I.kept hk, ⟨_, rfl⟩, q⟩) h4
end
end Ask
-- AskR4
set_option Elab.async false
set_option linter.all false
set_option maxRecDepth 100000
set_option maxHeartbeats 1000000
/-! {k: True for target in iter if ..}, k a nested tuple (the walk of HandS.DictComp's rule, for another kind of dict) -/
namespace Ask
open PySem PySem.Spec PyProof.Rows L2
theorem dn_dictSet {X : Cx} {pins : List (Addr × Obj)} {σ : L2.St} {H : Hp} {s : Shared} {E : Value → Shared → Prop} {a b : Addr} {k : NestedKey} {xs : List Ent} {Q : Unit → Shared → Prop} (hu : X.A.units + 64 < cLine) (I : Inv X pins σ H s) (hd : H a = some (DN X.prog X.w a xs)) (hk : KeyN X.K H (k, b))
    (hz : ∀ z ∈ xs, KeyN X.K H z) (hl : xs.length < sizeLine) (h : ∀ s', Inv X pins σ (upd H a (DN X.prog X.w a (putN xs k b))) s' → Q () s') : wpAny (model X.prog X.w) X.A (dictSet a (.ref b) (.bool true)) Q E s := by
  obtain ⟨q1, q3, q2⟩ := dn_H I (.inl hd) hz
  have hu' : (nestedKind X.prog X.w).room X.A := by
    show X.A.units + 8 < cLine
    omega
  exact wpAny_dictSet_heap (hsz := by rw [List.length_map]; omega) hu' (hk.is I) q2 fun h' hm hs => h _ (dn_stored I hd hl hm hs)
section
variable {X : Cx}
/-- D the new dict; W by the turn and a measure; Nx what a turn is to reach -/
def tDcN (K : PySem.W.Frag) (P : Program) (w : World) (wi : TI) (g : TG) (tt : TT) (tk tv : TE) (vs : List Nat) : TE := fun σ H Q => wi σ H fun J H1 => ∀ D, H1 D = none → ∃ W : Nat → Nat → Hp → Prop, (∃ m, W 0 m (upd H1 D (DN P w D []))) ∧ ∀ i m H, W i m H →
  (J.stop i H ∧ Q (.ref D) H) ∨ (J.go i H ∧ ∃ Nx : Hp → Prop, (∀ H', Nx H' → ∃ m', m' < m ∧ W (i + 1) m' H') ∧ ∀ x H', J.yld i H x H' → g x (wipe σ vs) H' fun σ2 H2 => wipe σ2 vs = wipe σ vs ∧ tt σ2 H2 fun b H3 =>
    if b = true then tk σ2 H3 fun y H4 => tv σ2 H4 fun z H5 => ∃ k b xs, y = .ref b ∧ z = .bl true ∧ KeyN K H5 (k, b) ∧ H5 D = some (DN P w D xs) ∧ (∀ z ∈ xs, KeyN K H5 z) ∧ xs.length < sizeLine ∧ Nx (upd H5 D (DN P w D (putN xs k b))) else Nx H3)
theorem pe_dcN {kx vx tg iter : Expr} {ifs : List Expr} {scope : Scope} {own : List (Str × Nat)} {pos : Pos} {wi : TI} {g : TG} {tt : TT} {tk tv : TE} (hu : X.A.units + 64 < cLine) (hc : X.calm = true) (hN : X.N.Nodup) (hi : PI X tg iter wi) (ok : BlkOk X.N X.env.scope scope own)
    (hg : ∀ (s : Shared) (H : Hp) (C : Addr) (cl : List (Str × Addr)) (fp : List Addr), PG (X.blk s H scope (compEnvC scope cl C X.env) fp) tg g) (ht : ∀ (s : Shared) (H : Hp) (C : Addr) (cl : List (Str × Addr)) (fp : List Addr), PTs (X.blk s H scope (compEnvC scope cl C X.env) fp) ifs tt)
    (hk : ∀ (s : Shared) (H : Hp) (C : Addr) (cl : List (Str × Addr)) (fp : List Addr), PE (X.blk s H scope (compEnvC scope cl C X.env) fp) kx tk)
    (he : ∀ (s : Shared) (H : Hp) (C : Addr) (cl : List (Str × Addr)) (fp : List Addr), PE (X.blk s H scope (compEnvC scope cl C X.env) fp) vx tv) (hs : ∀ x, foldedSetIterable iter X.env x = pure x := by intro _; rfl) :
    PE X (.DictComp kx vx [⟨tg, iter, ifs, 0⟩] scope pos) (tDcN X.K X.prog X.w wi g tt tk tv (own.map (·.2))) := by
  refine ⟨fun pins s σ H Q I h => ?_⟩
  rw [arm_eval_DictComp]
  have hfree : ∀ y ∈ scope.names, y.2 = .free → ∃ c, X.env.cells.lookup y.1 = some c := fun y hy e => by
    rcases ok.free y hy e with k | k
    · exact I.ok.has _ (.inl k)
    · exact I.ok.has _ (.inr k)
  refine wpAny_comprehension_free (use := none) rfl hs (closure_ok hfree) ok.kind (fun y hy e => by rw [ok.uniq y hy, e])
    (thn (hi.run pins s σ H _ I h) fun xv s1 hx => thn hx fun itv s2 h2 => ?_)
  obtain ⟨it, fp, tn, J, H2, e, I2, T, st2, f2, q⟩ := h2
  subst e
  refine wpAny_newObj_type (newEnv_comp ?_)
  generalize hD : s2.heap.objs.size = D
  have hDn : H2 D = none := I2.hok.fresh (Nat.le_of_eq hD)
  obtain ⟨W, ⟨m0, w0⟩, turn⟩ := q D hDn
  generalize hs3 : ({ s2 with heap := s2.heap.push { cls := .type "dict", data := .dict #[] } } : Shared) = s3
  have I3 : Inv X pins σ (upd H2 D (DN X.prog X.w D [])) s3 := by
    rw [← hs3]
    refine I2.laid (t' := s2.toks) (fun b o e => Heap.get?_push_of_some _ e) (Nat.le_of_eq hD) ?_
    rw [← hD]
    exact dn_empty s2.heap I2.big
  have h3 : s3.heap = s2.heap.push { cls := .type "dict", data := .dict #[] } := by rw [← hs3]
  have sz : ∀ b ∈ fp, b < s2.heap.objs.size := fun b hb => let ⟨o, e, _⟩ := T.obj _ _ st2 b hb; Heap.lt_size e
  have f3 : ∀ b ∈ fp, FpOk X pins (upd H2 D (DN X.prog X.w D [])) b ∧ b < s3.heap.objs.size := fun b hb => by
    have hlt := sz b hb
    refine ⟨⟨?_, (f2 b hb).2⟩, by rw [h3, Heap.size_push]; exact Nat.lt_succ_of_lt hlt⟩
    rw [upd_ne (by rw [← hD]; exact Nat.ne_of_lt hlt)]
    exact (f2 b hb).1
  have st3 : tn 0 s3.heap := T.keep _ _ _ st2 fun b _ o e => by rw [h3]; exact Heap.get?_push_of_some _ e
  have I4 := block_start I3 ok hN f3
  have pg := hg s3 (upd H2 D (DN X.prog X.w D [])) s3.heap.objs.size (cellsFrom (s3.heap.objs.size + 1) scope.names (cloFrom X.env.cells scope.names [])) fp
  have pt := ht s3 (upd H2 D (DN X.prog X.w D [])) s3.heap.objs.size (cellsFrom (s3.heap.objs.size + 1) scope.names (cloFrom X.env.cells scope.names [])) fp
  have pk := hk s3 (upd H2 D (DN X.prog X.w D [])) s3.heap.objs.size (cellsFrom (s3.heap.objs.size + 1) scope.names (cloFrom X.env.cells scope.names [])) fp
  have pe := he s3 (upd H2 D (DN X.prog X.w D [])) s3.heap.objs.size (cellsFrom (s3.heap.objs.size + 1) scope.names (cloFrom X.env.cells scope.names [])) fp
  show codeAny _ _ (.compStart (.DictComp kx vx [⟨tg, iter, ifs, 0⟩] scope pos) 0 (.ref it) (.ref D) (compEnvC scope (cellsFrom (s3.heap.objs.size + 1) scope.names (cloFrom X.env.cells scope.names [])) s3.heap.objs.size X.env)) (compPost (model X.prog X.w) X.A X.xe none _ (.ref D) s3.heap.objs.size) { s3 with heap := pushCells (s3.heap.push { cls := .type "dict", data := .dict #[] }) scope.names }
  have nfp : ∀ b ∈ fp, (upd H2 D (DN X.prog X.w D [])) b = none := fun b hb => (f3 b hb).1.1
  generalize hce : compEnvC scope (cellsFrom (s3.heap.objs.size + 1) scope.names (cloFrom X.env.cells scope.names [])) s3.heap.objs.size X.env = ce at I4 pg pt pk pe ⊢
  have cL : ce.locals = s3.heap.objs.size := by subst hce; rfl
  generalize hH3 : upd H2 D (DN X.prog X.w D []) = H3 at I3 I4 pg pt pk pe w0 nfp f3
  generalize hs4 : ({ s3 with heap := pushCells (s3.heap.push { cls := .type "dict", data := .dict #[] }) scope.names } : Shared) = s4 at I4 ⊢
  have st4 : tn 0 s4.heap := T.keep _ _ _ st3 fun b _ o e => by rw [← hs4]; exact pushCells_keeps _ _ _ _ (Heap.get?_push_of_some _ e)
  have stat : ∀ {σ' : L2.St} {H' : Hp} {s' : Shared}, Inv (X.blk s3 H3 scope ce fp) [] σ' H' s' → (∀ b ∈ fp, H' b = none) → ∀ b ∈ fp, FpOk (X.blk s3 H3 scope ce fp) [] H' b := fun {σ' H' s'} I' hn b hb =>
    ⟨hn b hb, (I'.ok.exf b hb).1, I'.ok.exfs b hb, .inl hb, fun x c e => (I'.ok.exf b hb).2 x c e, fun p hp => absurd (show p ∈ ([] : List (Addr × Obj)) ++ [] from hp) (by simp)⟩
  refine codeAny_compStart_dict ?_ (T.self X.A 0 _ _ _ st4 ?_) <;>
  · refine compLoop_anyD (fun n s' => ∃ i H', Inv (X.blk s3 H3 scope ce fp) [] (wipe σ (own.map (·.2))) H' s' ∧ tn i s'.heap ∧ (∀ b ∈ fp, H' b = none) ∧ W i n H') ?_ m0 ⟨0, H3, I4, st4, nfp, w0⟩
    rintro n s5 ⟨i, H5, I5, st5, n5, w5⟩
    rcases turn i n H5 w5 with ⟨stop, qq⟩ | ⟨go, Nx, hNx, step⟩
    · have td := T.done (X.blk s3 H3 scope ce fp) rfl rfl rfl hc i [] s5 _ H5 (fun _ _ => False) I5 (stat I5 n5) st5 stop
      refine thnF td fun r s6 ⟨hr, I6⟩ => ?_
      subst hr
      have I7 : Inv X pins σ H5 s6 := I3.call' (ch := fp) I6.os I6.base I6.hok I6.bare fun b hb => ⟨(f3 b hb).1.2.2.2.1, (f3 b hb).1.2.1, (f3 b hb).1.2.2.2.2.1, (f3 b hb).1.2.2.2.2.2⟩
      have nC : H5 s3.heap.objs.size = none := by
        have z : H5 ce.locals = none := I6.free
        rw [cL] at z
        exact z
      obtain ⟨m, hn, _⟩ := I6.loc
      have hn : s6.heap.Ns ce.locals m := hn
      rw [cL] at hn
      refine ⟨m, hn, fun h'' sb => ?_⟩
      obtain ⟨g0, g1, g2, g3, g4, g5⟩ := I3.fpOk (H' := H5) (Nat.le_refl _) nC
      exact ⟨.ref D, H5, I7.turned (t' := s6.toks) (fun b o hb e => (sb.2 b hb).trans e) g0 g1 g3 g4 g5, rfl, qq⟩
    · have ti := T.item (X.blk s3 H3 scope ce fp) rfl rfl rfl hc i [] s5 _ H5 (fun _ _ => False) I5 (stat I5 n5) st5 go
      refine thnF ti fun r s6 ⟨u, hr, h6⟩ => ?_
      subst hr
      refine thnF h6 fun _ s7 ⟨x, H7, I7, r7, y7, st7, n7⟩ => ?_
      have I7' := I7.pinned (stat I7 n7) (T.obj _ _ st7)
      refine thnF (pg.run _ s7 _ H7 x u _ I7' r7 (step x H7 y7)) fun _ s8 ⟨σ8, H8, I8, hw8, q8⟩ => ?_
      refine thnF (pt.run _ s8 σ8 H8 _ I8 q8) fun b s9 ⟨H9, I9, q9⟩ => ?_
      have fin : ∀ {s' : Shared} {H' : Hp}, Inv (X.blk s3 H3 scope ce fp) ([] ++ pinsAt fp s7.heap) σ8 H' s' → Nx H' → ∃ m, m < n ∧ ∃ i H', Inv (X.blk s3 H3 scope ce fp) [] (wipe σ (own.map (·.2))) H' s' ∧ tn i s'.heap ∧ (∀ b ∈ fp, H' b = none) ∧ W i m H' := fun {s' H'} I' nx => by
        obtain ⟨m', hm, w'⟩ := hNx H' nx
        have pin' : ∀ b ∈ fp, ∀ o, s7.heap.get? b = some o → s'.heap.get? b = some o ∧ H' b = none := fun b hb o e =>
          let z := I'.pin (b, o) (List.mem_append_right _ (List.mem_append_right _ (mem_pinsAt hb e)))
          ⟨z.1, z.2.1⟩
        have hl : (wipe σ (own.map (·.2))).length = σ8.length := by rw [← hw8, wipe_length]
        refine ⟨m', hm, i + 1, H', (I'.unpinned (pins := [])).weak hl (fun j v e => ?_), T.keep _ _ _ st7 fun b hb o e => (pin' b hb o e).1, fun b hb => ?_, w'⟩
        · rw [← hw8] at e
          exact (wipe_some e).1
        · obtain ⟨o, e, _⟩ := T.obj _ _ st7 b hb
          exact (pin' b hb o e).2
      cases b with
      | false =>
        simp only [Bool.false_eq_true, if_false] at q9 ⊢
        exact fin I9 q9
      | true =>
        simp only [if_true] at q9 ⊢
        refine thnF (pk.run _ s9 σ8 H9 _ I9 q9) fun z s10 ⟨yk, H10, I10, r10, q10⟩ => ?_
        refine thnF (pe.run _ s10 σ8 H10 _ I10 q10) fun z2 s11 ⟨yv, H11, I11, r11, k, b, xs, ek, ev, hk11, hD11, hz11, hl11, nx⟩ => ?_
        subst ek
        subst ev
        obtain rfl : z = Value.ref b := r10
        obtain rfl : z2 = Value.bool true := r11
        exact dn_dictSet (X := X.blk s3 H3 scope ce fp) hu I11 hD11 hk11 hz11 hl11 fun s12 I12 => fin I12 nx
end
end Ask
-- AskCore
set_option Elab.async false
set_option linter.all false
set_option maxRecDepth 100000
/-! a logic of data: slots that hold data, lists of one's own, rooms, dicts; what an expression evaluates to, what a statement leads to -/
namespace Ask
open PySem PySem.Spec PyProof.Rows L2

/-! ### heaps -/
/-- what B knows of the heap H, and all that H' has new -/
def ext (B H H' : Hp) : Hp := fun p => match H p with
  | none => H' p
  | some _ => B p
section
variable {B B' H H1 H2 : Hp} {p : Addr}
theorem ext_new (h : H p = none) : ext B H H1 p = H1 p := by unfold ext; rw [h]
theorem ext_old (h : H p ≠ none) : ext B H H1 p = B p := by
  unfold ext
  cases e : H p with
  | none => exact absurd e h
  | some o => rfl
theorem ext_id (h : Same B H) : ext B H H = B := by
  funext p
  by_cases e : H p = none
  · rw [ext_new e, e]
    cases q : B p with
    | none => rfl
    | some o => rw [h p o q] at e; cases e
  · rw [ext_old e]
theorem ext_ext (a : Same H H1) (b : Same H1 H2) : ext (ext B H H1) H1 H2 = ext B H H2 := by
  funext p
  by_cases e : H p = none
  · by_cases e1 : H1 p = none
    · rw [ext_new e1, ext_new e]
    · rw [ext_old e1, ext_new e, ext_new e]
      cases q : H1 p with
      | none => exact absurd q e1
      | some o => exact (b p o q).symm
  · have e1 : H1 p ≠ none := fun z => by
      cases q : H p with
      | none => exact e q
      | some o => rw [a p o q] at z; cases z
    rw [ext_old e1, ext_old e, ext_old e]
theorem same_ext (a : Same B H) : Same B (ext B H H1) := fun p o h => by
  rw [ext_old (by rw [a p o h]; simp)]
  exact h
theorem ext_same (a : Same B H) (b : Same H H1) : Same (ext B H H1) H1 := fun p o h => by
  by_cases e : H p = none
  · rw [ext_new e] at h; exact h
  · rw [ext_old e] at h; exact b p o (a p o h)
theorem ext_monoL (a : Same B B') : Same (ext B H H1) (ext B' H H1) := fun p o h => by
  by_cases e : H p = none
  · rw [ext_new e] at h ⊢; exact h
  · rw [ext_old e] at h ⊢; exact a p o h
theorem ext_monoR (b : Same H1 H2) : Same (ext B H H1) (ext B H H2) := fun p o h => by
  by_cases e : H p = none
  · rw [ext_new e] at h ⊢; exact b p o h
  · rw [ext_old e] at h ⊢; exact h
theorem not_none {o : HO} (h : H p = some o) : H p ≠ none := by rw [h]; simp
theorem same_new {o : HO} (h : H p = none) : Same H (upd H p o) := fun b u e => by
  rw [upd_ne (ne_of_none e h)]
  exact e
/-- B without p -/
def del (B : Hp) (p : Addr) : Hp := fun q => if q = p then none else B q
theorem del_at : del B p p = none := if_pos rfl
theorem del_ne {q : Addr} (h : q ≠ p) : del B p q = B q := if_neg h
theorem del_same : Same (del B p) B := fun q o h => by
  by_cases e : q = p
  · rw [e, del_at] at h; cases h
  · rw [del_ne e] at h; exact h
theorem same_del (a : Same B B') (h : B p = none) : Same B (del B' p) := fun q o e => by
  have : q ≠ p := fun z => by rw [z, h] at e; cases e
  rw [del_ne this]
  exact a q o e
theorem none_of_same (a : Same B B') (h : B' p = none) : B p = none := a.free h
end

end Ask
namespace L2
open PySem PySem.Spec PyProof.Rows
/-! ### data on the heap -/
theorem Same.rd {H H' : Hp} (e : Same H H') {a : Addr} {u : HO} (h : Rd H a u) : Rd H' a u := by
  rcases h with h | ⟨o, h⟩
  · exact .inl (e _ _ h)
  · exact .inr ⟨o, e _ _ h⟩
theorem Same.seqT {K : PySem.W.Frag} {H H' : Hp} (e : Same H H') {a : Addr} {xs : List V} (h : SqT K H a xs) : SqT K H' a xs := by
  rcases h with h | h
  · exact .inl (Same.rd e h)
  · exact .inr h
mutual
theorem dp_mono {K : PySem.W.Frag} {H H' : Hp} (e : Same H H') : ∀ (d : PyData) (v : V), Dp K H v d → Dp K H' v d
  | .none, _, h => by cases h; exact .non
  | .bool b, _, h => by cases h; exact .bl b
  | .int i, _, h => by cases h; exact .int i
  | .str x, _, h => by cases h; exact .str x
  | .list ds, _, h => by
    cases h with
    | lst hs ha => exact .lst (e.seq hs) (dpAll_mono e ds _ ha)
  | .tuple ds, _, h => by
    cases h with
    | tup hs ha => exact .tup (Same.seqT e hs) (dpAll_mono e ds _ ha)
  | .dict _, _, h => by cases h
theorem dpAll_mono {K : PySem.W.Frag} {H H' : Hp} (e : Same H H') : ∀ (ds : List PyData) (vs : List V), DpAll K H vs ds → DpAll K H' vs ds
  | [], _, h => by cases h; exact .nil
  | d :: ds, _, h => by
    cases h with
    | cons h1 h2 => exact .cons (dp_mono e d _ h1) (dpAll_mono e ds _ h2)
end
section
variable {K : PySem.W.Frag} {H H' : Hp} {v : V} {vs us : List V} {d : PyData} {ds es : List PyData}
theorem Dp.mono (h : Dp K H v d) (e : Same H H') : Dp K H' v d := dp_mono e d v h
theorem DpAll.mono (h : DpAll K H vs ds) (e : Same H H') : DpAll K H' vs ds := dpAll_mono e ds vs h
theorem DpAll.length : ∀ {vs : List V} {ds : List PyData}, DpAll K H vs ds → vs.length = ds.length
  | _, _, .nil => rfl
  | _, _, .cons _ t => by rw [List.length_cons, List.length_cons, DpAll.length t]
theorem DpAll.append : ∀ {vs : List V} {ds : List PyData}, DpAll K H vs ds → DpAll K H us es → DpAll K H (vs ++ us) (ds ++ es)
  | _, _, .nil, s => s
  | _, _, .cons h t, s => .cons h (DpAll.append t s)
theorem DpAll.take : ∀ {vs : List V} {ds : List PyData} (n : Nat), DpAll K H vs ds → DpAll K H (vs.take n) (ds.take n)
  | _, _, 0, _ => .nil
  | _, _, _ + 1, .nil => .nil
  | _, _, n + 1, .cons h t => .cons h (DpAll.take n t)
theorem DpAll.drop : ∀ {vs : List V} {ds : List PyData} (n : Nat), DpAll K H vs ds → DpAll K H (vs.drop n) (ds.drop n)
  | _, _, 0, r => r
  | _, _, _ + 1, .nil => .nil
  | _, _, n + 1, .cons _ t => DpAll.drop n t
theorem DpAll.reverse : ∀ {vs : List V} {ds : List PyData}, DpAll K H vs ds → DpAll K H vs.reverse ds.reverse
  | _, _, .nil => .nil
  | _, _, .cons h t => by
    rw [List.reverse_cons, List.reverse_cons]
    exact DpAll.append (DpAll.reverse t) (.cons h .nil)
theorem DpAll.get : ∀ {vs : List V} {ds : List PyData} {i : Nat} {d : PyData}, DpAll K H vs ds → ds[i]? = some d → ∃ v, vs[i]? = some v ∧ Dp K H v d
  | _, _, _, _, .nil, e => by simp at e
  | _, _, 0, _, .cons h _, e => by simp at e; subst e; exact ⟨_, rfl, h⟩
  | _, _, i + 1, d, .cons _ t, e => by
    obtain ⟨u, h1, h2⟩ := DpAll.get (i := i) (d := d) t (by simpa using e)
    exact ⟨u, by simpa using h1, h2⟩
theorem DpAll.getV : ∀ {vs : List V} {ds : List PyData} {i : Nat} {v : V}, DpAll K H vs ds → vs[i]? = some v → ∃ d, ds[i]? = some d ∧ Dp K H v d
  | _, _, _, _, .nil, e => by simp at e
  | _, _, 0, _, .cons h _, e => by simp at e; subst e; exact ⟨_, rfl, h⟩
  | _, _, i + 1, d, .cons _ t, e => by
    obtain ⟨u, h1, h2⟩ := DpAll.getV (i := i) t (by simpa using e)
    exact ⟨u, by simpa using h1, h2⟩
theorem DpAll.nil_of (h : DpAll K H vs []) : vs = [] := by cases h; rfl
/-- ints, texts -/
def flatD : PyData → Bool
  | .none => true
  | .bool _ => true
  | .int _ => true
  | .str _ => true
  | _ => false
theorem Dp.flat (h : Dp K H v d) (f : flatD d = true) : Dp K H' v d := by
  cases d with
  | none => cases h; exact .non
  | bool b => cases h; exact .bl b
  | int i => cases h; exact .int i
  | str x => cases h; exact .str x
  | list _ => simp [flatD] at f
  | tuple _ => simp [flatD] at f
  | dict _ => simp [flatD] at f
end

end L2
namespace Ask
open PySem PySem.Spec PyProof.Rows L2
/-! ### slots -/
/-- a room: its rule, its line, how many came, who was served -/
structure RoomD where
  rule : PyData
  line : PyData
  came : Int
  served : List PyData
/-- a row of the law's own lines -/
structure RowD where
  p : Int
  h : Str
  ns : PyData
inductive Sl where
  /-- nothing is known -/
  | un
  /-- data that stays -/
  | dat (d : PyData)
  /-- data that may be read here, and is not handed on -/
  | brw (d : PyData)
  /-- a list of one's own -/
  | own (ds : List PyData)
  /-- a dict of one's own, its keys -/
  | dic (ks : List PyData)
  /-- a room of one's own; one that was handed in (m: it may be changed) -/
  | room (r : RoomD)
  | par (m : Bool) (pq : Addr × Addr) (r : RoomD)
  /-- a list of row lists (m: they may have been handed in) -/
  | rows (m : Bool) (po : Option (Addr × List Addr)) (l : List RowD)
/-- the text's own things: the room's class, the tuples PERSONAL and CHOICES -/
structure Th where
  P : Program
  w : World
  K : PySem.W.Frag
  C : Addr
  aP : Addr
  aC : Addr
def roomF (vr vl : V) (n : Int) (q : Addr) : List (Str × V) := [(("own_rule" : Str), vr), (("line_now" : Str), vl), (("came_so_far" : Str), .int n), (("served_so_far" : Str), .ref q)]
variable (Θ : Th)
def RoomAt (H0 H : Hp) (p q : Addr) (r : RoomD) : Prop := ∃ dx vr vl vs, H p = some (.ins Θ.C dx (roomF vr vl r.came q)) ∧ Dp Θ.K H0 vr r.rule ∧ Dp Θ.K H0 vl r.line ∧ H q = some (.lst vs) ∧ DpAll Θ.K H0 vs r.served
def RowAt (H0 H : Hp) (a : Addr) (w : RowD) : Prop := ∃ vt, H a = some (.lst [.int w.p, .str w.h, vt]) ∧ Dp Θ.K H0 vt w.ns
structure RowsAt (H0 H : Hp) (p : Addr) (as : List Addr) (l : List RowD) : Prop where
  lst : H p = some (.lst (as.map .ref))
  each : Paired (RowAt Θ H0 H) as l
  nd : as.Nodup
  np : p ∉ as
/-- the keys xs read as ks -/
def KeysAt (H0 : Hp) (xs : List Ent) (ks : List PyData) : Prop := Paired (fun (x : Ent) d => Dp Θ.K H0 (.ref x.2) d ∧ keyable d = true ∧ nkey d = x.1 ∧ x.1.depth ≤ 8) xs ks
def SlAt (H0 Hb H : Hp) : Sl → Option V → List Addr → Prop
  | .un, _, A => A = []
  | .dat d, o, A => A = [] ∧ ∃ v, o = some v ∧ Dp Θ.K H0 v d
  | .brw d, o, A => A = [] ∧ ∃ v, o = some v ∧ Dp Θ.K Hb v d
  | .own ds, o, A => ∃ p vs, A = [p] ∧ o = some (.ref p) ∧ Hb p = none ∧ H p = some (.lst vs) ∧ DpAll Θ.K H0 vs ds
  | .dic ks, o, A => ∃ p xs, A = [p] ∧ o = some (.ref p) ∧ Hb p = none ∧ H p = some (DN Θ.P Θ.w p xs) ∧ KeysAt Θ H0 xs ks
  | .room r, o, A => ∃ p q, A = [p, q] ∧ o = some (.ref p) ∧ Hb p = none ∧ Hb q = none ∧ RoomAt Θ H0 H p q r
  | .par _ pq r, o, A => A = [pq.1, pq.2] ∧ o = some (.ref pq.1) ∧ Hb pq.1 = none ∧ Hb pq.2 = none ∧ RoomAt Θ H0 H pq.1 pq.2 r
  | .rows _ po l, o, A => ∃ p as, A = p :: as ∧ o = some (.ref p) ∧ (∀ x, po = some x → x = (p, as)) ∧ Hb p = none ∧ (∀ a ∈ as, Hb a = none) ∧ RowsAt Θ H0 H p as l
structure St0 (δ : List Sl) (σ : L2.St) (H0 Hb H : Hp) (A : Nat → List Addr) : Prop where
  h0 : Same H0 Hb
  hb : Same Hb H
  sl : ∀ i s, δ[i]? = some s → ∃ o, σ[i]? = some o ∧ SlAt Θ H0 Hb H s o (A i)
  out : ∀ i, δ[i]? = none → A i = []
  dj : ∀ i j a, a ∈ A i → a ∈ A j → i = j
  len : δ.length = σ.length
/-- the bases grow by what is new in H' -/
structure Grow (H0 Hb H H0' Hb' H' : Hp) : Prop where
  s0 : Same H0 H0'
  sb : Same Hb Hb'
  ob : Same H0' Hb'
  bh : Same Hb' H'
  n0 : Same H0' (ext H0 H H')
  nb : Same Hb' (ext Hb H H')
variable {Θ}
section
variable {δ : List Sl} {σ : L2.St} {H0 Hb H H0' Hb' H' : Hp} {A : Nat → List Addr}
theorem KeysAt.mono {xs : List Ent} {ks : List PyData} (h : KeysAt Θ H0 xs ks) (e : Same H0 H0') : KeysAt Θ H0' xs ks := Paired.mapP h fun _ _ ⟨a, b⟩ => ⟨a.mono e, b⟩
theorem RoomAt.mono {p q : Addr} {r : RoomD} (h : RoomAt Θ H0 H p q r) (e : Same H0 H0') (f : ∀ o, H p = some o → H' p = some o) (g : ∀ o, H q = some o → H' q = some o) : RoomAt Θ H0' H' p q r := by
  obtain ⟨dx, vr, vl, vs, h1, h2, h3, h4, h5⟩ := h
  exact ⟨dx, vr, vl, vs, f _ h1, h2.mono e, h3.mono e, g _ h4, h5.mono e⟩
theorem each_mono {as : List Addr} {l : List RowD} (h : Paired (RowAt Θ H0 H) as l) (e : Same H0 H0') (f : ∀ a ∈ as, ∀ o, H a = some o → H' a = some o) : Paired (RowAt Θ H0' H') as l := by
  induction h with
  | nil => exact .nil
  | cons h1 h2 ih =>
    obtain ⟨vt, g1, g2⟩ := h1
    exact .cons ⟨vt, f _ (List.mem_cons_self ..) _ g1, g2.mono e⟩ (ih fun a ha => f a (List.mem_cons_of_mem _ ha))
theorem RowsAt.mono {p : Addr} {as : List Addr} {l : List RowD} (h : RowsAt Θ H0 H p as l) (e : Same H0 H0') (f : ∀ a ∈ p :: as, ∀ o, H a = some o → H' a = some o) : RowsAt Θ H0' H' p as l :=
  ⟨f _ (List.mem_cons_self ..) _ h.lst, each_mono h.each e fun a ha => f a (List.mem_cons_of_mem _ ha), h.nd, h.np⟩
theorem each_there {as : List Addr} {l : List RowD} (h : Paired (RowAt Θ H0 H) as l) : ∀ a ∈ as, H a ≠ none := by
  induction h with
  | nil => intro a ha; cases ha
  | cons h1 h2 ih =>
    obtain ⟨vt, g1, g2⟩ := h1
    intro a ha
    rcases List.mem_cons.mp ha with rfl | ha
    · exact not_none g1
    · exact ih a ha
theorem RowsAt.there {p : Addr} {as : List Addr} {l : List RowD} (h : RowsAt Θ H0 H p as l) : ∀ a ∈ p :: as, H a ≠ none := fun a ha => by
  rcases List.mem_cons.mp ha with rfl | ha
  · exact not_none h.lst
  · exact each_there h.each a ha
/-- a slot stays while its own objects stay and the bases grow -/
theorem SlAt.mono {s : Sl} {o : Option V} {L : List Addr} (h : SlAt Θ H0 Hb H s o L) (e0 : Same H0 H0') (eb : Same Hb Hb') (k : ∀ a ∈ L, (∀ u, H a = some u → H' a = some u) ∧ (Hb a = none → Hb' a = none)) : SlAt Θ H0' Hb' H' s o L := by
  cases s with
  | un => exact h
  | dat d => obtain ⟨h1, v, h2, h3⟩ := h; exact ⟨h1, v, h2, h3.mono e0⟩
  | brw d => obtain ⟨h1, v, h2, h3⟩ := h; exact ⟨h1, v, h2, h3.mono eb⟩
  | own ds =>
    obtain ⟨p, vs, rfl, h2, h3, h4, h5⟩ := h
    obtain ⟨k1, k2⟩ := k p (by simp)
    exact ⟨p, vs, rfl, h2, k2 h3, k1 _ h4, h5.mono e0⟩
  | dic ks =>
    obtain ⟨p, vs, rfl, h2, h3, h4, h5⟩ := h
    obtain ⟨k1, k2⟩ := k p (by simp)
    exact ⟨p, vs, rfl, h2, k2 h3, k1 _ h4, h5.mono e0⟩
  | room r =>
    obtain ⟨p, q, rfl, h2, h3, h4, h5⟩ := h
    obtain ⟨k1, k2⟩ := k p (by simp)
    obtain ⟨k3, k4⟩ := k q (by simp)
    exact ⟨p, q, rfl, h2, k2 h3, k4 h4, h5.mono e0 (fun _ e => k1 _ e) (fun _ e => k3 _ e)⟩
  | par m pq r =>
    obtain ⟨rfl, h2, h3, h4, h5⟩ := h
    obtain ⟨k1, k2⟩ := k pq.1 (by simp)
    obtain ⟨k3, k4⟩ := k pq.2 (by simp)
    exact ⟨rfl, h2, k2 h3, k4 h4, h5.mono e0 (fun _ e => k1 _ e) (fun _ e => k3 _ e)⟩
  | rows m po l =>
    obtain ⟨p, as, rfl, h2, h6, h3, h4, h5⟩ := h
    exact ⟨p, as, rfl, h2, h6, (k p (by simp)).2 h3, fun a ha => (k a (List.mem_cons_of_mem _ ha)).2 (h4 a ha), h5.mono e0 fun a ha => (k a ha).1⟩
theorem SlAt.there {s : Sl} {o : Option V} {L : List Addr} (h : SlAt Θ H0 Hb H s o L) : ∀ a ∈ L, H a ≠ none ∧ Hb a = none := by
  intro a ha
  cases s with
  | un => obtain rfl : L = [] := h; cases ha
  | dat d => obtain ⟨rfl, _⟩ := h; cases ha
  | brw d => obtain ⟨rfl, _⟩ := h; cases ha
  | own ds =>
    obtain ⟨p, vs, rfl, h2, h3, h4, h5⟩ := h
    obtain rfl : a = p := by simpa using ha
    exact ⟨not_none h4, h3⟩
  | dic ks =>
    obtain ⟨p, vs, rfl, h2, h3, h4, h5⟩ := h
    obtain rfl : a = p := by simpa using ha
    exact ⟨not_none h4, h3⟩
  | room r =>
    obtain ⟨p, q, rfl, h2, h3, h4, dx, vr, vl, vs, g1, g2, g3, g4, g5⟩ := h
    rcases (show a = p ∨ a = q by simpa using ha) with rfl | rfl
    · exact ⟨not_none g1, h3⟩
    · exact ⟨not_none g4, h4⟩
  | par m pq r =>
    obtain ⟨rfl, h2, h3, h4, dx, vr, vl, vs, g1, g2, g3, g4, g5⟩ := h
    rcases (show a = pq.1 ∨ a = pq.2 by simpa using ha) with rfl | rfl
    · exact ⟨not_none g1, h3⟩
    · exact ⟨not_none g4, h4⟩
  | rows m po l =>
    obtain ⟨p, as, rfl, h2, h6, h3, h4, h5⟩ := h
    refine ⟨h5.there a ha, ?_⟩
    rcases List.mem_cons.mp ha with rfl | ha
    · exact h3
    · exact h4 a ha
theorem Grow.ext (a0 : Same H0 Hb) (ab : Same Hb H) (e : Same H H') : Grow H0 Hb H (ext H0 H H') (ext Hb H H') H' :=
  ⟨same_ext (a0.trans ab), same_ext ab, ext_monoL a0, ext_same ab e, Same.refl _, Same.refl _⟩
theorem Grow.keeps (g : Grow H0 Hb H H0' Hb' H') {a : Addr} (ha : H a ≠ none) (h : Hb a = none) : Hb' a = none :=
  none_of_same g.nb (by rw [ext_old ha]; exact h)
theorem St0.at (st : St0 Θ δ σ H0 Hb H A) {i : Nat} {a : Addr} (ha : a ∈ A i) : H a ≠ none ∧ Hb a = none := by
  cases e : δ[i]? with
  | none => rw [st.out i e] at ha; cases ha
  | some s => obtain ⟨o, _, h⟩ := st.sl i s e; exact h.there a ha
theorem St0.grow (st : St0 Θ δ σ H0 Hb H A) (e : Same H H') (g : Grow H0 Hb H H0' Hb' H') : St0 Θ δ σ H0' Hb' H' A where
  h0 := g.ob
  hb := g.bh
  sl := fun i s hs => by
    obtain ⟨o, ho, h⟩ := st.sl i s hs
    exact ⟨o, ho, h.mono g.s0 g.sb fun a ha => ⟨fun u hu => e a u hu, fun hn => g.keeps (h.there a ha).1 hn⟩⟩
  out := st.out
  dj := st.dj
  len := st.len
theorem St0.ext (st : St0 Θ δ σ H0 Hb H A) (e : Same H H') : St0 Θ δ σ (Ask.ext H0 H H') (Ask.ext Hb H H') H' A := st.grow e (.ext st.h0 st.hb e)
end

/-! ### what an expression evaluates to -/
/-- the base: b: it may be borrowed -/
def bse (b : Bool) (H0 Hb : Hp) : Hp := if b then Hb else H0
variable (Θ)
def Ev (b : Bool) (t : TE) (δ : List Sl) (d : PyData) : Prop := ∀ σ H0 Hb H A, St0 Θ δ σ H0 Hb H A → ∀ Q : VK, (∀ v H', Same H H' → Dp Θ.K (ext (bse b H0 Hb) H H') v d → Q v H') → t σ H Q
def EvA (b : Bool) (t : TA) (δ : List Sl) (ds : List PyData) : Prop := ∀ σ H0 Hb H A, St0 Θ δ σ H0 Hb H A → ∀ Q : List V → Hp → Prop, (∀ vs H', Same H H' → DpAll Θ.K (ext (bse b H0 Hb) H H') vs ds → Q vs H') → t σ H Q
def EvT (t : TT) (δ : List Sl) (c : Bool) : Prop := ∀ σ H0 Hb H A, St0 Θ δ σ H0 Hb H A → ∀ Q : Bool → Hp → Prop, (∀ H', Same H H' → Q c H') → t σ H Q
def EvO (t : TO) (δ : List Sl) (o : Option Int) : Prop := ∀ σ H0 Hb H A, St0 Θ δ σ H0 Hb H A → ∀ Q : Option Int → Hp → Prop, (∀ H', Same H H' → Q o H') → t σ H Q
/-- a new list -/
def EvL (b : Bool) (t : TE) (δ : List Sl) (ds : List PyData) : Prop := ∀ σ H0 Hb H A, St0 Θ δ σ H0 Hb H A → ∀ Q : VK, (∀ p vs H', Same H H' → H p = none → H' p = some (.lst vs) → DpAll Θ.K (del (ext (bse b H0 Hb) H H') p) vs ds → Q (.ref p) H') → t σ H Q
variable {Θ}
section
variable {δ : List Sl} {σ : L2.St} {H0 Hb H H' H1 H2 : Hp} {A : Nat → List Addr} {b b1 b2 : Bool} {ta tb te : TE} {t u : TT} {tr : TA} {d e x y : PyData} {ds es : List PyData} {i j : Nat}
theorem bse_ext : bse b (ext H0 H H1) (ext Hb H H1) = ext (bse b H0 Hb) H H1 := by cases b <;> rfl
theorem bse_same (h0 : Same H0 Hb) : Same H0 (bse b H0 Hb) := by
  cases b
  · exact Same.refl _
  · exact h0
theorem bse_le (h0 : Same H0 Hb) : Same (bse b H0 Hb) Hb := by
  cases b
  · exact h0
  · exact Same.refl _
theorem two (st : St0 Θ δ σ H0 Hb H A) (ha : Ev Θ b1 ta δ x) (hb : Ev Θ b2 tb δ y) {R : V → V → Hp → Prop}
    (k : ∀ v u H', Same H H' → Dp Θ.K (ext (bse b1 H0 Hb) H H') v x → Dp Θ.K (ext (bse b2 H0 Hb) H H') u y → R v u H') : ta σ H fun v H1 => tb σ H1 fun u H2 => R v u H2 :=
  ha σ H0 Hb H A st _ fun v H1 s1 d1 => hb σ _ _ H1 A (st.ext s1) _ fun u H2 s2 d2 => k v u H2 (s1.trans s2) (d1.mono (ext_monoR s2)) (by
    rw [bse_ext, ext_ext s1 s2] at d2
    exact d2)
theorem Ev.up (h : Ev Θ false ta δ d) : Ev Θ b ta δ d := fun σ H0 Hb H A st Q q => h σ H0 Hb H A st Q fun v H' s' dv => q v H' s' (dv.mono (ext_monoL (bse_same st.h0)))
theorem Ev.flat (h : Ev Θ b1 ta δ d) (f : flatD d = true) : Ev Θ b ta δ d := fun σ H0 Hb H A st Q q => h σ H0 Hb H A st Q fun v H' s' dv => q v H' s' (dv.flat f)
theorem Ev.is (h : Ev Θ b ta δ d) (e' : d = e) : Ev Θ b ta δ e := e' ▸ h
theorem EvT.is {c c' : Bool} (h : EvT Θ t δ c) (e' : c = c') : EvT Θ t δ c' := e' ▸ h
theorem EvA.up (h : EvA Θ false tr δ ds) : EvA Θ b tr δ ds := fun σ H0 Hb H A st Q q => h σ H0 Hb H A st Q fun v H' s' dv => q v H' s' (dv.mono (ext_monoL (bse_same st.h0)))
theorem ev_var (h : δ[i]? = some (.dat d)) : Ev Θ b (tVar i) δ d := fun σ H0 Hb H A st Q q => by
  obtain ⟨o, ho, _, v, rfl, hd⟩ := st.sl i _ h
  refine ⟨v, ho, q v H (Same.refl _) (hd.mono ?_)⟩
  exact (bse_same st.h0).trans (same_ext ((bse_le st.h0).trans st.hb))
theorem ev_brw (h : δ[i]? = some (.brw d)) : Ev Θ true (tVar i) δ d := fun σ H0 Hb H A st Q q => by
  obtain ⟨o, ho, _, v, rfl, hd⟩ := st.sl i _ h
  exact ⟨v, ho, q v H (Same.refl _) (hd.mono (same_ext st.hb))⟩
theorem ev_int {n : Int} : Ev Θ b (tC (.int n)) δ (.int n) := fun σ H0 Hb H A st Q q => q _ H (Same.refl _) (.int n)
theorem ev_str {z : Str} : Ev Θ b (tC (.str z)) δ (.str z) := fun σ H0 Hb H A st Q q => q _ H (Same.refl _) (.str z)
theorem ev_bl {z : Bool} : Ev Θ b (tC (.bl z)) δ (.bool z) := fun σ H0 Hb H A st Q q => q _ H (Same.refl _) (.bl z)
theorem ev_non : Ev Θ b (tC .non) δ .none := fun σ H0 Hb H A st Q q => q _ H (Same.refl _) .non
theorem ea_nil : EvA Θ b tNil δ [] := fun σ H0 Hb H A st Q q => q _ H (Same.refl _) .nil
theorem ea_cons (h : Ev Θ b ta δ d) (hr : EvA Θ b tr δ ds) : EvA Θ b (tCons ta tr) δ (d :: ds) := fun σ H0 Hb H A st Q q =>
  h σ H0 Hb H A st _ fun v H1 s1 d1 => hr σ _ _ H1 A (st.ext s1) _ fun vs H2 s2 d2 => q _ H2 (s1.trans s2) (.cons (d1.mono (ext_monoR s2)) (by
    rw [bse_ext, ext_ext s1 s2] at d2
    exact d2))
theorem ea_starT (h : Ev Θ b ta δ (.tuple es)) (hr : EvA Θ b tr δ ds) : EvA Θ b (StX.tStar Θ.K ta tr) δ (es ++ ds) := fun σ H0 Hb H A st Q q =>
  h σ H0 Hb H A st _ fun v H1 s1 d1 => by
    have hr' := hr σ _ _ H1 A (st.ext s1)
    cases d1 with
    | tup hs ha =>
      refine ⟨_, _, rfl, .inl (Same.seqT (ext_same ((bse_le st.h0).trans st.hb) s1) hs), ?_⟩
      exact hr' _ fun vs H2 s2 d2 => q _ H2 (s1.trans s2) (DpAll.append (ha.mono (ext_monoR s2)) (by
        rw [bse_ext, ext_ext s1 s2] at d2
        exact d2))
theorem sz1000 {n : Nat} (h : n ≤ 100000) : n ≤ sizeLine := Nat.le_trans h (by decide)
theorem szlt {n : Nat} (h : n < 100000) : n < sizeLine := Nat.lt_of_lt_of_le h (by decide)
theorem new_tup {B : Hp} {p : Addr} {vs : List V} (s : Same H H1) (np : H1 p = none) (h : DpAll Θ.K (ext B H H1) vs ds) :
    Same H (upd H1 p (.tup vs)) ∧ Dp Θ.K (ext B H (upd H1 p (.tup vs))) (.ref p) (.tuple ds) := by
  have sn : Same H1 (upd H1 p (.tup vs)) := same_new np
  refine ⟨s.trans sn, .tup (SqT.of ?_) (h.mono (ext_monoR sn))⟩
  rw [ext_new (s.free np), upd_same]
theorem new_lst {B : Hp} {p : Addr} {vs : List V} (s : Same H H1) (np : H1 p = none) (h : DpAll Θ.K (ext B H H1) vs ds) :
    Same H (upd H1 p (.lst vs)) ∧ Dp Θ.K (ext B H (upd H1 p (.lst vs))) (.ref p) (.list ds) := by
  have sn : Same H1 (upd H1 p (.lst vs)) := same_new np
  refine ⟨s.trans sn, .lst (SqL.of ?_) (h.mono (ext_monoR sn))⟩
  rw [ext_new (s.free np), upd_same]
theorem ev_tup (h : EvA Θ b tr δ ds) (hl : ds.length ≤ 100000) : Ev Θ b (tTup tr) δ (.tuple ds) := fun σ H0 Hb H A st Q q =>
  h σ H0 Hb H A st _ fun vs H1 s1 d1 => ⟨sz1000 (by rw [d1.length]; exact hl), fun p np => let ⟨a, c⟩ := new_tup s1 np d1; q _ _ a c⟩
theorem ev_lst (h : EvA Θ b tr δ ds) (hl : ds.length ≤ 100000) : Ev Θ b (tLst tr) δ (.list ds) := fun σ H0 Hb H A st Q q =>
  h σ H0 Hb H A st _ fun vs H1 s1 d1 => ⟨sz1000 (by rw [d1.length]; exact hl), fun p np => let ⟨a, c⟩ := new_lst s1 np d1; q _ _ a c⟩
theorem new_lstL {B : Hp} {p : Addr} {vs : List V} (s : Same H H1) (np : H1 p = none) (h : DpAll Θ.K (ext B H H1) vs ds) :
    Same H (upd H1 p (.lst vs)) ∧ H p = none ∧ DpAll Θ.K (del (ext B H (upd H1 p (.lst vs))) p) vs ds := by
  have sn : Same H1 (upd H1 p (.lst vs)) := same_new np
  refine ⟨s.trans sn, s.free np, h.mono (same_del (ext_monoR sn) ?_)⟩
  rw [ext_new (s.free np), np]
theorem el_lst (h : EvA Θ b tr δ ds) (hl : ds.length ≤ 100000) : EvL Θ b (tLst tr) δ ds := fun σ H0 Hb H A st Q q =>
  h σ H0 Hb H A st _ fun vs H1 s1 d1 => ⟨sz1000 (by rw [d1.length]; exact hl), fun p np => let ⟨a, n, c⟩ := new_lstL s1 np d1; q p vs _ a n upd_same c⟩
theorem EvL.ev (h : EvL Θ b ta δ ds) : Ev Θ b ta δ (.list ds) := fun σ H0 Hb H A st Q q => h σ H0 Hb H A st Q fun p vs H' s' n hp hd => q _ _ s' (.lst (SqL.of (by rw [ext_new n]; exact hp)) (hd.mono del_same))
/-! ### arithmetic, comparisons -/
theorem ev_I0 {g : Int → Int → V} {g' : Int → Int → PyData} {m n : Int} (ha : Ev Θ b1 ta δ (.int m)) (hb : Ev Θ b2 tb δ (.int n)) (hg : ∀ (H : Hp), Dp Θ.K H (g m n) (g' m n)) : Ev Θ b (tOp (rI0 g) ta tb) δ (g' m n) := fun σ H0 Hb H A st Q q =>
  two st ha hb (R := fun v u H2 => rI0 g v u H2 Q) fun v u H' s' dv du => by
    cases dv
    cases du
    exact ⟨m, n, rfl, rfl, q _ _ s' (hg _)⟩
theorem ev_I {C : Int → Int → Prop} {g : Int → Int → V} {g' : Int → Int → PyData} {m n : Int} (ha : Ev Θ b1 ta δ (.int m)) (hb : Ev Θ b2 tb δ (.int n)) (hC : C m n) (hg : ∀ (H : Hp), Dp Θ.K H (g m n) (g' m n)) : Ev Θ b (tOp (rI C g) ta tb) δ (g' m n) := fun σ H0 Hb H A st Q q =>
  two st ha hb (R := fun v u H2 => rI C g v u H2 Q) fun v u H' s' dv du => by
    cases dv
    cases du
    exact ⟨m, n, rfl, rfl, hC, q _ _ s' (hg _)⟩
theorem ev_add {m n : Int} (ha : Ev Θ b1 ta δ (.int m)) (hb : Ev Θ b2 tb δ (.int n)) : Ev Θ b (tOp (rI0 fun i j => .int (i + j)) ta tb) δ (.int (m + n)) := ev_I0 (g' := fun i j => .int (i + j)) ha hb fun _ => .int _
theorem ev_sub {m n : Int} (ha : Ev Θ b1 ta δ (.int m)) (hb : Ev Θ b2 tb δ (.int n)) : Ev Θ b (tOp (rI0 fun i j => .int (i - j)) ta tb) δ (.int (m - n)) := ev_I0 (g' := fun i j => .int (i - j)) ha hb fun _ => .int _
theorem ev_lt {m n : Int} (ha : Ev Θ b1 ta δ (.int m)) (hb : Ev Θ b2 tb δ (.int n)) : Ev Θ b (tOp (rI0 fun i j => .bl (decide (i < j))) ta tb) δ (.bool (decide (m < n))) := ev_I0 (g' := fun i j => .bool (decide (i < j))) ha hb fun _ => .bl _
theorem ev_le {m n : Int} (ha : Ev Θ b1 ta δ (.int m)) (hb : Ev Θ b2 tb δ (.int n)) : Ev Θ b (tOp (rI0 fun i j => .bl (decide (i ≤ j))) ta tb) δ (.bool (decide (m ≤ n))) := ev_I0 (g' := fun i j => .bool (decide (i ≤ j))) ha hb fun _ => .bl _
/-- == of two ints, two texts -/
theorem ev_eqI {m n : Int} (ha : Ev Θ b1 ta δ (.int m)) (hb : Ev Θ b2 tb δ (.int n)) : Ev Θ b (tOp rEq ta tb) δ (.bool (decide (m = n))) := fun σ H0 Hb H A st Q q =>
  two st ha hb (R := fun v u H2 => rEq v u H2 Q) fun v u H' s' dv du => by
    cases dv
    cases du
    refine ⟨rfl, q _ _ s' ?_⟩
    rw [show decide (V.int m = V.int n) = decide (m = n) by rw [dec_int]; rfl]
    exact .bl _
theorem ev_eqS {m n : Str} (ha : Ev Θ b1 ta δ (.str m)) (hb : Ev Θ b2 tb δ (.str n)) : Ev Θ b (tOp rEq ta tb) δ (.bool (decide (m = n))) := fun σ H0 Hb H A st Q q =>
  two st ha hb (R := fun v u H2 => rEq v u H2 Q) fun v u H' s' dv du => by
    cases dv
    cases du
    refine ⟨rfl, q _ _ s' ?_⟩
    rw [show decide (V.str m = V.str n) = decide (m = n) from decide_eq_decide.mpr ⟨fun e => V.str.inj e, fun e => by rw [e]⟩]
    exact .bl _
theorem ev_neI {m n : Int} (ha : Ev Θ b1 ta δ (.int m)) (hb : Ev Θ b2 tb δ (.int n)) : Ev Θ b (tOp rNe ta tb) δ (.bool (!decide (m = n))) := fun σ H0 Hb H A st Q q =>
  two st ha hb (R := fun v u H2 => rNe v u H2 Q) fun v u H' s' dv du => by
    cases dv
    cases du
    refine ⟨rfl, q _ _ s' ?_⟩
    rw [show decide (V.int m = V.int n) = decide (m = n) by rw [dec_int]; rfl]
    exact .bl _
theorem ev_neS {m n : Str} (ha : Ev Θ b1 ta δ (.str m)) (hb : Ev Θ b2 tb δ (.str n)) : Ev Θ b (tOp rNe ta tb) δ (.bool (!decide (m = n))) := fun σ H0 Hb H A st Q q =>
  two st ha hb (R := fun v u H2 => rNe v u H2 Q) fun v u H' s' dv du => by
    cases dv
    cases du
    refine ⟨rfl, q _ _ s' ?_⟩
    rw [show decide (V.str m = V.str n) = decide (m = n) from decide_eq_decide.mpr ⟨fun e => V.str.inj e, fun e => by rw [e]⟩]
    exact .bl _
/-- how, which may be None, against a text -/
theorem ev_eqNS {n : Str} (ha : Ev Θ b1 ta δ .none) (hb : Ev Θ b2 tb δ (.str n)) : Ev Θ b (tOp rEq ta tb) δ (.bool false) := fun σ H0 Hb H A st Q q =>
  two st ha hb (R := fun v u H2 => rEq v u H2 Q) fun v u H' s' dv du => by
    cases dv
    cases du
    refine ⟨rfl, q _ _ s' ?_⟩
    rw [show decide (V.non = V.str n) = false from decide_eq_false (by simp)]
    exact .bl _
theorem ev_eqD (ha : Ev Θ b1 ta δ x) (hb : Ev Θ b2 tb δ y) (sx : SeqAt.shaped x = true) (sy : SeqAt.shaped y = true) : Ev Θ b (tOp (rEqD Θ.K) ta tb) δ (.bool (PyData.eqv x y)) := fun σ H0 Hb H A st Q q =>
  two st ha hb (R := fun v u H2 => rEqD Θ.K v u H2 Q) fun v u H' s' dv du =>
    ⟨x, y, dv.mono (ext_same ((bse_le st.h0).trans st.hb) s'), du.mono (ext_same ((bse_le st.h0).trans st.hb) s'), sx, sy, q _ _ s' (.bl _)⟩
theorem ev_neD (ha : Ev Θ b1 ta δ x) (hb : Ev Θ b2 tb δ y) (sx : SeqAt.shaped x = true) (sy : SeqAt.shaped y = true) : Ev Θ b (tOp (rNeD Θ.K) ta tb) δ (.bool (!PyData.eqv x y)) := fun σ H0 Hb H A st Q q =>
  two st ha hb (R := fun v u H2 => rNeD Θ.K v u H2 Q) fun v u H' s' dv du =>
    ⟨x, y, dv.mono (ext_same ((bse_le st.h0).trans st.hb) s'), du.mono (ext_same ((bse_le st.h0).trans st.hb) s'), sx, sy, q _ _ s' (.bl _)⟩
/-! ### in, not in: flat items -/
def eqF : PyData → PyData → Bool := PyData.eqv
theorem flatV_of {H : Hp} {v : V} (h : Dp Θ.K H v d) (f : flatD d = true) : flatV v = true := by
  cases d with
  | none => cases h; rfl
  | bool b => cases h; rfl
  | int i => cases h; rfl
  | str x => cases h; rfl
  | list _ => simp [flatD] at f
  | tuple _ => simp [flatD] at f
  | dict _ => simp [flatD] at f
theorem eqV_of {H H' : Hp} {v u : V} (h : Dp Θ.K H v d) (g : Dp Θ.K H' u e) (f : flatD d = true) (f' : flatD e = true) : eqV v u = PyData.eqv d e := by
  cases d <;> first | (simp [flatD] at f; done) | (cases e <;> first | (simp [flatD] at f'; done) | (cases h; cases g; simp [eqV, PyData.eqv]))
theorem flats_of {H : Hp} : ∀ {vs : List V} {ds : List PyData}, DpAll Θ.K H vs ds → ds.all flatD = true → vs.all flatV = true
  | _, _, .nil, _ => rfl
  | _, _, .cons h t, f => by
    rw [List.all_cons, Bool.and_eq_true] at f
    rw [List.all_cons, flatV_of h f.1, flats_of t f.2]
    rfl
theorem inV_of {H H' : Hp} {u : V} (g : Dp Θ.K H' u e) (f' : flatD e = true) : ∀ {vs : List V} {ds : List PyData}, DpAll Θ.K H vs ds → ds.all flatD = true → inV u vs = ds.any fun z => PyData.eqv z e
  | _, _, .nil, _ => rfl
  | v :: vs, d :: ds, .cons h t, f => by
    rw [List.all_cons, Bool.and_eq_true] at f
    have ih := inV_of g f' t f.2
    unfold inV at ih ⊢
    rw [List.any_cons, List.any_cons, eqV_of h g f.1 f', ih]
theorem seq_of {H H' : Hp} {v : V} (h : Dp Θ.K H v d) (s : Same H H') (hd : d = .list ds ∨ d = .tuple ds) : ∃ p vs, v = .ref p ∧ (SqL Θ.K H' p vs ∨ SqT Θ.K H' p vs) ∧ DpAll Θ.K H vs ds := by
  rcases hd with rfl | rfl
  · cases h with
    | lst hs ha => exact ⟨_, _, rfl, .inl (s.seq hs), ha⟩
  · cases h with
    | tup hs ha => exact ⟨_, _, rfl, .inr (Same.seqT s hs), ha⟩
theorem ev_in {neg : Bool} (ha : Ev Θ b1 ta δ x) (hb : Ev Θ b2 tb δ y) (hy : y = .list ds ∨ y = .tuple ds) (fx : flatD x = true) (fd : ds.all flatD = true) :
    Ev Θ b (tOp (rIn Θ.K neg) ta tb) δ (.bool (if neg then !(ds.any fun z => PyData.eqv z x) else ds.any fun z => PyData.eqv z x)) := fun σ H0 Hb H A st Q q =>
  two st ha hb (R := fun v u H2 => rIn Θ.K neg v u H2 Q) fun v u H' s' dv du => by
    obtain ⟨p, vs, rfl, hs, hv⟩ := seq_of du (ext_same ((bse_le st.h0).trans st.hb) s') hy
    refine ⟨p, vs, rfl, hs, flatV_of dv fx, flats_of hv fd, q _ _ s' ?_⟩
    rw [inV_of dv fx hv fd]
    exact .bl _
/-! ### items, slices, len, tuple(x), list(x) -/
theorem atI_of {H : Hp} {vs : List V} {n : Int} (h : DpAll Θ.K H vs ds) (e' : atI ds n = some d) : ∃ v, atI vs n = some v ∧ Dp Θ.K H v d := by
  unfold atI at e' ⊢
  rw [h.length]
  cases q : ixN ds.length n with
  | none => rw [q] at e'; cases e'
  | some j =>
    rw [q] at e'
    exact h.get e'
theorem ev_ix {n : Int} (ha : Ev Θ b1 ta δ x) (hb : Ev Θ b2 tb δ (.int n)) (hx : x = .list ds ∨ x = .tuple ds) (hd : atI ds n = some d) : Ev Θ b1 (tOp (rIx Θ.K) ta tb) δ d := fun σ H0 Hb H A st Q q =>
  two st ha hb (R := fun v u H2 => rIx Θ.K v u H2 Q) fun v u H' s' dv du => by
    obtain ⟨p, vs, rfl, hs, hv⟩ := seq_of dv (ext_same ((bse_le st.h0).trans st.hb) s') hx
    obtain ⟨z, hz, hd'⟩ := atI_of hv hd
    cases du
    rcases hs with hs | hs
    · exact .inl ⟨p, vs, n, z, rfl, rfl, hs, hz, q _ _ s' hd'⟩
    · exact .inr (.inl ⟨p, vs, n, z, rfl, rfl, hs, hz, q _ _ s' hd'⟩)
theorem eo_none : EvO Θ tNoPart δ none := fun σ H0 Hb H A st Q q => q H (Same.refl _)
theorem eo_some {n : Int} (h : Ev Θ b ta δ (.int n)) : EvO Θ (tPart ta) δ (some n) := fun σ H0 Hb H A st Q q => h σ H0 Hb H A st _ fun v H1 s1 d1 => by
  cases d1
  exact ⟨n, rfl, q H1 s1⟩
def cutD (xs : List PyData) (lo hi : Option Int) : List PyData := (xs.drop (HT.sIx xs.length 0 lo)).take (HT.sIx xs.length xs.length hi - HT.sIx xs.length 0 lo)
theorem cut_of {H : Hp} {vs : List V} {lo hi : Option Int} (h : DpAll Θ.K H vs ds) : DpAll Θ.K H (cutV vs lo hi) (cutD ds lo hi) := by
  unfold cutV cutD
  rw [h.length]
  exact (h.drop _).take _
theorem cutD_whole {lo hi : Option Int} (h : HT.sIx ds.length 0 lo = 0 ∧ HT.sIx ds.length ds.length hi = ds.length) : cutD ds lo hi = ds := by
  unfold cutD
  rw [h.1, h.2, List.drop_zero, Nat.sub_zero, List.take_length]
theorem three {tl th : TO} {lo hi : Option Int} (st : St0 Θ δ σ H0 Hb H A) (ha : Ev Θ b1 ta δ x) (h1 : EvO Θ tl δ lo) (h2 : EvO Θ th δ hi) {R : V → Option Int → Option Int → Hp → Prop}
    (k : ∀ v H', Same H H' → Dp Θ.K (ext (bse b1 H0 Hb) H H') v x → R v lo hi H') : ta σ H fun v H1 => tl σ H1 fun l H2 => th σ H2 fun u H3 => R v l u H3 :=
  ha σ H0 Hb H A st _ fun v H1 s1 d1 => h1 σ _ _ H1 A (st.ext s1) _ fun H2 s2 => h2 σ _ _ H2 A (st.ext (s1.trans s2)) _ fun H3 s3 => k v H3 ((s1.trans s2).trans s3) (d1.mono (ext_monoR (s2.trans s3)))
theorem ev_slT {tl th : TO} {lo hi : Option Int} (ha : Ev Θ b ta δ (.tuple ds)) (h1 : EvO Θ tl δ lo) (h2 : EvO Θ th δ hi) : Ev Θ b (tSl (rSlA Θ.K) ta tl th) δ (.tuple (cutD ds lo hi)) := fun σ H0 Hb H A st Q q =>
  three st ha h1 h2 (R := fun v l u H3 => rSlA Θ.K v l u H3 Q) fun v H' s' dv => by
    cases dv with
    | @tup a vs _ hs ha' =>
      refine ⟨a, vs, rfl, Same.seqT (ext_same ((bse_le st.h0).trans st.hb) s') hs, fun hw => ?_, fun _ p np => ?_⟩
      · rw [ha'.length] at hw
        rw [cutD_whole hw] at q
        exact q _ _ s' (.tup hs ha')
      · obtain ⟨a1, a2⟩ := new_tup s' np (cut_of (lo := lo) (hi := hi) ha')
        exact q _ _ a1 a2
theorem el_slL {tl th : TO} {lo hi : Option Int} (ha : Ev Θ b ta δ (.list ds)) (h1 : EvO Θ tl δ lo) (h2 : EvO Θ th δ hi) : EvL Θ b (tSl (rSlL Θ.K) ta tl th) δ (cutD ds lo hi) := fun σ H0 Hb H A st Q q =>
  three st ha h1 h2 (R := fun v l u H3 => rSlL Θ.K v l u H3 Q) fun v H' s' dv => by
    cases dv with
    | @lst a vs _ hs ha' =>
      refine ⟨a, vs, rfl, (ext_same ((bse_le st.h0).trans st.hb) s').seq hs, fun p np => ?_⟩
      obtain ⟨a1, a2, a3⟩ := new_lstL s' np (cut_of (lo := lo) (hi := hi) ha')
      exact q p _ _ a1 a2 upd_same a3
theorem ev_slL {tl th : TO} {lo hi : Option Int} (ha : Ev Θ b ta δ (.list ds)) (h1 : EvO Θ tl δ lo) (h2 : EvO Θ th δ hi) : Ev Θ b (tSl (rSlL Θ.K) ta tl th) δ (.list (cutD ds lo hi)) := fun σ H0 Hb H A st Q q =>
  three st ha h1 h2 (R := fun v l u H3 => rSlL Θ.K v l u H3 Q) fun v H' s' dv => by
    cases dv with
    | @lst a vs _ hs ha' =>
      refine ⟨a, vs, rfl, (ext_same ((bse_le st.h0).trans st.hb) s').seq hs, fun p np => ?_⟩
      obtain ⟨a1, a2⟩ := new_lst s' np (cut_of (lo := lo) (hi := hi) ha')
      exact q _ _ a1 a2
theorem ev_rev (ha : Ev Θ b ta δ (.list ds)) : Ev Θ b (tRevL Θ.K ta) δ (.list ds.reverse) := fun σ H0 Hb H A st Q q => ha σ H0 Hb H A st _ fun v H1 s1 d1 => by
  cases d1 with
  | @lst a vs _ hs ha' =>
    refine ⟨a, vs, rfl, (ext_same ((bse_le st.h0).trans st.hb) s1).seq hs, fun p np => ?_⟩
    obtain ⟨a1, a2⟩ := new_lst s1 np ha'.reverse
    exact q _ _ a1 a2
end
/-- calls by their names: what the built-ins ask -/
def rLen (K : PySem.W.Frag) : List V → Hp → VK → Prop := fun xs H Q => ∃ p ys, xs = [V.ref p] ∧ (SqL K H p ys ∨ SqT K H p ys) ∧ Q (.int ys.length) H
def rListOf (K : PySem.W.Frag) : List V → Hp → VK → Prop := fun xs H Q => ∃ p ys, xs = [V.ref p] ∧ (SqL K H p ys ∨ SqT K H p ys) ∧ ∀ l, H l = none → Q (.ref l) (upd H l (.lst ys))
def rTupOf (K : PySem.W.Frag) : List V → Hp → VK → Prop := fun xs H Q => ∃ p ys, xs = [V.ref p] ∧ ((SqL K H p ys ∧ ∀ l, H l = none → Q (.ref l) (upd H l (.tup ys))) ∨ (SqT K H p ys ∧ Q (.ref p) H))
theorem call_lenK {X : Cx} : CallR X (.builtin "len") (rLen X.K) := call_len_seq
theorem call_listK {X : Cx} : CallR X (.type "list") (rListOf X.K) := call_list_of
theorem call_tupleK {X : Cx} : CallR X (.type "tuple") (rTupOf X.K) := call_tuple_of
section
variable {δ : List Sl} {σ : L2.St} {H0 Hb H H' H1 H2 : Hp} {A : Nat → List Addr} {b b1 b2 : Bool} {ta tb te : TE} {t u : TT} {tr : TA} {d e x y : PyData} {ds es : List PyData} {i j : Nat}
theorem ev_len (ha : Ev Θ b1 ta δ x) (hx : x = .list ds ∨ x = .tuple ds) : Ev Θ b (tCB (rLen Θ.K) (tCons ta tNil)) δ (.int ds.length) := fun σ H0 Hb H A st Q q => ha σ H0 Hb H A st _ fun v H1 s1 d1 => by
  obtain ⟨p, vs, rfl, hs, hv⟩ := seq_of d1 (ext_same ((bse_le st.h0).trans st.hb) s1) hx
  refine ⟨p, vs, rfl, hs, q _ _ s1 ?_⟩
  rw [hv.length]
  exact .int _
theorem ev_tupleOf (ha : Ev Θ b ta δ (.list ds)) : Ev Θ b (tCB (rTupOf Θ.K) (tCons ta tNil)) δ (.tuple ds) := fun σ H0 Hb H A st Q q => ha σ H0 Hb H A st _ fun v H1 s1 d1 => by
  cases d1 with
  | @lst a vs _ hs ha' =>
    refine ⟨a, vs, rfl, .inl ⟨(ext_same ((bse_le st.h0).trans st.hb) s1).seq hs, fun p np => ?_⟩⟩
    obtain ⟨a1, a2⟩ := new_tup s1 np ha'
    exact q _ _ a1 a2
theorem ev_listOf (ha : Ev Θ b ta δ x) (hx : x = .list ds ∨ x = .tuple ds) : Ev Θ b (tCB (rListOf Θ.K) (tCons ta tNil)) δ (.list ds) := fun σ H0 Hb H A st Q q => ha σ H0 Hb H A st _ fun v H1 s1 d1 => by
  obtain ⟨p, vs, rfl, hs, hv⟩ := seq_of d1 (ext_same ((bse_le st.h0).trans st.hb) s1) hx
  refine ⟨p, vs, rfl, hs, fun l nl => ?_⟩
  obtain ⟨a1, a2⟩ := new_lst s1 nl hv
  exact q _ _ a1 a2
/-- an own list read as a whole, where nothing keeps it: len, tuple -/
theorem ev_lenOwn (h : δ[i]? = some (.own ds)) : Ev Θ b (tCB (rLen Θ.K) (tCons (tVar i) tNil)) δ (.int ds.length) := fun σ H0 Hb H A st Q q => by
  obtain ⟨o, ho, p, vs, _, rfl, h1, h2, h3⟩ := st.sl i _ h
  refine ⟨_, ho, p, vs, rfl, .inl (SqL.of h2), q _ _ (Same.refl _) ?_⟩
  rw [h3.length]
  exact .int _
theorem ev_tupleOwn (h : δ[i]? = some (.own ds)) : Ev Θ false (tCB (rTupOf Θ.K) (tCons (tVar i) tNil)) δ (.tuple ds) := fun σ H0 Hb H A st Q q => by
  obtain ⟨o, ho, p, vs, _, rfl, h1, h2, h3⟩ := st.sl i _ h
  refine ⟨_, ho, p, vs, rfl, .inl ⟨SqL.of h2, fun l nl => ?_⟩⟩
  obtain ⟨a1, a2⟩ := new_tup (B := H0) (Same.refl H) nl (h3.mono (same_ext (st.h0.trans st.hb)))
  exact q _ _ a1 a2
/-! ### tests, and, or, not, if -/
theorem et_test {c : Bool} (h : Ev Θ b ta δ (.bool c)) : EvT Θ (tTest ta) δ c := fun σ H0 Hb H A st Q q => h σ H0 Hb H A st _ fun v H1 s1 d1 => by
  cases d1
  exact ⟨c, rfl, q _ s1⟩
theorem et_B {c : Bool} (h : Ev Θ b ta δ (.bool c)) : EvT Θ (tB ta) δ c := fun σ H0 Hb H A st Q q => h σ H0 Hb H A st _ fun v H1 s1 d1 => by
  cases d1
  exact ⟨c, rfl, q _ s1⟩
theorem et_and {c c' : Bool} (h1 : EvT Θ t δ c) (h2 : c = true → EvT Θ u δ c') : EvT Θ (tAnd t u) δ (c && c') := fun σ H0 Hb H A st Q q => h1 σ H0 Hb H A st _ fun H1 s1 => by
  cases c with
  | true =>
    show (if true = true then u σ H1 Q else Q false H1)
    rw [if_pos rfl]
    exact h2 rfl σ _ _ H1 A (st.ext s1) Q fun H2 s2 => q H2 (s1.trans s2)
  | false =>
    show (if false = true then u σ H1 Q else Q false H1)
    rw [if_neg Bool.false_ne_true]
    exact q H1 s1
theorem et_or {c c' : Bool} (h1 : EvT Θ t δ c) (h2 : c = false → EvT Θ u δ c') : EvT Θ (tOr t u) δ (c || c') := fun σ H0 Hb H A st Q q => h1 σ H0 Hb H A st _ fun H1 s1 => by
  cases c with
  | true =>
    show (if true = true then Q true H1 else u σ H1 Q)
    rw [if_pos rfl]
    exact q H1 s1
  | false =>
    show (if false = true then Q true H1 else u σ H1 Q)
    rw [if_neg Bool.false_ne_true]
    exact h2 rfl σ _ _ H1 A (st.ext s1) Q fun H2 s2 => q H2 (s1.trans s2)
theorem et_not {c : Bool} (h1 : EvT Θ t δ c) : EvT Θ (tNot t) δ (!c) := fun σ H0 Hb H A st Q q => h1 σ H0 Hb H A st _ fun H1 s1 => q H1 s1
theorem ev_andV {c c' : Bool} (h1 : Ev Θ b1 ta δ (.bool c)) (h2 : c = true → Ev Θ b2 tb δ (.bool c')) : Ev Θ b (tAndV ta tb) δ (.bool (c && c')) := fun σ H0 Hb H A st Q q => h1 σ H0 Hb H A st _ fun v H1 s1 d1 => by
  cases d1
  refine ⟨c, rfl, ?_⟩
  cases c with
  | true =>
    rw [if_pos rfl]
    exact h2 rfl σ _ _ H1 A (st.ext s1) Q fun v H2 s2 d2 => q v H2 (s1.trans s2) (d2.flat rfl)
  | false =>
    rw [if_neg Bool.false_ne_true]
    exact q _ H1 s1 (.bl _)
theorem ev_orV {c c' : Bool} (h1 : Ev Θ b1 ta δ (.bool c)) (h2 : c = false → Ev Θ b2 tb δ (.bool c')) : Ev Θ b (tOrV ta tb) δ (.bool (c || c')) := fun σ H0 Hb H A st Q q => h1 σ H0 Hb H A st _ fun v H1 s1 d1 => by
  cases d1
  refine ⟨c, rfl, ?_⟩
  cases c with
  | true =>
    rw [if_pos rfl]
    exact q _ H1 s1 (.bl _)
  | false =>
    rw [if_neg Bool.false_ne_true]
    exact h2 rfl σ _ _ H1 A (st.ext s1) Q fun v H2 s2 d2 => q v H2 (s1.trans s2) (d2.flat rfl)
theorem ev_notV {c : Bool} (h1 : Ev Θ b1 ta δ (.bool c)) : Ev Θ b (tNotV ta) δ (.bool (!c)) := fun σ H0 Hb H A st Q q => h1 σ H0 Hb H A st _ fun v H1 s1 d1 => by
  cases d1
  exact ⟨c, rfl, q _ H1 s1 (.bl _)⟩
theorem ev_if {c : Bool} (h : EvT Θ t δ c) (h1 : c = true → Ev Θ b ta δ d) (h2 : c = false → Ev Θ b tb δ d) : Ev Θ b (tIf t ta tb) δ d := fun σ H0 Hb H A st Q q => h σ H0 Hb H A st _ fun H1 s1 => by
  have fin : ∀ {tx : TE}, Ev Θ b tx δ d → tx σ H1 Q := fun hx => hx σ _ _ H1 A (st.ext s1) Q fun v H2 s2 d2 => q v H2 (s1.trans s2) (by
    rw [bse_ext, ext_ext s1 s2] at d2
    exact d2)
  cases c with
  | true => rw [if_pos rfl]; exact fin (h1 rfl)
  | false => rw [if_neg Bool.false_ne_true]; exact fin (h2 rfl)
def rIsNone : R2 := fun x y H Q => y = .non ∧ Q (.bl (decide (x = .non))) H
def rNotNone : R2 := fun x y H Q => y = .non ∧ Q (.bl (!decide (x = .non))) H
theorem op_isNone {X : Cx} : OpR X (compareOp .Is) rIsNone := op_isN
theorem op_notNone {X : Cx} : OpR X (compareOp .IsNot) rNotNone := op_notN
/-- a tuple of the module's own -/
theorem ev_mod {a : Addr} (h : ∀ H, Dp Θ.K H (.ref a) d) : Ev Θ b (tC (.ref a)) δ d := fun σ H0 Hb H A st Q q => q _ H (Same.refl _) (h _)
def noneD : PyData → Bool
  | .none => true
  | _ => false
theorem ev_isN (h : Ev Θ b1 ta δ d) : Ev Θ b (tOp rIsNone ta (tC .non)) δ (.bool (noneD d)) := fun σ H0 Hb H A st Q q => h σ H0 Hb H A st _ fun v H1 s1 d1 => ⟨rfl, q _ H1 s1 (by
  cases d1 <;> exact .bl _)⟩
theorem ev_notN (h : Ev Θ b1 ta δ d) : Ev Θ b (tOp rNotNone ta (tC .non)) δ (.bool (!noneD d)) := fun σ H0 Hb H A st Q q => h σ H0 Hb H A st _ fun v H1 s1 d1 => ⟨rfl, q _ H1 s1 (by
  cases d1 <;> exact .bl _)⟩
end
end Ask
-- AskCore2
set_option Elab.async false
set_option linter.all false
set_option maxRecDepth 100000
/-! calls, fields, what is walked, targets, comprehensions -/
namespace Ask
open PySem PySem.Spec PyProof.Rows L2
variable (Θ : Th)
/-! ### promises over data -/
/-- a def from data to data -/
def spD (G : List PyData → PyData → Prop) : Sp := fun vs H Q _ => ∃ H0 ds d, Same H0 H ∧ DpAll Θ.K H0 vs ds ∧ G ds d ∧ ∀ v H', Same H H' → Dp Θ.K (ext H0 H H') v d → Q v H'
/-- a def, or a method, that reads a room -/
def spRd (G : RoomD → List PyData → PyData → Prop) : Sp := fun vs H Q _ => ∃ p q r us H0 ds d, vs = .ref p :: us ∧ Same H0 H ∧ H0 p = none ∧ H0 q = none ∧ RoomAt Θ H0 H p q r ∧ DpAll Θ.K H0 us ds ∧ G r ds d ∧ ∀ v H', Same H H' → Dp Θ.K (ext H0 H H') v d → Q v H'
/-- a method that changes its room -/
def spMu (G : RoomD → List PyData → RoomD → Prop) : Sp := fun vs H Q _ => ∃ p q r us H0 ds r', vs = .ref p :: us ∧ Same H0 H ∧ H0 p = none ∧ H0 q = none ∧ RoomAt Θ H0 H p q r ∧ DpAll Θ.K H0 us ds ∧ G r ds r' ∧
  ∀ H', (∀ a o, a ≠ p → a ≠ q → H a = some o → H' a = some o) → RoomAt Θ (ext H0 H H') H' p q r' → Q .non H'
variable {Θ}
section
variable {δ : List Sl} {σ : L2.St} {H0 Hb H H' H1 H2 : Hp} {A : Nat → List Addr} {b b0 b1 b2 : Bool} {ta tb te : TE} {t u : TT} {tr : TA} {d e x y : PyData} {ds es : List PyData} {i j : Nat} {E : XK}
theorem ev_call {G : List PyData → PyData → Prop} (h : EvA Θ b tr δ ds) (hG : G ds d) : Ev Θ b (tCall (spD Θ G) [] E tr) δ d := fun σ H0 Hb H A st Q q =>
  h σ H0 Hb H A st _ fun vs H1 s1 d1 => ⟨ext (bse b H0 Hb) H H1, ds, d, ext_same ((bse_le st.h0).trans st.hb) s1, by rw [List.append_nil]; exact d1, hG, fun v H' s' dv => q v H' (s1.trans s') (by
    rw [ext_ext s1 s'] at dv
    exact dv)⟩
/-- the room in a slot -/
def roomOf : Sl → Option RoomD
  | .room r => some r
  | .par _ _ r => some r
  | _ => none
theorem slot_room {s : Sl} {r : RoomD} {o : Option V} {L : List Addr} (h : SlAt Θ H0 Hb H s o L) (hr : roomOf s = some r) : ∃ p q, L = [p, q] ∧ o = some (.ref p) ∧ Hb p = none ∧ Hb q = none ∧ RoomAt Θ H0 H p q r := by
  cases s with
  | room r' => cases hr; exact h
  | par m pq r' => cases hr; exact ⟨pq.1, pq.2, h⟩
  | _ => cases hr
theorem roomF_lookup {vr vl : V} {n : Int} {q : Addr} {f : Str} (h : f ≠ "own_rule") (h2 : f ≠ "line_now") (h3 : f ≠ "came_so_far") (h4 : f ≠ "served_so_far") : (roomF vr vl n q).lookup f = none := by
  unfold roomF
  simp only [List.lookup, beq_eq_false_iff_ne.mpr h, beq_eq_false_iff_ne.mpr h2, beq_eq_false_iff_ne.mpr h3, beq_eq_false_iff_ne.mpr h4]
theorem room_call {G : RoomD → List PyData → PyData → Prop} {s : Sl} {r : RoomD} (st : St0 Θ δ σ H0 Hb H A) (hs : δ[i]? = some s) (hr : roomOf s = some r) (h : EvA Θ b tr δ ds) (hG : G r ds d) {Q : VK} (q : ∀ v H', Same H H' → Dp Θ.K (ext (bse b H0 Hb) H H') v d → Q v H') :
    ∃ p, σ[i]? = some (some (.ref p)) ∧ (∃ dx vr vl n q, H p = some (.ins Θ.C dx (roomF vr vl n q))) ∧ tr σ H fun vs H1 => spRd Θ G (.ref p :: (vs ++ [])) H1 Q E := by
  obtain ⟨o, ho, hsl⟩ := st.sl i s hs
  obtain ⟨p, qa, _, rfl, h1, h2, hat⟩ := slot_room hsl hr
  refine ⟨p, ho, ?_, h σ H0 Hb H A st _ fun vs H1 s1 d1 => ?_⟩
  · obtain ⟨dx, vr, vl, vs, g, _⟩ := hat
    exact ⟨dx, vr, vl, _, qa, g⟩
  · have n0 : ∀ a, H a ≠ none → Hb a = none → ext (bse b H0 Hb) H H1 a = none := fun a ha hn => by
      rw [ext_old ha]
      exact none_of_same (bse_le st.h0) hn
    have hat' := hat
    obtain ⟨dx, vr, vl, ws, g1, g2, g3, g4, g5⟩ := hat'
    refine ⟨p, qa, r, vs, ext (bse b H0 Hb) H H1, ds, d, by rw [List.append_nil], ext_same ((bse_le st.h0).trans st.hb) s1, n0 p (not_none g1) h1, n0 qa (not_none g4) h2,
      hat.mono ((bse_same st.h0).trans (same_ext ((bse_le st.h0).trans st.hb))) (fun o e => s1 _ _ e) (fun o e => s1 _ _ e), d1, hG, fun v H' s' dv => q v H' (s1.trans s') (by
        rw [ext_ext s1 s'] at dv
        exact dv)⟩
theorem ev_callRd {G : RoomD → List PyData → PyData → Prop} {s : Sl} {r : RoomD} (hs : δ[i]? = some s) (hr : roomOf s = some r) (h : EvA Θ b tr δ ds) (hG : G r ds d) : Ev Θ b (tCall (spRd Θ G) [] E (tCons (tVar i) tr)) δ d := fun σ H0 Hb H A st Q q => by
  obtain ⟨p, h1, _, h3⟩ := room_call (E := E) st hs hr h hG q
  exact ⟨_, h1, h3⟩
theorem ev_meth {G : RoomD → List PyData → PyData → Prop} {s : Sl} {r : RoomD} {m : Str} (hs : δ[i]? = some s) (hr : roomOf s = some r) (h : EvA Θ b tr δ ds) (hG : G r ds d)
    (m1 : m ≠ "own_rule" := by decide +kernel) (m2 : m ≠ "line_now" := by decide +kernel) (m3 : m ≠ "came_so_far" := by decide +kernel) (m4 : m ≠ "served_so_far" := by decide +kernel) : Ev Θ b (tMeth Θ.C m (spRd Θ G) [] E (tVar i) tr) δ d := fun σ H0 Hb H A st Q q => by
  obtain ⟨p, h1, ⟨dx, vr, vl, n, qa, h2⟩, h3⟩ := room_call (E := E) st hs hr h hG q
  exact ⟨_, h1, p, dx, _, rfl, h2, roomF_lookup m1 m2 m3 m4, h3⟩
/-! ### fields -/
/-- what the class's facts are -/
structure ClsF (K : PySem.W.Frag) (C : Addr) : Prop where
  c : Cls K C
  n1 : NoAttr K C "own_rule"
  n2 : NoAttr K C "line_now"
  n3 : NoAttr K C "came_so_far"
  n4 : NoAttr K C "served_so_far"
theorem look1 {vr vl : V} {n : Int} {q : Addr} : (roomF vr vl n q).lookup ("own_rule" : Str) = some vr := by unfold roomF; simp [List.lookup]
theorem look2 {vr vl : V} {n : Int} {q : Addr} : (roomF vr vl n q).lookup ("line_now" : Str) = some vl := by
  unfold roomF
  simp only [List.lookup, beq_eq_false_iff_ne.mpr (show ("line_now" : Str) ≠ "own_rule" by decide +kernel), beq_self_eq_true]
theorem look3 {vr vl : V} {n : Int} {q : Addr} : (roomF vr vl n q).lookup ("came_so_far" : Str) = some (.int n) := by
  unfold roomF
  simp only [List.lookup, beq_eq_false_iff_ne.mpr (show ("came_so_far" : Str) ≠ "own_rule" by decide +kernel), beq_eq_false_iff_ne.mpr (show ("came_so_far" : Str) ≠ "line_now" by decide +kernel), beq_self_eq_true]
theorem look4 {vr vl : V} {n : Int} {q : Addr} : (roomF vr vl n q).lookup ("served_so_far" : Str) = some (.ref q) := by
  unfold roomF
  simp only [List.lookup, beq_eq_false_iff_ne.mpr (show ("served_so_far" : Str) ≠ "own_rule" by decide +kernel), beq_eq_false_iff_ne.mpr (show ("served_so_far" : Str) ≠ "line_now" by decide +kernel), beq_eq_false_iff_ne.mpr (show ("served_so_far" : Str) ≠ "came_so_far" by decide +kernel), beq_self_eq_true]
theorem ev_fRule {s : Sl} {r : RoomD} (F : ClsF Θ.K Θ.C) (hs : δ[i]? = some s) (hr : roomOf s = some r) : Ev Θ b (tFld Θ.K (tVar i) "own_rule") δ r.rule := fun σ H0 Hb H A st Q q => by
  obtain ⟨o, ho, hsl⟩ := st.sl i s hs
  obtain ⟨p, qa, _, rfl, h1, h2, dx, vr, vl, vs, g1, g2, g3, g4, g5⟩ := slot_room hsl hr
  exact ⟨_, ho, p, Θ.C, dx, _, vr, rfl, g1, F.c, F.n1, look1, q _ _ (Same.refl _) (g2.mono ((bse_same st.h0).trans (same_ext ((bse_le st.h0).trans st.hb))))⟩
theorem ev_fLine {s : Sl} {r : RoomD} (F : ClsF Θ.K Θ.C) (hs : δ[i]? = some s) (hr : roomOf s = some r) : Ev Θ b (tFld Θ.K (tVar i) "line_now") δ r.line := fun σ H0 Hb H A st Q q => by
  obtain ⟨o, ho, hsl⟩ := st.sl i s hs
  obtain ⟨p, qa, _, rfl, h1, h2, dx, vr, vl, vs, g1, g2, g3, g4, g5⟩ := slot_room hsl hr
  exact ⟨_, ho, p, Θ.C, dx, _, vl, rfl, g1, F.c, F.n2, look2, q _ _ (Same.refl _) (g3.mono ((bse_same st.h0).trans (same_ext ((bse_le st.h0).trans st.hb))))⟩
theorem ev_fCame {s : Sl} {r : RoomD} (F : ClsF Θ.K Θ.C) (hs : δ[i]? = some s) (hr : roomOf s = some r) : Ev Θ b (tFld Θ.K (tVar i) "came_so_far") δ (.int r.came) := fun σ H0 Hb H A st Q q => by
  obtain ⟨o, ho, hsl⟩ := st.sl i s hs
  obtain ⟨p, qa, _, rfl, h1, h2, dx, vr, vl, vs, g1, g2, g3, g4, g5⟩ := slot_room hsl hr
  exact ⟨_, ho, p, Θ.C, dx, _, _, rfl, g1, F.c, F.n3, look3, q _ _ (Same.refl _) (.int _)⟩
/-! ### what is walked -/
structure Yld (K : PySem.W.Frag) (J : It) (B : Hp) (ds : List PyData) : Prop where
  go : ∀ i H1, Same B H1 → i < ds.length → J.go i H1
  stop : ∀ H1, Same B H1 → J.stop ds.length H1
  yld : ∀ i H1 x H2 d, Same B H1 → ds[i]? = some d → J.yld i H1 x H2 → Same H1 H2 ∧ Dp K (ext B H1 H2) x d
variable (Θ) in
def EvI (b : Bool) (wi : TI) (δ : List Sl) (ds : List PyData) : Prop := ∀ σ H0 Hb H A, St0 Θ δ σ H0 Hb H A → ∀ R : It → Hp → Prop, (∀ J H', Same H H' → Yld Θ.K J (ext (bse b H0 Hb) H H') ds → R J H') → wi σ H R
theorem yld_list {K : PySem.W.Frag} {B : Hp} {a : Addr} {vs : List V} (hs : SqL K B a vs) (h : DpAll K B vs ds) : Yld K (Itl K a) B ds where
  go := fun i H1 s hi => by
    rw [← h.length] at hi
    exact ⟨vs, _, s.seq hs, List.getElem?_eq_getElem hi⟩
  stop := fun H1 s => ⟨vs, s.seq hs, Nat.le_of_eq h.length⟩
  yld := fun i H1 x H2 d s hd ⟨e, y⟩ => by
    subst e
    have hx := y vs (s.seq hs)
    obtain ⟨d', h1, h2⟩ := h.getV hx
    rw [hd] at h1
    cases h1
    refine ⟨Same.refl _, ?_⟩
    rw [ext_id s]
    exact h2
theorem yld_tup {K : PySem.W.Frag} {B : Hp} {a : Addr} {vs : List V} (hs : SqT K B a vs) (h : DpAll K B vs ds) : Yld K (Itt K a) B ds where
  go := fun i H1 s hi => by
    rw [← h.length] at hi
    exact ⟨vs, _, Same.seqT s hs, List.getElem?_eq_getElem hi⟩
  stop := fun H1 s => ⟨vs, Same.seqT s hs, Nat.le_of_eq h.length⟩
  yld := fun i H1 x H2 d s hd ⟨e, y⟩ => by
    subst e
    have hx := y vs (Same.seqT s hs)
    obtain ⟨d', h1, h2⟩ := h.getV hx
    rw [hd] at h1
    cases h1
    refine ⟨Same.refl _, ?_⟩
    rw [ext_id s]
    exact h2
/-- the pairs of enumerate -/
def enumD (ds : List PyData) : List PyData := ds.mapIdx fun i d => .tuple [.int (i : Nat), d]
theorem enumD_get {k : Nat} {z : PyData} (h : (enumD ds)[k]? = some z) : ∃ d, ds[k]? = some d ∧ z = .tuple [.int (k : Nat), d] := by
  unfold enumD at h
  rw [List.getElem?_mapIdx] at h
  cases e : ds[k]? with
  | none => rw [e] at h; cases h
  | some d => rw [e] at h; exact ⟨d, rfl, (Option.some.inj h).symm⟩
theorem enumD_len : (enumD ds).length = ds.length := by unfold enumD; rw [List.length_mapIdx]
theorem pair_new {K : PySem.W.Frag} {B H1 : Hp} {T : Addr} {k : Nat} {v : V} (s : Same B H1) (nT : H1 T = none) (h : Dp K B v d) :
    Same H1 (upd H1 T (.tup [.int (k : Nat), v])) ∧ Dp K (ext B H1 (upd H1 T (.tup [.int (k : Nat), v]))) (.ref T) (.tuple [.int (k : Nat), d]) :=
  ⟨same_new nT, .tup (SqT.of (by rw [ext_new nT, upd_same])) (.cons (.int _) (.cons (h.mono (same_ext s)) .nil))⟩
theorem yld_enumL {K : PySem.W.Frag} {B : Hp} {a : Addr} {vs : List V} (hs : SqL K B a vs) (h : DpAll K B vs ds) : Yld K (Ite K a) B (enumD ds) where
  go := fun i H1 s hi => by
    rw [enumD_len, ← h.length] at hi
    exact ⟨vs, _, s.seq hs, List.getElem?_eq_getElem hi⟩
  stop := fun H1 s => ⟨vs, s.seq hs, by rw [enumD_len]; exact Nat.le_of_eq h.length⟩
  yld := fun i H1 x H2 z s hz ⟨T, v, e1, nT, e2, y⟩ => by
    subst e1 e2
    obtain ⟨d, hd, rfl⟩ := enumD_get hz
    obtain ⟨d', h1, h2⟩ := h.getV (y vs (s.seq hs))
    rw [hd] at h1
    cases h1
    exact pair_new s nT h2
theorem yld_enumT {K : PySem.W.Frag} {B : Hp} {a : Addr} {vs : List V} (hs : SqT K B a vs) (h : DpAll K B vs ds) : Yld K (Itet K a) B (enumD ds) where
  go := fun i H1 s hi => by
    rw [enumD_len, ← h.length] at hi
    exact ⟨vs, _, Same.seqT s hs, List.getElem?_eq_getElem hi⟩
  stop := fun H1 s => ⟨vs, Same.seqT s hs, by rw [enumD_len]; exact h.length⟩
  yld := fun i H1 x H2 z s hz ⟨T, v, e1, nT, e2, y⟩ => by
    subst e1 e2
    obtain ⟨d, hd, rfl⟩ := enumD_get hz
    obtain ⟨d', h1, h2⟩ := h.getV (y vs (Same.seqT s hs))
    rw [hd] at h1
    cases h1
    exact pair_new s nT h2
theorem yld_range {K : PySem.W.Frag} {B : Hp} {lo : Int} {n : Nat} : Yld K (Itr lo n) B ((List.range n).map fun k => PyData.int (lo + (k : Nat))) where
  go := fun i H1 s hi => by
    show i < n
    simpa using hi
  stop := fun H1 s => by show n ≤ _; simp
  yld := fun i H1 x H2 z s hz ⟨e1, e2⟩ => by
    subst e1 e2
    rw [List.getElem?_map] at hz
    cases q : (List.range n)[i]? with
    | none => rw [q] at hz; cases hz
    | some k =>
      rw [q] at hz
      obtain ⟨h1, h2⟩ := List.getElem?_eq_some_iff.mp q
      have : k = i := by rw [← h2]; simp
      subst this
      cases hz
      exact ⟨Same.refl _, .int _⟩
theorem ei_list (h : Ev Θ b ta δ (.list ds)) : EvI Θ b (iList Θ.K ta) δ ds := fun σ H0 Hb H A st R q => h σ H0 Hb H A st _ fun v H1 s1 d1 => by
  cases d1 with
  | lst hs ha => exact ⟨_, rfl, ⟨_, (ext_same ((bse_le st.h0).trans st.hb) s1).seq hs⟩, q _ _ s1 (yld_list hs ha)⟩
theorem ei_tup (h : Ev Θ b ta δ (.tuple ds)) : EvI Θ b (iTup Θ.K ta) δ ds := fun σ H0 Hb H A st R q => h σ H0 Hb H A st _ fun v H1 s1 d1 => by
  cases d1 with
  | tup hs ha => exact ⟨_, rfl, ⟨_, Same.seqT (ext_same ((bse_le st.h0).trans st.hb) s1) hs⟩, q _ _ s1 (yld_tup hs ha)⟩
theorem ei_enumL (h : Ev Θ b ta δ (.list ds)) : EvI Θ b (iEnum Θ.K (tCons ta tNil)) δ (enumD ds) := fun σ H0 Hb H A st R q => h σ H0 Hb H A st _ fun v H1 s1 d1 => by
  cases d1 with
  | lst hs ha => exact ⟨_, _, rfl, (ext_same ((bse_le st.h0).trans st.hb) s1).seq hs, q _ _ s1 (yld_enumL hs ha)⟩
theorem ei_enumT (h : Ev Θ b ta δ (.tuple ds)) : EvI Θ b (iEnumT Θ.K (tCons ta tNil)) δ (enumD ds) := fun σ H0 Hb H A st R q => h σ H0 Hb H A st _ fun v H1 s1 d1 => by
  cases d1 with
  | tup hs ha => exact ⟨_, _, rfl, Same.seqT (ext_same ((bse_le st.h0).trans st.hb) s1) hs, q _ _ s1 (yld_enumT hs ha)⟩
theorem ei_rng1 {n : Int} (h : Ev Θ b1 ta δ (.int n)) (h0 : 0 ≤ n) (h1 : n < 1000000) : EvI Θ b (iRng1 (tCons ta tNil)) δ ((List.range n.toNat).map fun k => PyData.int (0 + (k : Nat))) := fun σ H0 Hb H A st R q => h σ H0 Hb H A st _ fun v H1 s1 d1 => by
  cases d1
  exact ⟨n, rfl, by omega, by omega, q _ _ s1 yld_range⟩
/-! ### targets -/
/-- a slot that owns nothing -/
def freeS : Sl → Bool
  | .un => true
  | .dat _ => true
  | .brw _ => true
  | _ => false
theorem free_nil {s : Sl} {o : Option V} {L : List Addr} (h : SlAt Θ H0 Hb H s o L) (f : freeS s = true) : L = [] := by
  cases s with
  | un => exact h
  | dat d => exact h.1
  | brw d => exact h.1
  | _ => simp [freeS] at f
/-- data in a slot -/
def inS (b : Bool) (d : PyData) : Sl := if b then .brw d else .dat d
theorem St0.set (st : St0 Θ δ σ H0 Hb H A) {s s' : Sl} {o' : Option V} (hi : δ[i]? = some s) (f : freeS s = true) (h : SlAt Θ H0 Hb H s' o' []) : St0 Θ (δ.set i s') (σ.set i o') H0 Hb H A where
  h0 := st.h0
  hb := st.hb
  sl := fun j u hu => by
    by_cases e : j = i
    · subst e
      have hj : j < δ.length := (List.getElem?_eq_some_iff.mp hi).1
      rw [List.getElem?_set_self hj] at hu
      cases hu
      obtain ⟨o, ho, hs⟩ := st.sl j s hi
      refine ⟨o', List.getElem?_set_self (by rw [← st.len]; exact hj), ?_⟩
      rw [free_nil hs f]
      exact h
    · rw [List.getElem?_set_ne (Ne.symm e)] at hu
      obtain ⟨o, ho, hs⟩ := st.sl j u hu
      exact ⟨o, by rw [List.getElem?_set_ne (Ne.symm e)]; exact ho, hs⟩
  out := fun j hj => by
    rw [List.getElem?_eq_none_iff, List.length_set] at hj
    exact st.out j (List.getElem?_eq_none_iff.mpr hj)
  dj := st.dj
  len := by rw [List.length_set, List.length_set, st.len]
theorem inS_at {v : V} (h : Dp Θ.K (bse b H0 Hb) v d) : SlAt Θ H0 Hb H (inS b d) (some v) [] := by
  cases b
  · exact ⟨rfl, v, rfl, h⟩
  · exact ⟨rfl, v, rfl, h⟩
theorem St0.weak (st : St0 Θ δ σ H0 Hb H A) {s : Sl} (hi : δ[i]? = some s) (f : freeS s = true) : St0 Θ (δ.set i .un) σ H0 Hb H A where
  h0 := st.h0
  hb := st.hb
  sl := fun j u hu => by
    by_cases e : j = i
    · subst e
      have hj : j < δ.length := (List.getElem?_eq_some_iff.mp hi).1
      rw [List.getElem?_set_self hj] at hu
      cases hu
      obtain ⟨o, ho, hs⟩ := st.sl j s hi
      exact ⟨o, ho, free_nil hs f⟩
    · rw [List.getElem?_set_ne (Ne.symm e)] at hu
      exact st.sl j u hu
  out := fun j hj => by
    rw [List.getElem?_eq_none_iff, List.length_set] at hj
    exact st.out j (List.getElem?_eq_none_iff.mpr hj)
  dj := st.dj
  len := by rw [List.length_set, st.len]
theorem wipe_set : ∀ {vs : List Nat} {σ : L2.St} {i : Nat} {o : Option V}, i ∈ vs → wipe (σ.set i o) vs = wipe σ vs
  | [], _, _, _, h => by cases h
  | v :: vs, σ, i, o, h => by
    show (wipe (σ.set i o) vs).set v none = (wipe σ vs).set v none
    by_cases hv : i ∈ vs
    · rw [wipe_set hv]
    · have e : i = v := by
        rcases List.mem_cons.mp h with e | e
        · exact e
        · exact absurd e hv
      subst e
      have q : ∀ {vs : List Nat} {σ : L2.St}, i ∉ vs → wipe (σ.set i o) vs = (wipe σ vs).set i o := by
        intro vs
        induction vs with
        | nil => intro σ _; rfl
        | cons w ws ih =>
          intro σ hn
          have h1 : i ≠ w := fun e => hn (by simp [e])
          have h2 : i ∉ ws := fun e => hn (by simp [e])
          show (wipe (σ.set i o) ws).set w none = ((wipe σ ws).set w none).set i o
          rw [ih h2, List.set_comm _ _ h1]
      rw [q hv, List.set_set]
theorem wipe_wipe (σ : L2.St) : ∀ {ws : List Nat} {vs : List Nat}, (∀ i ∈ ws, i ∈ vs) → wipe (wipe σ ws) vs = wipe σ vs
  | [], vs, _ => rfl
  | w :: ws, vs, h => by
    show wipe ((wipe σ ws).set w none) vs = wipe σ vs
    rw [wipe_set (h w (by simp)), wipe_wipe σ fun i hi => h i (by simp [hi])]
def wipeD (δ : List Sl) : List Nat → List Sl
  | [] => δ
  | v :: vs => (wipeD δ vs).set v .un
theorem wipeD_free {vs : List Nat} (hf : ∀ i ∈ vs, ∃ s, δ[i]? = some s ∧ freeS s = true) {ws : List Nat} (hw : ∀ i ∈ ws, i ∈ vs) : ∀ i ∈ vs, ∃ s, (wipeD δ ws)[i]? = some s ∧ freeS s = true := by
  induction ws with
  | nil => exact hf
  | cons w ws ih =>
    intro i hi
    obtain ⟨s, h1, h2⟩ := ih (fun k hk => hw k (by simp [hk])) i hi
    show ∃ s, ((wipeD δ ws).set w .un)[i]? = some s ∧ freeS s = true
    by_cases e : i = w
    · subst e
      exact ⟨.un, List.getElem?_set_self (List.getElem?_eq_some_iff.mp h1).1, rfl⟩
    · exact ⟨s, by rw [List.getElem?_set_ne (Ne.symm e)]; exact h1, h2⟩
theorem St0.wipe (st : St0 Θ δ σ H0 Hb H A) {vs : List Nat} (hf : ∀ i ∈ vs, ∃ s, δ[i]? = some s ∧ freeS s = true) {ws : List Nat} (hw : ∀ i ∈ ws, i ∈ vs) : St0 Θ (wipeD δ ws) (L2.wipe σ ws) H0 Hb H A := by
  induction ws with
  | nil => exact st
  | cons w ws ih =>
    have ih := ih fun k hk => hw k (by simp [hk])
    obtain ⟨s, h1, h2⟩ := wipeD_free (ws := ws) hf (fun k hk => hw k (by simp [hk])) w (hw w (by simp))
    exact ih.set h1 h2 rfl
/-- what a target may change: slots that own nothing -/
def Chg (δ δ' : List Sl) : Prop := ∀ (i : Nat) (s : Sl), δ'[i]? = some s → freeS s = true ∨ δ[i]? = some s
theorem Chg.refl : Chg δ δ := fun _ _ h => .inr h
theorem Chg.trans {δ1 δ2 : List Sl} (a : Chg δ δ1) (c : Chg δ1 δ2) : Chg δ δ2 := fun i s h => (c i s h).elim .inl fun h => a i s h
theorem Chg.set {s : Sl} (f : freeS s = true) : Chg δ (δ.set i s) := fun k u h => by
  by_cases e : k = i
  · subst e
    by_cases hk : k < δ.length
    · rw [List.getElem?_set_self hk] at h
      cases h
      exact .inl f
    · rw [List.getElem?_eq_none (by rw [List.length_set]; omega)] at h
      cases h
  · rw [List.getElem?_set_ne (Ne.symm e)] at h
    exact .inr h
theorem inS_free (b : Bool) (d : PyData) : freeS (inS b d) = true := by cases b <;> rfl
variable (Θ) in
/-- data d comes to a target: the slots behind it; T: the slots that are stored -/
def Bd (b : Bool) (g : TG) (d : PyData) (δ δ' : List Sl) (T : List Nat) : Prop := Chg δ δ' ∧ ∀ v σ H0 Hb H A, St0 Θ δ σ H0 Hb H A → Dp Θ.K (bse b H0 Hb) v d → ∀ Q : L2.St → Hp → Prop,
  (∀ σ', St0 Θ δ' σ' H0 Hb H A → (∀ vs : List Nat, (∀ i ∈ T, i ∈ vs) → wipe σ' vs = wipe σ vs) → Q σ' H) → g v σ H Q
variable (Θ) in
def Bds (b : Bool) (g : TGs) (ds : List PyData) (δ δ' : List Sl) (T : List Nat) : Prop := Chg δ δ' ∧ ∀ us σ H0 Hb H A, St0 Θ δ σ H0 Hb H A → DpAll Θ.K (bse b H0 Hb) us ds → ∀ Q : L2.St → Hp → Prop,
  (∀ σ', St0 Θ δ' σ' H0 Hb H A → (∀ vs : List Nat, (∀ i ∈ T, i ∈ vs) → wipe σ' vs = wipe σ vs) → Q σ' H) → g us σ H Q
theorem bd_name {s : Sl} (hi : δ[i]? = some s) (f : freeS s = true) : Bd Θ b (gName i) d δ (δ.set i (inS b d)) [i] := ⟨.set (inS_free b d), fun v σ H0 Hb H A st hd Q q =>
  q _ (st.set hi f (inS_at hd)) fun vs hv => wipe_set (hv i (by simp))⟩
theorem bds_nil : Bds Θ b gNil [] δ δ [] := ⟨.refl, fun us σ H0 Hb H A st hd Q q => ⟨hd.nil_of, q σ st fun _ _ => rfl⟩⟩
theorem bds_cons {g : TG} {gs : TGs} {δ1 δ2 : List Sl} {T1 T2 : List Nat} (h1 : Bd Θ b g d δ δ1 T1) (h2 : Bds Θ b gs ds δ1 δ2 T2) : Bds Θ b (gCons g gs) (d :: ds) δ δ2 (T1 ++ T2) := ⟨h1.1.trans h2.1, fun us σ H0 Hb H A st hd Q q => by
  cases hd with
  | @cons v vs _ _ c1 c2 =>
    exact ⟨v, vs, rfl, h1.2 v σ H0 Hb H A st c1 _ fun σ1 st1 w1 => h2.2 vs σ1 H0 Hb H A st1 c2 _ fun σ2 st2 w2 => q σ2 st2 fun ws hw => by
      rw [w2 ws fun i hi => hw i (List.mem_append_right _ hi), w1 ws fun i hi => hw i (List.mem_append_left _ hi)]⟩⟩
theorem bd_tup {gs : TGs} {δ' : List Sl} {T : List Nat} {n : Nat} (hn : ds.length = n) (h : Bds Θ b gs ds δ δ' T) : Bd Θ b (gTup Θ.K n gs) (.tuple ds) δ δ' T := ⟨h.1, fun v σ H0 Hb H A st hd Q q => by
  cases hd with
  | @tup a vs _ hs ha => exact ⟨a, vs, rfl, Same.seqT ((bse_le st.h0).trans st.hb) hs, by rw [ha.length, hn], h.2 vs σ H0 Hb H A st ha Q q⟩⟩
/-! ### [elt for target in iter if ..] -/
theorem lc_gen {α : Type} {l : List α} {enc : α → PyData} {p : α → Bool} {g : α → PyData} {wi : TI} {gt : TG} {tt : TT} {vs T : List Nat} (hs : EvI Θ b0 wi δ (l.map enc)) (hf : ∀ i ∈ vs, ∃ s, δ[i]? = some s ∧ freeS s = true) (hT : ∀ i ∈ T, i ∈ vs) (hl : l.length ≤ 100000)
    (hb : ∀ r ∈ l, ∃ δ1, Bd Θ b0 gt (enc r) (wipeD δ vs) δ1 T ∧ EvT Θ tt δ1 (p r) ∧ (p r = true → Ev Θ b te δ1 (g r))) : EvL Θ b (tLc wi gt tt te vs) δ ((l.filter p).map g) := by
  intro σ H0 Hb H A st Q q
  refine hs σ H0 Hb H A st _ fun J H1 s1 Y => fun D hD => ?_
  have hDH : H D = none := s1.free hD
  -- behind i turns
  let Pv : Nat → Hp → Prop := fun i Hi => Same H1 Hi ∧ ∃ acc, Hi D = some (.lst acc) ∧ DpAll Θ.K (del (ext (bse b H0 Hb) H Hi) D) acc (((l.take i).filter p).map g)
  have sB : Same (bse b0 H0 Hb) H := (bse_le st.h0).trans st.hb
  have sS : Same (ext (bse b0 H0 Hb) H H1) H1 := ext_same sB s1
  refine ⟨fun i m Hi => m = l.length - i ∧ i ≤ l.length ∧ Pv i Hi, ⟨l.length, by simp, Nat.zero_le _, same_new hD, [], upd_same, by simp only [List.take_zero, List.filter_nil, List.map_nil]; exact .nil⟩, ?_⟩
  rintro i m Hi ⟨rfl, hi, sHi, acc, hacc, hdp⟩
  by_cases hlt : i < l.length
  · refine .inr ⟨Y.go i Hi (sS.trans sHi) (by rw [List.length_map]; exact hlt), Pv (i + 1), fun H' p' => ⟨l.length - (i + 1), by omega, rfl, hlt, p'⟩, fun x H2 y => ?_⟩
    have hget : (l.map enc)[i]? = some (enc l[i]) := by rw [List.getElem?_map, List.getElem?_eq_getElem hlt]; rfl
    obtain ⟨s2, dx⟩ := Y.yld i Hi x H2 (enc l[i]) (sS.trans sHi) hget y
    obtain ⟨δ1, hB, hC, hE⟩ := hb l[i] (List.getElem_mem hlt)
    have sH2 : Same H H2 := (s1.trans sHi).trans s2
    have hD2 : H2 D = some (.lst acc) := s2 _ _ hacc
    -- the state at H2, without D in the bases
    have grow : ∀ {H3 : Hp}, Same H2 H3 → Grow H0 Hb H (del (ext H0 H H3) D) (del (ext Hb H H3) D) H3 := fun {H3} s3 => by
      have sH3 := sH2.trans s3
      have n0 : H0 D = none := none_of_same (st.h0.trans st.hb) hDH
      have nb : Hb D = none := none_of_same st.hb hDH
      refine ⟨same_del (same_ext (st.h0.trans st.hb)) n0, same_del (same_ext st.hb) nb, fun z o e => ?_, del_same.trans (ext_same st.hb sH3), del_same, del_same⟩
      have hz : z ≠ D := fun e' => by rw [e', del_at] at e; cases e
      rw [del_ne hz] at e ⊢
      exact ext_monoL st.h0 _ _ e
    have st2 : St0 Θ (wipeD δ vs) (wipe σ vs) (del (ext H0 H H2) D) (del (ext Hb H H2) D) H2 A := (st.grow sH2 (grow (Same.refl _))).wipe hf fun _ h => h
    have bdel : ∀ {c : Bool} {H3 : Hp}, bse c (del (ext H0 H H3) D) (del (ext Hb H H3) D) = del (ext (bse c H0 Hb) H H3) D := fun {c H3} => by cases c <;> rfl
    have dx2 : Dp Θ.K (bse b0 (del (ext H0 H H2) D) (del (ext Hb H H2) D)) x (enc l[i]) := by
      rw [bdel]
      refine dx.mono fun z o e => ?_
      by_cases hz : Hi z = none
      · rw [ext_new hz] at e
        have hzD : z ≠ D := fun e' => by rw [e', hacc] at hz; cases hz
        rw [del_ne hzD, ext_new ((s1.trans sHi).free hz)]
        exact e
      · rw [ext_old hz] at e
        have hzD : z ≠ D := fun e' => by
          rw [e', ext_new hDH, hD] at e
          cases e
        rw [del_ne hzD]
        by_cases hz2 : H z = none
        · rw [ext_new hz2] at e ⊢
          exact s2 _ _ (sHi _ _ e)
        · rw [ext_old hz2] at e ⊢
          exact e
    refine hB.2 x _ _ _ _ _ st2 dx2 _ fun σ1 st3 hw => ⟨by rw [hw vs hT, wipe_wipe σ fun _ h => h], ?_⟩
    refine hC σ1 _ _ H2 A st3 _ fun H3 s3 => ?_
    have take1 : l.take (i + 1) = l.take i ++ [l[i]] := by rw [List.take_add_one, List.getElem?_eq_getElem hlt]; rfl
    -- an item's base at later heaps
    have later : ∀ {c : Bool} {H4 : Hp}, Same H2 H4 → Same (ext (bse c (del (ext H0 H H2) D) (del (ext Hb H H2) D)) H2 H4) (del (ext (bse c H0 Hb) H H4) D) := fun {c H4} s4 z o e => by
      rw [bdel] at e
      by_cases hz : H2 z = none
      · rw [ext_new hz] at e
        have hzD : z ≠ D := fun e' => by rw [e', hD2] at hz; cases hz
        rw [del_ne hzD, ext_new (sH2.free hz)]
        exact e
      · rw [ext_old hz] at e
        have hzD : z ≠ D := fun e' => by rw [e', del_at] at e; cases e
        rw [del_ne hzD] at e ⊢
        exact ext_monoR s4 _ _ e
    have accs : ∀ {H4 : Hp}, Same Hi H4 → DpAll Θ.K (del (ext (bse b H0 Hb) H H4) D) acc (((l.take i).filter p).map g) := fun {H4} s4 => hdp.mono fun z o e => by
      have hzD : z ≠ D := fun e' => by rw [e', del_at] at e; cases e
      rw [del_ne hzD] at e ⊢
      exact ext_monoR s4 _ _ e
    cases hp : p l[i] with
    | false =>
      rw [if_neg Bool.false_ne_true]
      refine ⟨(sHi.trans s2).trans s3, acc, s3 _ _ hD2, ?_⟩
      have e : ((l.take (i + 1)).filter p).map g = ((l.take i).filter p).map g := by rw [take1, List.filter_append, List.filter_cons, hp, if_neg Bool.false_ne_true, List.filter_nil, List.append_nil]
      rw [e]
      exact accs (s2.trans s3)
    | true =>
      rw [if_pos rfl]
      refine hE hp σ1 _ _ H3 A (st3.ext s3) _ fun y H4 s4 dy => ?_
      have hD4 : H4 D = some (.lst acc) := s4 _ _ (s3 _ _ hD2)
      refine ⟨acc, hD4, ?_, ?_⟩
      · rw [hdp.length, List.length_map]
        have h1 := List.length_filter_le p (l.take i)
        rw [List.length_take] at h1
        exact szlt (by omega)
      · have e : ((l.take (i + 1)).filter p).map g = ((l.take i).filter p).map g ++ [g l[i]] := by
          rw [take1, List.filter_append, List.filter_cons, hp, if_pos rfl, List.filter_nil, List.map_append]
          rfl
        have s14 : Same H1 H4 := ((sHi.trans s2).trans s3).trans s4
        have sup : Same (del (ext (bse b H0 Hb) H H4) D) (del (ext (bse b H0 Hb) H (upd H4 D (.lst (acc ++ [y])))) D) := fun z o e => by
          have hzD : z ≠ D := fun e' => by rw [e', del_at] at e; cases e
          rw [del_ne hzD] at e ⊢
          by_cases hz2 : H z = none
          · rw [ext_new hz2] at e ⊢
            rw [upd_ne hzD]
            exact e
          · rw [ext_old hz2] at e ⊢
            exact e
        refine ⟨fun z o e => ?_, acc ++ [y], upd_same, ?_⟩
        · rw [upd_ne (ne_of_none e hD)]
          exact s14 _ _ e
        · rw [e]
          rw [bse_ext, ext_ext s3 s4] at dy
          exact ((accs ((s2.trans s3).trans s4)).mono sup).append (.cons ((dy.mono (later (s3.trans s4))).mono sup) .nil)
  · have e : i = l.length := by omega
    subst e
    have hstop := Y.stop Hi (sS.trans sHi)
    rw [List.length_map] at hstop
    rw [List.take_length] at hdp
    exact .inl ⟨hstop, q D acc Hi (s1.trans sHi) hDH hacc hdp⟩
/-! ### sorted, any, index -/
theorem zip_base {B : Hp} {vs : List V} (h : DpAll Θ.K B vs ds) {zs : List (V × PyData)} (p : zs.Perm (vs.zip ds)) : DpAll Θ.K B (zs.map (·.1)) (zs.map (·.2)) := by
  obtain ⟨_, _, z3⟩ := zip_items h
  have hz : ∀ z ∈ zs, Dp Θ.K B z.1 z.2 := fun z hz => z3 z (p.mem_iff.mp hz)
  clear p z3 h
  induction zs with
  | nil => exact .nil
  | cons z zs ih => exact .cons (hz z (List.mem_cons_self ..)) (ih fun y hy => hz y (List.mem_cons_of_mem _ hy))
theorem el_sorted (h : Ev Θ b ta δ (.list ds)) (ok : SortOk ds) : EvL Θ b (tCB (rSortD Θ.K) (tCons ta tNil)) δ (dsort ds) := fun σ H0 Hb H A st Q q => h σ H0 Hb H A st _ fun v H1 s1 d1 => by
  cases d1 with
  | @lst a vs _ hs ha =>
    have hB := ext_same ((bse_le (b := b) st.h0).trans st.hb) s1
    refine ⟨a, vs, ds, rfl, hB.seq hs, ha.mono hB, ok, fun zs p np hp he => ?_⟩
    have hz := zip_base ha hp
    rw [he] at hz
    obtain ⟨a1, a2, a3⟩ := new_lstL s1 np hz
    exact q p _ _ a1 a2 upd_same a3
theorem anys_of {H : Hp} : ∀ {vs : List V} {bs : List Bool}, DpAll Θ.K H vs (bs.map .bool) → vs = bs.map V.bl
  | _, [], h => h.nil_of
  | _, c :: bs, h => by
    cases h with
    | cons h1 h2 =>
      cases h1
      rw [anys_of h2]
      rfl
theorem ev_any {bs : List Bool} (h : Ev Θ b1 ta δ (.list (bs.map .bool))) : Ev Θ b (tCB (rAny Θ.K) (tCons ta tNil)) δ (.bool (bs.any id)) := fun σ H0 Hb H A st Q q => h σ H0 Hb H A st _ fun v H1 s1 d1 => by
  cases d1 with
  | @lst a vs _ hs ha =>
    refine ⟨a, bs, rfl, ?_, q _ _ s1 (.bl _)⟩
    rw [← anys_of ha]
    exact (ext_same ((bse_le (b := b1) st.h0).trans st.hb) s1).seq hs
theorem ints_ofD {H : Hp} : ∀ {vs : List V} {ns : List Int}, DpAll Θ.K H vs (ns.map .int) → vs = ns.map V.int
  | _, [], h => h.nil_of
  | _, c :: bs, h => by
    cases h with
    | cons h1 h2 =>
      cases h1
      rw [ints_ofD h2]
      rfl
/-- xs.index(n), n there first at j -/
theorem ev_index {ns : List Int} {n : Int} (h : Ev Θ b1 ta δ (.list (ns.map .int))) (hn : Ev Θ b2 tb δ (.int n)) (hj : ns[j]? = some n) (hf : ∀ m, m < j → ns[m]? ≠ some n) : Ev Θ b (tBM Θ.K "list" (rIndex Θ.K) ta (tCons tb tNil)) δ (.int (j : Nat)) := fun σ H0 Hb H A st Q q =>
  h σ H0 Hb H A st _ fun v H1 s1 d1 => by
    cases d1 with
    | @lst a vs _ hs ha =>
      have hB := ext_same ((bse_le (b := b1) st.h0).trans st.hb) s1
      have hv := ints_ofD ha
      subst hv
      refine ⟨.inl ⟨rfl, _, hB.seq hs⟩, hn σ _ _ H1 A (st.ext s1) _ fun u H2 s2 d2 => ?_⟩
      cases d2
      refine ⟨a, ns.map V.int, .int n, j, .int n, rfl, rfl, s2.seq (hB.seq hs), rfl, ?_, by rw [List.getElem?_map, hj]; rfl, by simp [eqV], fun m z hm hz => ?_, q _ _ (s1.trans s2) (.int _)⟩
      · rw [List.all_map]
        exact List.all_eq_true.mpr fun _ _ => rfl
      · rw [List.getElem?_map] at hz
        cases e : ns[m]? with
        | none => rw [e] at hz; cases hz
        | some k =>
          rw [e] at hz
          cases hz
          have : k ≠ n := fun e' => hf m hm (by rw [e, e'])
          simp [eqV, this]
/-- the slots vs own nothing -/
def frees (δ : List Sl) (vs : List Nat) : Bool := vs.all fun i => match δ[i]? with
  | some s => freeS s
  | none => false
theorem frees_of {vs : List Nat} (h : frees δ vs = true) : ∀ i ∈ vs, ∃ s, δ[i]? = some s ∧ freeS s = true := fun i hi => by
  have q := List.all_eq_true.mp h i hi
  cases e : δ[i]? with
  | none => rw [e] at q; exact absurd q Bool.false_ne_true
  | some s => rw [e] at q; exact ⟨s, rfl, q⟩
/-- [elt for target in iter if ..]: l the items, enc their data, p the test, g the element -/
theorem el_lc {α : Type} {l : List α} {enc : α → PyData} (p : α → Bool) (g : α → PyData) {wi : TI} {gt : TG} {tt : TT} {vs T : List Nat} (hs : EvI Θ b0 wi δ (l.map enc)) (hl : l.length ≤ 100000)
    (hb : ∀ r ∈ l, ∃ δ1, Bd Θ b0 gt (enc r) (wipeD δ vs) δ1 T ∧ EvT Θ tt δ1 (p r) ∧ (p r = true → Ev Θ b te δ1 (g r))) (hf : frees δ vs = true := by rfl) (hT : ∀ i ∈ T, i ∈ vs := by decide) : EvL Θ b (tLc wi gt tt te vs) δ ((l.filter p).map g) :=
  lc_gen hs (frees_of hf) hT hl hb
end
end Ask
-- AskCore3
set_option Elab.async false
set_option linter.all false
set_option maxRecDepth 100000
/-! statements -/
namespace Ask
open PySem PySem.Spec PyProof.Rows L2
/-- a def's run: the heap at its entry, the base it was handed, what it may change -/
structure Frm where
  Hc : Hp
  H0c : Hp
  M : Addr → Prop
def FrOk (F : Frm) (s : Sl) (a : Addr) : Prop := match s with
  | .par m _ _ => F.Hc a ≠ none ∧ F.H0c a = none ∧ (m = true → F.M a)
  | .rows true _ _ => F.Hc a = none ∨ F.M a
  | _ => F.Hc a = none
inductive Out where
  | nx (δ : List Sl)
  | ct (δ : List Sl)
  | rt (d : PyData) (δ : List Sl)
variable (Θ : Th)
structure St (F : Frm) (δ : List Sl) (σ : L2.St) (H0 Hb H : Hp) (A : Nat → List Addr) : Prop where
  s : St0 Θ δ σ H0 Hb H A
  keep : ∀ q o, ¬ F.M q → F.Hc q = some o → H q = some o
  there : ∀ q, F.Hc q ≠ none → H q ≠ none
  b0 : Same H0 (ext F.H0c F.Hc H)
  c0 : Same F.H0c H0
  ac : Same F.H0c F.Hc
  m0 : ∀ q, F.M q → F.H0c q = none
  fr : ∀ i s a, δ[i]? = some s → a ∈ A i → FrOk F s a
def Fin (F : Frm) (H0 Hb : Hp) (D : Ends) : Out → Prop
  | .nx δ' => ∀ σ' H0' Hb' H' A', St Θ F δ' σ' H0' Hb' H' A' → Same H0 H0' → Same Hb Hb' → D.nx σ' H'
  | .ct δ' => ∀ σ' H0' Hb' H' A', St Θ F δ' σ' H0' Hb' H' A' → Same H0 H0' → Same Hb Hb' → D.ct σ' H'
  | .rt d δ' => ∀ v σ' H0' Hb' H' A', St Θ F δ' σ' H0' Hb' H' A' → Dp Θ.K (ext F.H0c F.Hc H') v d → D.rt v H'
def SD (F : Frm) (t : TS) (δ : List Sl) (o : Out) : Prop := ∀ σ H0 Hb H A, St Θ F δ σ H0 Hb H A → ∀ D : Ends, Fin Θ F H0 Hb D o → t D σ H
variable {Θ}
section
variable {F : Frm} {δ δ1 δ' : List Sl} {σ : L2.St} {H0 Hb H H0' Hb' H' H1 H2 : Hp} {A : Nat → List Addr} {b b0 b1 b2 : Bool} {ta tb te : TE} {c : TT} {t u : TS} {tr : TA} {d e x y : PyData} {ds es : List PyData} {i j : Nat} {o : Out}
theorem St.grow (st : St Θ F δ σ H0 Hb H A) (e : Same H H') (g : Grow H0 Hb H H0' Hb' H') : St Θ F δ σ H0' Hb' H' A where
  s := st.s.grow e g
  keep := fun q o h1 h2 => e _ _ (st.keep q o h1 h2)
  there := fun q h => by
    have := st.there q h
    cases z : H q with
    | none => exact absurd z this
    | some o => exact not_none (e _ _ z)
  b0 := fun z o h => by
    have h2 := g.n0 z o h
    by_cases hz : H z = none
    · rw [ext_new hz] at h2
      have hc : F.Hc z = none := by
        cases q : F.Hc z with
        | none => rfl
        | some u => exact absurd hz (st.there z (not_none q))
      rw [ext_new hc]
      exact h2
    · rw [ext_old hz] at h2
      exact ext_monoR e _ _ (st.b0 z o h2)
  c0 := st.c0.trans g.s0
  ac := st.ac
  m0 := st.m0
  fr := st.fr
theorem St.ext (st : St Θ F δ σ H0 Hb H A) (e : Same H H') : St Θ F δ σ (Ask.ext H0 H H') (Ask.ext Hb H H') H' A := st.grow e (.ext st.s.h0 st.s.hb e)
theorem Grow.trans {H0'' Hb'' H'' : Hp} (g : Grow H0 Hb H H0' Hb' H') (g2 : Grow H0' Hb' H' H0'' Hb'' H'') (e : Same H H') (e2 : Same H' H'') : Grow H0 Hb H H0'' Hb'' H'' := by
  refine ⟨g.s0.trans g2.s0, g.sb.trans g2.sb, g2.ob, g2.bh, ?_, ?_⟩
  · have := g2.n0.trans (ext_monoL (H := H') (H1 := H'') g.n0)
    rw [ext_ext e e2] at this
    exact this
  · have := g2.nb.trans (ext_monoL (H := H') (H1 := H'') g.nb)
    rw [ext_ext e e2] at this
    exact this
/-! ### sequences, ends, ifs -/
theorem sd_seq (h1 : SD Θ F t δ (.nx δ1)) (h2 : SD Θ F u δ1 o) : SD Θ F (tSeq t u) δ o := fun σ H0 Hb H A st D fin =>
  h1 σ H0 Hb H A st { D with nx := u D } fun σ' H0' Hb' H' A' st' e0 eb => h2 σ' H0' Hb' H' A' st' D (by
    cases o with
    | nx δ' => exact fun σ2 a c d e st2 f0 fb => fin σ2 a c d e st2 (e0.trans f0) (eb.trans fb)
    | ct δ' => exact fun σ2 a c d e st2 f0 fb => fin σ2 a c d e st2 (e0.trans f0) (eb.trans fb)
    | rt d δ' => exact fin)
theorem sd_seq_rt (h1 : SD Θ F t δ (.rt d δ')) : SD Θ F (tSeq t u) δ (.rt d δ') := fun σ H0 Hb H A st D fin => h1 σ H0 Hb H A st { D with nx := u D } fin
theorem sd_seq_ct (h1 : SD Θ F t δ (.ct δ')) : SD Θ F (tSeq t u) δ (.ct δ') := fun σ H0 Hb H A st D fin => h1 σ H0 Hb H A st { D with nx := u D } fin
theorem sd_next : SD Θ F tNext δ (.nx δ) := fun σ H0 Hb H A st D fin => fin σ H0 Hb H A st (Same.refl _) (Same.refl _)
theorem sd_cont : SD Θ F tCont δ (.ct δ) := fun σ H0 Hb H A st D fin => fin σ H0 Hb H A st (Same.refl _) (Same.refl _)
theorem Fin.mono {D : Ends} (e0 : Same H0 H0') (eb : Same Hb Hb') (fin : Fin Θ F H0 Hb D o) : Fin Θ F H0' Hb' D o := by
  cases o with
  | nx δ' => exact fun σ2 a c d e st2 f0 fb => fin σ2 a c d e st2 (e0.trans f0) (eb.trans fb)
  | ct δ' => exact fun σ2 a c d e st2 f0 fb => fin σ2 a c d e st2 (e0.trans f0) (eb.trans fb)
  | rt d δ' => exact fin
theorem sd_if {v : Bool} (h : EvT Θ c δ v) (h1 : v = true → SD Θ F t δ o) (h2 : v = false → SD Θ F u δ o) : SD Θ F (tIfS c t u) δ o := fun σ H0 Hb H A st D fin => h σ H0 Hb H A st.s _ fun H1 s1 => by
  have st1 := st.ext s1
  have fin1 := fin.mono (same_ext (H1 := H1) (st.s.h0.trans st.s.hb)) (same_ext (H1 := H1) st.s.hb)
  cases v with
  | true => rw [if_pos rfl]; exact h1 rfl σ _ _ H1 A st1 D fin1
  | false => rw [if_neg Bool.false_ne_true]; exact h2 rfl σ _ _ H1 A st1 D fin1
theorem sd_ret (h : Ev Θ false te δ d) : SD Θ F (tRet te) δ (.rt d δ) := fun σ H0 Hb H A st D fin => h σ H0 Hb H A st.s _ fun v H1 s1 d1 => fin v σ _ _ H1 A (st.ext s1) (d1.mono ((st.ext s1).b0))
theorem sd_is {o' : Out} (h : SD Θ F t δ o) (e : o = o') : SD Θ F t δ o' := e ▸ h
/-! ### storing -/
variable (Θ) in
/-- a value that may fill a slot -/
def EvS (t : TE) (δ : List Sl) (s : Sl) : Prop := ∀ σ H0 Hb H A, St0 Θ δ σ H0 Hb H A → ∀ Q : VK, (∀ v H' H0' Hb' L, Same H H' → Grow H0 Hb H H0' Hb' H' → SlAt Θ H0' Hb' H' s (some v) L → (∀ a ∈ L, H a = none) → Q v H') → t σ H Q
theorem es_dat (h : Ev Θ false te δ d) : EvS Θ te δ (.dat d) := fun σ H0 Hb H A st Q q => h σ H0 Hb H A st _ fun v H1 s1 d1 => q v H1 _ _ [] s1 (.ext st.h0 st.hb s1) ⟨rfl, v, rfl, d1⟩ fun _ h => by cases h
theorem es_brw (h : Ev Θ true te δ d) : EvS Θ te δ (.brw d) := fun σ H0 Hb H A st Q q => h σ H0 Hb H A st _ fun v H1 s1 d1 => q v H1 _ _ [] s1 (.ext st.h0 st.hb s1) ⟨rfl, v, rfl, d1⟩ fun _ h => by cases h
theorem grow_del {p : Addr} (h0 : Same H0 Hb) (hb : Same Hb H) (e : Same H H') (n : H p = none) : Grow H0 Hb H (del (ext H0 H H') p) (del (ext Hb H H') p) H' := by
  refine ⟨same_del (same_ext (h0.trans hb)) (none_of_same (h0.trans hb) n), same_del (same_ext hb) (none_of_same hb n), fun z o h => ?_, del_same.trans (ext_same hb e), del_same, del_same⟩
  have hz : z ≠ p := fun e' => by rw [e', del_at] at h; cases h
  rw [del_ne hz] at h ⊢
  exact ext_monoL h0 _ _ h
theorem es_own (h : EvL Θ false te δ ds) : EvS Θ te δ (.own ds) := fun σ H0 Hb H A st Q q => h σ H0 Hb H A st _ fun p vs H1 s1 n hp hd =>
  q _ H1 _ _ [p] s1 (grow_del st.h0 st.hb s1 n) ⟨p, vs, rfl, rfl, del_at, hp, hd⟩ fun a ha => by
    obtain rfl : a = p := by simpa using ha
    exact n
/-- a new slot, what it owns being new -/
def parS : Sl → Bool
  | .par _ _ _ => true
  | _ => false
theorem St.put (st : St Θ F δ σ H0 Hb H A) {s : Sl} {o : Option V} {L : List Addr} (hi : i < δ.length) (hs : SlAt Θ H0 Hb H s o L) (hn : ∀ a ∈ L, F.Hc a = none ∧ ∀ k, k ≠ i → a ∉ A k) (np : parS s = false) : St Θ F (δ.set i s) (σ.set i o) H0 Hb H (fun k => if k = i then L else A k) where
  s := {
    h0 := st.s.h0
    hb := st.s.hb
    sl := fun k u hu => by
      by_cases e : k = i
      · subst e
        rw [List.getElem?_set_self hi] at hu
        cases hu
        exact ⟨o, List.getElem?_set_self (by rw [← st.s.len]; exact hi), by rw [if_pos rfl]; exact hs⟩
      · rw [List.getElem?_set_ne (Ne.symm e)] at hu
        obtain ⟨o', ho, h⟩ := st.s.sl k u hu
        exact ⟨o', by rw [List.getElem?_set_ne (Ne.symm e)]; exact ho, by rw [if_neg e]; exact h⟩
    out := fun k hk => by
      rw [List.getElem?_eq_none_iff, List.length_set] at hk
      have e : k ≠ i := by omega
      rw [if_neg e]
      exact st.s.out k (List.getElem?_eq_none_iff.mpr hk)
    dj := fun k l a h1 h2 => by
      by_cases e : k = i
      · by_cases e2 : l = i
        · rw [e, e2]
        · rw [if_pos e] at h1
          rw [if_neg e2] at h2
          exact absurd h2 ((hn a h1).2 l e2)
      · rw [if_neg e] at h1
        by_cases e2 : l = i
        · rw [if_pos e2] at h2
          exact absurd h1 ((hn a h2).2 k e)
        · rw [if_neg e2] at h2
          exact st.s.dj k l a h1 h2
    len := by rw [List.length_set, List.length_set, st.s.len] }
  keep := st.keep
  there := st.there
  b0 := st.b0
  c0 := st.c0
  ac := st.ac
  m0 := st.m0
  fr := fun k u a hu ha => by
    by_cases e : k = i
    · subst e
      rw [List.getElem?_set_self hi] at hu
      cases hu
      rw [if_pos rfl] at ha
      have h1 := (hn a ha).1
      cases s with
      | par m pq r => simp [parS] at np
      | rows m po l =>
        cases m
        · exact h1
        · exact .inl h1
      | _ => exact h1
    · rw [List.getElem?_set_ne (Ne.symm e)] at hu
      rw [if_neg e] at ha
      exact st.fr k u a hu ha
theorem St.notA (st : St Θ F δ σ H0 Hb H A) {a : Addr} (h : H a = none) (k : Nat) : a ∉ A k := fun ha => absurd h (st.s.at ha).1
theorem St.newHc (st : St Θ F δ σ H0 Hb H A) {a : Addr} (h : H a = none) : F.Hc a = none := by
  cases q : F.Hc a with
  | none => rfl
  | some u => exact absurd h (st.there a (not_none q))
theorem sd_setS {s : Sl} (h : EvS Θ te δ s) (hi : i < δ.length) (np : parS s = false) : SD Θ F (tAsg te (gName i)) δ (.nx (δ.set i s)) := fun σ H0 Hb H A st D fin => h σ H0 Hb H A st.s _ fun v H1 H0' Hb' L s1 g hs hn => by
  have st1 := st.grow s1 g
  exact fin _ _ _ _ _ (st1.put hi hs (fun a ha => ⟨st.newHc (hn a ha), fun k _ => st.notA (hn a ha) k⟩) np) g.s0 g.sb
theorem sd_set (h : Ev Θ false te δ d) (hi : Nat.blt i δ.length = true := by rfl) : SD Θ F (tAsg te (gName i)) δ (.nx (δ.set i (.dat d))) := sd_setS (es_dat h) (Nat.blt_eq.mp hi) rfl
theorem sd_setL (h : EvL Θ false te δ ds) (hi : Nat.blt i δ.length = true := by rfl) : SD Θ F (tAsg te (gName i)) δ (.nx (δ.set i (.own ds))) := sd_setS (es_own h) (Nat.blt_eq.mp hi) rfl
/-- a, b = e1, e2 -/
theorem sd_par {s1 s2 : Sl} (h1 : EvS Θ ta δ s1) (h2 : EvS Θ tb δ s2) (hi' : Nat.blt i δ.length = true := by rfl) (hj' : Nat.blt j δ.length = true := by rfl) (hij : i ≠ j := by decide) (n1 : parS s1 = false := by rfl) (n2 : parS s2 = false := by rfl) : SD Θ F (tPar i j (tCons ta (tCons tb tNil))) δ (.nx ((δ.set i s1).set j s2)) := by
  have hi := Nat.blt_eq.mp hi'
  have hj := Nat.blt_eq.mp hj'
  exact fun σ H0 Hb H A st D fin =>
  h1 σ H0 Hb H A st.s _ fun v H1 H01 Hb1 L1 e1 g1 hs1 hn1 => h2 σ H01 Hb1 H1 A (st.s.grow e1 g1) _ fun u H2 H02 Hb2 L2 e2 g2 hs2 hn2 => by
    have st2 := (st.grow e1 g1).grow e2 g2
    have hs1' : SlAt Θ H02 Hb2 H2 s1 (some v) L1 := hs1.mono g2.s0 g2.sb fun a ha => ⟨fun w hw => e2 _ _ hw, fun hn => g2.keeps (hs1.there a ha).1 hn⟩
    have p1 := st2.put hi hs1' (fun a ha => ⟨st.newHc (hn1 a ha), fun k _ => st.notA (hn1 a ha) k⟩) n1
    refine ⟨v, u, rfl, fin _ _ _ _ _ (p1.put (by rw [List.length_set]; exact hj) hs2 (fun a ha => ⟨st.newHc (e1.free (hn2 a ha)), fun k hk => ?_⟩) n2) (g1.s0.trans g2.s0) (g1.sb.trans g2.sb)⟩
    show a ∉ (if k = i then L1 else A k)
    by_cases e : k = i
    · rw [if_pos e]
      exact fun ha' => absurd (hn2 a ha) (hs1.there a ha').1
    · rw [if_neg e]
      exact st.notA (e1.free (hn2 a ha)) k
/-- targets of other forms -/
theorem Bd.st {g : TG} {T : List Nat} (h : Bd Θ b g d δ δ' T) (st : St Θ F δ σ H0 Hb H A) {v : V} (hd : Dp Θ.K (bse b H0 Hb) v d) {Q : L2.St → Hp → Prop} (q : ∀ σ', St Θ F δ' σ' H0 Hb H A → Q σ' H) : g v σ H Q :=
  h.2 v σ H0 Hb H A st.s hd Q fun σ' st' _ => by
    refine q σ' ⟨st', st.keep, st.there, st.b0, st.c0, st.ac, st.m0, fun i s a hs ha => ?_⟩
    rcases h.1 i s hs with f | e
    · obtain ⟨o, _, hsl⟩ := st'.sl i s hs
      rw [free_nil hsl f] at ha
      cases ha
    · exact st.fr i s a e ha
theorem sd_asgB {g : TG} {T : List Nat} (h : Ev Θ b te δ d) (hB : Bd Θ b g d δ δ' T) : SD Θ F (tAsg te g) δ (.nx δ') := fun σ H0 Hb H A st D fin => h σ H0 Hb H A st.s _ fun v H1 s1 d1 =>
  hB.st (st.ext s1) (by rw [bse_ext]; exact d1) fun σ' st' => fin _ _ _ _ _ st' (same_ext (st.s.h0.trans st.s.hb)) (same_ext st.s.hb)
/-! ### own lists -/
theorem St.mutL (st : St Θ F δ σ H0 Hb H A) {p : Addr} {vs : List V} (hi : δ[i]? = some (.own ds)) (hA : A i = [p]) (hp : H p = some (.lst vs)) (ho : σ[i]? = some (some (.ref p))) (hn : Hb p = none) {us : List V} (hu : DpAll Θ.K H0 us es) :
    St Θ F (δ.set i (.own es)) σ H0 Hb (upd H p (.lst us)) A := by
  have hc : F.Hc p = none := st.fr i _ p hi (by rw [hA]; simp)
  have hil : i < δ.length := (List.getElem?_eq_some_iff.mp hi).1
  refine ⟨⟨st.s.h0, fun z o h => ?_, fun k s hs => ?_, fun k hk => ?_, st.s.dj, by rw [List.length_set, st.s.len]⟩, fun q o h1 h2 => ?_, fun q h => ?_, fun z o h => ?_, st.c0, st.ac, st.m0, fun k s a hs ha => ?_⟩
  · rw [upd_ne (ne_of_none h hn)]
    exact st.s.hb z o h
  · by_cases e : k = i
    · subst e
      rw [List.getElem?_set_self hil] at hs
      cases hs
      exact ⟨_, ho, p, us, hA, rfl, hn, upd_same, hu⟩
    · rw [List.getElem?_set_ne (Ne.symm e)] at hs
      obtain ⟨o, h1, h2⟩ := st.s.sl k s hs
      refine ⟨o, h1, h2.mono (Same.refl _) (Same.refl _) fun a ha => ⟨fun w hw => ?_, fun h => h⟩⟩
      rw [upd_ne fun z => e (st.s.dj k i a ha (by rw [hA, z]; simp))]
      exact hw
  · rw [List.getElem?_eq_none_iff, List.length_set] at hk
    exact st.s.out k (List.getElem?_eq_none_iff.mpr hk)
  · rw [upd_ne (ne_of_none h2 hc)]
    exact st.keep q o h1 h2
  · by_cases e : q = p
    · rw [e, upd_same]; simp
    · rw [upd_ne e]; exact st.there q h
  · have h2 := st.b0 z o h
    have hz : z ≠ p := ne_of_none h (none_of_same st.s.h0 hn)
    by_cases hcz : F.Hc z = none
    · rw [ext_new hcz] at h2 ⊢
      rw [upd_ne hz]
      exact h2
    · rw [ext_old hcz] at h2 ⊢
      exact h2
  · by_cases e : k = i
    · subst e
      rw [List.getElem?_set_self hil] at hs
      cases hs
      rw [hA] at ha
      obtain rfl : a = p := by simpa using ha
      exact hc
    · rw [List.getElem?_set_ne (Ne.symm e)] at hs
      exact st.fr k s a hs ha
theorem own_at (st : St Θ F δ σ H0 Hb H A) (hi : δ[i]? = some (.own ds)) : ∃ p vs, A i = [p] ∧ σ[i]? = some (some (.ref p)) ∧ Hb p = none ∧ H p = some (.lst vs) ∧ DpAll Θ.K H0 vs ds := by
  obtain ⟨o, ho, p, vs, h1, rfl, h2, h3, h4⟩ := st.s.sl i _ hi
  exact ⟨p, vs, h1, ho, h2, h3, h4⟩
/-- name.append(e) -/
theorem sd_append (hi : δ[i]? = some (.own ds)) (h : Ev Θ false te δ d) (hl : ds.length < 100000) : SD Θ F (tDrop (tBM Θ.K "list" rAppend (tVar i) (tCons te tNil))) δ (.nx (δ.set i (.own (ds ++ [d])))) := fun σ H0 Hb H A st D fin => by
  obtain ⟨p, vs, hA, ho, hn, hp, hv⟩ := own_at st hi
  refine ⟨_, ho, .inl ⟨rfl, _, SqL.of hp⟩, h σ H0 Hb H A st.s _ fun v H1 s1 d1 => ?_⟩
  have st1 := st.ext s1
  refine ⟨p, vs, v, rfl, rfl, s1 _ _ hp, szlt (by rw [hv.length]; exact hl), ?_⟩
  refine fin _ _ _ _ _ (st1.mutL hi hA (s1 _ _ hp) ho (by rw [ext_old (not_none hp)]; exact hn) ?_) (same_ext (st.s.h0.trans st.s.hb)) (same_ext st.s.hb)
  exact (hv.mono (same_ext (st.s.h0.trans st.s.hb))).append (.cons d1 .nil)
/-- name.extend(e), e a new list -/
theorem sd_extend (hi : δ[i]? = some (.own ds)) (h : EvL Θ false te δ es) (hl : ds.length + es.length ≤ 100000) : SD Θ F (tDrop (tBM Θ.K "list" rExtend (tVar i) (tCons te tNil))) δ (.nx (δ.set i (.own (ds ++ es)))) := fun σ H0 Hb H A st D fin => by
  obtain ⟨p, vs, hA, ho, hn, hp, hv⟩ := own_at st hi
  refine ⟨_, ho, .inl ⟨rfl, _, SqL.of hp⟩, h σ H0 Hb H A st.s _ fun q us H1 s1 n1 hq hd => ?_⟩
  have st1 := st.ext s1
  refine ⟨p, q, vs, us, rfl, rfl, s1 _ _ hp, hq, sz1000 (by rw [hv.length, hd.length]; exact hl), ?_⟩
  refine fin _ _ _ _ _ (st1.mutL hi hA (s1 _ _ hp) ho (by rw [ext_old (not_none hp)]; exact hn) ?_) (same_ext (st.s.h0.trans st.s.hb)) (same_ext st.s.hb)
  exact (hv.mono (same_ext (st.s.h0.trans st.s.hb))).append (hd.mono del_same)
/-! ### freezing: own lists are data from here on -/
def frz : Sl → Sl
  | .own ds => .dat (.list ds)
  | .dic _ => .un
  | .room _ => .un
  | .brw _ => .un
  | .rows false _ l => .dat (.list (l.map fun w => .list [.int w.p, .str w.h, w.ns]))
  | .rows true _ _ => .un
  | s => s
def frzA (δ : List Sl) (A : Nat → List Addr) (i : Nat) : List Addr := match δ[i]? with
  | some (.par _ _ _) => A i
  | _ => []
theorem frzA_par {m : Bool} {pq : Addr × Addr} {r : RoomD} (h : δ[i]? = some (.par m pq r)) : frzA δ A i = A i := by unfold frzA; rw [h]
theorem frzA_non {s : Sl} (h : δ[i]? = some s) (f : parS s = false) : frzA δ A i = [] := by
  unfold frzA
  rw [h]
  cases s with
  | par m pq r => simp [parS] at f
  | _ => rfl
theorem rows_dp {B : Hp} {as : List Addr} {l : List RowD} (h : Paired (RowAt Θ B B) as l) : DpAll Θ.K B (as.map .ref) (l.map fun w => .list [.int w.p, .str w.h, w.ns]) := by
  induction h with
  | nil => exact .nil
  | cons h1 h2 ih =>
    obtain ⟨vt, g1, g2⟩ := h1
    exact .cons (.lst (SqL.of g1) (.cons (.int _) (.cons (.str _) (.cons g2 .nil)))) ih
theorem St.freeze (st : St Θ F δ σ H0 Hb H A) : St Θ F (δ.map frz) σ (Ask.ext F.H0c F.Hc H) (Ask.ext F.H0c F.Hc H) H (frzA δ A) := by
  have hcH : ∀ z, F.Hc z ≠ none → H z ≠ none := st.there
  have sH : Same (Ask.ext F.H0c F.Hc H) H := fun z o h => by
    by_cases hz : F.Hc z = none
    · rw [ext_new hz] at h; exact h
    · rw [ext_old hz] at h
      have nM : ¬ F.M z := fun m => by rw [st.m0 z m] at h; cases h
      exact st.keep z o nM (st.ac z o h)
  have hget : ∀ i s, (δ.map frz)[i]? = some s → ∃ s0, δ[i]? = some s0 ∧ s = frz s0 := fun i s h => by
    rw [List.getElem?_map] at h
    cases q : δ[i]? with
    | none => rw [q] at h; cases h
    | some s0 => rw [q] at h; exact ⟨s0, q, (Option.some.inj h).symm⟩
  have sub : ∀ i a, a ∈ frzA δ A i → a ∈ A i ∧ ∃ m pq r, δ[i]? = some (.par m pq r) := fun i a h => by
    unfold frzA at h
    split at h
    · rename_i m pq r e
      exact ⟨h, m, pq, r, e⟩
    · cases h
  refine ⟨⟨Same.refl _, sH, fun i s hs => ?_, fun i hi => ?_, fun i j a h1 h2 => st.s.dj i j a (sub i a h1).1 (sub j a h2).1, by rw [List.length_map, st.s.len]⟩, st.keep, st.there, Same.refl _, fun z o h => ?_, st.ac, st.m0, fun i s a hs ha => ?_⟩
  · obtain ⟨s0, h0, rfl⟩ := hget i s hs
    obtain ⟨o, ho, hsl⟩ := st.s.sl i s0 h0
    refine ⟨o, ho, ?_⟩
    cases s0 with
    | un => rw [frzA_non h0 rfl]; rfl
    | dat d => obtain ⟨_, v, h1, h2⟩ := hsl; rw [frzA_non h0 rfl]; exact ⟨rfl, v, h1, h2.mono st.b0⟩
    | brw d => rw [frzA_non h0 rfl]; rfl
    | own ds =>
      obtain ⟨p, vs, h1, h2, h3, h4, h5⟩ := hsl
      rw [frzA_non h0 rfl]
      refine ⟨rfl, _, h2, .lst (SqL.of ?_) (h5.mono st.b0)⟩
      rw [ext_new (show F.Hc p = none from st.fr i _ p h0 (by rw [h1]; simp))]
      exact h4
    | dic ks => rw [frzA_non h0 rfl]; rfl
    | room r => rw [frzA_non h0 rfl]; rfl
    | par m pq r =>
      obtain ⟨h1, h2, h3, h4, h5⟩ := hsl
      have f1 := st.fr i _ pq.1 h0 (by rw [h1]; simp)
      have f2 := st.fr i _ pq.2 h0 (by rw [h1]; simp)
      rw [frzA_par h0]
      exact ⟨h1, h2, by rw [ext_old f1.1]; exact f1.2.1, by rw [ext_old f2.1]; exact f2.2.1, h5.mono st.b0 (fun _ e => e) (fun _ e => e)⟩
    | rows m po l =>
      obtain ⟨p, as, h1, h2, h6, h3, h4, h5⟩ := hsl
      rw [frzA_non h0 rfl]
      cases m with
      | true => rfl
      | false =>
        have fr : ∀ a ∈ p :: as, F.Hc a = none := fun a ha => st.fr i _ a h0 (by rw [h1]; exact ha)
        have up : ∀ a ∈ p :: as, ∀ u, H a = some u → Ask.ext F.H0c F.Hc H a = some u := fun a ha u hu => by
          rw [ext_new (fr a ha)]
          exact hu
        refine ⟨rfl, _, h2, .lst (SqL.of (up p (by simp) _ h5.lst)) (rows_dp ?_)⟩
        exact each_mono h5.each st.b0 fun a ha => up a (List.mem_cons_of_mem _ ha)
  · unfold frzA
    rw [List.getElem?_eq_none_iff, List.length_map] at hi
    rw [List.getElem?_eq_none hi]
  · exact same_ext st.ac z o h
  · obtain ⟨s0, h0, rfl⟩ := hget i s hs
    obtain ⟨h1, m, pq, r, h2⟩ := sub i a ha
    rw [h0] at h2
    cases h2
    exact st.fr i _ a h0 h1
/-- return e: nothing is changed behind it -/
theorem sd_retF (h : Ev Θ false te (δ.map frz) d) : SD Θ F (tRet te) δ (.rt d (δ.map frz)) := fun σ H0 Hb H A st D fin => by
  have st' := st.freeze
  exact h σ _ _ H _ st'.s _ fun v H1 s1 d1 => fin v σ _ _ H1 _ (st'.ext s1) (d1.mono (st'.ext s1).b0)
/-! ### weakening -/
inductive Wk : List Sl → List Sl → Prop
  | nil : Wk [] []
  | same {s : Sl} {a c : List Sl} : Wk a c → Wk (s :: a) (s :: c)
  | drop {s : Sl} {a c : List Sl} : s = s → Wk a c → Wk (s :: a) (.un :: c)
theorem Wk.len {a c : List Sl} (h : Wk a c) : a.length = c.length := by
  induction h with
  | nil => rfl
  | same _ ih => rw [List.length_cons, List.length_cons, ih]
  | drop _ _ ih => rw [List.length_cons, List.length_cons, ih]
theorem Wk.get {a c : List Sl} (h : Wk a c) : ∀ (i : Nat) (s : Sl), c[i]? = some s → a[i]? = some s ∨ (s = .un ∧ ∃ s', a[i]? = some s') := by
  induction h with
  | nil => intro i s e; simp at e
  | same h ih =>
    intro i s e
    cases i with
    | zero => exact .inl e
    | succ i => exact ih i s (by simpa using e)
  | drop f h ih =>
    intro i s e
    cases i with
    | zero =>
      have : s = .un := by simpa using e.symm
      exact .inr ⟨this, _, rfl⟩
    | succ i => exact ih i s (by simpa using e)
def unA (δ : List Sl) (A : Nat → List Addr) (i : Nat) : List Addr := match δ[i]? with
  | some .un => []
  | none => []
  | _ => A i
theorem unA_sub {i : Nat} {a : Addr} (h : a ∈ unA δ A i) : a ∈ A i := by
  unfold unA at h
  split at h
  · cases h
  · cases h
  · exact h
theorem unA_un (h : δ[i]? = some .un) : unA δ A i = [] := by unfold unA; rw [h]
theorem unA_of {s : Sl} {o : Option V} (h : δ[i]? = some s) (hs : SlAt Θ H0 Hb H s o (A i)) : SlAt Θ H0 Hb H s o (unA δ A i) := by
  unfold unA
  rw [h]
  cases s with
  | un => rfl
  | _ => exact hs
theorem St.weak (st : St Θ F δ σ H0 Hb H A) (w : Wk δ δ') : St Θ F δ' σ H0 Hb H (unA δ' A) where
  s := { h0 := st.s.h0, hb := st.s.hb, out := fun i hi => by unfold unA; rw [hi], dj := fun i j a h1 h2 => st.s.dj i j a (unA_sub h1) (unA_sub h2), len := by rw [← w.len]; exact st.s.len
         sl := fun i s hs => by
           rcases w.get i s hs with h | ⟨rfl, s', h1⟩
           · obtain ⟨o, ho, hsl⟩ := st.s.sl i s h
             exact ⟨o, ho, unA_of hs hsl⟩
           · obtain ⟨o, ho, hsl⟩ := st.s.sl i s' h1
             exact ⟨o, ho, unA_un hs⟩ }
  keep := st.keep
  there := st.there
  b0 := st.b0
  c0 := st.c0
  ac := st.ac
  m0 := st.m0
  fr := fun i s a hs ha => by
    rcases w.get i s hs with h | ⟨rfl, s', h1⟩
    · exact st.fr i s a h (unA_sub ha)
    · rw [unA_un hs] at ha
      cases ha
/-! ### for -/
theorem sd_for {α : Type} {l : List α} {enc : α → PyData} (S : List α → List Sl) {wi : TI} {g : TG} {tb : TS} (hs : EvI Θ b wi δ (l.map enc)) (h0 : S [] = δ)
    (hb : ∀ pre r post, l = pre ++ r :: post → ∃ δ1 δ2 T, Bd Θ b g (enc r) (S pre) δ1 T ∧ (SD Θ F tb δ1 (.nx δ2) ∨ SD Θ F tb δ1 (.ct δ2)) ∧ Wk δ2 (S (pre ++ [r]))) : SD Θ F (tFor wi g tb) δ (.nx (S l)) := fun σ H0 Hb H A st D fin => by
  refine hs σ H0 Hb H A st.s _ fun J H1 s1 Y => ?_
  have st1 := st.ext s1
  subst h0
  refine ⟨fun i m σ' Hi => m = l.length - i ∧ i ≤ l.length ∧ ∃ H0i Hbi Ai, St Θ F (S (l.take i)) σ' H0i Hbi Hi Ai ∧ Same (ext H0 H H1) H0i ∧ Same (ext Hb H H1) Hbi,
    ⟨l.length, by simp, Nat.zero_le _, _, _, A, st1, Same.refl _, Same.refl _⟩, ?_⟩
  rintro i m σi Hi ⟨rfl, hi, H0i, Hbi, Ai, sti, e0, eb⟩
  have sB : Same (ext (bse b H0 Hb) H H1) (bse b H0i Hbi) := by
    cases b
    · exact e0
    · exact eb
  have sY : Same (ext (bse b H0 Hb) H H1) Hi := (sB.trans (bse_le sti.s.h0)).trans sti.s.hb
  by_cases hlt : i < l.length
  · have hget : (l.map enc)[i]? = some (enc l[i]) := by rw [List.getElem?_map, List.getElem?_eq_getElem hlt]; rfl
    have spl : l = l.take i ++ l[i] :: l.drop (i + 1) := by
      rw [List.getElem_cons_drop, List.take_append_drop]
    have take1 : l.take (i + 1) = l.take i ++ [l[i]] := by rw [List.take_add_one, List.getElem?_eq_getElem hlt]; rfl
    refine .inr ⟨Y.go i Hi sY (by rw [List.length_map]; exact hlt), fun σ' H' => ∃ H0i Hbi Ai, St Θ F (S (l.take (i + 1))) σ' H0i Hbi H' Ai ∧ Same (ext H0 H H1) H0i ∧ Same (ext Hb H H1) Hbi,
      fun σ' H' ⟨a, c, d, e⟩ => ⟨l.length - (i + 1), by omega, rfl, hlt, a, c, d, e⟩, fun x H2 y => ?_⟩
    obtain ⟨s2, dx⟩ := Y.yld i Hi x H2 (enc l[i]) sY hget y
    obtain ⟨δ1, δ2, T, hB, hbody, hw⟩ := hb _ _ _ spl
    have st2 := sti.ext s2
    refine hB.st st2 (by rw [bse_ext]; exact dx.mono (ext_monoL sB)) fun σ' st3 => ?_
    have fine : ∀ σ2 a c H3 A3, St Θ F δ2 σ2 a c H3 A3 → Same (ext H0i Hi H2) a → Same (ext Hbi Hi H2) c → ∃ H0i Hbi Ai, St Θ F (S (l.take (i + 1))) σ2 H0i Hbi H3 Ai ∧ Same (ext H0 H H1) H0i ∧ Same (ext Hb H H1) Hbi := fun σ2 a c H3 A3 st4 f0 fb => by
      rw [← take1] at hw
      exact ⟨a, c, _, st4.weak hw, (e0.trans (same_ext (sti.s.h0.trans sti.s.hb))).trans f0, (eb.trans (same_ext sti.s.hb)).trans fb⟩
    rcases hbody with h | h
    · exact h σ' _ _ H2 _ st3 _ fine
    · exact h σ' _ _ H2 _ st3 _ fine
  · have e : i = l.length := by omega
    subst e
    have hstop := Y.stop Hi sY
    rw [List.length_map] at hstop
    rw [List.take_length] at sti
    exact .inl ⟨hstop, fin _ _ _ _ _ sti ((same_ext (st.s.h0.trans st.s.hb)).trans e0) ((same_ext st.s.hb).trans eb)⟩
/-! ### a def's promise from its body -/
def datS (ds : List PyData) (n : Nat) : List Sl := ds.map .dat ++ List.replicate (n - ds.length) .un
theorem start_St {N : List Str} {vs : List V} (hn : vs.length ≤ N.length) (hb : Same H0 H) (h : DpAll Θ.K H0 vs ds) : St Θ ⟨H, H0, fun _ => False⟩ (datS ds N.length) (L2.start N vs) H0 H0 H fun _ => [] where
  s := {
    h0 := Same.refl _
    hb := hb
    sl := fun i s hs => by
      unfold datS at hs
      unfold L2.start
      by_cases hi : i < ds.length
      · rw [List.getElem?_append_left (by simpa using hi), List.getElem?_map] at hs
        cases q : ds[i]? with
        | none => rw [q] at hs; cases hs
        | some d =>
          rw [q] at hs
          cases hs
          obtain ⟨v, hv, hd⟩ := h.get q
          refine ⟨some v, ?_, rfl, v, rfl, hd⟩
          rw [List.getElem?_append_left (by rw [List.length_map, h.length]; exact hi), List.getElem?_map, hv]
          rfl
      · rw [List.getElem?_append_right (by simpa using hi), List.length_map] at hs
        have hlt := (List.getElem?_eq_some_iff.mp hs).1
        rw [List.length_replicate] at hlt
        rw [List.getElem?_replicate, if_pos hlt] at hs
        cases hs
        refine ⟨none, ?_, rfl⟩
        rw [List.getElem?_append_right (by rw [List.length_map, h.length]; omega), List.length_map, h.length, List.getElem?_replicate, if_pos hlt]
    out := fun _ _ => rfl
    dj := fun _ _ _ h => by cases h
    len := by
      unfold datS L2.start
      rw [List.length_append, List.length_append, List.length_map, List.length_map, List.length_replicate, List.length_replicate, h.length] }
  keep := fun _ _ _ h => h
  there := fun _ h => h
  b0 := by rw [ext_id hb]; exact Same.refl _
  c0 := Same.refl _
  ac := hb
  m0 := fun _ h => h.elim
  fr := fun _ _ _ _ h => by cases h
/-! ### bodies that return -/
variable (Θ) in
def SDr (F : Frm) (t : TS) (δ : List Sl) (d : PyData) (P : List Sl → Prop) : Prop := ∀ σ H0 Hb H A, St Θ F δ σ H0 Hb H A → ∀ D : Ends, (∀ v σ' H0' Hb' H' A' δ', P δ' → St Θ F δ' σ' H0' Hb' H' A' → Dp Θ.K (ext F.H0c F.Hc H') v d → D.rt v H') → t D σ H
variable (Θ) in
/-- the body ends, or returns None -/
def SDu (F : Frm) (t : TS) (δ : List Sl) (P : List Sl → Prop) : Prop := ∀ σ H0 Hb H A, St Θ F δ σ H0 Hb H A → ∀ D : Ends, (∀ σ' H0' Hb' H' A' δ', P δ' → St Θ F δ' σ' H0' Hb' H' A' → D.nx σ' H' ∧ D.rt .non H') → t D σ H
def anyP : List Sl → Prop := fun _ => True
variable {P : List Sl → Prop}
theorem sdr_seq (h1 : SD Θ F t δ (.nx δ1)) (h2 : SDr Θ F u δ1 d P) : SDr Θ F (tSeq t u) δ d P := fun σ H0 Hb H A st D fin =>
  h1 σ H0 Hb H A st { D with nx := u D } fun σ' H0' Hb' H' A' st' e0 eb => h2 σ' H0' Hb' H' A' st' D fin
theorem sdr_seq_rt (h1 : SDr Θ F t δ d P) : SDr Θ F (tSeq t u) δ d P := fun σ H0 Hb H A st D fin => h1 σ H0 Hb H A st { D with nx := u D } fin
theorem sdr_if {v : Bool} (h : EvT Θ c δ v) (h1 : v = true → SDr Θ F t δ d P) (h2 : v = false → SDr Θ F u δ d P) : SDr Θ F (tIfS c t u) δ d P := fun σ H0 Hb H A st D fin => h σ H0 Hb H A st.s _ fun H1 s1 => by
  have st1 := st.ext s1
  cases v with
  | true => rw [if_pos rfl]; exact h1 rfl σ _ _ H1 A st1 D fin
  | false => rw [if_neg Bool.false_ne_true]; exact h2 rfl σ _ _ H1 A st1 D fin
theorem sdr_ret (h : Ev Θ false te δ d) (hP : P δ) : SDr Θ F (tRet te) δ d P := fun σ H0 Hb H A st D fin => sd_ret h σ H0 Hb H A st D fun v σ' a c e g st' dv => fin v σ' a c e g δ hP st' dv
theorem sdr_retF (h : Ev Θ false te (δ.map frz) d) (hP : P (δ.map frz)) : SDr Θ F (tRet te) δ d P := fun σ H0 Hb H A st D fin => sd_retF h σ H0 Hb H A st D fun v σ' a c e g st' dv => fin v σ' a c e g _ hP st' dv
theorem sdr_is (h : SDr Θ F t δ d P) (q : d = e) : SDr Θ F t δ e P := q ▸ h
theorem sdu_seq (h1 : SD Θ F t δ (.nx δ1)) (h2 : SDu Θ F u δ1 P) : SDu Θ F (tSeq t u) δ P := fun σ H0 Hb H A st D fin =>
  h1 σ H0 Hb H A st { D with nx := u D } fun σ' H0' Hb' H' A' st' e0 eb => h2 σ' H0' Hb' H' A' st' D fin
theorem sdu_nx (h : SD Θ F t δ (.nx δ1)) (hP : P δ1) : SDu Θ F t δ P := fun σ H0 Hb H A st D fin => h σ H0 Hb H A st D fun σ' a c e g st' _ _ => (fin σ' a c e g δ1 hP st').1
theorem sdu_if {v : Bool} (h : EvT Θ c δ v) (h1 : v = true → SDu Θ F t δ P) (h2 : v = false → SDu Θ F u δ P) : SDu Θ F (tIfS c t u) δ P := fun σ H0 Hb H A st D fin => h σ H0 Hb H A st.s _ fun H1 s1 => by
  have st1 := st.ext s1
  cases v with
  | true => rw [if_pos rfl]; exact h1 rfl σ _ _ H1 A st1 D fin
  | false => rw [if_neg Bool.false_ne_true]; exact h2 rfl σ _ _ H1 A st1 D fin
variable (Θ) in
/-- a return without a value -/
def SDn (F : Frm) (t : TS) (δ : List Sl) (P : List Sl → Prop) : Prop := ∀ σ H0 Hb H A, St Θ F δ σ H0 Hb H A → ∀ D : Ends, (∀ σ' H0' Hb' H' A' δ', P δ' → St Θ F δ' σ' H0' Hb' H' A' → D.rt .non H') → t D σ H
theorem sdn_seq (h1 : SD Θ F t δ (.nx δ1)) (h2 : SDn Θ F u δ1 P) : SDn Θ F (tSeq t u) δ P := fun σ H0 Hb H A st D fin =>
  h1 σ H0 Hb H A st { D with nx := u D } fun σ' H0' Hb' H' A' st' e0 eb => h2 σ' H0' Hb' H' A' st' D fin
theorem sdn_ret (hP : P δ) : SDn Θ F tRetN δ P := fun σ H0 Hb H A st D fin => fin σ H0 Hb H A δ hP st
theorem sdn_ift {v : Bool} (h : EvT Θ c δ v) (hv : v = true) (h1 : SDn Θ F t δ P) : SDn Θ F (tIfS c t u) δ P := fun σ H0 Hb H A st D fin => h σ H0 Hb H A st.s _ fun H1 s1 => by
  rw [hv, if_pos rfl]; exact h1 σ _ _ H1 A (st.ext s1) D fin
theorem sdu_seq_rt (h1 : SDn Θ F t δ P) : SDu Θ F (tSeq t u) δ P := fun σ H0 Hb H A st D fin => h1 σ H0 Hb H A st { D with nx := u D } fun σ' a c e g δ' hP st' => (fin σ' a c e g δ' hP st').2
theorem fn_spD {N : List Str} {t : TS} {G : List PyData → PyData → Prop} {n : Nat} (hG : ∀ ds d, G ds d → ds.length = n) (hn : n ≤ N.length) (h : ∀ ds d, G ds d → ∀ F : Frm, SDr Θ F t (datS ds N.length) d anyP) (vs : List V) (H : Hp) (Q : VK) (E : XK) (hsp : spD Θ G vs H Q E) :
    t { nx := fun _ H' => Q .non H', rt := Q } (L2.start N vs) H := by
  obtain ⟨H0, ds, d, s, hv, hg, q⟩ := hsp
  refine h ds d hg ⟨H, H0, fun _ => False⟩ _ _ _ _ _ (start_St (by rw [hv.length, hG ds d hg]; exact hn) s hv) _ ?_
  intro v σ' H0' Hb' H' A' δ' _ st' dv
  exact q v H' (fun z o e => st'.keep z o (fun m => m) e) dv
end
end Ask
-- AskRoom
set_option Elab.async false
set_option linter.all false
set_option maxRecDepth 100000
/-! rooms: what changes them, what reads them, their promises -/
namespace Ask
open PySem PySem.Spec PyProof.Rows L2
section
variable {Θ : Th} {F : Frm} {δ δ1 δ' : List Sl} {σ : L2.St} {H0 Hb H H0' Hb' H' H1 H2 : Hp} {A : Nat → List Addr} {b b0 b1 b2 : Bool} {ta tb te : TE} {c : TT} {t u : TS} {tr : TA} {d e x y : PyData} {ds es : List PyData} {i j : Nat} {o : Out} {E : XK}
theorem SlAt.there' {s : Sl} {v : Option V} {L : List Addr} (h : SlAt Θ H0 Hb H s v L) {a : Addr} (ha : a ∈ L) : H a ≠ none := (h.there a ha).1
/-- what a slot owns is changed -/
theorem St.mutS (st : St Θ F δ σ H0 Hb H A) {s s' : Sl} {v : Option V} (hi : δ[i]? = some s) (he : ∀ z, z ∉ A i → H' z = H z) (hv : σ[i]? = some v) (hs : SlAt Θ H0 Hb H' s' v (A i)) (hfr : ∀ a ∈ A i, FrOk F s' a) (hM : ∀ a ∈ A i, F.Hc a = none ∨ F.M a) :
    St Θ F (δ.set i s') σ H0 Hb H' A := by
  have hil : i < δ.length := (List.getElem?_eq_some_iff.mp hi).1
  have nA : ∀ z o, Hb z = some o → z ∉ A i := fun z o h ha => by rw [(st.s.at ha).2] at h; cases h
  refine ⟨⟨st.s.h0, fun z o h => ?_, fun k s hs' => ?_, fun k hk => ?_, st.s.dj, by rw [List.length_set, st.s.len]⟩, fun q o h1 h2 => ?_, fun q h => ?_, fun z o h => ?_, st.c0, st.ac, st.m0, fun k s a hs' ha => ?_⟩
  · rw [he z (nA z o h)]
    exact st.s.hb z o h
  · by_cases e : k = i
    · subst e
      rw [List.getElem?_set_self hil] at hs'
      cases hs'
      exact ⟨v, hv, hs⟩
    · rw [List.getElem?_set_ne (Ne.symm e)] at hs'
      obtain ⟨o, h1, h2⟩ := st.s.sl k s hs'
      refine ⟨o, h1, h2.mono (Same.refl _) (Same.refl _) fun a ha => ⟨fun w hw => ?_, fun h => h⟩⟩
      rw [he a fun z => e (st.s.dj k i a ha z)]
      exact hw
  · rw [List.getElem?_eq_none_iff, List.length_set] at hk
    exact st.s.out k (List.getElem?_eq_none_iff.mpr hk)
  · have hq : q ∉ A i := fun ha => by
      rcases hM q ha with h | h
      · rw [h] at h2; cases h2
      · exact h1 h
    rw [he q hq]
    exact st.keep q o h1 h2
  · by_cases ha : q ∈ A i
    · exact hs.there' ha
    · rw [he q ha]; exact st.there q h
  · have h2 := st.b0 z o h
    have hz : z ∉ A i := nA z o (st.s.h0 z o h)
    by_cases hcz : F.Hc z = none
    · rw [ext_new hcz] at h2 ⊢
      rw [he z hz]
      exact h2
    · rw [ext_old hcz] at h2 ⊢
      exact h2
  · by_cases e : k = i
    · subst e
      rw [List.getElem?_set_self hil] at hs'
      cases hs'
      exact hfr a ha
    · rw [List.getElem?_set_ne (Ne.symm e)] at hs'
      exact st.fr k s a hs' ha
/-- a room that may be changed, and the slot with another room in its place -/
def roomW : Sl → Option (RoomD × (RoomD → Sl))
  | .room r => some (r, .room)
  | .par true pq r => some (r, .par true pq)
  | _ => none
theorem room_own (st : St Θ F δ σ H0 Hb H A) {s : Sl} {r : RoomD} {w : RoomD → Sl} (hi : δ[i]? = some s) (hr : roomW s = some (r, w)) : ∃ p q, A i = [p, q] ∧ σ[i]? = some (some (.ref p)) ∧ Hb p = none ∧ Hb q = none ∧ RoomAt Θ H0 H p q r ∧
    ∀ {H' r'}, (∀ z, z ≠ p → z ≠ q → H' z = H z) → RoomAt Θ H0 H' p q r' → St Θ F (δ.set i (w r')) σ H0 Hb H' A := by
  obtain ⟨o, ho, hsl⟩ := st.s.sl i s hi
  cases s with
  | room r0 =>
    cases hr
    obtain ⟨p, q, hA, rfl, h1, h2, hat⟩ := hsl
    refine ⟨p, q, hA, ho, h1, h2, hat, fun {H' r'} he hat' => st.mutS hi (fun z hz => he z (fun e => hz (by rw [hA, e]; simp)) (fun e => hz (by rw [hA, e]; simp))) ho ⟨p, q, hA, rfl, h1, h2, hat'⟩ (fun a ha => by have z := st.fr i _ a hi ha; exact z) fun a ha => .inl (st.fr i _ a hi ha)⟩
  | par m pq r0 =>
    cases m with
    | false => cases hr
    | true =>
      cases hr
      obtain ⟨hA, rfl, h1, h2, hat⟩ := hsl
      refine ⟨pq.1, pq.2, hA, ho, h1, h2, hat, fun {H' r'} he hat' => st.mutS hi (fun z hz => he z (fun e => hz (by rw [hA, e]; simp)) (fun e => hz (by rw [hA, e]; simp))) ho ⟨hA, rfl, h1, h2, hat'⟩ (fun a ha => by have z := st.fr i _ a hi ha; exact z) fun a ha => .inr ((st.fr i _ a hi ha).2.2 rfl)⟩
  | _ => cases hr
theorem RoomAt.ne {p q : Addr} {r : RoomD} (h : RoomAt Θ H0 H p q r) : p ≠ q := fun e => by
  obtain ⟨dx, vr, vl, vs, g1, g2, g3, g4, g5⟩ := h
  rw [e, g4] at g1
  cases g1
theorem putF2 {vr vl v : V} {n : Int} {q : Addr} : putF "line_now" v (roomF vr vl n q) = roomF vr v n q := by
  unfold roomF
  simp only [putF, beq_eq_false_iff_ne.mpr (show ("line_now" : Str) ≠ "own_rule" by decide +kernel), beq_self_eq_true]
  rfl
theorem putF3 {vr vl : V} {n m : Int} {q : Addr} : putF "came_so_far" (.int m) (roomF vr vl n q) = roomF vr vl m q := by
  unfold roomF
  simp only [putF, beq_eq_false_iff_ne.mpr (show ("came_so_far" : Str) ≠ "own_rule" by decide +kernel), beq_eq_false_iff_ne.mpr (show ("came_so_far" : Str) ≠ "line_now" by decide +kernel), beq_self_eq_true]
  rfl
/-- self.line_now = e -/
theorem sd_line {s : Sl} {r : RoomD} {w : RoomD → Sl} (K : ClsF Θ.K Θ.C) (hi : δ[i]? = some s) (hr : roomW s = some (r, w)) (h : Ev Θ false te δ d) : SD Θ F (sFld Θ.K (tVar i) te "line_now") δ (.nx (δ.set i (w { r with line := d }))) := fun σ H0 Hb H A st D fin =>
  h σ H0 Hb H A st.s _ fun v H1 s1 d1 => by
    have st1 := st.ext s1
    obtain ⟨p, q, hA, ho, h1, h2, hat, k⟩ := room_own st1 hi hr
    obtain ⟨dx, vr, vl, vs, g1, g2, g3, g4, g5⟩ := id hat
    refine ⟨_, ho, p, Θ.C, dx, _, rfl, g1, K.c, K.n2, (show 4 < 1000 by decide), ?_⟩
    refine fin _ _ _ _ _ (k (fun z z1 z2 => upd_ne z1) ⟨dx, vr, v, vs, ?_, g2, d1, ?_, g5⟩) (same_ext (st.s.h0.trans st.s.hb)) (same_ext st.s.hb)
    · rw [upd_same, putF2]
    · rw [upd_ne (Ne.symm hat.ne)]
      exact g4
/-- self.came_so_far += 1 -/
theorem sd_came {s : Sl} {r : RoomD} {w : RoomD → Sl} {n : Int} (K : ClsF Θ.K Θ.C) (hi : δ[i]? = some s) (hr : roomW s = some (r, w)) : SD Θ F (sFldAug Θ.K (tVar i) (tC (.int n)) rAdd "came_so_far") δ (.nx (δ.set i (w { r with came := r.came + n }))) := fun σ H0 Hb H A st D fin => by
  obtain ⟨p, q, hA, ho, h1, h2, hat, k⟩ := room_own st hi hr
  obtain ⟨dx, vr, vl, vs, g1, g2, g3, g4, g5⟩ := id hat
  refine ⟨_, ho, p, Θ.C, dx, _, _, rfl, g1, K.c, K.n3, look3, ?_⟩
  refine ⟨r.came, n, rfl, rfl, dx, _, g1, (show 4 < 1000 by decide), ?_⟩
  refine fin _ _ _ _ _ (k (fun z z1 z2 => upd_ne z1) ⟨dx, vr, vl, vs, ?_, g2, g3, ?_, g5⟩) (Same.refl _) (Same.refl _)
  · rw [upd_same, putF3]
  · rw [upd_ne (Ne.symm hat.ne)]
    exact g4
/-- self.served_so_far.append(e) -/
theorem sd_serve {s : Sl} {r : RoomD} {w : RoomD → Sl} (K : ClsF Θ.K Θ.C) (hi : δ[i]? = some s) (hr : roomW s = some (r, w)) (h : Ev Θ false te δ d) (hl : r.served.length < 100000) : SD Θ F (tDrop (tBM Θ.K "list" rAppend (tFld Θ.K (tVar i) "served_so_far") (tCons te tNil))) δ (.nx (δ.set i (w { r with served := r.served ++ [d] }))) := fun σ H0 Hb H A st D fin => by
  obtain ⟨p, q, hA, ho, h1, h2, hat, _⟩ := room_own st hi hr
  obtain ⟨dx, vr, vl, vs, g1, g2, g3, g4, g5⟩ := id hat
  refine ⟨_, ho, p, Θ.C, dx, _, _, rfl, g1, K.c, K.n4, look4, .inl ⟨rfl, _, SqL.of g4⟩, h σ H0 Hb H A st.s _ fun v H1 s1 d1 => ?_⟩
  have st1 := st.ext s1
  obtain ⟨p', q', hA', ho', h1', h2', hat', k⟩ := room_own st1 hi hr
  have hpq : [p, q] = [p', q'] := by rw [← hA, ← hA']
  obtain ⟨rfl, rfl⟩ : p = p' ∧ q = q' := by simpa using hpq
  refine ⟨q, vs, v, rfl, rfl, s1 _ _ g4, szlt (by rw [g5.length]; exact hl), ?_⟩
  refine fin _ _ _ _ _ (k (fun z z1 z2 => upd_ne z2) ⟨dx, vr, vl, vs ++ [v], ?_, g2.mono (same_ext (st.s.h0.trans st.s.hb)), g3.mono (same_ext (st.s.h0.trans st.s.hb)), upd_same, (g5.mono (same_ext (st.s.h0.trans st.s.hb))).append (.cons d1 .nil)⟩) (same_ext (st.s.h0.trans st.s.hb)) (same_ext st.s.hb)
  rw [upd_ne hat.ne]
  exact s1 _ _ g1
/-- self.m(..), a method that changes the room -/
theorem sd_meth {G : RoomD → List PyData → RoomD → Prop} {s : Sl} {r r' : RoomD} {w : RoomD → Sl} {m : Str} (hi : δ[i]? = some s) (hr : roomW s = some (r, w)) (h : EvA Θ false tr δ ds) (hG : G r ds r')
    (m1 : m ≠ "own_rule" := by decide +kernel) (m2 : m ≠ "line_now" := by decide +kernel) (m3 : m ≠ "came_so_far" := by decide +kernel) (m4 : m ≠ "served_so_far" := by decide +kernel) : SD Θ F (tDrop (tMeth Θ.C m (spMu Θ G) [] E (tVar i) tr)) δ (.nx (δ.set i (w r'))) := fun σ H0 Hb H A st D fin => by
  obtain ⟨p, q, hA, ho, h1, h2, hat, _⟩ := room_own st hi hr
  obtain ⟨dx, vr, vl, vs, g1, _⟩ := id hat
  refine ⟨_, ho, p, dx, _, rfl, g1, roomF_lookup m1 m2 m3 m4, h σ H0 Hb H A st.s _ fun us H1 s1 d1 => ?_⟩
  have st1 := st.ext s1
  obtain ⟨p', q', hA', ho', h1', h2', hat', _⟩ := room_own st1 hi hr
  have hpq : [p, q] = [p', q'] := by rw [← hA, ← hA']
  obtain ⟨rfl, rfl⟩ : p = p' ∧ q = q' := by simpa using hpq
  refine ⟨p, q, r, us, Ask.ext H0 H H1, ds, r', by rw [List.append_nil], st1.s.h0.trans st1.s.hb, none_of_same st1.s.h0 h1', none_of_same st1.s.h0 h2', hat', d1, hG, fun H' hk hat2 => ?_⟩
  -- the heap with the old room
  have hp1 : H1 p ≠ none := by obtain ⟨_, _, _, _, z, _⟩ := hat'; exact not_none z
  have hq1 : H1 q ≠ none := by obtain ⟨_, _, _, _, _, _, _, z, _⟩ := hat'; exact not_none z
  let Hm : Hp := fun z => if z = p ∨ z = q then H1 z else H' z
  have sm : Same H1 Hm := fun z o hz => by
    show (if z = p ∨ z = q then H1 z else H' z) = some o
    by_cases e : z = p ∨ z = q
    · rw [if_pos e]; exact hz
    · rw [if_neg e]; exact hk z o (fun e1 => e (.inl e1)) (fun e1 => e (.inr e1)) hz
  have eqm : ∀ B : Hp, Ask.ext B H1 Hm = Ask.ext B H1 H' := fun B => by
    funext z
    by_cases hz : H1 z = none
    · rw [ext_new hz, ext_new hz]
      show (if z = p ∨ z = q then H1 z else H' z) = H' z
      rw [if_neg]
      rintro (e | e)
      · exact hp1 (e ▸ hz)
      · exact hq1 (e ▸ hz)
    · rw [ext_old hz, ext_old hz]
  have st2 := st1.ext sm
  obtain ⟨p2, q2, hA2, ho2, h12, h22, hat3, k⟩ := room_own st2 hi hr
  have hpq : [p, q] = [p2, q2] := by rw [← hA, ← hA2]
  obtain ⟨rfl, rfl⟩ : p = p2 ∧ q = q2 := by simpa using hpq
  rw [eqm] at k
  refine fin _ _ _ _ _ (k (fun z z1 z2 => ?_) hat2) ?_ ?_
  · show H' z = (if z = p ∨ z = q then H1 z else H' z)
    rw [if_neg]
    rintro (e | e)
    · exact z1 e
    · exact z2 e
  · exact (same_ext (st.s.h0.trans st.s.hb)).trans (same_ext (st1.s.h0.trans st1.s.hb))
  · exact (same_ext st.s.hb).trans (same_ext st1.s.hb)
/-! ### served_so_far, read -/
theorem served_at {s : Sl} {r : RoomD} (st : St0 Θ δ σ H0 Hb H A) (hi : δ[i]? = some s) (hr : roomOf s = some r) : ∃ p q dx vr vl vs, σ[i]? = some (some (.ref p)) ∧ H p = some (.ins Θ.C dx (roomF vr vl r.came q)) ∧ H q = some (.lst vs) ∧ DpAll Θ.K H0 vs r.served := by
  obtain ⟨o, ho, hsl⟩ := st.sl i s hi
  obtain ⟨p, q, _, rfl, h1, h2, dx, vr, vl, vs, g1, g2, g3, g4, g5⟩ := slot_room hsl hr
  exact ⟨p, q, dx, vr, vl, vs, ho, g1, g4, g5⟩
theorem ev_servedNe {s : Sl} {r : RoomD} (K : ClsF Θ.K Θ.C) (hi : δ[i]? = some s) (hr : roomOf s = some r) (hsh : SeqAt.shaped (.list r.served) = true) : Ev Θ b (tOp (rNeD Θ.K) (tFld Θ.K (tVar i) "served_so_far") (tLst tNil)) δ (.bool (!PyData.eqv (.list r.served) (.list []))) := fun σ H0 Hb H A st Q q => by
  obtain ⟨p, qa, dx, vr, vl, vs, ho, g1, g4, g5⟩ := served_at st hi hr
  refine ⟨_, ho, p, Θ.C, dx, _, _, rfl, g1, K.c, K.n4, look4, by decide, fun z nz => ⟨.list r.served, .list [], ?_, .lst (SqL.of upd_same) .nil, hsh, rfl, ?_⟩⟩
  · have sn : Same H (upd H z (.lst [])) := same_new nz
    exact .lst (sn.seq (SqL.of g4)) (g5.mono ((st.h0.trans st.hb).trans sn))
  · exact q _ _ (same_new nz) (.bl _)
theorem ev_served0 {s : Sl} {r : RoomD} {n : Int} (K : ClsF Θ.K Θ.C) (hi : δ[i]? = some s) (hr : roomOf s = some r) (hd : atI r.served n = some d) : Ev Θ b (tOp (rIx Θ.K) (tFld Θ.K (tVar i) "served_so_far") (tC (.int n))) δ d := fun σ H0 Hb H A st Q q => by
  obtain ⟨p, qa, dx, vr, vl, vs, ho, g1, g4, g5⟩ := served_at st hi hr
  obtain ⟨z, hz, hd'⟩ := atI_of g5 hd
  refine ⟨_, ho, p, Θ.C, dx, _, _, rfl, g1, K.c, K.n4, look4, .inl ⟨qa, vs, n, z, rfl, rfl, SqL.of g4, hz, q _ _ (Same.refl _) (hd'.mono ?_)⟩⟩
  exact (bse_same st.h0).trans (same_ext ((bse_le st.h0).trans st.hb))
/-! ### a room's method, a def that reads a room -/
def parSt (m : Bool) (pq : Addr × Addr) (r : RoomD) (ds : List PyData) (n : Nat) : List Sl := .par m pq r :: datS ds n
theorem start_room {N : List Str} {p q : Addr} {r : RoomD} {us : List V} {m : Bool} {M : Addr → Prop} (hn : us.length + 1 ≤ N.length) (hb : Same H0 H) (hp : H0 p = none) (hq : H0 q = none) (hat : RoomAt Θ H0 H p q r) (h : DpAll Θ.K H0 us ds) (hM : ∀ a, M a → a = p ∨ a = q) (hm : m = true → M p ∧ M q) :
    St Θ ⟨H, H0, M⟩ (parSt m (p, q) r ds (N.length - 1)) (L2.start N (.ref p :: us)) H0 H0 H fun i => if i = 0 then [p, q] else [] := by
  have base := start_St (Θ := Θ) (N := N.drop 1) (vs := us) (ds := ds) (by rw [List.length_drop]; omega) hb h
  have eN : (N.drop 1).length = N.length - 1 := List.length_drop ..
  rw [eN] at base
  have eS : L2.start N (.ref p :: us) = some (.ref p) :: L2.start (N.drop 1) us := by
    unfold L2.start
    rw [List.map_cons, List.length_cons, eN, List.cons_append]
    congr 3
    omega
  have hp' : H p ≠ none := by obtain ⟨_, _, _, _, z, _⟩ := hat; exact not_none z
  have hq' : H q ≠ none := by obtain ⟨_, _, _, _, _, _, _, z, _⟩ := hat; exact not_none z
  rw [eS]
  refine ⟨⟨Same.refl _, hb, fun i s hs => ?_, fun i hi => ?_, fun i j a h1 h2 => ?_, ?_⟩, fun _ _ _ h => h, fun _ h => h, by rw [ext_id hb]; exact Same.refl _, Same.refl _, hb, fun z hz => ?_, fun i s a hs ha => ?_⟩
  · cases i with
    | zero =>
      obtain rfl : Sl.par m (p, q) r = s := by simpa [parSt] using hs
      exact ⟨_, rfl, rfl, rfl, hp, hq, hat⟩
    | succ i =>
      obtain ⟨o, ho, hsl⟩ := base.s.sl i s (by simpa [parSt] using hs)
      exact ⟨o, by simpa using ho, hsl⟩
  · have : i ≠ 0 := fun e => by rw [e] at hi; simp [parSt] at hi
    rw [if_neg this]
  · by_cases e1 : i = 0
    · by_cases e2 : j = 0
      · rw [e1, e2]
      · rw [if_neg e2] at h2; cases h2
    · rw [if_neg e1] at h1; cases h1
  · unfold parSt
    rw [List.length_cons, List.length_cons, base.s.len]
  · rcases hM z hz with rfl | rfl
    · exact hp
    · exact hq
  · by_cases e1 : i = 0
    · subst e1
      obtain rfl : Sl.par m (p, q) r = s := by simpa [parSt] using hs
      rw [if_pos rfl] at ha
      rcases (show a = p ∨ a = q by simpa using ha) with rfl | rfl
      · exact ⟨hp', hp, fun e => (hm e).1⟩
      · exact ⟨hq', hq, fun e => (hm e).2⟩
    · rw [if_neg e1] at ha; cases ha
theorem fn_spRd {N : List Str} {t : TS} {G : RoomD → List PyData → PyData → Prop} {n : Nat} (hG : ∀ r ds d, G r ds d → ds.length = n) (hn : n + 1 ≤ N.length) (h : ∀ r ds d, G r ds d → ∀ (F : Frm) (pq : Addr × Addr), SDr Θ F t (parSt false pq r ds (N.length - 1)) d anyP) (vs : List V) (H : Hp) (Q : VK) (E : XK) (hsp : spRd Θ G vs H Q E) :
    t { nx := fun _ H' => Q .non H', rt := Q } (L2.start N vs) H := by
  obtain ⟨p, q, r, us, H0, ds, d, rfl, s, hp, hq, hat, hv, hg, k⟩ := hsp
  refine h r ds d hg ⟨H, H0, fun _ => False⟩ (p, q) _ _ _ _ _ (start_room (by rw [hv.length, hG r ds d hg]; exact hn) s hp hq hat hv (fun _ h => h.elim) fun e => by cases e) _ ?_
  intro v σ' H0' Hb' H' A' δ' _ st' dv
  exact k v H' (fun z o e => st'.keep z o (fun m => m) e) dv
theorem fn_spMu {N : List Str} {t : TS} {G : RoomD → List PyData → RoomD → Prop} {n : Nat} (hG : ∀ r ds d, G r ds d → ds.length = n) (hn : n + 1 ≤ N.length) (h : ∀ r ds r', G r ds r' → ∀ (F : Frm) (pq : Addr × Addr), SDu Θ F t (parSt true pq r ds (N.length - 1)) fun δ' => δ'[0]? = some (.par true pq r')) (vs : List V) (H : Hp) (Q : VK) (E : XK) (hsp : spMu Θ G vs H Q E) :
    t { nx := fun _ H' => Q .non H', rt := Q } (L2.start N vs) H := by
  obtain ⟨p, q, r, us, H0, ds, r', rfl, s, hp, hq, hat, hv, hg, k⟩ := hsp
  refine h r ds r' hg ⟨H, H0, fun a => a = p ∨ a = q⟩ (p, q) _ _ _ _ _ (start_room (by rw [hv.length, hG r ds r' hg]; exact hn) s hp hq hat hv (fun _ h => h) fun e => ⟨.inl rfl, .inr rfl⟩) _ ?_
  intro σ' H0' Hb' H' A' δ' hP st'
  obtain ⟨o, ho, hA, rfl, h1, h2, hat'⟩ := st'.s.sl 0 _ hP
  have fin := k H' (fun a o z1 z2 e => st'.keep a o (fun m => m.elim z1 z2) e) (hat'.mono st'.b0 (fun _ e => e) fun _ e => e)
  exact ⟨fin, fin⟩
end
end Ask
-- AskPure
set_option Elab.async false
set_option linter.all false
set_option maxRecDepth 100000
/-! the rooms in plain Lean, and how they stand as data -/
namespace Ask
open PySem PySem.Spec PyProof.Rows L2
inductive How where
  | here | out | lost | away
  deriving DecidableEq
def How.s : How → Str
  | .here => "here"
  | .out => "out"
  | .lost => "lost"
  | .away => "away"
inductive Bk where
  | asks | old | tells
  deriving DecidableEq
def Bk.s : Bk → Str
  | .asks => "asks"
  | .old => "old"
  | .tells => "tells"
structure Rule where
  k : Nat
  t : Nat
  line : Bool
  on : Bool
  back : Bk
  told : Bool
  asks : Bool
structure Row where
  p : Int
  h : How
  ns : List Int
  deriving DecidableEq
abbrev Line := List Row
def sLine (b : Bool) : Str := if b then "line" else "seen"
def sOn (b : Bool) : Str := if b then "on" else "none"
def sTold (b : Bool) : Str := if b then "told" else "quiet"
def sAsks (b : Bool) : Str := if b then "asks" else "claims"
abbrev dRule (r : Rule) : PyData := .tuple [.int r.k, .int r.t, .str (sLine r.line), .str (sOn r.on), .str r.back.s, .str (sTold r.told), .str (sAsks r.asks)]
abbrev dNames (ns : List Int) : PyData := .tuple (ns.map .int)
abbrev dRow (w : Row) : PyData := .tuple [.int w.p, .str w.h.s, dNames w.ns]
abbrev dLine (l : Line) : PyData := .tuple (l.map dRow)
/-- the names that somebody takes at a place -/
def nearest (r : Rule) (l : Line) (s : Nat) : List Int :=
  ((((l.take s).filter fun w => decide (w.h = .here) || (r.line && (decide (w.h = .out) || decide (w.h = .away)))).map (·.p)).reverse).take r.k
/-- somebody takes names anew at these places -/
def renewed (r : Rule) (l : Line) (f : Nat → Bool) : Line := l.mapIdx fun i w => if f i && decide (w.h = .here) then { w with ns := nearest r l i } else w
def at_ (ss : List Nat) (i : Nat) : Bool := decide (i ∈ ss)
def spotOf (l : Line) (p : Int) : Nat := l.findIdx fun w => decide (w.p = p)
def setHow (h : How) (w : Row) : Row := { w with h := h, ns := if h = .away then [] else w.ns }
def asHow (l : Line) (s : Nat) (h : How) : Line := l.modify s (setHow h)
def isHere (w : Row) : Bool := decide (w.h = .here)
def left (l : Line) (p : Int) : Line := l.filter fun w => decide (w.p ≠ p)
def hit (p : Int) (w : Row) : Bool := isHere w && w.ns.contains p
def unname (p : Int) (w : Row) : Row := if hit p w then { w with ns := w.ns.filter fun n => decide (n ≠ p) } else w
def hitAt (l : Line) (p : Int) (i : Nat) : Bool := match l[i]? with
  | some w => hit p w
  | none => false
def without (r : Rule) (l : Line) (p : Int) : Line := if r.on then renewed r ((left l p).map (unname p)) (hitAt (left l p) p) else (left l p).map (unname p)
def forgetting (l : Line) : Line := if l.any isHere then l else (l.filter fun w => decide (w.h ≠ .away)).map fun w => { w with h := .lost }
def bare (l : Line) (i : Nat) : Bool := match l[i]? with
  | some w => w.ns.isEmpty
  | none => false
def askedAgain (r : Rule) (l : Line) : Line := if r.asks then renewed r l (bare l) else l
def hereOf (l : Line) : List Int := (l.filter isHere).map (·.p)
def claiming (r : Rule) (l : Line) : List Int := (l.filter fun w => isHere w && decide (w.ns.length ≤ r.t) && !w.ns.any fun n => (hereOf l).contains n).map (·.p)
structure Rm where
  l : Line
  c : Nat
  sv : List Int
inductive Wd where
  | back | leave | let_ | out | vanish
  deriving DecidableEq
def Wd.s : Wd → Str
  | .back => "back"
  | .leave => "leave"
  | .let_ => "let"
  | .out => "out"
  | .vanish => "vanish"
inductive Evt where
  | come
  | door
  | per (w : Wd) (p : Int)
  deriving DecidableEq
def Evt.s : Evt → Str
  | .come => "come"
  | .door => "door"
  | .per w _ => w.s
def Evt.who : Evt → List Int
  | .per _ p => [p]
  | _ => []
abbrev dEvt (e : Evt) : PyData := .tuple (.str e.s :: e.who.map .int)
def putIn (r : Rule) (m : Rm) (s : Nat) : Rm := { m with l := renewed r (m.l.take s ++ ⟨(m.c : Int), .here, []⟩ :: m.l.drop s) (fun i => decide (i = s)), c := m.c + 1 }
def renewFrom (r : Rule) (m : Rm) (s : Nat) : Rm := { m with l := renewed r m.l (fun i => decide (s ≤ i)) }
def howAt (l : Line) (s : Nat) : Option How := (l[s]?).map (·.h)
def bringBack (r : Rule) (m : Rm) (s : Nat) : Rm :=
  if r.back = .asks ∧ howAt m.l s = some .lost then putIn r { m with l := m.l.take s ++ m.l.drop (s + 1) } (m.l.take s ++ m.l.drop (s + 1)).length
  else match r.back with
    | .tells => renewFrom r { m with l := asHow m.l s .here } s
    | .asks => { m with l := renewed r (asHow m.l s .here) (fun i => decide (i = s)) }
    | .old => { m with l := asHow m.l s .here }
def openDoor (r : Rule) (m : Rm) : Rm :=
  let l1 := askedAgain r m.l
  match claiming r l1 with
  | [p] => { m with l := without r l1 p, sv := m.sv ++ [p] }
  | _ => { m with l := l1 }
def doPer (r : Rule) (m : Rm) (w : Wd) (p : Int) : Rm :=
  let s := spotOf m.l p
  match w with
  | .let_ => if r.told then renewFrom r (putIn r m (s + 1)) (s + 2) else putIn r m (s + 1)
  | .leave => { m with l := without r m.l p }
  | .back => bringBack r m s
  | .out => { m with l := asHow m.l s .out }
  | .vanish => { m with l := asHow m.l s .away }
def do1 (r : Rule) (m : Rm) (e : Evt) : Rm := match e with
  | .come => putIn r m m.l.length
  | .door => openDoor r m
  | .per w p => doPer r m w p
def do_ (r : Rule) (m : Rm) (e : Evt) : Rm := { do1 r m e with l := forgetting (do1 r m e).l }
def howOf (l : Line) (p : Int) : Option How := (l.find? fun w => decide (w.p = p)).map (·.h)
def canBe (r : Rule) (m : Rm) : Evt → Bool
  | .come => decide (m.c < 12)
  | .door => m.l.any isHere
  | .per .back p => (decide (howOf m.l p = some .out) || decide (howOf m.l p = some .lost)) && (!(decide (howOf m.l p = some .lost) && decide (r.back = .asks)) || decide (m.c < 12))
  | .per w p => decide (howOf m.l p = some .here) && (decide (w ≠ .let_) || decide (m.c < 12))
def allEv (r : Rule) (m : Rm) : List Evt :=
  (m.l.map (fun w => Evt.per .back w.p) ++ ((hereOf m.l).map (Evt.per .leave) ++ ((hereOf m.l).map (Evt.per .let_) ++ ((hereOf m.l).map (Evt.per .out) ++ (hereOf m.l).map (Evt.per .vanish)))) ++ [Evt.come, Evt.door]).filter (canBe r m)
def evs (r : Rule) (m : Rm) : List Evt := (allEv r m).mergeSort (PySem.W.dataLe false dEvt)
def growing (r : Rule) (m : Rm) : Evt → Bool
  | .come => true
  | .per .let_ _ => true
  | .per .back p => decide (r.back = .asks) && decide (howOf m.l p = some .lost)
  | _ => false
abbrev Pair := Line × Nat
abbrev dPair (x : Pair) : PyData := .tuple [dLine x.1, .int (x.2 : Nat)]
abbrev rm0 (x : Pair) : Rm := ⟨x.1, x.2, []⟩
def ways (r : Rule) (x : Pair) (n : Nat) : List Evt := (evs r (rm0 x)).filter fun e => decide (x.2 < n) || !growing r (rm0 x) e
abbrev behind (r : Rule) (x : Pair) (e : Evt) : Pair := ((do_ r (rm0 x) e).l, (do_ r (rm0 x) e).c)
abbrev served (r : Rule) (x : Pair) (e : Evt) : Option Int := (do_ r (rm0 x) e).sv.head?
def dOpt : Option Int → PyData
  | none => .none
  | some p => .int p
abbrev dWay (r : Rule) (x : Pair) (e : Evt) : PyData := .tuple [dEvt e, dPair (behind r x e), dOpt (served r x e)]
abbrev dRm (r : Rule) (m : Rm) : RoomD := ⟨dRule r, dLine m.l, (m.c : Int), m.sv.map .int⟩
/-- sizes -/
def Okl (l : Line) : Prop := l.length ≤ 60 ∧ ∀ w ∈ l, w.ns.length ≤ 60
def RuleOk (r : Rule) : Prop := 1 ≤ r.k ∧ r.k ≤ 3 ∧ r.t ≤ r.k
abbrev Node := Pair × List Int
def nextN (r : Rule) (x : Node) (e : Evt) : Node := (behind r x.1 e, match served r x.1 e with
  | none => x.2
  | some p => x.2 ++ [p])
def quietE : Evt → Bool
  | .per .leave _ => false
  | .per .vanish _ => false
  | _ => true
abbrev dNode (x : Node) : PyData := .tuple [dPair x.1, dNames x.2]
inductive Reach (r : Rule) (n : Nat) : Node → Prop
  | start : Reach r n (([], 0), [])
  | step {x : Node} {e : Evt} : Reach r n x → e ∈ ways r x.1 n → quietE e = true → Reach r n (nextN r x e)
/-- the orders: all in which people n are served, ascending -/
def Orders (r : Rule) (n : Nat) (os : List (List Int)) : Prop := os.Nodup ∧ os.Pairwise (fun a b => a ≤ b) ∧ ∀ o, o ∈ os ↔ Reach r n (([], n), o)
/-- all that can be reached is among few -/
def Few (r : Rule) (n k : Nat) : Prop := ∃ N : List Node, N.length ≤ k ∧ ∀ x, Reach r n x → x ∈ N

/-! ### promises -/
def G_is_integer (ds : List PyData) (d : PyData) : Prop := ∃ n : Int, ds = [.int n] ∧ d = .bool true
def G_is_between (ds : List PyData) (d : PyData) : Prop := ∃ n a b : Int, ds = [.int n, .int a, .int b] ∧ d = .bool (decide (a ≤ n) && decide (n ≤ b))
def G_is_one_of (ds : List PyData) (d : PyData) : Prop := ∃ (ss : List Str) (s : Str), ds = [.tuple (ss.map .str), .str s] ∧ d = .bool (ss.any fun z => PyData.eqv (.str z) (.str s))
def G_need_rule (ds : List PyData) (d : PyData) : Prop := ∃ r, RuleOk r ∧ ds = [dRule r] ∧ d = dRule r
def G_need_people (ds : List PyData) (d : PyData) : Prop := ∃ n : Nat, 1 ≤ n ∧ n ≤ 6 ∧ ds = [.int n, .int 0] ∧ d = .int n
def G_nearest_ahead (ds : List PyData) (d : PyData) : Prop := ∃ r l s, ds = [dRule r, dLine l, .int (s : Nat)] ∧ Okl l ∧ d = dNames (nearest r l s)
def dSpots (ss : List Nat) : PyData := .list (ss.map fun (i : Nat) => .int (i : Int))
def G_renewed (ds : List PyData) (d : PyData) : Prop := ∃ r l ss, ds = [dRule r, dLine l, dSpots ss] ∧ Okl l ∧ d = dLine (renewed r l (at_ ss))
def G_spot_of (ds : List PyData) (d : PyData) : Prop := ∃ l p, ds = [dLine l, .int p] ∧ Okl l ∧ (∃ w ∈ l, w.p = p) ∧ d = .int (spotOf l p : Nat)
def G_as_how (ds : List PyData) (d : PyData) : Prop := ∃ l s h, ds = [dLine l, .int (s : Nat), .str h.s] ∧ Okl l ∧ s < l.length ∧ d = dLine (asHow l s h)
def G_without (ds : List PyData) (d : PyData) : Prop := ∃ r l p, ds = [dRule r, dLine l, .int p] ∧ Okl l ∧ d = dLine (without r l p)
def G_forgetting (ds : List PyData) (d : PyData) : Prop := ∃ l, ds = [dLine l] ∧ Okl l ∧ d = dLine (forgetting l)
def G_asked_again (ds : List PyData) (d : PyData) : Prop := ∃ r l, ds = [dRule r, dLine l] ∧ Okl l ∧ d = dLine (askedAgain r l)
def G_claiming (ds : List PyData) (d : PyData) : Prop := ∃ r l, ds = [dRule r, dLine l] ∧ Okl l ∧ d = .list ((claiming r l).map .int)
def dHow : Option How → PyData
  | none => .none
  | some h => .str h.s
def G_how_is (x : RoomD) (ds : List PyData) (d : PyData) : Prop := ∃ r m p, x = dRm r m ∧ Okl m.l ∧ ds = [.int p] ∧ d = dHow (howOf m.l p)
def G_are_here (x : RoomD) (ds : List PyData) (d : PyData) : Prop := ∃ r m, x = dRm r m ∧ Okl m.l ∧ ds = [] ∧ d = .list ((hereOf m.l).map .int)
def G_can_be (x : RoomD) (ds : List PyData) (d : PyData) : Prop := ∃ r m e, x = dRm r m ∧ Okl m.l ∧ ds = [dEvt e] ∧ d = .bool (canBe r m e)
def G_all_events (x : RoomD) (ds : List PyData) (d : PyData) : Prop := ∃ r m, x = dRm r m ∧ Okl m.l ∧ ds = [] ∧ d = .list ((evs r m).map dEvt)
def G_is_growing (x : RoomD) (ds : List PyData) (d : PyData) : Prop := ∃ r m e, x = dRm r m ∧ Okl m.l ∧ ds = [dEvt e] ∧ d = .bool (growing r m e)
def G_put_in (x : RoomD) (ds : List PyData) (y : RoomD) : Prop := ∃ r m s, x = dRm r m ∧ Okl m.l ∧ m.l.length < 60 ∧ s ≤ m.l.length ∧ ds = [.int (s : Nat)] ∧ y = dRm r (putIn r m s)
def G_renew_from (x : RoomD) (ds : List PyData) (y : RoomD) : Prop := ∃ r m s, x = dRm r m ∧ Okl m.l ∧ s ≤ 1000 ∧ ds = [.int (s : Nat)] ∧ y = dRm r (renewFrom r m s)
def G_bring_back (x : RoomD) (ds : List PyData) (y : RoomD) : Prop := ∃ r m s, x = dRm r m ∧ Okl m.l ∧ s < m.l.length ∧ ds = [.int (s : Nat)] ∧ y = dRm r (bringBack r m s)
def G_open_door (x : RoomD) (ds : List PyData) (y : RoomD) : Prop := ∃ r m, x = dRm r m ∧ Okl m.l ∧ m.sv.length ≤ 60 ∧ ds = [] ∧ y = dRm r (openDoor r m)
def G_do_personal (x : RoomD) (ds : List PyData) (y : RoomD) : Prop := ∃ r m w p, x = dRm r m ∧ Okl m.l ∧ m.l.length < 60 ∧ (∃ v ∈ m.l, v.p = p) ∧ ds = [.str w.s, .int p] ∧ y = dRm r (doPer r m w p)
/-- somebody of this name is there -/
def there (l : Line) : Evt → Prop
  | .per _ p => ∃ v ∈ l, v.p = p
  | _ => True
def G_do (x : RoomD) (ds : List PyData) (y : RoomD) : Prop := ∃ r m e, x = dRm r m ∧ Okl m.l ∧ m.l.length < 60 ∧ m.sv.length ≤ 60 ∧ there m.l e ∧ ds = [dEvt e] ∧ y = dRm r (do_ r m e)
def G_ways_on (ds : List PyData) (d : PyData) : Prop := ∃ r x n, ds = [dRule r, dPair x, .int (n : Nat)] ∧ Okl x.1 ∧ x.1.length < 60 ∧ d = .list ((ways r x n).map (dWay r x))
def G_orders_of (ds : List PyData) (d : PyData) : Prop := ∃ r n os, RuleOk r ∧ 1 ≤ n ∧ n ≤ 6 ∧ Few r n 20000 ∧ Orders r n os ∧ ds = [dRule r, .int (n : Nat)] ∧ d = .tuple (os.map dNames)
theorem How.s_inj : ∀ {a b : How}, a.s = b.s → a = b := by
  intro a b h
  cases a <;> cases b <;> first | rfl | exact absurd h (by decide +kernel)
theorem s_eq {a b : How} : decide (a.s = b.s) = decide (a = b) := by
  by_cases h : a = b
  · rw [h]; simp
  · rw [decide_eq_false h, decide_eq_false fun e => h (How.s_inj e)]
end Ask
-- AskTxt
set_option Elab.async false
set_option linter.all false
set_option maxRecDepth 100000
/-! the text's own names; what each def promises -/
namespace Ask
open PySem PySem.Spec PyProof.Rows L2
def topS (i : Nat) : Stmt := PySem.Challenge.pw_asklast_k15_whole_orders.main.body.getD i (.Pass ⟨0, 0, 0, 0⟩)
/-- a constant of the module -/
def Kst (mg : Str → Option Value) (x : Str) (v : V) : Prop := ∃ u, mg x = some u ∧ RelV v u
structure Txt (mg : Str → Option Value) (aP aC : Addr) : Prop where
  HERE : Kst mg "HERE" (.str "here")
  OUT : Kst mg "OUT" (.str "out")
  LOST : Kst mg "LOST" (.str "lost")
  AWAY : Kst mg "AWAY" (.str "away")
  COME : Kst mg "COME" (.str "come")
  LET : Kst mg "LET" (.str "let")
  VANISH : Kst mg "VANISH" (.str "vanish")
  LEAVE : Kst mg "LEAVE" (.str "leave")
  BACK : Kst mg "BACK" (.str "back")
  DOOR : Kst mg "DOOR" (.str "door")
  LINE : Kst mg "LINE" (.str "line")
  ON : Kst mg "ON" (.str "on")
  ASKS : Kst mg "ASKS" (.str "asks")
  OLD : Kst mg "OLD" (.str "old")
  TELLS : Kst mg "TELLS" (.str "tells")
  TOLD : Kst mg "TOLD" (.str "told")
  MOST_NAMES : Kst mg "MOST_NAMES" (.int 3)
  MOST_PEOPLE : Kst mg "MOST_PEOPLE" (.int 12)
  MOST_PAIRS : Kst mg "MOST_PAIRS" (.int 20000)
  MOST_ROOM : Kst mg "MOST_ROOM" (.int 6)
  PERSONAL : Kst mg "PERSONAL" (.ref aP)
  CHOICES : Kst mg "CHOICES" (.ref aC)
  tuple : mg "tuple" = none
  list : mg "list" = none
  len : mg "len" = none
  any : mg "any" = none
  sorted : mg "sorted" = none
  isinstance : mg "isinstance" = none
  int : mg "int" = none
  str : mg "str" = none
  bool : mg "bool" = none
  min : mg "min" = none
  max : mg "max" = none
  range : mg "range" = none
  enumerate : mg "enumerate" = none
  repr : mg "repr" = none
/-! ### a field as a target -/
def gFld (K : PySem.W.Frag) (ta : TE) (f : Str) : TG := fun v σ H Q => ta σ H fun x H1 => ∃ a C dx fs, x = .ref a ∧ H1 a = some (.ins C dx fs) ∧ Cls K C ∧ NoAttr K C f ∧ fs.length < 1000 ∧ Q σ (upd H1 a (.ins C dx (putF f v fs)))
theorem pg_fld {X : Cx} {o : Expr} {f : Str} {pos : Pos} {ta : TE} (ha : PE X o ta) : PG X (.Attribute o f pos) (gFld X.K ta f) := by
  refine ⟨fun pins s σ H v u Q I r h => ?_⟩
  refine PySem.W.kas_attr (thn (ha.run pins s σ H _ I h) fun ov s2 ⟨x, H2, I2, rx, a, C, dx, fs, ex, ea, c, n, l, q2⟩ => ?_)
  subst ex
  obtain rfl : ov = Value.ref a := rx
  exact setattr_ok I2 ea c n l r fun s3 I3 => ⟨σ, _, I3, q2⟩
def rMin2 : List V → Hp → VK → Prop := fun xs H Q => ∃ i j, xs = [.int i, .int j] ∧ Q (.int (if j < i then j else i)) H
def rMax2 : List V → Hp → VK → Prop := fun xs H Q => ∃ i j, xs = [.int i, .int j] ∧ Q (.int (if j > i then j else i)) H
def rInt1 : List V → Hp → VK → Prop := fun xs H Q => (∃ i, xs = [.int i] ∧ Q (.int i) H) ∨ ∃ k, xs = [.bl k] ∧ Q (.int (if k then 1 else 0)) H
def rLenN (Θ : Th) : List V → Hp → VK → Prop := fun vs H Q => ∃ a xs, vs = [.ref a] ∧ Rd H a (DN Θ.P Θ.w a xs) ∧ (∀ z ∈ xs, KeyN Θ.K H z) ∧ Q (.int xs.length) H
def rListN (Θ : Th) : List V → Hp → VK → Prop := fun vs H Q => ∃ a xs, vs = [.ref a] ∧ Rd H a (DN Θ.P Θ.w a xs) ∧ ∀ p, H p = none → Q (.ref p) (upd H p (.lst (xs.map fun x => V.ref x.2)))
def rReprD (K : PySem.W.Frag) : List V → Hp → VK → Prop := fun xs H Q => ∃ a d, xs = [.ref a] ∧ Dp K H (.ref a) d ∧ d.showable = true ∧ d.hasDict = false ∧ d.depth ≤ 16 ∧ d.shown.length ≤ sizeLine ∧ Q (.str d.shown) H
section
variable {X : Cx}
theorem call_min2K (hc : X.calm = true) : CallR X (.builtin "min") rMin2 := call_min2 hc
theorem call_max2K (hc : X.calm = true) : CallR X (.builtin "max") rMax2 := call_max2 hc
theorem call_int1K : CallR X (.type "int") rInt1 := call_int1
theorem call_lenNK {C aP aC : Addr} : CallR X (.builtin "len") (rLenN ⟨X.prog, X.w, X.K, C, aP, aC⟩) := call_lenN
theorem call_listNK {C aP aC : Addr} (hc : X.calm = true) : CallR X (.type "list") (rListN ⟨X.prog, X.w, X.K, C, aP, aC⟩) := call_listN hc
theorem call_reprK (hg : X.A.guards = some []) (hu : X.A.units + 64 < cLine) : CallR X (.builtin "repr") (rReprD X.K) := call_reprD hg hu
end
/-! ### promises -/
section
variable (Θ : Th)
def sp_is_integer : Sp := spD Θ G_is_integer
def sp_is_between : Sp := spD Θ G_is_between
def sp_is_one_of : Sp := spD Θ G_is_one_of
def sp_need_rule : Sp := spD Θ G_need_rule
def sp_need_people : Sp := spD Θ G_need_people
def sp_nearest_ahead : Sp := spD Θ G_nearest_ahead
def sp_renewed : Sp := spD Θ G_renewed
def sp_spot_of : Sp := spD Θ G_spot_of
def sp_as_how : Sp := spD Θ G_as_how
def sp_without : Sp := spD Θ G_without
def sp_forgetting : Sp := spD Θ G_forgetting
def sp_asked_again : Sp := spD Θ G_asked_again
def sp_claiming : Sp := spD Θ G_claiming
def sp_how_is : Sp := spRd Θ G_how_is
def sp_are_here : Sp := spRd Θ G_are_here
def sp_can_be : Sp := spRd Θ G_can_be
def sp_all_events : Sp := spRd Θ G_all_events
def sp_is_growing : Sp := spRd Θ G_is_growing
def sp_put_in : Sp := spMu Θ G_put_in
def sp_renew_from : Sp := spMu Θ G_renew_from
def sp_bring_back : Sp := spMu Θ G_bring_back
def sp_open_door : Sp := spMu Θ G_open_door
def sp_do_personal : Sp := spMu Θ G_do_personal
def sp_do : Sp := spMu Θ G_do
def sp_ways_on : Sp := spD Θ G_ways_on
def sp_orders_of : Sp := spD Θ G_orders_of
/-- __init__: a new room -/
def sp_init : Sp := fun vs H Q _ => ∃ x dx vr H0 d, vs = [.ref x, vr] ∧ H x = some (.ins Θ.C dx []) ∧ H dx ≠ none ∧ Same H0 H ∧ H0 x = none ∧ Dp Θ.K H0 vr d ∧
  ∀ q H', (∀ a o, a ≠ x → H a = some o → H' a = some o) → H q = none → RoomAt Θ (del (del (ext H0 H H') x) q) H' x q ⟨d, .tuple [], 0, []⟩ → Q .non H'
/-- a def that makes a room -/
def spRm (G : List PyData → RoomD → Prop) : Sp := fun vs H Q _ => ∃ H0 ds r, Same H0 H ∧ DpAll Θ.K H0 vs ds ∧ G ds r ∧
  ∀ p q H', Same H H' → H p = none → H q = none → RoomAt Θ (del (del (ext H0 H H') p) q) H' p q r → Q (.ref p) H'
def G_room_at (ds : List PyData) (y : RoomD) : Prop := ∃ r x, ds = [dRule r, dPair x] ∧ y = dRm r (rm0 x)
def sp_room_at : Sp := spRm Θ G_room_at
end
end Ask
-- AskG
set_option Elab.async false
set_option linter.all false
set_option maxRecDepth 100000
namespace Ask
open PySem PySem.Spec PyProof.Rows L2
variable {P : Program} {w : World} {K : PySem.W.Frag} {mg : Str → Option Value} {base : Heap} {C aP aC : Addr}
abbrev s_is_integer : Stmt := topS 18
theorem sc_is_integer : FnScope ["thing"] ["thing"] (C8.fnScope s_is_integer) := C8.fnScope_by (by decide +kernel)
def t_is_integer (Θ : Th) : TS :=
  (tRet (tAndV (tCB (rIsi Θ.K) (tCons (tVar 0) (tCons (tC (.ty "int")) tNil))) (tNotV (tCB (rIsi Θ.K) (tCons (tVar 0) (tCons (tC (.ty "bool")) tNil))))))
theorem d_is_integer (T : Txt mg aP aC) {f : Addr} {cdv : Value} {A : Around} {outer : List Env} {s : Shared} {H : Hp} {E : XK} (hr : Room 0 (A.deeper (envOfC "is_integer" (C8.fnScope s_is_integer) s.heap.objs.size f cdv))) :
    PSs (cxOf C8.CX0 P w K mg base ["thing"] "is_integer" (C8.fnScope s_is_integer) f cdv A outer s H E).nox (C8.fnBody s_is_integer) (t_is_integer ⟨P, w, K, C, aP, aC⟩) :=
  (pss_one (ps_ret (pe_and (pe_callB call_isi (by rfl) T.isinstance (by decide +kernel) (pa_cons (pv 0) (pa_cons (pe_bltn (by rfl) T.int (by decide +kernel) rfl) pa_nil))) (pe_one (pe_not (pe_callB call_isi (by rfl) T.isinstance (by decide +kernel) (pa_cons (pv 0) (pa_cons (pe_bltn (by rfl) T.bool (by decide +kernel) rfl) pa_nil))))))))
abbrev s_is_between : Stmt := topS 19
theorem sc_is_between : FnScope ["thing", "least", "most"] ["thing", "least", "most"] (C8.fnScope s_is_between) := C8.fnScope_by (by decide +kernel)
def t_is_between (Θ : Th) : TS :=
  (tRet (tAndV (tCall (sp_is_integer Θ) [] C8.E0 (tCons (tVar 0) tNil)) (tChain (rI0 fun i j => .bl (decide (i ≤ j))) (rI0 fun i j => .bl (decide (i ≤ j))) (tVar 1) (tVar 0) (tVar 2))))
theorem d_is_between (T : Txt mg aP aC) (c_is_integer : C8.Cal P w K mg base 1 "is_integer" (sp_is_integer ⟨P, w, K, C, aP, aC⟩) []) {f : Addr} {cdv : Value} {A : Around} {outer : List Env} {s : Shared} {H : Hp} {E : XK} (hr : Room 1 (A.deeper (envOfC "is_between" (C8.fnScope s_is_between) s.heap.objs.size f cdv))) :
    PSs (cxOf C8.CX0 P w K mg base ["thing", "least", "most"] "is_between" (C8.fnScope s_is_between) f cdv A outer s H E).nox (C8.fnBody s_is_between) (t_is_between ⟨P, w, K, C, aP, aC⟩) :=
  (pss_one (ps_ret (pe_and (C8.pe_c c_is_integer hr (by decide) (by rfl) (pa_cons (pv 0) pa_nil)) (pe_one (pe_chain op_le op_le (pv 1) (pv 0) (pv 2))))))
abbrev s_is_one_of : Stmt := topS 20
theorem sc_is_one_of : FnScope ["some", "thing"] ["some", "thing"] (C8.fnScope s_is_one_of) := C8.fnScope_by (by decide +kernel)
def t_is_one_of (Θ : Th) : TS :=
  (tRet (tAndV (tCB (rIsi Θ.K) (tCons (tVar 1) (tCons (tC (.ty "str")) tNil))) (tOp (rIn Θ.K false) (tVar 1) (tVar 0))))
theorem d_is_one_of (T : Txt mg aP aC) {f : Addr} {cdv : Value} {A : Around} {outer : List Env} {s : Shared} {H : Hp} {E : XK} (hr : Room 0 (A.deeper (envOfC "is_one_of" (C8.fnScope s_is_one_of) s.heap.objs.size f cdv))) :
    PSs (cxOf C8.CX0 P w K mg base ["some", "thing"] "is_one_of" (C8.fnScope s_is_one_of) f cdv A outer s H E).nox (C8.fnBody s_is_one_of) (t_is_one_of ⟨P, w, K, C, aP, aC⟩) :=
  (pss_one (ps_ret (pe_and (pe_callB call_isi (by rfl) T.isinstance (by decide +kernel) (pa_cons (pv 1) (pa_cons (pe_bltn (by rfl) T.str (by decide +kernel) rfl) pa_nil))) (pe_one (pe_cmpR op_in_seq (pv 1) (pv 0) (by rfl))))))
abbrev s_need_rule : Stmt := topS 21
theorem sc_need_rule : FnScope ["thing", "number", "some"] ["thing"] (C8.fnScope s_need_rule) := C8.fnScope_by (by decide +kernel)
def t_need_rule (Θ : Th) : TS :=
  (tSeq (tIfS (tOr (tNot (tB (tCB (rIsi Θ.K) (tCons (tVar 0) (tCons (tC (.ty "tuple")) tNil))))) (tTest (tOp rNe (tCB (rLen Θ.K) (tCons (tVar 0) tNil)) (tOp (rI0 fun i j => .int (i + j)) (tC (.int 2)) (tCB (rLen Θ.K) (tCons (tC (.ref Θ.aC)) tNil)))))) tNever tNext)
  (tSeq (tIfS (tNot (tB (tCall (sp_is_between Θ) [] C8.E0 (tCons (tOp (rIx Θ.K) (tVar 0) (tC (.int 0))) (tCons (tC (.int 1)) (tCons (tC (.int 3)) tNil)))))) tNever tNext)
  (tSeq (tIfS (tNot (tB (tCall (sp_is_between Θ) [] C8.E0 (tCons (tOp (rIx Θ.K) (tVar 0) (tC (.int 1))) (tCons (tC (.int 0)) (tCons (tOp (rIx Θ.K) (tVar 0) (tC (.int 0))) tNil)))))) tNever tNext)
  (tSeq (tFor (iEnumT Θ.K (tCons (tC (.ref Θ.aC)) tNil)) (gTup Θ.K 2 (gCons (gName 1) (gCons (gName 2) gNil))) (tIfS (tNot (tB (tCall (sp_is_one_of Θ) [] C8.E0 (tCons (tVar 2) (tCons (tOp (rIx Θ.K) (tVar 0) (tOp (rI0 fun i j => .int (i + j)) (tC (.int 2)) (tVar 1))) tNil))))) tNever tNext))
  (tRet (tVar 0))))))
theorem d_need_rule (T : Txt mg aP aC) (c_is_between : C8.Cal P w K mg base 2 "is_between" (sp_is_between ⟨P, w, K, C, aP, aC⟩) []) (c_is_one_of : C8.Cal P w K mg base 1 "is_one_of" (sp_is_one_of ⟨P, w, K, C, aP, aC⟩) []) {f : Addr} {cdv : Value} {A : Around} {outer : List Env} {s : Shared} {H : Hp} {E : XK} (hr : Room 2 (A.deeper (envOfC "need_rule" (C8.fnScope s_need_rule) s.heap.objs.size f cdv))) :
    PSs (cxOf C8.CX0 P w K mg base ["thing", "number", "some"] "need_rule" (C8.fnScope s_need_rule) f cdv A outer s H E).nox (C8.fnBody s_need_rule) (t_need_rule ⟨P, w, K, C, aP, aC⟩) :=
  (pss_cons (ps_if (PW.pt (pw_or (pt_not (pt_val (pe_callB call_isi (by rfl) T.isinstance (by decide +kernel) (pa_cons (pv 0) (pa_cons (pe_bltn (by rfl) T.tuple (by decide +kernel) rfl) pa_nil))))) (pw_or1 (pt_cmpR op_ne (pe_callB call_lenK (by rfl) T.len (by decide +kernel) (pa_cons (pv 0) pa_nil)) (pe_op op_add pe_int (pe_callB call_lenK (by rfl) T.len (by decide +kernel) (pa_cons (C8.pe_gc rfl T.CHOICES) pa_nil))) (nomark _))))) (pss_one ps_never) pss_nil)
  (pss_cons (ps_if (pt_not (pt_val (C8.pe_c c_is_between hr (by decide) (by rfl) (pa_cons (pe_ix ix_seq (pv 0) pe_int (fun _ _ => rfl)) (pa_cons pe_int (pa_cons (C8.pe_gc rfl T.MOST_NAMES) pa_nil)))))) (pss_one ps_never) pss_nil)
  (pss_cons (ps_if (pt_not (pt_val (C8.pe_c c_is_between hr (by decide) (by rfl) (pa_cons (pe_ix ix_seq (pv 0) pe_int (fun _ _ => rfl)) (pa_cons pe_int (pa_cons (pe_ix ix_seq (pv 0) pe_int (fun _ _ => rfl)) pa_nil)))))) (pss_one ps_never) pss_nil)
  (pss_cons (ps_for PassesOwn.never rfl (pi_enumT (by rfl) T.enumerate (pa_cons (C8.pe_gc rfl T.CHOICES) pa_nil)) (pg_tup rfl (pgs_cons (pg_name (i := 1) sc_need_rule.nd rfl (.inl rfl)) (pgs_cons (pg_name (i := 2) sc_need_rule.nd rfl (.inl rfl)) pgs_nil))) (pss_one (ps_if (pt_not (pt_val (C8.pe_c c_is_one_of hr (by decide) (by rfl) (pa_cons (pv 2) (pa_cons (pe_ix ix_seq (pv 0) (pe_op op_add pe_int (pv 1)) (fun _ _ => rfl)) pa_nil))))) (pss_one ps_never) pss_nil)))
  (pss_one (ps_ret (pv 0)))))))
abbrev s_nearest_ahead : Stmt := topS 35
theorem sc_nearest_ahead : FnScope ["rule", "line", "spot", "hows", "ahead", "person", "how", "names"] ["rule", "line", "spot"] (C8.fnScope s_nearest_ahead) := C8.fnScope_by (by decide +kernel)
def t_nearest_ahead (Θ : Th) : TS :=
  (tSeq (tAsg (tIf (tTest (tOp rEq (tOp (rIx Θ.K) (tVar 0) (tC (.int 2))) (tC (.str "line")))) (tTup (tCons (tC (.str "here")) (tCons (tC (.str "out")) (tCons (tC (.str "away")) tNil)))) (tTup (tCons (tC (.str "here")) tNil))) (gName 3))
  (tSeq (tAsg (tLc (iTup Θ.K (tSl (rSlA Θ.K) (tVar 1) tNoPart (tPart (tVar 2)))) (gTup Θ.K 3 (gCons (gName 5) (gCons (gName 6) (gCons (gName 7) gNil)))) (tTest (tOp (rIn Θ.K false) (tVar 6) (tVar 3))) (tVar 5) [5, 6, 7]) (gName 4))
  (tRet (tCB (rTupOf Θ.K) (tCons (tSl (rSlL Θ.K) (tRevL Θ.K (tVar 4)) tNoPart (tPart (tOp (rIx Θ.K) (tVar 0) (tC (.int 0))))) tNil)))))
theorem d_nearest_ahead (T : Txt mg aP aC) {f : Addr} {cdv : Value} {A : Around} {outer : List Env} {s : Shared} {H : Hp} {E : XK} (hr : Room 0 (A.deeper (envOfC "nearest_ahead" (C8.fnScope s_nearest_ahead) s.heap.objs.size f cdv))) :
    PSs (cxOf C8.CX0 P w K mg base ["rule", "line", "spot", "hows", "ahead", "person", "how", "names"] "nearest_ahead" (C8.fnScope s_nearest_ahead) f cdv A outer s H E).nox (C8.fnBody s_nearest_ahead) (t_nearest_ahead ⟨P, w, K, C, aP, aC⟩) :=
  (pss_cons (ps_set (i := 3) sc_nearest_ahead.nd rfl (.inr rfl) (pe_ifExp (pt_cmpR op_eq (pe_ix ix_seq (pv 0) pe_int (fun _ _ => rfl)) (C8.pe_gc rfl T.LINE) (nomark _)) (pe_tup (pa_cons (C8.pe_gc rfl T.HERE) (pa_cons (C8.pe_gc rfl T.OUT) (pa_cons (C8.pe_gc rfl T.AWAY) pa_nil)))) (pe_tup (pa_cons (C8.pe_gc rfl T.HERE) pa_nil))))
  (pss_cons (ps_setLc (i := 4) (own := [("person", 5), ("how", 6), ("names", 7)]) rfl sc_nearest_ahead.nd rfl rfl (sw_true rfl rfl rfl (by decide +kernel)) (pi_tup (pe_slice sl_tupA (pv 1) po_none (po_some (pv 2)))) (blkOk_by (own := [("person", 5), ("how", 6), ("names", 7)]) (N := ["rule", "line", "spot", "hows", "ahead", "person", "how", "names"]) (sc := C8.fnScope s_nearest_ahead) (by decide +kernel)) (fun _ _ _ _ _ => (pg_tup rfl (pgs_cons (pg_name (i := 5) sc_nearest_ahead.nd rfl (.inl rfl)) (pgs_cons (pg_name (i := 6) sc_nearest_ahead.nd rfl (.inl rfl)) (pgs_cons (pg_name (i := 7) sc_nearest_ahead.nd rfl (.inl rfl)) pgs_nil))))) (fun _ _ _ _ _ => (pts_one (pt_cmpR op_in_seq (pv 6) (pv 3) (by rfl)))) (fun _ _ _ _ _ => (pv 5)))
  (pss_one (ps_ret (pe_callTy call_tupleK (by rfl) T.tuple (by decide +kernel) (pa_cons (pe_slice sl_list (pe_revL (pv 4)) po_none (po_some (pe_ix ix_seq (pv 0) pe_int (fun _ _ => rfl)))) pa_nil))))))
abbrev s_renewed : Stmt := topS 36
theorem sc_renewed : FnScope ["rule", "line", "spots", "found", "spot", "person", "how", "names", "does_take"] ["rule", "line", "spots"] (C8.fnScope s_renewed) := C8.fnScope_by (by decide +kernel)
def t_renewed (Θ : Th) : TS :=
  (tSeq (tAsg (tLst tNil) (gName 3))
  (tSeq (tFor (iEnumT Θ.K (tCons (tVar 1) tNil)) (gTup Θ.K 2 (gCons (gName 4) (gCons (gTup Θ.K 3 (gCons (gName 5) (gCons (gName 6) (gCons (gName 7) gNil)))) gNil))) (tSeq (tAsg (tAndV (tOp (rIn Θ.K false) (tVar 4) (tVar 2)) (tOp rEq (tVar 6) (tC (.str "here")))) (gName 8))
  (tDrop (tBM Θ.K "list" rAppend (tVar 3) (tCons (tTup (tCons (tVar 5) (tCons (tVar 6) (tCons (tIf (tB (tVar 8)) (tCall (sp_nearest_ahead Θ) [] C8.E0 (tCons (tVar 0) (tCons (tVar 1) (tCons (tVar 4) tNil)))) (tVar 7)) tNil)))) tNil)))))
  (tRet (tCB (rTupOf Θ.K) (tCons (tVar 3) tNil)))))
theorem d_renewed (T : Txt mg aP aC) (c_nearest_ahead : C8.Cal P w K mg base 1 "nearest_ahead" (sp_nearest_ahead ⟨P, w, K, C, aP, aC⟩) []) {f : Addr} {cdv : Value} {A : Around} {outer : List Env} {s : Shared} {H : Hp} {E : XK} (hr : Room 1 (A.deeper (envOfC "renewed" (C8.fnScope s_renewed) s.heap.objs.size f cdv))) :
    PSs (cxOf C8.CX0 P w K mg base ["rule", "line", "spots", "found", "spot", "person", "how", "names", "does_take"] "renewed" (C8.fnScope s_renewed) f cdv A outer s H E).nox (C8.fnBody s_renewed) (t_renewed ⟨P, w, K, C, aP, aC⟩) :=
  (pss_cons (ps_set (i := 3) sc_renewed.nd rfl (.inl rfl) (pe_lst pa_nil))
  (pss_cons (ps_for PassesOwn.never rfl (pi_enumT (by rfl) T.enumerate (pa_cons (pv 1) pa_nil)) (pg_tup rfl (pgs_cons (pg_name (i := 4) sc_renewed.nd rfl (.inl rfl)) (pgs_cons (pg_tup rfl (pgs_cons (pg_name (i := 5) sc_renewed.nd rfl (.inl rfl)) (pgs_cons (pg_name (i := 6) sc_renewed.nd rfl (.inl rfl)) (pgs_cons (pg_name (i := 7) sc_renewed.nd rfl (.inl rfl)) pgs_nil)))) pgs_nil))) (pss_cons (ps_set (i := 8) sc_renewed.nd rfl (.inl rfl) (pe_and (pe_cmpR op_in_seq (pv 4) (pv 2) (by rfl)) (pe_one (pe_cmpR op_eq (pv 6) (C8.pe_gc rfl T.HERE) (nomark _)))))
  (pss_one (ps_expr (pe_bm PySem.F.plainAttrs_list PySem.F.slot_list_append PySem.F.type_list_append mt_append (pv 3) (pa_cons (pe_tup (pa_cons (pv 5) (pa_cons (pv 6) (pa_cons (pe_ifExp (pt_val (pv 8)) (C8.pe_c c_nearest_ahead hr (by decide) (by rfl) (pa_cons (pv 0) (pa_cons (pv 1) (pa_cons (pv 4) pa_nil)))) (pv 7)) pa_nil)))) pa_nil))))))
  (pss_one (ps_ret (pe_callTy call_tupleK (by rfl) T.tuple (by decide +kernel) (pa_cons (pv 3) pa_nil))))))
abbrev s_spot_of : Stmt := topS 37
theorem sc_spot_of : FnScope ["line", "person", "one", "how", "names"] ["line", "person"] (C8.fnScope s_spot_of) := C8.fnScope_by (by decide +kernel)
def t_spot_of (Θ : Th) : TS :=
  (tRet (tBM Θ.K "list" (rIndex Θ.K) (tLc (iTup Θ.K (tVar 0)) (gTup Θ.K 3 (gCons (gName 2) (gCons (gName 3) (gCons (gName 4) gNil)))) tYes (tVar 2) [2, 3, 4]) (tCons (tVar 1) tNil)))
theorem d_spot_of (T : Txt mg aP aC) {f : Addr} {cdv : Value} {A : Around} {outer : List Env} {s : Shared} {H : Hp} {E : XK} (hr : Room 0 (A.deeper (envOfC "spot_of" (C8.fnScope s_spot_of) s.heap.objs.size f cdv))) :
    PSs (cxOf C8.CX0 P w K mg base ["line", "person", "one", "how", "names"] "spot_of" (C8.fnScope s_spot_of) f cdv A outer s H E).nox (C8.fnBody s_spot_of) (t_spot_of ⟨P, w, K, C, aP, aC⟩) :=
  (pss_one (ps_ret (pe_bm PySem.F.plainAttrs_list PySem.F.slot_list_index PySem.F.type_list_index mt_index (pe_lc (own := [("one", 2), ("how", 3), ("names", 4)]) rfl sc_spot_of.nd (pi_tup (pv 0)) (blkOk_by (own := [("one", 2), ("how", 3), ("names", 4)]) (N := ["line", "person", "one", "how", "names"]) (sc := C8.fnScope s_spot_of) (by decide +kernel)) (fun _ _ _ _ _ => (pg_tup rfl (pgs_cons (pg_name (i := 2) sc_spot_of.nd rfl (.inl rfl)) (pgs_cons (pg_name (i := 3) sc_spot_of.nd rfl (.inl rfl)) (pgs_cons (pg_name (i := 4) sc_spot_of.nd rfl (.inl rfl)) pgs_nil))))) (fun _ _ _ _ _ => pts_nil) (fun _ _ _ _ _ => (pv 2))) (pa_cons (pv 1) pa_nil))))
abbrev s_as_how : Stmt := topS 38
theorem sc_as_how : FnScope ["line", "spot", "how", "person", "was", "names"] ["line", "spot", "how"] (C8.fnScope s_as_how) := C8.fnScope_by (by decide +kernel)
def t_as_how (Θ : Th) : TS :=
  (tSeq (tAsg (tOp (rIx Θ.K) (tVar 0) (tVar 1)) (gTup Θ.K 3 (gCons (gName 3) (gCons (gName 4) (gCons (gName 5) gNil)))))
  (tRet (tTup (StX.tStar Θ.K (tSl (rSlA Θ.K) (tVar 0) tNoPart (tPart (tVar 1))) (tCons (tTup (tCons (tVar 3) (tCons (tVar 2) (tCons (tIf (tTest (tOp rEq (tVar 2) (tC (.str "away")))) (tTup tNil) (tVar 5)) tNil)))) (StX.tStar Θ.K (tSl (rSlA Θ.K) (tVar 0) (tPart (tOp (rI0 fun i j => .int (i + j)) (tVar 1) (tC (.int 1)))) tNoPart) tNil))))))
theorem d_as_how (T : Txt mg aP aC) {f : Addr} {cdv : Value} {A : Around} {outer : List Env} {s : Shared} {H : Hp} {E : XK} (hr : Room 0 (A.deeper (envOfC "as_how" (C8.fnScope s_as_how) s.heap.objs.size f cdv))) :
    PSs (cxOf C8.CX0 P w K mg base ["line", "spot", "how", "person", "was", "names"] "as_how" (C8.fnScope s_as_how) f cdv A outer s H E).nox (C8.fnBody s_as_how) (t_as_how ⟨P, w, K, C, aP, aC⟩) :=
  (pss_cons (ps_asg (pe_ix ix_seq (pv 0) (pv 1) (fun _ _ => rfl)) (pg_tup rfl (pgs_cons (pg_name (i := 3) sc_as_how.nd rfl (.inl rfl)) (pgs_cons (pg_name (i := 4) sc_as_how.nd rfl (.inl rfl)) (pgs_cons (pg_name (i := 5) sc_as_how.nd rfl (.inl rfl)) pgs_nil)))))
  (pss_one (ps_ret (pe_tup (StX.pa_star (pe_slice sl_tupA (pv 0) po_none (po_some (pv 1))) (pa_cons (pe_tup (pa_cons (pv 3) (pa_cons (pv 2) (pa_cons (pe_ifExp (pt_cmpR op_eq (pv 2) (C8.pe_gc rfl T.AWAY) (nomark _)) (pe_tup pa_nil) (pv 5)) pa_nil)))) (StX.pa_star (pe_slice sl_tupA (pv 0) (po_some (pe_op op_add (pv 1) pe_int)) po_none) pa_nil)))))))
abbrev s_without : Stmt := topS 39
theorem sc_without : FnScope ["rule", "line", "person", "found", "spots", "one", "how", "names", "left", "name"] ["rule", "line", "person"] (C8.fnScope s_without) := C8.fnScope_by (by decide +kernel)
def t_without (Θ : Th) : TS :=
  (tSeq (tPar 3 4 (tCons (tLst tNil) (tCons (tLst tNil) tNil)))
  (tSeq (tFor (iTup Θ.K (tVar 1)) (gTup Θ.K 3 (gCons (gName 5) (gCons (gName 6) (gCons (gName 7) gNil)))) (tSeq (tIfS (tTest (tOp rEq (tVar 5) (tVar 2))) tCont tNext)
  (tSeq (tAsg (tVar 7) (gName 8))
  (tSeq (tIfS (tAnd (tTest (tOp rEq (tVar 6) (tC (.str "here")))) (tTest (tOp (rIn Θ.K false) (tVar 2) (tVar 7)))) (tSeq (tDrop (tBM Θ.K "list" rAppend (tVar 4) (tCons (tCB (rLen Θ.K) (tCons (tVar 3) tNil)) tNil)))
  (tAsg (tCB (rTupOf Θ.K) (tCons (tLc (iTup Θ.K (tVar 7)) (gName 9) (tTest (tOp rNe (tVar 9) (tVar 2))) (tVar 9) [9]) tNil)) (gName 8))) tNext)
  (tDrop (tBM Θ.K "list" rAppend (tVar 3) (tCons (tTup (tCons (tVar 5) (tCons (tVar 6) (tCons (tVar 8) tNil)))) tNil)))))))
  (tRet (tCall (sp_renewed Θ) [] C8.E0 (tCons (tVar 0) (tCons (tCB (rTupOf Θ.K) (tCons (tVar 3) tNil)) (tCons (tIf (tTest (tOp rEq (tOp (rIx Θ.K) (tVar 0) (tC (.int 3))) (tC (.str "on")))) (tVar 4) (tLst tNil)) tNil)))))))
theorem d_without (T : Txt mg aP aC) (c_renewed : C8.Cal P w K mg base 2 "renewed" (sp_renewed ⟨P, w, K, C, aP, aC⟩) []) {f : Addr} {cdv : Value} {A : Around} {outer : List Env} {s : Shared} {H : Hp} {E : XK} (hr : Room 2 (A.deeper (envOfC "without" (C8.fnScope s_without) s.heap.objs.size f cdv))) :
    PSs (cxOf C8.CX0 P w K mg base ["rule", "line", "person", "found", "spots", "one", "how", "names", "left", "name"] "without" (C8.fnScope s_without) f cdv A outer s H E).nox (C8.fnBody s_without) (t_without ⟨P, w, K, C, aP, aC⟩) :=
  (pss_cons (ps_par (by rfl) sc_without.nd rfl rfl (by decide) rfl rfl (pa_cons (pe_lst pa_nil) (pa_cons (pe_lst pa_nil) pa_nil)) (by rfl))
  (pss_cons (ps_for PassesOwn.never rfl (pi_tup (pv 1)) (pg_tup rfl (pgs_cons (pg_name (i := 5) sc_without.nd rfl (.inl rfl)) (pgs_cons (pg_name (i := 6) sc_without.nd rfl (.inl rfl)) (pgs_cons (pg_name (i := 7) sc_without.nd rfl (.inl rfl)) pgs_nil)))) (pss_cons (ps_if (pt_cmpR op_eq (pv 5) (pv 2) (nomark _)) (pss_one ps_continue) pss_nil)
  (pss_cons (ps_set (i := 8) sc_without.nd rfl (.inl rfl) (pv 7))
  (pss_cons (ps_if (PW.pt (pw_and (pt_cmpR op_eq (pv 6) (C8.pe_gc rfl T.HERE) (nomark _)) (pw_and1 (pt_cmpR op_in_seq (pv 2) (pv 7) (by rfl))))) (pss_cons (ps_expr (pe_bm PySem.F.plainAttrs_list PySem.F.slot_list_append PySem.F.type_list_append mt_append (pv 4) (pa_cons (pe_callB call_lenK (by rfl) T.len (by decide +kernel) (pa_cons (pv 3) pa_nil)) pa_nil)))
  (pss_one (ps_set (i := 8) sc_without.nd rfl (.inl rfl) (pe_callTy call_tupleK (by rfl) T.tuple (by decide +kernel) (pa_cons (pe_lc (own := [("name", 9)]) rfl sc_without.nd (pi_tup (pv 7)) (blkOk_by (own := [("name", 9)]) (N := ["rule", "line", "person", "found", "spots", "one", "how", "names", "left", "name"]) (sc := C8.fnScope s_without) (by decide +kernel)) (fun _ _ _ _ _ => (pg_name (i := 9) sc_without.nd rfl (.inl rfl))) (fun _ _ _ _ _ => (pts_one (pt_cmpR op_ne (pv 9) (pv 2) (nomark _)))) (fun _ _ _ _ _ => (pv 9))) pa_nil))))) pss_nil)
  (pss_one (ps_expr (pe_bm PySem.F.plainAttrs_list PySem.F.slot_list_append PySem.F.type_list_append mt_append (pv 3) (pa_cons (pe_tup (pa_cons (pv 5) (pa_cons (pv 6) (pa_cons (pv 8) pa_nil)))) pa_nil))))))))
  (pss_one (ps_ret (C8.pe_c c_renewed hr (by decide) (by rfl) (pa_cons (pv 0) (pa_cons (pe_callTy call_tupleK (by rfl) T.tuple (by decide +kernel) (pa_cons (pv 3) pa_nil)) (pa_cons (pe_ifExp (pt_cmpR op_eq (pe_ix ix_seq (pv 0) pe_int (fun _ _ => rfl)) (C8.pe_gc rfl T.ON) (nomark _)) (pv 4) (pe_lst pa_nil)) pa_nil))))))))
abbrev s_forgetting : Stmt := topS 40
theorem sc_forgetting : FnScope ["line", "person", "how", "names"] ["line"] (C8.fnScope s_forgetting) := C8.fnScope_by (by decide +kernel)
def t_forgetting (Θ : Th) : TS :=
  (tSeq (tIfS (tB (tCB (rAny Θ.K) (tCons (tLc (iTup Θ.K (tVar 0)) (gTup Θ.K 3 (gCons (gName 1) (gCons (gName 2) (gCons (gName 3) gNil)))) tYes (tOp rEq (tVar 2) (tC (.str "here"))) [1, 2, 3]) tNil))) (tRet (tVar 0)) tNext)
  (tRet (tCB (rTupOf Θ.K) (tCons (tLc (iTup Θ.K (tVar 0)) (gTup Θ.K 3 (gCons (gName 1) (gCons (gName 2) (gCons (gName 3) gNil)))) (tTest (tOp rNe (tVar 2) (tC (.str "away")))) (tTup (tCons (tVar 1) (tCons (tC (.str "lost")) (tCons (tVar 3) tNil)))) [1, 2, 3]) tNil))))
theorem d_forgetting (T : Txt mg aP aC) {f : Addr} {cdv : Value} {A : Around} {outer : List Env} {s : Shared} {H : Hp} {E : XK} (hr : Room 0 (A.deeper (envOfC "forgetting" (C8.fnScope s_forgetting) s.heap.objs.size f cdv))) :
    PSs (cxOf C8.CX0 P w K mg base ["line", "person", "how", "names"] "forgetting" (C8.fnScope s_forgetting) f cdv A outer s H E).nox (C8.fnBody s_forgetting) (t_forgetting ⟨P, w, K, C, aP, aC⟩) :=
  (pss_cons (ps_if (pt_val (pe_callB (cr_any rfl) (by rfl) T.any (by decide +kernel) (pa_cons (pe_lc (own := [("person", 1), ("how", 2), ("names", 3)]) rfl sc_forgetting.nd (pi_tup (pv 0)) (blkOk_by (own := [("person", 1), ("how", 2), ("names", 3)]) (N := ["line", "person", "how", "names"]) (sc := C8.fnScope s_forgetting) (by decide +kernel)) (fun _ _ _ _ _ => (pg_tup rfl (pgs_cons (pg_name (i := 1) sc_forgetting.nd rfl (.inl rfl)) (pgs_cons (pg_name (i := 2) sc_forgetting.nd rfl (.inl rfl)) (pgs_cons (pg_name (i := 3) sc_forgetting.nd rfl (.inl rfl)) pgs_nil))))) (fun _ _ _ _ _ => pts_nil) (fun _ _ _ _ _ => (pe_cmpR op_eq (pv 2) (C8.pe_gc rfl T.HERE) (nomark _)))) pa_nil))) (pss_one (ps_ret (pv 0))) pss_nil)
  (pss_one (ps_ret (pe_callTy call_tupleK (by rfl) T.tuple (by decide +kernel) (pa_cons (pe_lc (own := [("person", 1), ("how", 2), ("names", 3)]) rfl sc_forgetting.nd (pi_tup (pv 0)) (blkOk_by (own := [("person", 1), ("how", 2), ("names", 3)]) (N := ["line", "person", "how", "names"]) (sc := C8.fnScope s_forgetting) (by decide +kernel)) (fun _ _ _ _ _ => (pg_tup rfl (pgs_cons (pg_name (i := 1) sc_forgetting.nd rfl (.inl rfl)) (pgs_cons (pg_name (i := 2) sc_forgetting.nd rfl (.inl rfl)) (pgs_cons (pg_name (i := 3) sc_forgetting.nd rfl (.inl rfl)) pgs_nil))))) (fun _ _ _ _ _ => (pts_one (pt_cmpR op_ne (pv 2) (C8.pe_gc rfl T.AWAY) (nomark _)))) (fun _ _ _ _ _ => (pe_tup (pa_cons (pv 1) (pa_cons (C8.pe_gc rfl T.LOST) (pa_cons (pv 3) pa_nil)))))) pa_nil)))))
abbrev s_asked_again : Stmt := topS 41
theorem sc_asked_again : FnScope ["rule", "line", "spot", "person", "how", "names"] ["rule", "line"] (C8.fnScope s_asked_again) := C8.fnScope_by (by decide +kernel)
def t_asked_again (Θ : Th) : TS :=
  (tSeq (tIfS (tTest (tOp rNe (tOp (rIx Θ.K) (tVar 0) (tC (.int 6))) (tC (.str "asks")))) (tRet (tVar 1)) tNext)
  (tRet (tCall (sp_renewed Θ) [] C8.E0 (tCons (tVar 0) (tCons (tVar 1) (tCons (tLc (iEnumT Θ.K (tCons (tVar 1) tNil)) (gTup Θ.K 2 (gCons (gName 2) (gCons (gTup Θ.K 3 (gCons (gName 3) (gCons (gName 4) (gCons (gName 5) gNil)))) gNil))) (tTest (tOp (rEqD Θ.K) (tVar 5) (tTup tNil))) (tVar 2) [2, 3, 4, 5]) tNil))))))
theorem d_asked_again (T : Txt mg aP aC) (c_renewed : C8.Cal P w K mg base 2 "renewed" (sp_renewed ⟨P, w, K, C, aP, aC⟩) []) {f : Addr} {cdv : Value} {A : Around} {outer : List Env} {s : Shared} {H : Hp} {E : XK} (hr : Room 2 (A.deeper (envOfC "asked_again" (C8.fnScope s_asked_again) s.heap.objs.size f cdv))) :
    PSs (cxOf C8.CX0 P w K mg base ["rule", "line", "spot", "person", "how", "names"] "asked_again" (C8.fnScope s_asked_again) f cdv A outer s H E).nox (C8.fnBody s_asked_again) (t_asked_again ⟨P, w, K, C, aP, aC⟩) :=
  (pss_cons (ps_if (pt_cmpR op_ne (pe_ix ix_seq (pv 0) pe_int (fun _ _ => rfl)) (C8.pe_gc rfl T.ASKS) (nomark _)) (pss_one (ps_ret (pv 1))) pss_nil)
  (pss_one (ps_ret (C8.pe_c c_renewed hr (by decide) (by rfl) (pa_cons (pv 0) (pa_cons (pv 1) (pa_cons (pe_lc (own := [("spot", 2), ("person", 3), ("how", 4), ("names", 5)]) rfl sc_asked_again.nd (pi_enumT (by rfl) T.enumerate (pa_cons (pv 1) pa_nil)) (blkOk_by (own := [("spot", 2), ("person", 3), ("how", 4), ("names", 5)]) (N := ["rule", "line", "spot", "person", "how", "names"]) (sc := C8.fnScope s_asked_again) (by decide +kernel)) (fun _ _ _ _ _ => (pg_tup rfl (pgs_cons (pg_name (i := 2) sc_asked_again.nd rfl (.inl rfl)) (pgs_cons (pg_tup rfl (pgs_cons (pg_name (i := 3) sc_asked_again.nd rfl (.inl rfl)) (pgs_cons (pg_name (i := 4) sc_asked_again.nd rfl (.inl rfl)) (pgs_cons (pg_name (i := 5) sc_asked_again.nd rfl (.inl rfl)) pgs_nil)))) pgs_nil)))) (fun _ _ _ _ _ => (pts_one (pt_cmpR (op_eqD hr.units) (pv 5) (pe_tup pa_nil) (nomark _)))) (fun _ _ _ _ _ => (pv 2))) pa_nil)))))))
abbrev s_claiming : Stmt := topS 42
theorem sc_claiming : FnScope ["rule", "line", "here", "found", "person", "how", "names", "name"] ["rule", "line"] (C8.fnScope s_claiming) := C8.fnScope_by (by decide +kernel)
def t_claiming (Θ : Th) : TS :=
  (tSeq (tAsg (tLc (iTup Θ.K (tVar 1)) (gTup Θ.K 3 (gCons (gName 4) (gCons (gName 5) (gCons (gName 6) gNil)))) (tTest (tOp rEq (tVar 5) (tC (.str "here")))) (tVar 4) [4, 5, 6]) (gName 2))
  (tSeq (tAsg (tLst tNil) (gName 3))
  (tSeq (tFor (iTup Θ.K (tVar 1)) (gTup Θ.K 3 (gCons (gName 4) (gCons (gName 5) (gCons (gName 6) gNil)))) (tIfS (tAnd (tTest (tOp rEq (tVar 5) (tC (.str "here")))) (tAnd (tTest (tOp (rI0 fun i j => .bl (decide (i ≤ j))) (tCB (rLen Θ.K) (tCons (tVar 6) tNil)) (tOp (rIx Θ.K) (tVar 0) (tC (.int 1))))) (tNot (tB (tCB (rAny Θ.K) (tCons (tLc (iTup Θ.K (tVar 6)) (gName 7) tYes (tOp (rIn Θ.K false) (tVar 7) (tVar 2)) [7]) tNil)))))) (tDrop (tBM Θ.K "list" rAppend (tVar 3) (tCons (tVar 4) tNil))) tNext))
  (tRet (tVar 3)))))
theorem d_claiming (T : Txt mg aP aC) {f : Addr} {cdv : Value} {A : Around} {outer : List Env} {s : Shared} {H : Hp} {E : XK} (hr : Room 0 (A.deeper (envOfC "claiming" (C8.fnScope s_claiming) s.heap.objs.size f cdv))) :
    PSs (cxOf C8.CX0 P w K mg base ["rule", "line", "here", "found", "person", "how", "names", "name"] "claiming" (C8.fnScope s_claiming) f cdv A outer s H E).nox (C8.fnBody s_claiming) (t_claiming ⟨P, w, K, C, aP, aC⟩) :=
  (pss_cons (ps_set (i := 2) sc_claiming.nd rfl (.inr rfl) (pe_lc (own := [("person", 4), ("how", 5), ("names", 6)]) rfl sc_claiming.nd (pi_tup (pv 1)) (blkOk_by (own := [("person", 4), ("how", 5), ("names", 6)]) (N := ["rule", "line", "here", "found", "person", "how", "names", "name"]) (sc := C8.fnScope s_claiming) (by decide +kernel)) (fun _ _ _ _ _ => (pg_tup rfl (pgs_cons (pg_name (i := 4) sc_claiming.nd rfl (.inl rfl)) (pgs_cons (pg_name (i := 5) sc_claiming.nd rfl (.inl rfl)) (pgs_cons (pg_name (i := 6) sc_claiming.nd rfl (.inl rfl)) pgs_nil))))) (fun _ _ _ _ _ => (pts_one (pt_cmpR op_eq (pv 5) (C8.pe_gc rfl T.HERE) (nomark _)))) (fun _ _ _ _ _ => (pv 4))))
  (pss_cons (ps_set (i := 3) sc_claiming.nd rfl (.inl rfl) (pe_lst pa_nil))
  (pss_cons (ps_for PassesOwn.never rfl (pi_tup (pv 1)) (pg_tup rfl (pgs_cons (pg_name (i := 4) sc_claiming.nd rfl (.inl rfl)) (pgs_cons (pg_name (i := 5) sc_claiming.nd rfl (.inl rfl)) (pgs_cons (pg_name (i := 6) sc_claiming.nd rfl (.inl rfl)) pgs_nil)))) (pss_one (ps_if (PW.pt (pw_and (pt_cmpR op_eq (pv 5) (C8.pe_gc rfl T.HERE) (nomark _)) (pw_and (pt_cmpR op_le (pe_callB call_lenK (by rfl) T.len (by decide +kernel) (pa_cons (pv 6) pa_nil)) (pe_ix ix_seq (pv 0) pe_int (fun _ _ => rfl)) (nomark _)) (pw_and1 (pt_not (pt_val (pe_callB (cr_any rfl) (by rfl) T.any (by decide +kernel) (pa_cons (pe_lc (own := [("name", 7)]) rfl sc_claiming.nd (pi_tup (pv 6)) (blkOk_by (own := [("name", 7)]) (N := ["rule", "line", "here", "found", "person", "how", "names", "name"]) (sc := C8.fnScope s_claiming) (by decide +kernel)) (fun _ _ _ _ _ => (pg_name (i := 7) sc_claiming.nd rfl (.inl rfl))) (fun _ _ _ _ _ => pts_nil) (fun _ _ _ _ _ => (pe_cmpR op_in_seq (pv 7) (pv 2) (by rfl)))) pa_nil)))))))) (pss_one (ps_expr (pe_bm PySem.F.plainAttrs_list PySem.F.slot_list_append PySem.F.type_list_append mt_append (pv 3) (pa_cons (pv 4) pa_nil)))) pss_nil)))
  (pss_one (ps_ret (pv 3))))))
abbrev s_init : Stmt := (C8.clsBody (topS 43)).getD 0 (.Pass ⟨0, 0, 0, 0⟩)
theorem sc_init : FnScope ["self", "rule"] ["self", "rule"] (C8.fnScope s_init) := C8.fnScope_by (by decide +kernel)
def t_init (Θ : Th) : TS :=
  (tSeq (sFld Θ.K (tVar 0) (tVar 1) "own_rule")
  (tSeq (sFld Θ.K (tVar 0) (tTup tNil) "line_now")
  (tSeq (sFld Θ.K (tVar 0) (tC (.int 0)) "came_so_far")
  (sFld Θ.K (tVar 0) (tLst tNil) "served_so_far"))))
theorem d_init (T : Txt mg aP aC) {f : Addr} {cdv : Value} {A : Around} {outer : List Env} {s : Shared} {H : Hp} {E : XK} (hr : Room 0 (A.deeper (envOfC "Room.__init__" (C8.fnScope s_init) s.heap.objs.size f cdv))) :
    PSs (cxOf C8.CX0 P w K mg base ["self", "rule"] "Room.__init__" (C8.fnScope s_init) f cdv A outer s H E).nox (C8.fnBody s_init) (t_init ⟨P, w, K, C, aP, aC⟩) :=
  (pss_cons (ps_fld (pv 0) (pv 1) rfl)
  (pss_cons (ps_fld (pv 0) (pe_tup pa_nil) rfl)
  (pss_cons (ps_fld (pv 0) pe_int rfl)
  (pss_one (ps_fld (pv 0) (pe_lst pa_nil) rfl)))))
abbrev s_how_is : Stmt := (C8.clsBody (topS 43)).getD 1 (.Pass ⟨0, 0, 0, 0⟩)
theorem sc_how_is : FnScope ["self", "person", "found", "one", "how", "names"] ["self", "person"] (C8.fnScope s_how_is) := C8.fnScope_by (by decide +kernel)
def t_how_is (Θ : Th) : TS :=
  (tSeq (tAsg (tLc (iTup Θ.K (tFld Θ.K (tVar 0) "line_now")) (gTup Θ.K 3 (gCons (gName 3) (gCons (gName 4) (gCons (gName 5) gNil)))) (tTest (tOp rEq (tVar 3) (tVar 1))) (tVar 4) [3, 4, 5]) (gName 2))
  (tRet (tIf (tTest (tOp (rNeD Θ.K) (tVar 2) (tLst tNil))) (tOp (rIx Θ.K) (tVar 2) (tC (.int 0))) (tC .non))))
theorem d_how_is (T : Txt mg aP aC) {f : Addr} {cdv : Value} {A : Around} {outer : List Env} {s : Shared} {H : Hp} {E : XK} (hr : Room 0 (A.deeper (envOfC "Room.how_is" (C8.fnScope s_how_is) s.heap.objs.size f cdv))) :
    PSs (cxOf C8.CX0 P w K mg base ["self", "person", "found", "one", "how", "names"] "Room.how_is" (C8.fnScope s_how_is) f cdv A outer s H E).nox (C8.fnBody s_how_is) (t_how_is ⟨P, w, K, C, aP, aC⟩) :=
  (pss_cons (ps_setLc (i := 2) (own := [("one", 3), ("how", 4), ("names", 5)]) rfl sc_how_is.nd rfl rfl (sw_true rfl rfl rfl (by decide +kernel)) (pi_tup (pe_fld (pv 0) rfl)) (blkOk_by (own := [("one", 3), ("how", 4), ("names", 5)]) (N := ["self", "person", "found", "one", "how", "names"]) (sc := C8.fnScope s_how_is) (by decide +kernel)) (fun _ _ _ _ _ => (pg_tup rfl (pgs_cons (pg_name (i := 3) sc_how_is.nd rfl (.inl rfl)) (pgs_cons (pg_name (i := 4) sc_how_is.nd rfl (.inl rfl)) (pgs_cons (pg_name (i := 5) sc_how_is.nd rfl (.inl rfl)) pgs_nil))))) (fun _ _ _ _ _ => (pts_one (pt_cmpR op_eq (pv 3) (pv 1) (nomark _)))) (fun _ _ _ _ _ => (pv 4)))
  (pss_one (ps_ret (pe_ifExp (pt_cmpR (op_neD hr.units) (pv 2) (pe_lst pa_nil) (nomark _)) (pe_ix ix_seq (pv 2) pe_int (fun _ _ => rfl)) pe_non))))
abbrev s_are_here : Stmt := (C8.clsBody (topS 43)).getD 2 (.Pass ⟨0, 0, 0, 0⟩)
theorem sc_are_here : FnScope ["self", "person", "how", "names"] ["self"] (C8.fnScope s_are_here) := C8.fnScope_by (by decide +kernel)
def t_are_here (Θ : Th) : TS :=
  (tRet (tLc (iTup Θ.K (tFld Θ.K (tVar 0) "line_now")) (gTup Θ.K 3 (gCons (gName 1) (gCons (gName 2) (gCons (gName 3) gNil)))) (tTest (tOp rEq (tVar 2) (tC (.str "here")))) (tVar 1) [1, 2, 3]))
theorem d_are_here (T : Txt mg aP aC) {f : Addr} {cdv : Value} {A : Around} {outer : List Env} {s : Shared} {H : Hp} {E : XK} (hr : Room 0 (A.deeper (envOfC "Room.are_here" (C8.fnScope s_are_here) s.heap.objs.size f cdv))) :
    PSs (cxOf C8.CX0 P w K mg base ["self", "person", "how", "names"] "Room.are_here" (C8.fnScope s_are_here) f cdv A outer s H E).nox (C8.fnBody s_are_here) (t_are_here ⟨P, w, K, C, aP, aC⟩) :=
  (pss_one (ps_ret (pe_lc (own := [("person", 1), ("how", 2), ("names", 3)]) rfl sc_are_here.nd (pi_tup (pe_fld (pv 0) rfl)) (blkOk_by (own := [("person", 1), ("how", 2), ("names", 3)]) (N := ["self", "person", "how", "names"]) (sc := C8.fnScope s_are_here) (by decide +kernel)) (fun _ _ _ _ _ => (pg_tup rfl (pgs_cons (pg_name (i := 1) sc_are_here.nd rfl (.inl rfl)) (pgs_cons (pg_name (i := 2) sc_are_here.nd rfl (.inl rfl)) (pgs_cons (pg_name (i := 3) sc_are_here.nd rfl (.inl rfl)) pgs_nil))))) (fun _ _ _ _ _ => (pts_one (pt_cmpR op_eq (pv 2) (C8.pe_gc rfl T.HERE) (nomark _)))) (fun _ _ _ _ _ => (pv 1)))))
abbrev s_can_be : Stmt := (C8.clsBody (topS 43)).getD 3 (.Pass ⟨0, 0, 0, 0⟩)
theorem sc_can_be : FnScope ["self", "event", "word", "how", "is_new"] ["self", "event"] (C8.fnScope s_can_be) := C8.fnScope_by (by decide +kernel)
def t_can_be (Θ : Th) : TS :=
  (tSeq (tAsg (tOp (rIx Θ.K) (tVar 1) (tC (.int 0))) (gName 2))
  (tSeq (tIfS (tTest (tOp rEq (tVar 2) (tC (.str "come")))) (tRet (tOp (rI0 fun i j => .bl (decide (i < j))) (tFld Θ.K (tVar 0) "came_so_far") (tC (.int 12)))) tNext)
  (tSeq (tIfS (tTest (tOp rEq (tVar 2) (tC (.str "door")))) (tRet (tOp (rNeD Θ.K) (tMeth Θ.C "are_here" (sp_are_here Θ) [] C8.E0 (tVar 0) tNil) (tLst tNil))) tNext)
  (tSeq (tAsg (tMeth Θ.C "how_is" (sp_how_is Θ) [] C8.E0 (tVar 0) (tCons (tOp (rIx Θ.K) (tVar 1) (tC (.int 1))) tNil)) (gName 3))
  (tSeq (tIfS (tTest (tOp rEq (tVar 2) (tC (.str "back")))) (tSeq (tAsg (tAndV (tOp rEq (tVar 3) (tC (.str "lost"))) (tOp rEq (tOp (rIx Θ.K) (tFld Θ.K (tVar 0) "own_rule") (tC (.int 4))) (tC (.str "asks")))) (gName 4))
  (tRet (tAndV (tOp (rIn Θ.K false) (tVar 3) (tTup (tCons (tC (.str "out")) (tCons (tC (.str "lost")) tNil)))) (tOrV (tNotV (tVar 4)) (tOp (rI0 fun i j => .bl (decide (i < j))) (tFld Θ.K (tVar 0) "came_so_far") (tC (.int 12))))))) tNext)
  (tRet (tAndV (tOp rEq (tVar 3) (tC (.str "here"))) (tOrV (tOp rNe (tVar 2) (tC (.str "let"))) (tOp (rI0 fun i j => .bl (decide (i < j))) (tFld Θ.K (tVar 0) "came_so_far") (tC (.int 12)))))))))))
theorem d_can_be (T : Txt mg aP aC) (c_are_here : C8.Met P w K mg base 1 C "are_here" (sp_are_here ⟨P, w, K, C, aP, aC⟩) []) (c_how_is : C8.Met P w K mg base 1 C "how_is" (sp_how_is ⟨P, w, K, C, aP, aC⟩) []) {f : Addr} {cdv : Value} {A : Around} {outer : List Env} {s : Shared} {H : Hp} {E : XK} (hr : Room 1 (A.deeper (envOfC "Room.can_be" (C8.fnScope s_can_be) s.heap.objs.size f cdv))) :
    PSs (cxOf C8.CX0 P w K mg base ["self", "event", "word", "how", "is_new"] "Room.can_be" (C8.fnScope s_can_be) f cdv A outer s H E).nox (C8.fnBody s_can_be) (t_can_be ⟨P, w, K, C, aP, aC⟩) :=
  (pss_cons (ps_set (i := 2) sc_can_be.nd rfl (.inl rfl) (pe_ix ix_seq (pv 1) pe_int (fun _ _ => rfl)))
  (pss_cons (ps_if (pt_cmpR op_eq (pv 2) (C8.pe_gc rfl T.COME) (nomark _)) (pss_one (ps_ret (pe_cmpR op_lt (pe_fld (pv 0) rfl) (C8.pe_gc rfl T.MOST_PEOPLE) (nomark _)))) pss_nil)
  (pss_cons (ps_if (pt_cmpR op_eq (pv 2) (C8.pe_gc rfl T.DOOR) (nomark _)) (pss_one (ps_ret (pe_cmpR (op_neD hr.units) (C8.pe_mt0 c_are_here hr (by decide) (pv 0)) (pe_lst pa_nil) (nomark _)))) pss_nil)
  (pss_cons (ps_set (i := 3) sc_can_be.nd rfl (.inl rfl) (C8.pe_mt c_how_is hr (by decide) (pv 0) (pa_cons (pe_ix ix_seq (pv 1) pe_int (fun _ _ => rfl)) pa_nil)))
  (pss_cons (ps_if (pt_cmpR op_eq (pv 2) (C8.pe_gc rfl T.BACK) (nomark _)) (pss_cons (ps_set (i := 4) sc_can_be.nd rfl (.inl rfl) (pe_and (pe_cmpR op_eq (pv 3) (C8.pe_gc rfl T.LOST) (nomark _)) (pe_one (pe_cmpR op_eq (pe_ix ix_seq (pe_fld (pv 0) rfl) pe_int (fun _ _ => rfl)) (C8.pe_gc rfl T.ASKS) (nomark _)))))
  (pss_one (ps_ret (pe_and (pe_cmpR op_in_seq (pv 3) (pe_tup (pa_cons (C8.pe_gc rfl T.OUT) (pa_cons (C8.pe_gc rfl T.LOST) pa_nil))) (by rfl)) (pe_one (pe_or (pe_not (pv 4)) (pe_one (pe_cmpR op_lt (pe_fld (pv 0) rfl) (C8.pe_gc rfl T.MOST_PEOPLE) (nomark _))))))))) pss_nil)
  (pss_one (ps_ret (pe_and (pe_cmpR op_eq (pv 3) (C8.pe_gc rfl T.HERE) (nomark _)) (pe_one (pe_or (pe_cmpR op_ne (pv 2) (C8.pe_gc rfl T.LET) (nomark _)) (pe_one (pe_cmpR op_lt (pe_fld (pv 0) rfl) (C8.pe_gc rfl T.MOST_PEOPLE) (nomark _)))))))))))))
abbrev s_put_in : Stmt := (C8.clsBody (topS 43)).getD 4 (.Pass ⟨0, 0, 0, 0⟩)
theorem sc_put_in : FnScope ["self", "spot", "fresh"] ["self", "spot"] (C8.fnScope s_put_in) := C8.fnScope_by (by decide +kernel)
def t_put_in (Θ : Th) : TS :=
  (tSeq (tAsg (tTup (tCons (tFld Θ.K (tVar 0) "came_so_far") (tCons (tC (.str "here")) (tCons (tTup tNil) tNil)))) (gName 2))
  (tSeq (sFld Θ.K (tVar 0) (tCall (sp_renewed Θ) [] C8.E0 (tCons (tFld Θ.K (tVar 0) "own_rule") (tCons (tTup (StX.tStar Θ.K (tSl (rSlA Θ.K) (tFld Θ.K (tVar 0) "line_now") tNoPart (tPart (tVar 1))) (tCons (tVar 2) (StX.tStar Θ.K (tSl (rSlA Θ.K) (tFld Θ.K (tVar 0) "line_now") (tPart (tVar 1)) tNoPart) tNil)))) (tCons (tLst (tCons (tVar 1) tNil)) tNil)))) "line_now")
  (sFldAug Θ.K (tVar 0) (tC (.int 1)) rAdd "came_so_far")))
theorem d_put_in (T : Txt mg aP aC) (c_renewed : C8.Cal P w K mg base 2 "renewed" (sp_renewed ⟨P, w, K, C, aP, aC⟩) []) {f : Addr} {cdv : Value} {A : Around} {outer : List Env} {s : Shared} {H : Hp} {E : XK} (hr : Room 2 (A.deeper (envOfC "Room.put_in" (C8.fnScope s_put_in) s.heap.objs.size f cdv))) :
    PSs (cxOf C8.CX0 P w K mg base ["self", "spot", "fresh"] "Room.put_in" (C8.fnScope s_put_in) f cdv A outer s H E).nox (C8.fnBody s_put_in) (t_put_in ⟨P, w, K, C, aP, aC⟩) :=
  (pss_cons (ps_set (i := 2) sc_put_in.nd rfl (.inl rfl) (pe_tup (pa_cons (pe_fld (pv 0) rfl) (pa_cons (C8.pe_gc rfl T.HERE) (pa_cons (pe_tup pa_nil) pa_nil)))))
  (pss_cons (ps_fld (pv 0) (C8.pe_c c_renewed hr (by decide) (by rfl) (pa_cons (pe_fld (pv 0) rfl) (pa_cons (pe_tup (StX.pa_star (pe_slice sl_tupA (pe_fld (pv 0) rfl) po_none (po_some (pv 1))) (pa_cons (pv 2) (StX.pa_star (pe_slice sl_tupA (pe_fld (pv 0) rfl) (po_some (pv 1)) po_none) pa_nil)))) (pa_cons (pe_lst (pa_cons (pv 1) pa_nil)) pa_nil)))) rfl)
  (pss_one (ps_fldaug (pv 0) pe_int in_add))))
abbrev s_renew_from : Stmt := (C8.clsBody (topS 43)).getD 5 (.Pass ⟨0, 0, 0, 0⟩)
theorem sc_renew_from : FnScope ["self", "spot"] ["self", "spot"] (C8.fnScope s_renew_from) := C8.fnScope_by (by decide +kernel)
def t_renew_from (Θ : Th) : TS :=
  (sFld Θ.K (tVar 0) (tCall (sp_renewed Θ) [] C8.E0 (tCons (tFld Θ.K (tVar 0) "own_rule") (tCons (tFld Θ.K (tVar 0) "line_now") (tCons (tLstRg (tRg2 (tVar 1) (tCB (rLen Θ.K) (tCons (tFld Θ.K (tVar 0) "line_now") tNil)))) tNil)))) "line_now")
theorem d_renew_from (T : Txt mg aP aC) (c_renewed : C8.Cal P w K mg base 2 "renewed" (sp_renewed ⟨P, w, K, C, aP, aC⟩) []) {f : Addr} {cdv : Value} {A : Around} {outer : List Env} {s : Shared} {H : Hp} {E : XK} (hr : Room 2 (A.deeper (envOfC "Room.renew_from" (C8.fnScope s_renew_from) s.heap.objs.size f cdv))) :
    PSs (cxOf C8.CX0 P w K mg base ["self", "spot"] "Room.renew_from" (C8.fnScope s_renew_from) f cdv A outer s H E).nox (C8.fnBody s_renew_from) (t_renew_from ⟨P, w, K, C, aP, aC⟩) :=
  (pss_one (ps_fld (pv 0) (C8.pe_c c_renewed hr (by decide) (by rfl) (pa_cons (pe_fld (pv 0) rfl) (pa_cons (pe_fld (pv 0) rfl) (pa_cons (pe_listRg rfl (by rfl) T.list (prg_2 (by rfl) T.range (pv 1) (pe_callB call_lenK (by rfl) T.len (by decide +kernel) (pa_cons (pe_fld (pv 0) rfl) pa_nil)))) pa_nil)))) rfl))
abbrev s_bring_back : Stmt := (C8.clsBody (topS 43)).getD 6 (.Pass ⟨0, 0, 0, 0⟩)
theorem sc_bring_back : FnScope ["self", "spot", "how"] ["self", "spot"] (C8.fnScope s_bring_back) := C8.fnScope_by (by decide +kernel)
def t_bring_back (Θ : Th) : TS :=
  (tSeq (tAsg (tOp (rIx Θ.K) (tOp (rIx Θ.K) (tFld Θ.K (tVar 0) "line_now") (tVar 1)) (tC (.int 1))) (gName 2))
  (tSeq (tIfS (tAnd (tTest (tOp rEq (tOp (rIx Θ.K) (tFld Θ.K (tVar 0) "own_rule") (tC (.int 4))) (tC (.str "asks")))) (tTest (tOp rEq (tVar 2) (tC (.str "lost"))))) (tSeq (sFld Θ.K (tVar 0) (tTup (StX.tStar Θ.K (tSl (rSlA Θ.K) (tFld Θ.K (tVar 0) "line_now") tNoPart (tPart (tVar 1))) (StX.tStar Θ.K (tSl (rSlA Θ.K) (tFld Θ.K (tVar 0) "line_now") (tPart (tOp (rI0 fun i j => .int (i + j)) (tVar 1) (tC (.int 1)))) tNoPart) tNil))) "line_now")
  (tSeq (tDrop (tMeth Θ.C "put_in" (sp_put_in Θ) [] C8.E0 (tVar 0) (tCons (tCB (rLen Θ.K) (tCons (tFld Θ.K (tVar 0) "line_now") tNil)) tNil)))
  tRetN)) tNext)
  (tSeq (sFld Θ.K (tVar 0) (tCall (sp_as_how Θ) [] C8.E0 (tCons (tFld Θ.K (tVar 0) "line_now") (tCons (tVar 1) (tCons (tC (.str "here")) tNil)))) "line_now")
  (tIfS (tTest (tOp rEq (tOp (rIx Θ.K) (tFld Θ.K (tVar 0) "own_rule") (tC (.int 4))) (tC (.str "tells")))) (tDrop (tMeth Θ.C "renew_from" (sp_renew_from Θ) [] C8.E0 (tVar 0) (tCons (tVar 1) tNil))) (tIfS (tTest (tOp rNe (tOp (rIx Θ.K) (tFld Θ.K (tVar 0) "own_rule") (tC (.int 4))) (tC (.str "old")))) (sFld Θ.K (tVar 0) (tCall (sp_renewed Θ) [] C8.E0 (tCons (tFld Θ.K (tVar 0) "own_rule") (tCons (tFld Θ.K (tVar 0) "line_now") (tCons (tLst (tCons (tVar 1) tNil)) tNil)))) "line_now") tNext)))))
theorem d_bring_back (T : Txt mg aP aC) (c_as_how : C8.Cal P w K mg base 1 "as_how" (sp_as_how ⟨P, w, K, C, aP, aC⟩) []) (c_renewed : C8.Cal P w K mg base 2 "renewed" (sp_renewed ⟨P, w, K, C, aP, aC⟩) []) (c_put_in : C8.Met P w K mg base 3 C "put_in" (sp_put_in ⟨P, w, K, C, aP, aC⟩) []) (c_renew_from : C8.Met P w K mg base 3 C "renew_from" (sp_renew_from ⟨P, w, K, C, aP, aC⟩) []) {f : Addr} {cdv : Value} {A : Around} {outer : List Env} {s : Shared} {H : Hp} {E : XK} (hr : Room 3 (A.deeper (envOfC "Room.bring_back" (C8.fnScope s_bring_back) s.heap.objs.size f cdv))) :
    PSs (cxOf C8.CX0 P w K mg base ["self", "spot", "how"] "Room.bring_back" (C8.fnScope s_bring_back) f cdv A outer s H E).nox (C8.fnBody s_bring_back) (t_bring_back ⟨P, w, K, C, aP, aC⟩) :=
  (pss_cons (ps_set (i := 2) sc_bring_back.nd rfl (.inl rfl) (pe_ix ix_seq (pe_ix ix_seq (pe_fld (pv 0) rfl) (pv 1) (fun _ _ => rfl)) pe_int (fun _ _ => rfl)))
  (pss_cons (ps_if (PW.pt (pw_and (pt_cmpR op_eq (pe_ix ix_seq (pe_fld (pv 0) rfl) pe_int (fun _ _ => rfl)) (C8.pe_gc rfl T.ASKS) (nomark _)) (pw_and1 (pt_cmpR op_eq (pv 2) (C8.pe_gc rfl T.LOST) (nomark _))))) (pss_cons (ps_fld (pv 0) (pe_tup (StX.pa_star (pe_slice sl_tupA (pe_fld (pv 0) rfl) po_none (po_some (pv 1))) (StX.pa_star (pe_slice sl_tupA (pe_fld (pv 0) rfl) (po_some (pe_op op_add (pv 1) pe_int)) po_none) pa_nil))) rfl)
  (pss_cons (ps_expr (C8.pe_mt c_put_in hr (by decide) (pv 0) (pa_cons (pe_callB call_lenK (by rfl) T.len (by decide +kernel) (pa_cons (pe_fld (pv 0) rfl) pa_nil)) pa_nil)))
  (pss_one ps_retN))) pss_nil)
  (pss_cons (ps_fld (pv 0) (C8.pe_c c_as_how hr (by decide) (by rfl) (pa_cons (pe_fld (pv 0) rfl) (pa_cons (pv 1) (pa_cons (C8.pe_gc rfl T.HERE) pa_nil)))) rfl)
  (pss_one (ps_if (pt_cmpR op_eq (pe_ix ix_seq (pe_fld (pv 0) rfl) pe_int (fun _ _ => rfl)) (C8.pe_gc rfl T.TELLS) (nomark _)) (pss_one (ps_expr (C8.pe_mt c_renew_from hr (by decide) (pv 0) (pa_cons (pv 1) pa_nil)))) (pss_one (ps_if (pt_cmpR op_ne (pe_ix ix_seq (pe_fld (pv 0) rfl) pe_int (fun _ _ => rfl)) (C8.pe_gc rfl T.OLD) (nomark _)) (pss_one (ps_fld (pv 0) (C8.pe_c c_renewed hr (by decide) (by rfl) (pa_cons (pe_fld (pv 0) rfl) (pa_cons (pe_fld (pv 0) rfl) (pa_cons (pe_lst (pa_cons (pv 1) pa_nil)) pa_nil)))) rfl)) pss_nil)))))))
abbrev s_open_door : Stmt := (C8.clsBody (topS 43)).getD 7 (.Pass ⟨0, 0, 0, 0⟩)
theorem sc_open_door : FnScope ["self", "some"] ["self"] (C8.fnScope s_open_door) := C8.fnScope_by (by decide +kernel)
def t_open_door (Θ : Th) : TS :=
  (tSeq (sFld Θ.K (tVar 0) (tCall (sp_asked_again Θ) [] C8.E0 (tCons (tFld Θ.K (tVar 0) "own_rule") (tCons (tFld Θ.K (tVar 0) "line_now") tNil))) "line_now")
  (tSeq (tAsg (tCall (sp_claiming Θ) [] C8.E0 (tCons (tFld Θ.K (tVar 0) "own_rule") (tCons (tFld Θ.K (tVar 0) "line_now") tNil))) (gName 1))
  (tIfS (tTest (tOp rEq (tCB (rLen Θ.K) (tCons (tVar 1) tNil)) (tC (.int 1)))) (tSeq (tDrop (tBM Θ.K "list" rAppend (tFld Θ.K (tVar 0) "served_so_far") (tCons (tOp (rIx Θ.K) (tVar 1) (tC (.int 0))) tNil)))
  (sFld Θ.K (tVar 0) (tCall (sp_without Θ) [] C8.E0 (tCons (tFld Θ.K (tVar 0) "own_rule") (tCons (tFld Θ.K (tVar 0) "line_now") (tCons (tOp (rIx Θ.K) (tVar 1) (tC (.int 0))) tNil)))) "line_now")) tNext)))
theorem d_open_door (T : Txt mg aP aC) (c_asked_again : C8.Cal P w K mg base 3 "asked_again" (sp_asked_again ⟨P, w, K, C, aP, aC⟩) []) (c_claiming : C8.Cal P w K mg base 1 "claiming" (sp_claiming ⟨P, w, K, C, aP, aC⟩) []) (c_without : C8.Cal P w K mg base 3 "without" (sp_without ⟨P, w, K, C, aP, aC⟩) []) {f : Addr} {cdv : Value} {A : Around} {outer : List Env} {s : Shared} {H : Hp} {E : XK} (hr : Room 3 (A.deeper (envOfC "Room.open_door" (C8.fnScope s_open_door) s.heap.objs.size f cdv))) :
    PSs (cxOf C8.CX0 P w K mg base ["self", "some"] "Room.open_door" (C8.fnScope s_open_door) f cdv A outer s H E).nox (C8.fnBody s_open_door) (t_open_door ⟨P, w, K, C, aP, aC⟩) :=
  (pss_cons (ps_fld (pv 0) (C8.pe_c c_asked_again hr (by decide) (by rfl) (pa_cons (pe_fld (pv 0) rfl) (pa_cons (pe_fld (pv 0) rfl) pa_nil))) rfl)
  (pss_cons (ps_set (i := 1) sc_open_door.nd rfl (.inl rfl) (C8.pe_c c_claiming hr (by decide) (by rfl) (pa_cons (pe_fld (pv 0) rfl) (pa_cons (pe_fld (pv 0) rfl) pa_nil))))
  (pss_one (ps_if (pt_cmpR op_eq (pe_callB call_lenK (by rfl) T.len (by decide +kernel) (pa_cons (pv 1) pa_nil)) pe_int (nomark _)) (pss_cons (ps_expr (pe_bm PySem.F.plainAttrs_list PySem.F.slot_list_append PySem.F.type_list_append mt_append (pe_fld (pv 0) rfl) (pa_cons (pe_ix ix_seq (pv 1) pe_int (fun _ _ => rfl)) pa_nil)))
  (pss_one (ps_fld (pv 0) (C8.pe_c c_without hr (by decide) (by rfl) (pa_cons (pe_fld (pv 0) rfl) (pa_cons (pe_fld (pv 0) rfl) (pa_cons (pe_ix ix_seq (pv 1) pe_int (fun _ _ => rfl)) pa_nil)))) rfl))) pss_nil))))
abbrev s_do_personal : Stmt := (C8.clsBody (topS 43)).getD 8 (.Pass ⟨0, 0, 0, 0⟩)
theorem sc_do_personal : FnScope ["self", "word", "person", "spot"] ["self", "word", "person"] (C8.fnScope s_do_personal) := C8.fnScope_by (by decide +kernel)
def t_do_personal (Θ : Th) : TS :=
  (tSeq (tAsg (tCall (sp_spot_of Θ) [] C8.E0 (tCons (tFld Θ.K (tVar 0) "line_now") (tCons (tVar 2) tNil))) (gName 3))
  (tIfS (tTest (tOp rEq (tVar 1) (tC (.str "let")))) (tSeq (tDrop (tMeth Θ.C "put_in" (sp_put_in Θ) [] C8.E0 (tVar 0) (tCons (tOp (rI0 fun i j => .int (i + j)) (tVar 3) (tC (.int 1))) tNil)))
  (tIfS (tTest (tOp rEq (tOp (rIx Θ.K) (tFld Θ.K (tVar 0) "own_rule") (tC (.int 5))) (tC (.str "told")))) (tDrop (tMeth Θ.C "renew_from" (sp_renew_from Θ) [] C8.E0 (tVar 0) (tCons (tOp (rI0 fun i j => .int (i + j)) (tVar 3) (tC (.int 2))) tNil))) tNext)) (tIfS (tTest (tOp rEq (tVar 1) (tC (.str "leave")))) (sFld Θ.K (tVar 0) (tCall (sp_without Θ) [] C8.E0 (tCons (tFld Θ.K (tVar 0) "own_rule") (tCons (tFld Θ.K (tVar 0) "line_now") (tCons (tVar 2) tNil)))) "line_now") (tIfS (tTest (tOp rEq (tVar 1) (tC (.str "back")))) (tDrop (tMeth Θ.C "bring_back" (sp_bring_back Θ) [] C8.E0 (tVar 0) (tCons (tVar 3) tNil))) (sFld Θ.K (tVar 0) (tCall (sp_as_how Θ) [] C8.E0 (tCons (tFld Θ.K (tVar 0) "line_now") (tCons (tVar 3) (tCons (tIf (tTest (tOp rEq (tVar 1) (tC (.str "out")))) (tC (.str "out")) (tC (.str "away"))) tNil)))) "line_now")))))
theorem d_do_personal (T : Txt mg aP aC) (c_as_how : C8.Cal P w K mg base 1 "as_how" (sp_as_how ⟨P, w, K, C, aP, aC⟩) []) (c_spot_of : C8.Cal P w K mg base 1 "spot_of" (sp_spot_of ⟨P, w, K, C, aP, aC⟩) []) (c_without : C8.Cal P w K mg base 3 "without" (sp_without ⟨P, w, K, C, aP, aC⟩) []) (c_bring_back : C8.Met P w K mg base 4 C "bring_back" (sp_bring_back ⟨P, w, K, C, aP, aC⟩) []) (c_put_in : C8.Met P w K mg base 3 C "put_in" (sp_put_in ⟨P, w, K, C, aP, aC⟩) []) (c_renew_from : C8.Met P w K mg base 3 C "renew_from" (sp_renew_from ⟨P, w, K, C, aP, aC⟩) []) {f : Addr} {cdv : Value} {A : Around} {outer : List Env} {s : Shared} {H : Hp} {E : XK} (hr : Room 4 (A.deeper (envOfC "Room.do_personal" (C8.fnScope s_do_personal) s.heap.objs.size f cdv))) :
    PSs (cxOf C8.CX0 P w K mg base ["self", "word", "person", "spot"] "Room.do_personal" (C8.fnScope s_do_personal) f cdv A outer s H E).nox (C8.fnBody s_do_personal) (t_do_personal ⟨P, w, K, C, aP, aC⟩) :=
  (pss_cons (ps_set (i := 3) sc_do_personal.nd rfl (.inl rfl) (C8.pe_c c_spot_of hr (by decide) (by rfl) (pa_cons (pe_fld (pv 0) rfl) (pa_cons (pv 2) pa_nil))))
  (pss_one (ps_if (pt_cmpR op_eq (pv 1) (C8.pe_gc rfl T.LET) (nomark _)) (pss_cons (ps_expr (C8.pe_mt c_put_in hr (by decide) (pv 0) (pa_cons (pe_op op_add (pv 3) pe_int) pa_nil)))
  (pss_one (ps_if (pt_cmpR op_eq (pe_ix ix_seq (pe_fld (pv 0) rfl) pe_int (fun _ _ => rfl)) (C8.pe_gc rfl T.TOLD) (nomark _)) (pss_one (ps_expr (C8.pe_mt c_renew_from hr (by decide) (pv 0) (pa_cons (pe_op op_add (pv 3) pe_int) pa_nil)))) pss_nil))) (pss_one (ps_if (pt_cmpR op_eq (pv 1) (C8.pe_gc rfl T.LEAVE) (nomark _)) (pss_one (ps_fld (pv 0) (C8.pe_c c_without hr (by decide) (by rfl) (pa_cons (pe_fld (pv 0) rfl) (pa_cons (pe_fld (pv 0) rfl) (pa_cons (pv 2) pa_nil)))) rfl)) (pss_one (ps_if (pt_cmpR op_eq (pv 1) (C8.pe_gc rfl T.BACK) (nomark _)) (pss_one (ps_expr (C8.pe_mt c_bring_back hr (by decide) (pv 0) (pa_cons (pv 3) pa_nil)))) (pss_one (ps_fld (pv 0) (C8.pe_c c_as_how hr (by decide) (by rfl) (pa_cons (pe_fld (pv 0) rfl) (pa_cons (pv 3) (pa_cons (pe_ifExp (pt_cmpR op_eq (pv 1) (C8.pe_gc rfl T.OUT) (nomark _)) (C8.pe_gc rfl T.OUT) (C8.pe_gc rfl T.AWAY)) pa_nil)))) rfl)))))))))
abbrev s_do : Stmt := (C8.clsBody (topS 43)).getD 9 (.Pass ⟨0, 0, 0, 0⟩)
theorem sc_do : FnScope ["self", "event"] ["self", "event"] (C8.fnScope s_do) := C8.fnScope_by (by decide +kernel)
def t_do (Θ : Th) : TS :=
  (tSeq (tIfS (tTest (tOp rEq (tOp (rIx Θ.K) (tVar 1) (tC (.int 0))) (tC (.str "come")))) (tDrop (tMeth Θ.C "put_in" (sp_put_in Θ) [] C8.E0 (tVar 0) (tCons (tCB (rLen Θ.K) (tCons (tFld Θ.K (tVar 0) "line_now") tNil)) tNil))) (tIfS (tTest (tOp rEq (tOp (rIx Θ.K) (tVar 1) (tC (.int 0))) (tC (.str "door")))) (tDrop (tMeth Θ.C "open_door" (sp_open_door Θ) [] C8.E0 (tVar 0) tNil)) (tDrop (tMeth Θ.C "do_personal" (sp_do_personal Θ) [] C8.E0 (tVar 0) (tCons (tOp (rIx Θ.K) (tVar 1) (tC (.int 0))) (tCons (tOp (rIx Θ.K) (tVar 1) (tC (.int 1))) tNil))))))
  (sFld Θ.K (tVar 0) (tCall (sp_forgetting Θ) [] C8.E0 (tCons (tFld Θ.K (tVar 0) "line_now") tNil)) "line_now"))
theorem d_do (T : Txt mg aP aC) (c_forgetting : C8.Cal P w K mg base 1 "forgetting" (sp_forgetting ⟨P, w, K, C, aP, aC⟩) []) (c_do_personal : C8.Met P w K mg base 5 C "do_personal" (sp_do_personal ⟨P, w, K, C, aP, aC⟩) []) (c_open_door : C8.Met P w K mg base 4 C "open_door" (sp_open_door ⟨P, w, K, C, aP, aC⟩) []) (c_put_in : C8.Met P w K mg base 3 C "put_in" (sp_put_in ⟨P, w, K, C, aP, aC⟩) []) {f : Addr} {cdv : Value} {A : Around} {outer : List Env} {s : Shared} {H : Hp} {E : XK} (hr : Room 5 (A.deeper (envOfC "Room.do" (C8.fnScope s_do) s.heap.objs.size f cdv))) :
    PSs (cxOf C8.CX0 P w K mg base ["self", "event"] "Room.do" (C8.fnScope s_do) f cdv A outer s H E).nox (C8.fnBody s_do) (t_do ⟨P, w, K, C, aP, aC⟩) :=
  (pss_cons (ps_if (pt_cmpR op_eq (pe_ix ix_seq (pv 1) pe_int (fun _ _ => rfl)) (C8.pe_gc rfl T.COME) (nomark _)) (pss_one (ps_expr (C8.pe_mt c_put_in hr (by decide) (pv 0) (pa_cons (pe_callB call_lenK (by rfl) T.len (by decide +kernel) (pa_cons (pe_fld (pv 0) rfl) pa_nil)) pa_nil)))) (pss_one (ps_if (pt_cmpR op_eq (pe_ix ix_seq (pv 1) pe_int (fun _ _ => rfl)) (C8.pe_gc rfl T.DOOR) (nomark _)) (pss_one (ps_expr (C8.pe_mt0 c_open_door hr (by decide) (pv 0)))) (pss_one (ps_expr (C8.pe_mt c_do_personal hr (by decide) (pv 0) (pa_cons (pe_ix ix_seq (pv 1) pe_int (fun _ _ => rfl)) (pa_cons (pe_ix ix_seq (pv 1) pe_int (fun _ _ => rfl)) pa_nil))))))))
  (pss_one (ps_fld (pv 0) (C8.pe_c c_forgetting hr (by decide) (by rfl) (pa_cons (pe_fld (pv 0) rfl) pa_nil)) rfl)))
abbrev s_all_events : Stmt := topS 44
theorem sc_all_events : FnScope ["room", "found", "word", "person", "how", "names", "event"] ["room"] (C8.fnScope s_all_events) := C8.fnScope_by (by decide +kernel)
def t_all_events (Θ : Th) : TS :=
  (tSeq (tAsg (tLc (iTup Θ.K (tFld Θ.K (tVar 0) "line_now")) (gTup Θ.K 3 (gCons (gName 3) (gCons (gName 4) (gCons (gName 5) gNil)))) tYes (tTup (tCons (tC (.str "back")) (tCons (tVar 3) tNil))) [3, 4, 5]) (gName 1))
  (tSeq (tFor (iTup Θ.K (tSl (rSlA Θ.K) (tC (.ref Θ.aP)) (tPart (tC (.int 1))) tNoPart)) (gName 2) (tDrop (tBM Θ.K "list" rExtend (tVar 1) (tCons (tLc (iList Θ.K (tMeth Θ.C "are_here" (sp_are_here Θ) [] C8.E0 (tVar 0) tNil)) (gName 3) tYes (tTup (tCons (tVar 2) (tCons (tVar 3) tNil))) [3]) tNil))))
  (tRet (tCB (rSortD Θ.K) (tCons (tLc (iList Θ.K (tOp rCat (tVar 1) (tLst (tCons (tTup (tCons (tC (.str "come")) tNil)) (tCons (tTup (tCons (tC (.str "door")) tNil)) tNil))))) (gName 6) (tB (tMeth Θ.C "can_be" (sp_can_be Θ) [] C8.E0 (tVar 0) (tCons (tVar 6) tNil))) (tVar 6) [6]) tNil)))))
theorem d_all_events (T : Txt mg aP aC) (c_are_here : C8.Met P w K mg base 1 C "are_here" (sp_are_here ⟨P, w, K, C, aP, aC⟩) []) (c_can_be : C8.Met P w K mg base 2 C "can_be" (sp_can_be ⟨P, w, K, C, aP, aC⟩) []) {f : Addr} {cdv : Value} {A : Around} {outer : List Env} {s : Shared} {H : Hp} {E : XK} (hr : Room 2 (A.deeper (envOfC "all_events" (C8.fnScope s_all_events) s.heap.objs.size f cdv))) :
    PSs (cxOf C8.CX0 P w K mg base ["room", "found", "word", "person", "how", "names", "event"] "all_events" (C8.fnScope s_all_events) f cdv A outer s H E).nox (C8.fnBody s_all_events) (t_all_events ⟨P, w, K, C, aP, aC⟩) :=
  (pss_cons (ps_setLc (i := 1) (own := [("person", 3), ("how", 4), ("names", 5)]) rfl sc_all_events.nd rfl rfl (sw_true rfl rfl rfl (by decide +kernel)) (pi_tup (pe_fld (pv 0) rfl)) (blkOk_by (own := [("person", 3), ("how", 4), ("names", 5)]) (N := ["room", "found", "word", "person", "how", "names", "event"]) (sc := C8.fnScope s_all_events) (by decide +kernel)) (fun _ _ _ _ _ => (pg_tup rfl (pgs_cons (pg_name (i := 3) sc_all_events.nd rfl (.inl rfl)) (pgs_cons (pg_name (i := 4) sc_all_events.nd rfl (.inl rfl)) (pgs_cons (pg_name (i := 5) sc_all_events.nd rfl (.inl rfl)) pgs_nil))))) (fun _ _ _ _ _ => pts_nil) (fun _ _ _ _ _ => (pe_tup (pa_cons (C8.pe_gc rfl T.BACK) (pa_cons (pv 3) pa_nil)))))
  (pss_cons (ps_for PassesOwn.never rfl (pi_tup (pe_slice sl_tupA (C8.pe_gc rfl T.PERSONAL) (po_some pe_int) po_none)) (pg_name (i := 2) sc_all_events.nd rfl (.inr rfl)) (pss_one (ps_expr (pe_bm PySem.F.plainAttrs_list PySem.F.slot_list_extend PySem.F.type_list_extend mt_extend (pv 1) (pa_cons (pe_lc (own := [("person", 3)]) rfl sc_all_events.nd (pi_list (C8.pe_mt0 c_are_here hr (by decide) (pv 0))) (blkOk_by (own := [("person", 3)]) (N := ["room", "found", "word", "person", "how", "names", "event"]) (sc := C8.fnScope s_all_events) (by decide +kernel)) (fun _ _ _ _ _ => (pg_name (i := 3) sc_all_events.nd rfl (.inl rfl))) (fun _ _ _ _ _ => pts_nil) (fun _ _ _ _ _ => (pe_tup (pa_cons (pv 2) (pa_cons (pv 3) pa_nil))))) pa_nil)))))
  (pss_one (ps_ret (pe_callB (call_sortD hr.units) (by rfl) T.sorted (by decide +kernel) (pa_cons (pe_lc (own := [("event", 6)]) rfl sc_all_events.nd (pi_list (pe_op op_cat (pv 1) (pe_lst (pa_cons (pe_tup (pa_cons (C8.pe_gc rfl T.COME) pa_nil)) (pa_cons (pe_tup (pa_cons (C8.pe_gc rfl T.DOOR) pa_nil)) pa_nil))))) (blkOk_by (own := [("event", 6)]) (N := ["room", "found", "word", "person", "how", "names", "event"]) (sc := C8.fnScope s_all_events) (by decide +kernel)) (fun _ _ _ _ _ => (pg_name (i := 6) sc_all_events.nd rfl (.inl rfl))) (fun _ _ _ _ _ => (pts_one (pt_val (C8.pe_mt c_can_be hr (by decide) (pv 0) (pa_cons (pv 6) pa_nil))))) (fun _ _ _ _ _ => (pv 6))) pa_nil))))))
abbrev s_room_at : Stmt := topS 48
theorem sc_room_at : FnScope ["rule", "pair", "found"] ["rule", "pair"] (C8.fnScope s_room_at) := C8.fnScope_by (by decide +kernel)
def t_room_at (Θ : Th) : TS :=
  (tSeq (tAsg (tMake Θ.C (sp_init Θ) [] C8.E0 (tCons (tVar 0) tNil)) (gName 2))
  (tSeq (tAsg (tVar 1) (gTup Θ.K 2 (gCons (gFld Θ.K (tVar 2) "line_now") (gCons (gFld Θ.K (tVar 2) "came_so_far") gNil))))
  (tRet (tVar 2))))
theorem d_room_at (T : Txt mg aP aC) (c_init : C8.Mak P w K mg base 1 "Room" C (sp_init ⟨P, w, K, C, aP, aC⟩) []) {f : Addr} {cdv : Value} {A : Around} {outer : List Env} {s : Shared} {H : Hp} {E : XK} (hr : Room 2 (A.deeper (envOfC "room_at" (C8.fnScope s_room_at) s.heap.objs.size f cdv))) :
    PSs (cxOf C8.CX0 P w K mg base ["rule", "pair", "found"] "room_at" (C8.fnScope s_room_at) f cdv A outer s H E).nox (C8.fnBody s_room_at) (t_room_at ⟨P, w, K, C, aP, aC⟩) :=
  (pss_cons (ps_set (i := 2) sc_room_at.nd rfl (.inl rfl) (C8.pe_mk c_init hr (by decide) (by rfl) (pa_cons (pv 0) pa_nil)))
  (pss_cons (ps_asg (pv 1) (pg_tup rfl (pgs_cons (pg_fld (pv 2)) (pgs_cons (pg_fld (pv 2)) pgs_nil))))
  (pss_one (ps_ret (pv 2)))))
abbrev s_is_growing : Stmt := topS 49
theorem sc_is_growing : FnScope ["room", "event"] ["room", "event"] (C8.fnScope s_is_growing) := C8.fnScope_by (by decide +kernel)
def t_is_growing (Θ : Th) : TS :=
  (tSeq (tIfS (tTest (tOp rNe (tOp (rIx Θ.K) (tVar 1) (tC (.int 0))) (tC (.str "back")))) (tRet (tOp (rIn Θ.K false) (tOp (rIx Θ.K) (tVar 1) (tC (.int 0))) (tTup (tCons (tC (.str "come")) (tCons (tC (.str "let")) tNil))))) tNext)
  (tRet (tAndV (tOp rEq (tOp (rIx Θ.K) (tFld Θ.K (tVar 0) "own_rule") (tC (.int 4))) (tC (.str "asks"))) (tOp rEq (tMeth Θ.C "how_is" (sp_how_is Θ) [] C8.E0 (tVar 0) (tCons (tOp (rIx Θ.K) (tVar 1) (tC (.int 1))) tNil)) (tC (.str "lost"))))))
theorem d_is_growing (T : Txt mg aP aC) (c_how_is : C8.Met P w K mg base 1 C "how_is" (sp_how_is ⟨P, w, K, C, aP, aC⟩) []) {f : Addr} {cdv : Value} {A : Around} {outer : List Env} {s : Shared} {H : Hp} {E : XK} (hr : Room 1 (A.deeper (envOfC "is_growing" (C8.fnScope s_is_growing) s.heap.objs.size f cdv))) :
    PSs (cxOf C8.CX0 P w K mg base ["room", "event"] "is_growing" (C8.fnScope s_is_growing) f cdv A outer s H E).nox (C8.fnBody s_is_growing) (t_is_growing ⟨P, w, K, C, aP, aC⟩) :=
  (pss_cons (ps_if (pt_cmpR op_ne (pe_ix ix_seq (pv 1) pe_int (fun _ _ => rfl)) (C8.pe_gc rfl T.BACK) (nomark _)) (pss_one (ps_ret (pe_cmpR op_in_seq (pe_ix ix_seq (pv 1) pe_int (fun _ _ => rfl)) (pe_tup (pa_cons (C8.pe_gc rfl T.COME) (pa_cons (C8.pe_gc rfl T.LET) pa_nil))) (by rfl)))) pss_nil)
  (pss_one (ps_ret (pe_and (pe_cmpR op_eq (pe_ix ix_seq (pe_fld (pv 0) rfl) pe_int (fun _ _ => rfl)) (C8.pe_gc rfl T.ASKS) (nomark _)) (pe_one (pe_cmpR op_eq (C8.pe_mt c_how_is hr (by decide) (pv 0) (pa_cons (pe_ix ix_seq (pv 1) pe_int (fun _ _ => rfl)) pa_nil)) (C8.pe_gc rfl T.LOST) (nomark _)))))))
abbrev s_ways_on : Stmt := topS 50
theorem sc_ways_on : FnScope ["rule", "pair", "people", "room", "found", "event", "later", "served"] ["rule", "pair", "people"] (C8.fnScope s_ways_on) := C8.fnScope_by (by decide +kernel)
def t_ways_on (Θ : Th) : TS :=
  (tSeq (tPar 3 4 (tCons (tCall (sp_room_at Θ) [] C8.E0 (tCons (tVar 0) (tCons (tVar 1) tNil))) (tCons (tLst tNil) tNil)))
  (tSeq (tFor (iList Θ.K (tCall (sp_all_events Θ) [] C8.E0 (tCons (tVar 3) tNil))) (gName 5) (tIfS (tOr (tTest (tOp (rI0 fun i j => .bl (decide (i < j))) (tFld Θ.K (tVar 3) "came_so_far") (tVar 2))) (tNot (tB (tCall (sp_is_growing Θ) [] C8.E0 (tCons (tVar 3) (tCons (tVar 5) tNil)))))) (tSeq (tAsg (tCall (sp_room_at Θ) [] C8.E0 (tCons (tVar 0) (tCons (tVar 1) tNil))) (gName 6))
  (tSeq (tDrop (tMeth Θ.C "do" (sp_do Θ) [] C8.E0 (tVar 6) (tCons (tVar 5) tNil)))
  (tSeq (tAsg (tIf (tTest (tOp (rNeD Θ.K) (tFld Θ.K (tVar 6) "served_so_far") (tLst tNil))) (tOp (rIx Θ.K) (tFld Θ.K (tVar 6) "served_so_far") (tC (.int 0))) (tC .non)) (gName 7))
  (tDrop (tBM Θ.K "list" rAppend (tVar 4) (tCons (tTup (tCons (tVar 5) (tCons (tTup (tCons (tFld Θ.K (tVar 6) "line_now") (tCons (tFld Θ.K (tVar 6) "came_so_far") tNil))) (tCons (tVar 7) tNil)))) tNil)))))) tNext))
  (tRet (tVar 4))))
theorem d_ways_on (T : Txt mg aP aC) (c_all_events : C8.Cal P w K mg base 3 "all_events" (sp_all_events ⟨P, w, K, C, aP, aC⟩) []) (c_is_growing : C8.Cal P w K mg base 2 "is_growing" (sp_is_growing ⟨P, w, K, C, aP, aC⟩) []) (c_room_at : C8.Cal P w K mg base 3 "room_at" (sp_room_at ⟨P, w, K, C, aP, aC⟩) []) (c_do : C8.Met P w K mg base 6 C "do" (sp_do ⟨P, w, K, C, aP, aC⟩) []) {f : Addr} {cdv : Value} {A : Around} {outer : List Env} {s : Shared} {H : Hp} {E : XK} (hr : Room 6 (A.deeper (envOfC "ways_on" (C8.fnScope s_ways_on) s.heap.objs.size f cdv))) :
    PSs (cxOf C8.CX0 P w K mg base ["rule", "pair", "people", "room", "found", "event", "later", "served"] "ways_on" (C8.fnScope s_ways_on) f cdv A outer s H E).nox (C8.fnBody s_ways_on) (t_ways_on ⟨P, w, K, C, aP, aC⟩) :=
  (pss_cons (ps_par (by rfl) sc_ways_on.nd rfl rfl (by decide) rfl rfl (pa_cons (C8.pe_c c_room_at hr (by decide) (by rfl) (pa_cons (pv 0) (pa_cons (pv 1) pa_nil))) (pa_cons (pe_lst pa_nil) pa_nil)) (by rfl))
  (pss_cons (ps_for PassesOwn.never rfl (pi_list (C8.pe_c c_all_events hr (by decide) (by rfl) (pa_cons (pv 3) pa_nil))) (pg_name (i := 5) sc_ways_on.nd rfl (.inl rfl)) (pss_one (ps_if (PW.pt (pw_or (pt_cmpR op_lt (pe_fld (pv 3) rfl) (pv 2) (nomark _)) (pw_or1 (pt_not (pt_val (C8.pe_c c_is_growing hr (by decide) (by rfl) (pa_cons (pv 3) (pa_cons (pv 5) pa_nil)))))))) (pss_cons (ps_set (i := 6) sc_ways_on.nd rfl (.inl rfl) (C8.pe_c c_room_at hr (by decide) (by rfl) (pa_cons (pv 0) (pa_cons (pv 1) pa_nil))))
  (pss_cons (ps_expr (C8.pe_mt c_do hr (by decide) (pv 6) (pa_cons (pv 5) pa_nil)))
  (pss_cons (ps_set (i := 7) sc_ways_on.nd rfl (.inl rfl) (pe_ifExp (pt_cmpR (op_neD hr.units) (pe_fld (pv 6) rfl) (pe_lst pa_nil) (nomark _)) (pe_ix ix_seq (pe_fld (pv 6) rfl) pe_int (fun _ _ => rfl)) pe_non))
  (pss_one (ps_expr (pe_bm PySem.F.plainAttrs_list PySem.F.slot_list_append PySem.F.type_list_append mt_append (pv 4) (pa_cons (pe_tup (pa_cons (pv 5) (pa_cons (pe_tup (pa_cons (pe_fld (pv 6) rfl) (pa_cons (pe_fld (pv 6) rfl) pa_nil))) (pa_cons (pv 7) pa_nil)))) pa_nil))))))) pss_nil)))
  (pss_one (ps_ret (pv 4)))))
abbrev s_need_people : Stmt := topS 51
theorem sc_need_people : FnScope ["thing", "came"] ["thing", "came"] (C8.fnScope s_need_people) := C8.fnScope_by (by decide +kernel)
def t_need_people (Θ : Th) : TS :=
  (tSeq (tIfS (tNot (tB (tCall (sp_is_between Θ) [] C8.E0 (tCons (tVar 0) (tCons (tCB rMax2 (tCons (tC (.int 1)) (tCons (tVar 1) tNil))) (tCons (tC (.int 6)) tNil)))))) tNever tNext)
  (tRet (tVar 0)))
theorem d_need_people (T : Txt mg aP aC) (c_is_between : C8.Cal P w K mg base 2 "is_between" (sp_is_between ⟨P, w, K, C, aP, aC⟩) []) {f : Addr} {cdv : Value} {A : Around} {outer : List Env} {s : Shared} {H : Hp} {E : XK} (hr : Room 2 (A.deeper (envOfC "need_people" (C8.fnScope s_need_people) s.heap.objs.size f cdv))) :
    PSs (cxOf C8.CX0 P w K mg base ["thing", "came"] "need_people" (C8.fnScope s_need_people) f cdv A outer s H E).nox (C8.fnBody s_need_people) (t_need_people ⟨P, w, K, C, aP, aC⟩) :=
  (pss_cons (ps_if (pt_not (pt_val (C8.pe_c c_is_between hr (by decide) (by rfl) (pa_cons (pv 0) (pa_cons (pe_callB (call_max2K rfl) (by rfl) T.max (by decide +kernel) (pa_cons pe_int (pa_cons (pv 1) pa_nil))) (pa_cons (C8.pe_gc rfl T.MOST_ROOM) pa_nil)))))) (pss_one ps_never) pss_nil)
  (pss_one (ps_ret (pv 0))))
abbrev s_orders_of : Stmt := topS 52
theorem sc_orders_of : FnScope ["rule", "people", "known", "layer", "later", "pair", "order", "event", "behind", "served", "name"] ["rule", "people"] (C8.fnScope s_orders_of) := C8.fnScope_by (by decide +kernel)
def t_orders_of (Θ : Th) : TS :=
  (tSeq (tDrop (tCall (sp_need_rule Θ) [] C8.E0 (tCons (tVar 0) tNil)))
  (tSeq (tDrop (tCall (sp_need_people Θ) [] C8.E0 (tCons (tVar 1) (tCons (tC (.int 0)) tNil))))
  (tSeq (tPar 2 3 (tCons (tDisp1 Θ.K Θ.P Θ.w (tTup (tCons (tTup (tCons (tTup tNil) (tCons (tC (.int 0)) tNil))) (tCons (tTup tNil) tNil))) (tC (.bl true))) (tCons (tLst (tCons (tTup (tCons (tTup (tCons (tTup tNil) (tCons (tC (.int 0)) tNil))) (tCons (tTup tNil) tNil))) tNil)) tNil)))
  (tSeq (tWhile (tTest (tOp (rNeD Θ.K) (tVar 3) (tLst tNil))) (tSeq (tAsg (tLst tNil) (gName 4))
  (tSeq (tFor (iList Θ.K (tVar 3)) (gTup Θ.K 2 (gCons (gName 5) (gCons (gName 6) gNil))) (tFor (iList Θ.K (tCall (sp_ways_on Θ) [] C8.E0 (tCons (tVar 0) (tCons (tVar 5) (tCons (tVar 1) tNil))))) (gTup Θ.K 3 (gCons (gName 7) (gCons (gName 8) (gCons (gName 9) gNil)))) (tSeq (tAsg (tTup (tCons (tVar 8) (tCons (tIf (tTest (tOp rIsNone (tVar 9) (tC .non))) (tVar 6) (tTup (StX.tStar Θ.K (tVar 6) (tCons (tVar 9) tNil)))) tNil))) (gName 10))
  (tIfS (tAnd (tTest (tOp (rIn Θ.K true) (tOp (rIx Θ.K) (tVar 7) (tC (.int 0))) (tTup (tCons (tC (.str "leave")) (tCons (tC (.str "vanish")) tNil))))) (tTest (tOp (rInN Θ.K Θ.P Θ.w true) (tVar 10) (tVar 2)))) (tSeq (tIfS (tTest (tOp rEq (tCB (rLenN Θ) (tCons (tVar 2) tNil)) (tC (.int 20000)))) tNever tNext)
  (tSeq (tAsg (tC (.bl true)) (gSub (tVar 2) (tVar 10) (rSetN Θ.K Θ.P Θ.w)))
  (tDrop (tBM Θ.K "list" rAppend (tVar 4) (tCons (tVar 10) tNil))))) tNext))))
  (tAsg (tVar 4) (gName 3)))))
  (tRet (tCB (rTupOf Θ.K) (tCons (tCB (rSortN Θ.P Θ.w Θ.K) (tCons (tLockE (tDcN Θ.K Θ.P Θ.w (iKeysN Θ.P Θ.w (tVar 2)) (gTup Θ.K 2 (gCons (gName 5) (gCons (gName 6) gNil))) (tTest (tOp (rEqD Θ.K) (tVar 5) (tTup (tCons (tTup tNil) (tCons (tVar 1) tNil))))) (tVar 6) (tC (.bl true)) [5, 6])) tNil)) tNil)))))))
theorem d_orders_of (T : Txt mg aP aC) (c_need_people : C8.Cal P w K mg base 3 "need_people" (sp_need_people ⟨P, w, K, C, aP, aC⟩) []) (c_need_rule : C8.Cal P w K mg base 3 "need_rule" (sp_need_rule ⟨P, w, K, C, aP, aC⟩) []) (c_ways_on : C8.Cal P w K mg base 7 "ways_on" (sp_ways_on ⟨P, w, K, C, aP, aC⟩) []) {f : Addr} {cdv : Value} {A : Around} {outer : List Env} {s : Shared} {H : Hp} {E : XK} (hr : Room 7 (A.deeper (envOfC "orders_of" (C8.fnScope s_orders_of) s.heap.objs.size f cdv))) :
    PSs (cxOf C8.CX0 P w K mg base ["rule", "people", "known", "layer", "later", "pair", "order", "event", "behind", "served", "name"] "orders_of" (C8.fnScope s_orders_of) f cdv A outer s H E).nox (C8.fnBody s_orders_of) (t_orders_of ⟨P, w, K, C, aP, aC⟩) :=
  (pss_cons (ps_expr (C8.pe_c c_need_rule hr (by decide) (by rfl) (pa_cons (pv 0) pa_nil)))
  (pss_cons (ps_expr (C8.pe_c c_need_people hr (by decide) (by rfl) (pa_cons (pv 1) (pa_cons pe_int pa_nil))))
  (pss_cons (ps_par (by rfl) sc_orders_of.nd rfl rfl (by decide) rfl rfl (pa_cons (pe_disp1 hr.units (pe_tup (pa_cons (pe_tup (pa_cons (pe_tup pa_nil) (pa_cons pe_int pa_nil))) (pa_cons (pe_tup pa_nil) pa_nil))) pe_bl) (pa_cons (pe_lst (pa_cons (pe_tup (pa_cons (pe_tup (pa_cons (pe_tup pa_nil) (pa_cons pe_int pa_nil))) (pa_cons (pe_tup pa_nil) pa_nil))) pa_nil)) pa_nil)) (by rfl))
  (pss_cons (ps_while PassesOwn.never (pt_cmpR (op_neD hr.units) (pv 3) (pe_lst pa_nil) (nomark _)) (pss_cons (ps_set (i := 4) sc_orders_of.nd rfl (.inl rfl) (pe_lst pa_nil))
  (pss_cons (ps_for PassesOwn.never rfl (pi_list (pv 3)) (pg_tup rfl (pgs_cons (pg_name (i := 5) sc_orders_of.nd rfl (.inl rfl)) (pgs_cons (pg_name (i := 6) sc_orders_of.nd rfl (.inl rfl)) pgs_nil))) (pss_one (ps_for PassesOwn.never rfl (pi_list (C8.pe_c c_ways_on hr (by decide) (by rfl) (pa_cons (pv 0) (pa_cons (pv 5) (pa_cons (pv 1) pa_nil))))) (pg_tup rfl (pgs_cons (pg_name (i := 7) sc_orders_of.nd rfl (.inl rfl)) (pgs_cons (pg_name (i := 8) sc_orders_of.nd rfl (.inl rfl)) (pgs_cons (pg_name (i := 9) sc_orders_of.nd rfl (.inl rfl)) pgs_nil)))) (pss_cons (ps_set (i := 10) sc_orders_of.nd rfl (.inl rfl) (pe_tup (pa_cons (pv 8) (pa_cons (pe_ifExp (pt_cmpR op_isNone (pv 9) pe_non (nomark _)) (pv 6) (pe_tup (StX.pa_star (pv 6) (pa_cons (pv 9) pa_nil)))) pa_nil))))
  (pss_one (ps_if (PW.pt (pw_and (pt_cmpR op_notIn_seq (pe_ix ix_seq (pv 7) pe_int (fun _ _ => rfl)) (pe_tup (pa_cons (C8.pe_gc rfl T.LEAVE) (pa_cons (C8.pe_gc rfl T.VANISH) pa_nil))) (by rfl)) (pw_and1 (pt_cmpR (op_notInN hr.units) (pv 10) (pv 2) (by rfl))))) (pss_cons (ps_if (pt_cmpR op_eq (pe_callB call_lenNK (by rfl) T.len (by decide +kernel) (pa_cons (pv 2) pa_nil)) (C8.pe_gc rfl T.MOST_PAIRS) (nomark _)) (pss_one ps_never) pss_nil)
  (pss_cons (ps_asg pe_bl (pg_sub (pv 2) (pv 10) (set_N hr.units)))
  (pss_one (ps_expr (pe_bm PySem.F.plainAttrs_list PySem.F.slot_list_append PySem.F.type_list_append mt_append (pv 4) (pa_cons (pv 10) pa_nil)))))) pss_nil))))))
  (pss_one (ps_set (i := 3) sc_orders_of.nd rfl (.inl rfl) (pv 4))))))
  (pss_one (ps_ret (pe_callTy call_tupleK (by rfl) T.tuple (by decide +kernel) (pa_cons (pe_callB (call_sortN rfl hr.units) (by rfl) T.sorted (by decide +kernel) (pa_cons (pe_lock (pe_dcN (own := [("pair", 5), ("order", 6)]) hr.units rfl sc_orders_of.nd (pi_keysN (pv 2)) (blkOk_by (own := [("pair", 5), ("order", 6)]) (N := ["rule", "people", "known", "layer", "later", "pair", "order", "event", "behind", "served", "name"]) (sc := C8.fnScope s_orders_of) (by decide +kernel)) (fun _ _ _ _ _ => (pg_tup rfl (pgs_cons (pg_name (i := 5) sc_orders_of.nd rfl (.inl rfl)) (pgs_cons (pg_name (i := 6) sc_orders_of.nd rfl (.inl rfl)) pgs_nil)))) (fun _ _ _ _ _ => (pts_one (pt_cmpR (op_eqD hr.units) (pv 5) (pe_tup (pa_cons (pe_tup pa_nil) (pa_cons (pv 1) pa_nil))) (nomark _)))) (fun _ _ _ _ _ => (pv 6)) (fun _ _ _ _ _ => pe_bl))) pa_nil)) pa_nil))))))))
end Ask
-- AskEasy
set_option Elab.async false
set_option linter.all false
set_option maxRecDepth 100000
/-! short forms: what stands often in the text -/
namespace Ask
open PySem PySem.Spec PyProof.Rows L2
section
variable {Θ : Th} {F : Frm} {δ δ1 δ' : List Sl} {σ : L2.St} {H0 Hb H H' H1 H2 : Hp} {A : Nat → List Addr} {b b0 b1 b2 : Bool} {ta tb te : TE} {t u : TT} {ts us : TS} {tr : TA} {d e x y : PyData} {ds es : List PyData} {i j k : Nat} {E : XK} {o : Out}
theorem ev_v (h : δ[i]? = some (.dat d)) : Ev Θ false (tVar i) δ d := ev_var h
theorem ev_ixc {n : Int} (ha : Ev Θ b ta δ x) (hx : x = .list ds ∨ x = .tuple ds) (hd : atI ds n = some d) : Ev Θ b (tOp (rIx Θ.K) ta (tC (.int n))) δ d := ev_ix (b2 := false) ha ev_int hx hd
theorem ev_ixi {n : Int} (ha : Ev Θ b ta δ x) (hb : Ev Θ false tb δ (.int n)) (hx : x = .list ds ∨ x = .tuple ds) (hd : atI ds n = some d) : Ev Θ b (tOp (rIx Θ.K) ta tb) δ d := ev_ix ha hb hx hd
theorem et_eqS {m n : Str} (ha : Ev Θ b1 ta δ (.str m)) : EvT Θ (tTest (tOp rEq ta (tC (.str n)))) δ (decide (m = n)) := et_test (b := false) (ev_eqS (b2 := false) ha ev_str)
theorem et_neS {m n : Str} (ha : Ev Θ b1 ta δ (.str m)) : EvT Θ (tTest (tOp rNe ta (tC (.str n)))) δ (!decide (m = n)) := et_test (b := false) (ev_neS (b2 := false) ha ev_str)
theorem et_eqI {m n : Int} (ha : Ev Θ b1 ta δ (.int m)) (hb : Ev Θ b2 tb δ (.int n)) : EvT Θ (tTest (tOp rEq ta tb)) δ (decide (m = n)) := et_test (b := false) (ev_eqI ha hb)
theorem et_neI {m n : Int} (ha : Ev Θ b1 ta δ (.int m)) (hb : Ev Θ b2 tb δ (.int n)) : EvT Θ (tTest (tOp rNe ta tb)) δ (!decide (m = n)) := et_test (b := false) (ev_neI ha hb)
theorem et_lt {m n : Int} (ha : Ev Θ b1 ta δ (.int m)) (hb : Ev Θ b2 tb δ (.int n)) : EvT Θ (tTest (tOp (rI0 fun i j => .bl (decide (i < j))) ta tb)) δ (decide (m < n)) := et_test (b := false) (ev_lt ha hb)
theorem et_le {m n : Int} (ha : Ev Θ b1 ta δ (.int m)) (hb : Ev Θ b2 tb δ (.int n)) : EvT Θ (tTest (tOp (rI0 fun i j => .bl (decide (i ≤ j))) ta tb)) δ (decide (m ≤ n)) := et_test (b := false) (ev_le ha hb)
theorem et_eqD (ha : Ev Θ b1 ta δ x) (hb : Ev Θ b2 tb δ y) (sx : SeqAt.shaped x = true) (sy : SeqAt.shaped y = true) : EvT Θ (tTest (tOp (rEqD Θ.K) ta tb)) δ (PyData.eqv x y) := et_test (b := false) (ev_eqD ha hb sx sy)
theorem et_neD (ha : Ev Θ b1 ta δ x) (hb : Ev Θ b2 tb δ y) (sx : SeqAt.shaped x = true) (sy : SeqAt.shaped y = true) : EvT Θ (tTest (tOp (rNeD Θ.K) ta tb)) δ (!PyData.eqv x y) := et_test (b := false) (ev_neD ha hb sx sy)
theorem et_yes : EvT Θ tYes δ true := fun σ H0 Hb H A st Q q => q H (Same.refl _)
theorem ev_rowT (h : EvA Θ b tr δ ds) (hl : Nat.ble ds.length 100000 = true := by rfl) : Ev Θ b (tTup tr) δ (.tuple ds) := ev_tup h (Nat.le_of_ble_eq_true hl)
/-! an int of a list, a text of a tuple -/
theorem any_str (ss : List Str) (s : Str) : (ss.map PyData.str).any (fun z => PyData.eqv z (.str s)) = decide (s ∈ ss) := by
  induction ss with
  | nil => rfl
  | cons a r ih =>
    rw [List.map_cons, List.any_cons, ih]
    simp only [PyData.eqv, List.mem_cons]
    by_cases h : s = a
    · subst h; simp
    · have h2 : ¬ a = s := fun e => h e.symm
      simp [h, h2]
theorem any_int (ns : List Int) (n : Int) : (ns.map PyData.int).any (fun z => PyData.eqv z (.int n)) = ns.contains n := by
  induction ns with
  | nil => rfl
  | cons a r ih =>
    rw [List.map_cons, List.any_cons, ih]
    simp only [PyData.eqv, List.contains_cons]
    by_cases h : n = a
    · subst h; simp
    · have h2 : ¬ a = n := fun e => h e.symm
      rw [beq_eq_false_iff_ne.mpr h]
      simp [h2]
theorem any_nat (ss : List Nat) (n : Nat) : (ss.map fun (i : Nat) => PyData.int (i : Int)).any (fun z => PyData.eqv z (.int (n : Int))) = decide (n ∈ ss) := by
  induction ss with
  | nil => rfl
  | cons a r ih =>
    rw [List.map_cons, List.any_cons, ih]
    simp only [PyData.eqv, List.mem_cons]
    by_cases h : n = a
    · subst h; simp
    · have : ¬ (a : Int) = (n : Int) := fun e => h (by omega)
      simp [h, this]
theorem flats_int (ns : List Int) : (ns.map PyData.int).all flatD = true := by rw [List.all_map]; exact List.all_eq_true.mpr fun _ _ => rfl
theorem flats_str (ns : List Str) : (ns.map PyData.str).all flatD = true := by rw [List.all_map]; exact List.all_eq_true.mpr fun _ _ => rfl
theorem flats_nat (ns : List Nat) : (ns.map fun (i : Nat) => PyData.int (i : Int)).all flatD = true := by rw [List.all_map]; exact List.all_eq_true.mpr fun _ _ => rfl
theorem ev_inI {ns : List Int} {n : Int} (ha : Ev Θ b1 ta δ (.int n)) (hb : Ev Θ b2 tb δ y) (hy : y = .list (ns.map .int) ∨ y = .tuple (ns.map .int)) : Ev Θ b (tOp (rIn Θ.K false) ta tb) δ (.bool (ns.contains n)) :=
  (ev_in (neg := false) ha hb hy rfl (flats_int _)).is (by rw [if_neg Bool.false_ne_true, any_int])
theorem ev_inS {ns : List Str} {n : Str} (ha : Ev Θ b1 ta δ (.str n)) (hb : Ev Θ b2 tb δ y) (hy : y = .list (ns.map .str) ∨ y = .tuple (ns.map .str)) : Ev Θ b (tOp (rIn Θ.K false) ta tb) δ (.bool (decide (n ∈ ns))) :=
  (ev_in (neg := false) ha hb hy rfl (flats_str _)).is (by rw [if_neg Bool.false_ne_true, any_str])
theorem ev_notInS {ns : List Str} {n : Str} (ha : Ev Θ b1 ta δ (.str n)) (hb : Ev Θ b2 tb δ y) (hy : y = .list (ns.map .str) ∨ y = .tuple (ns.map .str)) : Ev Θ b (tOp (rIn Θ.K true) ta tb) δ (.bool (!decide (n ∈ ns))) :=
  (ev_in (neg := true) ha hb hy rfl (flats_str _)).is (by rw [if_pos rfl, any_str])
theorem ev_inN {ns : List Nat} {n : Nat} (ha : Ev Θ b1 ta δ (.int (n : Int))) (hb : Ev Θ b2 tb δ (dSpots ns)) : Ev Θ b (tOp (rIn Θ.K false) ta tb) δ (.bool (decide (n ∈ ns))) :=
  (ev_in (neg := false) ha hb (.inl rfl) rfl (flats_nat _)).is (by rw [if_neg Bool.false_ne_true, any_nat])
/-! targets -/
theorem bd_row {w : Row} {s1 s2 s3 : Sl} (hi : δ[i]? = some s1) (f1 : freeS s1 = true) (hj : (δ.set i (inS b (.int w.p)))[j]? = some s2) (f2 : freeS s2 = true) (hk : ((δ.set i (inS b (.int w.p))).set j (inS b (.str w.h.s)))[k]? = some s3) (f3 : freeS s3 = true) :
    Bd Θ b (gTup Θ.K 3 (gCons (gName i) (gCons (gName j) (gCons (gName k) gNil)))) (dRow w) δ (((δ.set i (inS b (.int w.p))).set j (inS b (.str w.h.s))).set k (inS b (dNames w.ns))) [i, j, k] :=
  bd_tup rfl (bds_cons (bd_name hi f1) (bds_cons (bd_name hj f2) (bds_cons (bd_name hk f3) bds_nil)))
theorem bd_row' {w : Row} {s1 s2 s3 : Sl} (hi : δ[i]? = some s1) (f1 : freeS s1 = true) (hj : (δ.set i (inS b (.int w.p)))[j]? = some s2) (f2 : freeS s2 = true) (hk : ((δ.set i (inS b (.int w.p))).set j (inS b (.str w.h.s)))[k]? = some s3) (f3 : freeS s3 = true) :
    Bd Θ b (gTup Θ.K 3 (gCons (gName i) (gCons (gName j) (gCons (gName k) gNil)))) (dRow w) δ (((δ.set i (inS b (.int w.p))).set j (inS b (.str w.h.s))).set k (inS b (dNames w.ns))) ([i] ++ ([j] ++ ([k] ++ []))) :=
  bd_row hi f1 hj f2 hk f3
/-- the places of a line, walked -/
abbrev dIRow (x : Row × Nat) : PyData := .tuple [.int (x.2 : Nat), dRow x.1]
theorem enum_rows (l : Line) : enumD (l.map dRow) = l.zipIdx.map dIRow := by
  unfold enumD
  rw [List.mapIdx_eq_zipIdx_map, List.zipIdx_map, List.map_map]
  rfl
theorem ei_rows (h : Ev Θ b ta δ (dLine ls)) : EvI Θ b (iTup Θ.K ta) δ (ls.map dRow) := ei_tup h
theorem ei_irows {ls : Line} (h : Ev Θ b ta δ (dLine ls)) : EvI Θ b (iEnumT Θ.K (tCons ta tNil)) δ (ls.zipIdx.map dIRow) := by
  have := ei_enumT h
  rwa [enum_rows] at this
theorem map_filter_true {α : Type} (l : List α) : l.filter (fun _ => true) = l := List.filter_eq_self.mpr fun _ _ => rfl
theorem zip_pre {l : Line} {pre post : List (Row × Nat)} {r : Row × Nat} (e : l.zipIdx = pre ++ r :: post) : r.2 = pre.length ∧ l[pre.length]? = some r.1 := by
  have h : l.zipIdx[pre.length]? = some r := by rw [e, List.getElem?_append_right (Nat.le_refl _), Nat.sub_self]; rfl
  rw [List.getElem?_zipIdx] at h
  cases q : l[pre.length]? with
  | none => rw [q] at h; cases h
  | some w =>
    rw [q] at h
    have := Option.some.inj h
    rw [← this]
    exact ⟨by simp, rfl⟩
theorem el_is (h : EvL Θ b ta δ ds) (e : ds = es) : EvL Θ b ta δ es := e ▸ h
theorem sd_iff {v : Bool} (h : EvT Θ t δ v) (hv : v = false) (h2 : SD Θ F us δ o) : SD Θ F (tIfS t ts us) δ o := sd_if h (fun e => by rw [hv] at e; cases e) fun _ => h2
theorem sd_ift {v : Bool} (h : EvT Θ t δ v) (hv : v = true) (h2 : SD Θ F ts δ o) : SD Θ F (tIfS t ts us) δ o := sd_if h (fun _ => h2) fun e => by rw [hv] at e; cases e
/-! sizes of data -/
def Lay (n : Nat) (d : PyData) : Prop := d.canLay0 = true ∧ d.depth ≤ n
theorem lay_all {n : Nat} : ∀ {ds : List PyData}, (∀ d ∈ ds, Lay n d) → PyData.canLayAll0 ds = true ∧ PyData.depthAll ds ≤ n
  | [], _ => ⟨by simp [PyData.canLayAll0], by simp [PyData.depthAll]⟩
  | d :: r, h => by
    obtain ⟨h1, h2⟩ := h d (List.mem_cons_self ..)
    obtain ⟨h3, h4⟩ := lay_all fun e he => h e (List.mem_cons_of_mem _ he)
    refine ⟨by simp [PyData.canLayAll0, h1, h3], ?_⟩
    simp only [PyData.depthAll]
    omega
theorem lay_tup {n : Nat} {ds : List PyData} (h : ∀ d ∈ ds, Lay n d) : Lay (n + 1) (.tuple ds) := by
  obtain ⟨a, c⟩ := lay_all h
  exact ⟨by simpa [PyData.canLay0] using a, by simp only [PyData.depth]; omega⟩
theorem lay_lst {n : Nat} {ds : List PyData} (h : ∀ d ∈ ds, Lay n d) : Lay (n + 1) (.list ds) := by
  obtain ⟨a, c⟩ := lay_all h
  exact ⟨by simpa [PyData.canLay0] using a, by simp only [PyData.depth]; omega⟩
theorem lay_int {n : Nat} {i : Int} : Lay n (.int i) := ⟨by simp [PyData.canLay0], by simp [PyData.depth]⟩
theorem lay_non {n : Nat} : Lay n .none := ⟨by simp [PyData.canLay0], by simp [PyData.depth]⟩
theorem lay_up {m n : Nat} {d : PyData} (h : Lay m d) (k : m ≤ n) : Lay n d := ⟨h.1, Nat.le_trans h.2 k⟩
theorem lay_shaped {n : Nat} {d : PyData} (h : Lay n d) (hn : n ≤ 64 := by decide) : SeqAt.shaped d = true := by
  unfold SeqAt.shaped
  rw [h.1, decide_eq_true (Nat.le_trans h.2 hn)]
  rfl
theorem lay_str {n : Nat} {s : Str} (h : (PyData.str s).canLay0 = true) : Lay n (.str s) := ⟨h, by simp [PyData.depth]⟩
theorem lay_how {n : Nat} (h : How) : Lay n (.str h.s) := lay_str (by cases h <;> decide +kernel)
theorem lay_wd {n : Nat} (h : Wd) : Lay n (.str h.s) := lay_str (by cases h <;> decide +kernel)
theorem lay_names (ns : List Int) : Lay 1 (dNames ns) := lay_tup fun d hd => by
  obtain ⟨n, _, rfl⟩ := List.mem_map.mp hd
  exact lay_int
theorem lay_row (w : Row) : Lay 2 (dRow w) := lay_tup fun d hd => by
  rcases List.mem_cons.mp hd with rfl | hd
  · exact lay_int
  rcases List.mem_cons.mp hd with rfl | hd
  · exact lay_how _
  rcases List.mem_cons.mp hd with rfl | hd
  · exact lay_names _
  · cases hd
theorem lay_line (l : Line) : Lay 3 (dLine l) := lay_tup fun d hd => by
  obtain ⟨n, _, rfl⟩ := List.mem_map.mp hd
  exact lay_row _
theorem lay_pair (x : Pair) : Lay 4 (dPair x) := lay_tup fun d hd => by
  rcases List.mem_cons.mp hd with rfl | hd
  · exact lay_line _
  rcases List.mem_cons.mp hd with rfl | hd
  · exact lay_int
  · cases hd
theorem lay_evt (e : Evt) : Lay 1 (dEvt e) := lay_tup fun d hd => by
  rcases List.mem_cons.mp hd with rfl | hd
  · cases e with
    | come => exact lay_str (by decide +kernel)
    | door => exact lay_str (by decide +kernel)
    | per w p => exact lay_wd w
  · obtain ⟨n, _, rfl⟩ := List.mem_map.mp hd
    exact lay_int
theorem lay_ints (ns : List Int) : Lay 1 (.list (ns.map .int)) := lay_lst fun d hd => by
  obtain ⟨n, _, rfl⟩ := List.mem_map.mp hd
  exact lay_int
end
end Ask
-- AskF1
set_option Elab.async false
set_option linter.all false
set_option maxRecDepth 100000
/-! what the program's plain defs compute -/
namespace Ask
open PySem PySem.Spec PyProof.Rows L2
theorem cutD_to {ds : List PyData} {k : Nat} : cutD ds none (some (k : Nat)) = ds.take k := by
  unfold cutD
  rw [HT.sIx_none, HT.sIx_nat, List.drop_zero, Nat.sub_zero]
  by_cases h : k ≤ ds.length
  · rw [Nat.min_eq_left h]
  · rw [Nat.min_eq_right (by omega), List.take_length, List.take_of_length_le (by omega)]
theorem cutD_from {ds : List PyData} {k : Nat} : cutD ds (some (k : Nat)) none = ds.drop k := by
  unfold cutD
  rw [HT.sIx_none, HT.sIx_nat]
  by_cases h : k ≤ ds.length
  · rw [Nat.min_eq_left h, List.take_of_length_le (by rw [List.length_drop]; omega)]
  · rw [Nat.min_eq_right (by omega), List.drop_length, List.take_nil, List.drop_of_length_le (by omega)]
def howsOf (r : Rule) : List Str := if r.line then ["here", "out", "away"] else ["here"]
theorem howsOf_mem (r : Rule) (h : How) : decide (h.s ∈ howsOf r) = (decide (h = .here) || (r.line && (decide (h = .out) || decide (h = .away)))) := by
  unfold howsOf
  cases r.line <;> cases h <;> decide +kernel
theorem line_iff (r : Rule) : decide (sLine r.line = "line") = r.line := by cases r.line <;> decide +kernel
theorem on_iff (r : Rule) : decide (sOn r.on = "on") = r.on := by cases r.on <;> decide +kernel
theorem told_iff (r : Rule) : decide (sTold r.told = "told") = r.told := by cases r.told <;> decide +kernel
theorem asks_iff (r : Rule) : decide (sAsks r.asks = "asks") = r.asks := by cases r.asks <;> decide +kernel
theorem bk_asks (r : Rule) : decide (r.back.s = "asks") = decide (r.back = .asks) := by cases r.back <;> decide +kernel
theorem bk_old (r : Rule) : decide (r.back.s = "old") = decide (r.back = .old) := by cases r.back <;> decide +kernel
theorem bk_tells (r : Rule) : decide (r.back.s = "tells") = decide (r.back = .tells) := by cases r.back <;> decide +kernel
theorem here_iff (h : How) : decide (h.s = "here") = decide (h = .here) := by cases h <;> decide +kernel
theorem out_iff (h : How) : decide (h.s = "out") = decide (h = .out) := by cases h <;> decide +kernel
theorem lost_iff (h : How) : decide (h.s = "lost") = decide (h = .lost) := by cases h <;> decide +kernel
theorem away_iff (h : How) : decide (h.s = "away") = decide (h = .away) := by cases h <;> decide +kernel
section
variable {Θ : Th}
abbrev unN (n : Nat) : List Sl := List.replicate n .un
theorem r_nearest_ahead (r : Rule) (l : Line) (s : Nat) (hl : Okl l) (F : Frm) : SDr Θ F (t_nearest_ahead Θ) [.dat (dRule r), .dat (dLine l), .dat (.int (s : Nat)), .un, .un, .un, .un, .un] (dNames (nearest r l s)) anyP := by
  have hl := hl.1
  unfold t_nearest_ahead
  refine sdr_seq (sd_set (d := .tuple ((howsOf r).map .str)) (ev_if (et_eqS (ev_ixc (ev_v rfl) (.inr rfl) rfl)) (fun h => ?_) (fun h => ?_))) ?_
  · rw [line_iff] at h
    unfold howsOf
    rw [h, if_pos rfl]
    exact ev_rowT (ea_cons ev_str (ea_cons ev_str (ea_cons ev_str ea_nil)))
  · rw [line_iff] at h
    unfold howsOf
    rw [h, if_neg Bool.false_ne_true]
    exact ev_rowT (ea_cons ev_str ea_nil)
  refine sdr_seq (sd_set (EvL.ev (el_lc (b0 := false) (l := l.take s) (enc := dRow) (fun w => decide (w.h = .here) || (r.line && (decide (w.h = .out) || decide (w.h = .away)))) (fun w => .int w.p) (T := [5, 6, 7]) (ei_tup ?_) ?_ (fun w hw => ?_)))) ?_
  · refine (ev_slT (ev_var rfl) eo_none (eo_some (b := false) (ev_var rfl))).is ?_
    rw [cutD_to, List.map_take]
  · rw [List.length_take]; omega
  · refine ⟨_, bd_row rfl rfl rfl rfl rfl rfl, ?_, fun _ => ev_var rfl⟩
    refine (et_test (b := false) (ev_inS (b1 := false) (b2 := false) (ev_var rfl) (ev_var rfl) (.inr rfl))).is (howsOf_mem r w.h)
  refine sdr_ret (Ev.is (ev_tupleOf (ev_slL (ev_rev (ev_var rfl)) eo_none (eo_some (b := false) (ev_ixc (ev_v rfl) (.inr rfl) rfl)))) ?_) trivial
  rw [cutD_to]
  unfold nearest dNames
  rw [List.map_take, List.map_reverse, List.map_map]
  rfl
def ren (r : Rule) (l : Line) (f : Nat → Bool) (x : Row × Nat) : Row := if f x.2 && decide (x.1.h = .here) then { x.1 with ns := nearest r l x.2 } else x.1
theorem renewed_zip (r : Rule) (l : Line) (f : Nat → Bool) : renewed r l f = l.zipIdx.map (ren r l f) := by
  unfold renewed
  rw [List.mapIdx_eq_zipIdx_map]
  rfl
theorem r_renewed (r : Rule) (l : Line) (ss : List Nat) (hl : Okl l) (F : Frm) : SDr Θ F (t_renewed Θ) [.dat (dRule r), .dat (dLine l), .dat (dSpots ss), .un, .un, .un, .un, .un, .un] (dLine (renewed r l (at_ ss))) anyP := by
  unfold t_renewed
  refine sdr_seq (sd_setL (el_lst ea_nil (by decide))) (sdr_seq (sd_for (b := false) (l := l.zipIdx) (enc := dIRow)
    (fun pre => [.dat (dRule r), .dat (dLine l), .dat (dSpots ss), .own (pre.map fun x => dRow (ren r l (at_ ss) x)), .un, .un, .un, .un, .un]) (ei_irows (ev_v rfl)) rfl (fun pre x post e => ?_)) (sdr_retF (Ev.is (ev_tupleOf (ev_v rfl)) ?_) trivial))
  · obtain ⟨hx, hxl⟩ := zip_pre e
    obtain ⟨w, i⟩ := x
    have hpl : pre.length < 1000 := by
      have := congrArg List.length e
      rw [List.length_zipIdx, List.length_append, List.length_cons] at this
      have := hl.1
      omega
    refine ⟨_, _, _, bd_tup rfl (bds_cons (bd_name (i := 4) rfl rfl) (bds_cons (bd_row (i := 5) (j := 6) (k := 7) rfl rfl rfl rfl rfl rfl) bds_nil)), .inl (sd_seq (sd_set (d := .bool (at_ ss i && decide (w.h = .here))) ?_) (sd_append rfl (d := dRow (ren r l (at_ ss) (w, i))) ?_ (by rw [List.length_map]; omega))), ?_⟩
    · refine (ev_andV (ev_inN (b := false) (ev_v rfl) (ev_v rfl)) fun _ => (ev_eqS (b := false) (b2 := false) (ev_v rfl) ev_str)).is ?_
      rw [here_iff]
      rfl
    · refine ev_rowT (ea_cons (Ev.is (ev_var rfl) ?_) (ea_cons (Ev.is (ev_var rfl) ?_) (ea_cons (ev_if (et_B (b := false) (ev_var rfl)) (fun h => ?_) (fun h => ?_)) ea_nil)))
      · unfold ren
        split <;> rfl
      · unfold ren
        split <;> rfl
      · unfold ren
        rw [if_pos h]
        exact ev_call (ea_cons (ev_var rfl) (ea_cons (ev_var rfl) (ea_cons (ev_var rfl) ea_nil))) ⟨r, l, i, rfl, hl, rfl⟩
      · unfold ren
        rw [if_neg (by rw [h]; exact Bool.false_ne_true)]
        exact ev_var rfl
    · rw [List.map_append]
      exact .same (.same (.same (.same (.drop rfl (.drop rfl (.drop rfl (.drop rfl (.drop rfl .nil))))))))
  · rw [renewed_zip]
    show _ = PyData.tuple ((l.zipIdx.map (ren r l (at_ ss))).map dRow)
    rw [List.map_map]
    rfl
theorem find_first : ∀ (l : Line) (p : Int), (∃ w ∈ l, w.p = p) → (l.map fun w => w.p)[spotOf l p]? = some p ∧ ∀ m, m < spotOf l p → (l.map fun w => w.p)[m]? ≠ some p
  | [], p, h => by obtain ⟨w, hw, _⟩ := h; cases hw
  | a :: r, p, h => by
    unfold spotOf
    rw [List.findIdx_cons]
    by_cases e : a.p = p
    · rw [show decide (a.p = p) = true from decide_eq_true e]
      simp [e]
    · rw [show decide (a.p = p) = false from decide_eq_false e]
      obtain ⟨w, hw, hp⟩ := h
      have hr : ∃ w ∈ r, w.p = p := by
        rcases List.mem_cons.mp hw with rfl | hw
        · exact absurd hp e
        · exact ⟨w, hw, hp⟩
      obtain ⟨h1, h2⟩ := find_first r p hr
      unfold spotOf at h1 h2
      refine ⟨by simpa using h1, fun m hm => ?_⟩
      cases m with
      | zero => simpa using e
      | succ m => simpa using h2 m (by simpa using hm)
theorem r_spot_of (l : Line) (p : Int) (hl : Okl l) (hp : ∃ w ∈ l, w.p = p) (F : Frm) : SDr Θ F (t_spot_of Θ) [.dat (dLine l), .dat (.int p), .un, .un, .un] (.int (spotOf l p : Nat)) anyP := by
  have hl := hl.1
  unfold t_spot_of
  refine sdr_ret (ev_index (b1 := false) (b2 := false) (ns := l.map fun w => w.p) (EvL.ev (el_is (el_lc (b0 := false) (l := l) (enc := dRow) (fun _ => true) (fun w => .int w.p) (T := [2, 3, 4]) (ei_tup (ev_v rfl)) (by omega) (fun w _ => ?_)) ?_)) (ev_v rfl) (find_first l p hp).1 (find_first l p hp).2) trivial
  · exact ⟨_, bd_row rfl rfl rfl rfl rfl rfl, et_yes, fun _ => ev_var rfl⟩
  · rw [map_filter_true, List.map_map]
    rfl
theorem atI_nat {ds : List PyData} {k : Nat} : atI ds (k : Int) = ds[k]? := by
  unfold atI ixN
  by_cases h : k < ds.length
  · have h1 : (0 : Int) ≤ (k : Int) := by omega
    have h2 : (k : Int) < (ds.length : Int) := by omega
    simp [h1, h2]
  · have h1 : (0 : Int) ≤ (k : Int) := by omega
    have h2 : ¬ (k : Int) < (ds.length : Int) := by omega
    simp [h1, h2]
    omega
theorem r_as_how (l : Line) (s : Nat) (h : How) (hl : Okl l) (hs : s < l.length) (F : Frm) : SDr Θ F (t_as_how Θ) [.dat (dLine l), .dat (.int (s : Nat)), .dat (.str h.s), .un, .un, .un] (dLine (asHow l s h)) anyP := by
  unfold t_as_how
  refine sdr_seq (sd_asgB (ev_ixi (d := dRow l[s]) (ev_v rfl) (ev_v rfl) (.inr rfl) ?_) (bd_row (b := false) (i := 3) (j := 4) (k := 5) rfl rfl rfl rfl rfl rfl)) (sdr_ret (Ev.is (ev_tup (ea_starT (ev_slT (ev_v rfl) eo_none (eo_some (b := false) (ev_v rfl))) (ea_cons (Ev.is (ev_rowT (ea_cons (ev_v rfl) (ea_cons (ev_v rfl) (ea_cons (ev_if (d := dNames (if h = .away then [] else (l[s]).ns)) (et_eqS (b1 := false) (ev_v rfl)) (fun e => ?_) (fun e => ?_)) ea_nil)))) (e := dRow (setHow h l[s])) rfl)
    (ea_starT (ev_slT (ev_v rfl) (eo_some (b := false) (ev_add (b1 := false) (b2 := false) (ev_v rfl) ev_int)) eo_none) ea_nil))) ?_) ?_) trivial)
  · rw [atI_nat, List.getElem?_map, List.getElem?_eq_getElem hs]; rfl
  · rw [away_iff] at e
    rw [if_pos (of_decide_eq_true e)]
    exact ev_rowT ea_nil
  · rw [away_iff] at e
    rw [if_neg (of_decide_eq_false e)]
    exact ev_v rfl
  · have e1 : ((s : Int) + 1) = ((s + 1 : Nat) : Int) := by omega
    rw [e1, cutD_from, cutD_to]
    simp only [List.length_append, List.length_cons, List.length_take, List.length_drop, List.length_map, List.length_nil]
    have := hl.1
    omega
  · have e1 : ((s : Int) + 1) = ((s + 1 : Nat) : Int) := by omega
    rw [e1, cutD_from, cutD_to]
    unfold asHow
    rw [List.modify_eq_take_cons_drop hs]
    show _ = PyData.tuple (List.map dRow _)
    rw [List.map_append, List.map_cons, List.map_take, List.map_drop, List.append_nil]
theorem r_forgetting (l : Line) (hl : Okl l) (F : Frm) : SDr Θ F (t_forgetting Θ) [.dat (dLine l), .un, .un, .un] (dLine (forgetting l)) anyP := by
  have hl := hl.1
  unfold t_forgetting
  have et : EvT Θ (tB (tCB (rAny Θ.K) (tCons (tLc (iTup Θ.K (tVar 0)) (gTup Θ.K 3 (gCons (gName 1) (gCons (gName 2) (gCons (gName 3) gNil)))) tYes (tOp rEq (tVar 2) (tC (.str "here"))) [1, 2, 3]) tNil))) [.dat (dLine l), .un, .un, .un] (l.any isHere) := by
    refine (et_B (b := false) (ev_any (b1 := false) (bs := l.map isHere) (EvL.ev (el_is (el_lc (b0 := false) (l := l) (enc := dRow) (fun _ => true) (fun w => .bool (isHere w)) (T := [1, 2, 3]) (ei_tup (ev_v rfl)) (by omega) (fun w _ => ⟨_, bd_row rfl rfl rfl rfl rfl rfl, et_yes, fun _ => (ev_eqS (b1 := false) (b2 := false) (ev_v rfl) ev_str).is ?_⟩)) ?_)))).is ?_
    · rw [here_iff]; rfl
    · rw [map_filter_true, List.map_map]; rfl
    · rw [List.any_map]; rfl
  cases e : l.any isHere with
  | true =>
    refine sdr_seq_rt (sdr_if et (fun _ => sdr_is (sdr_ret (ev_v rfl) trivial) ?_) fun h => by rw [e] at h; cases h)
    unfold forgetting
    rw [e, if_pos rfl]
  | false =>
    refine sdr_seq (sd_iff et e sd_next) (sdr_ret (Ev.is (ev_tupleOf (EvL.ev (el_lc (b0 := false) (l := l) (enc := dRow) (fun w => decide (w.h ≠ .away)) (fun w => dRow { w with h := .lost }) (T := [1, 2, 3]) (ei_tup (ev_v rfl)) (by omega) (fun w _ => ⟨_, bd_row rfl rfl rfl rfl rfl rfl, (et_neS (b1 := false) (ev_v rfl)).is ?_, fun _ => ev_rowT (ea_cons (ev_v rfl) (ea_cons ev_str (ea_cons (ev_v rfl) ea_nil)))⟩)))) ?_) trivial)
    · rw [away_iff]
      cases w.h <;> rfl
    · unfold forgetting
      rw [e, if_neg Bool.false_ne_true]
      show _ = PyData.tuple (List.map dRow _)
      rw [List.map_map]
      rfl
theorem shaped_ints (ns : List Int) : SeqAt.shaped (dNames ns) = true := lay_shaped (lay_names ns)
theorem r_asked_again (r : Rule) (l : Line) (hl : Okl l) (F : Frm) : SDr Θ F (t_asked_again Θ) [.dat (dRule r), .dat (dLine l), .un, .un, .un, .un] (dLine (askedAgain r l)) anyP := by
  unfold t_asked_again
  have et : EvT Θ (tTest (tOp rNe (tOp (rIx Θ.K) (tVar 0) (tC (.int 6))) (tC (.str "asks")))) [.dat (dRule r), .dat (dLine l), .un, .un, .un, .un] (!r.asks) := (et_neS (b1 := false) (ev_ixc (ev_v rfl) (.inr rfl) rfl)).is (by rw [asks_iff])
  cases e : r.asks with
  | false =>
    refine sdr_seq_rt (sdr_if et (fun _ => sdr_is (sdr_ret (ev_v rfl) trivial) ?_) fun h => by rw [e] at h; cases h)
    unfold askedAgain
    rw [e, if_neg Bool.false_ne_true]
  | true =>
    refine sdr_seq (sd_iff et (by rw [e]; rfl) sd_next) (sdr_ret (Ev.is (ev_call (ea_cons (ev_v rfl) (ea_cons (ev_v rfl) (ea_cons (EvL.ev (el_lc (b0 := false) (l := l.zipIdx) (enc := dIRow) (fun x => x.1.ns.isEmpty) (fun x => .int (x.2 : Nat)) (T := [2, 3, 4, 5]) (ei_irows (ev_v rfl)) (by rw [List.length_zipIdx]; have := hl.1; omega)
      (fun x _ => ⟨_, bd_tup rfl (bds_cons (bd_name (i := 2) rfl rfl) (bds_cons (bd_row (i := 3) (j := 4) (k := 5) rfl rfl rfl rfl rfl rfl) bds_nil)), (et_eqD (b1 := false) (b2 := false) (ev_v rfl) (ev_rowT ea_nil) (shaped_ints _) rfl).is ?_, fun _ => ev_v rfl⟩))) ea_nil))) ⟨r, l, (l.zipIdx.filter fun x => x.1.ns.isEmpty).map (·.2), ?_, hl, rfl⟩) ?_) trivial)
    · cases x.1.ns with
      | nil => rfl
      | cons a r => rfl
    · unfold dSpots
      rw [List.map_map]
      rfl
    · unfold askedAgain
      rw [e, if_pos rfl]
      have : at_ ((l.zipIdx.filter fun x => x.1.ns.isEmpty).map (·.2)) = bare l := by
        funext i
        unfold at_ bare
        cases q : l[i]? with
        | none =>
          refine decide_eq_false fun h => ?_
          obtain ⟨x, hx, rfl⟩ := List.mem_map.mp h
          have hx := (List.mem_filter.mp hx).1
          rw [List.mem_zipIdx_iff_getElem?] at hx
          rw [q] at hx
          cases hx
        | some w =>
          have : (i ∈ (l.zipIdx.filter fun x => x.1.ns.isEmpty).map (·.2)) ↔ w.ns.isEmpty = true := by
            constructor
            · intro h
              obtain ⟨x, hx, rfl⟩ := List.mem_map.mp h
              obtain ⟨h1, h2⟩ := List.mem_filter.mp hx
              rw [List.mem_zipIdx_iff_getElem?, q] at h1
              rw [Option.some.inj h1]
              exact h2
            · intro h
              exact List.mem_map.mpr ⟨(w, i), List.mem_filter.mpr ⟨List.mem_zipIdx_iff_getElem?.mpr q, h⟩, rfl⟩
          show decide _ = w.ns.isEmpty
          cases h : w.ns.isEmpty with
          | true => exact decide_eq_true (this.mpr h)
          | false => exact decide_eq_false fun z => by rw [this.mp z] at h; cases h
      rw [this]
end
end Ask
-- AskF2
set_option Elab.async false
set_option linter.all false
set_option maxRecDepth 100000
/-! what the program's plain defs compute: without, claiming, the needs -/
namespace Ask
open PySem PySem.Spec PyProof.Rows L2
section
variable {Θ : Th}
theorem left_snoc (pre : Line) (w : Row) (p : Int) : left (pre ++ [w]) p = if w.p = p then left pre p else left pre p ++ [w] := by
  unfold left
  rw [List.filter_append]
  by_cases h : w.p = p
  · simp [h]
  · simp [h]
def hitsOf (l : Line) (p : Int) : List Nat := ((left l p).zipIdx.filter fun x => hit p x.1).map (·.2)
theorem hits_snoc (pre : Line) (w : Row) (p : Int) (h : ¬ w.p = p) : hitsOf (pre ++ [w]) p = hitsOf pre p ++ if hit p w then [(left pre p).length] else [] := by
  unfold hitsOf
  rw [left_snoc, if_neg h, List.zipIdx_append, List.filter_append, List.map_append]
  congr 1
  cases q : hit p w <;> simp [q]
theorem hitsOf_at (l : Line) (p : Int) : at_ (hitsOf l p) = hitAt (left l p) p := by
  funext i
  unfold at_ hitAt hitsOf
  cases q : (left l p)[i]? with
  | none =>
    refine decide_eq_false fun h => ?_
    obtain ⟨x, hx, rfl⟩ := List.mem_map.mp h
    have hx := (List.mem_filter.mp hx).1
    rw [List.mem_zipIdx_iff_getElem?] at hx
    rw [q] at hx
    cases hx
  | some w =>
    have : (i ∈ ((left l p).zipIdx.filter fun x => hit p x.1).map (·.2)) ↔ hit p w = true := by
      constructor
      · intro h
        obtain ⟨x, hx, rfl⟩ := List.mem_map.mp h
        obtain ⟨h1, h2⟩ := List.mem_filter.mp hx
        rw [List.mem_zipIdx_iff_getElem?, q] at h1
        rw [Option.some.inj h1]
        exact h2
      · intro h
        exact List.mem_map.mpr ⟨(w, i), List.mem_filter.mpr ⟨List.mem_zipIdx_iff_getElem?.mpr q, h⟩, rfl⟩
    show decide _ = hit p w
    cases h : hit p w with
    | true => exact decide_eq_true (this.mpr h)
    | false => exact decide_eq_false fun z => by rw [this.mp z] at h; cases h
theorem renewed_none (r : Rule) (l : Line) : renewed r l (at_ []) = l := by
  rw [renewed_zip]
  have : ∀ x ∈ l.zipIdx, ren r l (at_ []) x = x.1 := fun x _ => by unfold ren at_; simp
  rw [List.map_congr_left this]
  exact List.zipIdx_map_fst ..
theorem left_le (l : Line) (p : Int) : (left l p).length ≤ l.length := List.length_filter_le _ _
theorem okl_left {l : Line} (h : Okl l) (p : Int) : Okl ((left l p).map (unname p)) := by
  refine ⟨by rw [List.length_map]; exact Nat.le_trans (left_le l p) h.1, fun w hw => ?_⟩
  obtain ⟨v, hv, rfl⟩ := List.mem_map.mp hw
  have := h.2 v (List.mem_filter.mp hv).1
  unfold unname
  split
  · exact Nat.le_trans (List.length_filter_le _ _) this
  · exact this
abbrev wSt (r : Rule) (l : Line) (p : Int) (pre : Line) : List Sl := [.dat (dRule r), .dat (dLine l), .dat (.int p), .own (((left pre p).map (unname p)).map dRow), .own ((hitsOf pre p).map fun (i : Nat) => .int (i : Int)), .un, .un, .un, .un, .un]
theorem r_without (r : Rule) (l : Line) (p : Int) (hl : Okl l) (F : Frm) : SDr Θ F (t_without Θ) [.dat (dRule r), .dat (dLine l), .dat (.int p), .un, .un, .un, .un, .un, .un, .un] (dLine (without r l p)) anyP := by
  unfold t_without
  refine sdr_seq (sd_par (es_own (el_lst ea_nil (by decide))) (es_own (el_lst ea_nil (by decide)))) (sdr_seq (sd_for (b := false) (l := l) (enc := dRow) (wSt r l p) (ei_tup (ev_v rfl)) rfl (fun pre w post e => ?_)) (sdr_retF (Ev.is (ev_call (ea_cons (ev_v rfl) (ea_cons (ev_tupleOf (ev_v rfl)) (ea_cons (ev_if (d := dSpots (if r.on then hitsOf l p else [])) (et_eqS (ev_ixc (ev_v rfl) (.inr rfl) rfl)) (fun h => ?_) (fun h => ?_)) ea_nil))) ⟨r, (left l p).map (unname p), _, rfl, okl_left hl p, rfl⟩) ?_) trivial))
  · have hlen : pre.length < 61 := by
      have h1 := hl.1
      have := congrArg List.length e
      rw [List.length_append, List.length_cons] at this
      omega
    have hw : w ∈ l := by rw [e]; simp
    have hleft : (left pre p).length < 1000 := Nat.lt_of_le_of_lt (left_le pre p) (by omega)
    have hhits : (hitsOf pre p).length < 1000 := by
      unfold hitsOf
      rw [List.length_map]
      refine Nat.lt_of_le_of_lt (List.length_filter_le _ _) ?_
      rw [List.length_zipIdx]
      exact hleft
    by_cases hp : w.p = p
    · refine ⟨_, _, _, bd_row (i := 5) (j := 6) (k := 7) rfl rfl rfl rfl rfl rfl, .inr (sd_seq_ct (sd_ift (et_eqI (b1 := false) (b2 := false) (ev_v rfl) (ev_v rfl)) (decide_eq_true hp) sd_cont)), ?_⟩
      have e1 : left (pre ++ [w]) p = left pre p := by rw [left_snoc, if_pos hp]
      have e2 : hitsOf (pre ++ [w]) p = hitsOf pre p := by unfold hitsOf; rw [e1]
      unfold wSt
      rw [e1, e2]
      exact .same (.same (.same (.same (.same (.drop rfl (.drop rfl (.drop rfl (.drop rfl (.drop rfl .nil)))))))))
    · have e1 : left (pre ++ [w]) p = left pre p ++ [w] := by rw [left_snoc, if_neg hp]
      have e2 := hits_snoc pre w p hp
      refine ⟨_, _, _, bd_row (i := 5) (j := 6) (k := 7) rfl rfl rfl rfl rfl rfl, .inl (sd_seq (sd_iff (et_eqI (b1 := false) (b2 := false) (ev_v rfl) (ev_v rfl)) (decide_eq_false hp) sd_next) (sd_seq (sd_set (ev_v rfl)) (sd_seq
        (sd_if (o := .nx [.dat (dRule r), .dat (dLine l), .dat (.int p), .own (((left pre p).map (unname p)).map dRow), .own ((hitsOf (pre ++ [w]) p).map fun (i : Nat) => .int (i : Int)), .dat (.int w.p), .dat (.str w.h.s), .dat (dNames w.ns), .dat (dNames (unname p w).ns), .un])
          (et_and (et_eqS (b1 := false) (ev_v rfl)) fun _ => et_test (b := false) (ev_inI (b1 := false) (b2 := false) (ev_v rfl) (ev_v rfl) (.inr rfl))) (fun h => ?_) (fun h => ?_))
        (sd_append rfl (d := dRow (unname p w)) (ev_rowT (ea_cons (Ev.is (ev_v rfl) ?_) (ea_cons (Ev.is (ev_v rfl) ?_) (ea_cons (ev_v rfl) ea_nil)))) (by rw [List.length_map, List.length_map]; omega))))), ?_⟩
      · rw [here_iff] at h
        have hh : hit p w = true := h
        refine sd_is (sd_seq (sd_append rfl (d := .int (left pre p).length) ((ev_lenOwn rfl).is ?_) (by rw [List.length_map]; omega)) (sd_set (d := dNames (unname p w).ns) (Ev.is (ev_tupleOf (EvL.ev (el_lc (b0 := false) (l := w.ns) (enc := .int) (fun n => decide (n ≠ p)) (fun n => .int n) (T := [9]) (ei_tup (ev_v rfl)) (by have := hl.2 w hw; omega) (fun n _ => ⟨_, bd_name rfl rfl, (et_neI (b1 := false) (b2 := false) (ev_v rfl) (ev_v rfl)).is ?_, fun _ => ev_v rfl⟩)))) ?_))) ?_
        · rw [List.length_map, List.length_map]
        · rw [decide_not]
        · unfold unname
          rw [if_pos hh]
        · rw [e2, if_pos hh, List.map_append]
          rfl
      · rw [here_iff] at h
        have hh : hit p w = false := h
        refine sd_is sd_next ?_
        rw [e2, if_neg (by rw [hh]; exact Bool.false_ne_true), List.append_nil]
        unfold unname
        rw [if_neg (by rw [hh]; exact Bool.false_ne_true)]
        rfl
      · unfold unname
        split <;> rfl
      · unfold unname
        split <;> rfl
      · unfold wSt
        rw [e1, List.map_append, List.map_append]
        exact .same (.same (.same (.same (.same (.drop rfl (.drop rfl (.drop rfl (.drop rfl (.same .nil)))))))))
  · rw [on_iff] at h
    rw [h, if_pos rfl]
    exact ev_v rfl
  · rw [on_iff] at h
    rw [h, if_neg Bool.false_ne_true]
    exact ev_lst ea_nil (by decide)
  · unfold without
    cases r.on with
    | true => rw [if_pos rfl, if_pos rfl, hitsOf_at]
    | false => rw [if_neg Bool.false_ne_true, if_neg Bool.false_ne_true, renewed_none]
abbrev cSt (r : Rule) (l : Line) (pre : Line) : List Sl := [.dat (dRule r), .dat (dLine l), .dat (.list ((hereOf l).map .int)), .own (((pre.filter fun w => isHere w && decide (w.ns.length ≤ r.t) && !w.ns.any fun n => (hereOf l).contains n).map (·.p)).map .int), .un, .un, .un, .un]
theorem r_claiming (r : Rule) (l : Line) (hl : Okl l) (F : Frm) : SDr Θ F (t_claiming Θ) [.dat (dRule r), .dat (dLine l), .un, .un, .un, .un, .un, .un] (.list ((claiming r l).map .int)) anyP := by
  have hl1 := hl.1
  unfold t_claiming
  refine sdr_seq (sd_set (d := .list ((hereOf l).map .int)) (EvL.ev (el_is (el_lc (b0 := false) (l := l) (enc := dRow) isHere (fun w => .int w.p) (T := [4, 5, 6]) (ei_tup (ev_v rfl)) (by omega) (fun w _ => ⟨_, bd_row rfl rfl rfl rfl rfl rfl, (et_eqS (b1 := false) (ev_v rfl)).is (here_iff _), fun _ => ev_v rfl⟩)) ?_))) (sdr_seq (sd_setL (el_lst ea_nil (by decide))) (sdr_seq
    (sd_for (b := false) (l := l) (enc := dRow) (cSt r l) (ei_tup (ev_v rfl)) rfl (fun pre w post e => ?_)) (sdr_retF (ev_v rfl) trivial)))
  · unfold hereOf
    rw [List.map_map]
    rfl
  · have hlen : pre.length < 1000 := by
      have := congrArg List.length e
      rw [List.length_append, List.length_cons] at this
      omega
    have hw : w ∈ l := by rw [e]; simp
    refine ⟨_, _, _, bd_row (i := 4) (j := 5) (k := 6) rfl rfl rfl rfl rfl rfl, .inl (sd_if (v := isHere w && (decide (w.ns.length ≤ r.t) && !w.ns.any fun n => (hereOf l).contains n))
      (o := .nx [.dat (dRule r), .dat (dLine l), .dat (.list ((hereOf l).map .int)), .own ((((pre ++ [w]).filter fun w => isHere w && decide (w.ns.length ≤ r.t) && !w.ns.any fun n => (hereOf l).contains n).map (·.p)).map .int), .dat (.int w.p), .dat (.str w.h.s), .dat (dNames w.ns), .un])
      (et_and ((et_eqS (b1 := false) (ev_v rfl)).is (here_iff _)) fun _ => et_and ((et_le (b1 := false) (b2 := false) (ev_len (b1 := false) (ev_v rfl) (.inr rfl)) (ev_ixc (ev_v rfl) (.inr rfl) rfl)).is ?_) fun _ => et_not ((et_B (b := false) (ev_any (b1 := false) (bs := w.ns.map fun n => (hereOf l).contains n) (EvL.ev (el_is (el_lc (b0 := false) (l := w.ns) (enc := .int) (fun _ => true) (fun n => .bool ((hereOf l).contains n)) (T := [7]) (ei_tup (ev_v rfl)) (by have := hl.2 w hw; omega)
        (fun n _ => ⟨_, bd_name rfl rfl, et_yes, fun _ => ev_inI (b1 := false) (b2 := false) (ev_v rfl) (ev_v rfl) (.inl rfl)⟩)) ?_)))).is ?_))
      (fun h => ?_) (fun h => ?_)), ?_⟩
    · rw [List.length_map]
      refine decide_eq_decide.mpr ?_
      omega
    · rw [map_filter_true, List.map_map]
      rfl
    · rw [List.any_map]
      rfl
    · refine sd_is (sd_append rfl (ev_v rfl) ?_) ?_
      · rw [List.length_map, List.length_map]
        exact Nat.lt_of_le_of_lt (List.length_filter_le _ _) (by omega)
      · rw [← Bool.and_assoc] at h
        rw [List.filter_append, List.filter_cons, if_pos h, List.filter_nil, List.map_append, List.map_append]
        rfl
    · refine sd_is sd_next ?_
      rw [← Bool.and_assoc] at h
      rw [List.filter_append, List.filter_cons, if_neg (by rw [h]; exact Bool.false_ne_true), List.filter_nil, List.append_nil]
      rfl
    · exact .same (.same (.same (.same (.drop rfl (.drop rfl (.drop rfl (.same .nil)))))))
end
end Ask
-- AskF3
set_option Elab.async false
set_option linter.all false
set_option maxRecDepth 100000
/-! what the program's needs compute -/
namespace Ask
open PySem PySem.Spec PyProof.Rows L2
section
variable {Θ : Th} {F : Frm} {δ : List Sl} {b b1 b2 : Bool} {ta tb tc : TE} {x : PyData} {ds : List PyData}
theorem kit_int_int (K : PySem.W.Frag) : PySem.W.kitOne K (.type "int") (.type "int") = some true := by
  unfold PySem.W.kitOne
  rfl
theorem kit_int_bool (K : PySem.W.Frag) : PySem.W.kitOne K (.type "int") (.type "bool") = some false := by
  unfold PySem.W.kitOne
  rfl
theorem kit_str (K : PySem.W.Frag) : PySem.W.kitOne K (.type "str") (.type "str") = some true := by
  unfold PySem.W.kitOne
  rfl
theorem kit_tuple (K : PySem.W.Frag) : PySem.W.kitOne K (.type "tuple") (.type "tuple") = some true := by
  unfold PySem.W.kitOne
  rfl
theorem ev_isiI {n : Int} (ha : Ev Θ b1 ta δ (.int n)) : Ev Θ b (tCB (rIsi Θ.K) (tCons ta (tCons (tC (.ty "int")) tNil))) δ (.bool true) := fun σ H0 Hb H A st Q q => ha σ H0 Hb H A st _ fun v H1 s1 d1 => by
  cases d1
  exact ⟨.int n, _, .type "int", .type "int", true, rfl, .ty _, .base (.int n), kit_int_int _, q _ _ s1 (.bl _)⟩
theorem ev_isiB {n : Int} (ha : Ev Θ b1 ta δ (.int n)) : Ev Θ b (tCB (rIsi Θ.K) (tCons ta (tCons (tC (.ty "bool")) tNil))) δ (.bool false) := fun σ H0 Hb H A st Q q => ha σ H0 Hb H A st _ fun v H1 s1 d1 => by
  cases d1
  exact ⟨.int n, _, .type "int", .type "bool", false, rfl, .ty _, .base (.int n), kit_int_bool _, q _ _ s1 (.bl _)⟩
theorem ev_isiS {n : Str} (ha : Ev Θ b1 ta δ (.str n)) : Ev Θ b (tCB (rIsi Θ.K) (tCons ta (tCons (tC (.ty "str")) tNil))) δ (.bool true) := fun σ H0 Hb H A st Q q => ha σ H0 Hb H A st _ fun v H1 s1 d1 => by
  cases d1
  exact ⟨.str n, _, .type "str", .type "str", true, rfl, .ty _, .base (.str n), kit_str _, q _ _ s1 (.bl _)⟩
theorem ty_tup {H : Hp} {a : Addr} {xs : List V} (h : SqT Θ.K H a xs) : TyX Θ.K H (.ref a) (.type "tuple") := by
  rcases h with h | h
  · rcases h with h | ⟨o, h⟩
    · exact .base (.tup h)
    · exact .fTuple h
  · obtain ⟨o, _, _, h1, h2, _⟩ := h
    exact .kTuple h1 h2
theorem ev_isiT (ha : Ev Θ b1 ta δ (.tuple ds)) : Ev Θ b (tCB (rIsi Θ.K) (tCons ta (tCons (tC (.ty "tuple")) tNil))) δ (.bool true) := fun σ H0 Hb H A st Q q => ha σ H0 Hb H A st _ fun v H1 s1 d1 => by
  cases d1 with
  | @tup a vs _ hs ha' =>
    exact ⟨.ref a, _, .type "tuple", .type "tuple", true, rfl, .ty _, ty_tup (Same.seqT (ext_same ((bse_le st.h0).trans st.hb) s1) hs), kit_tuple _, q _ _ s1 (.bl _)⟩
/-- l ≤ m ≤ n -/
theorem ev_chain {l m n : Int} (ha : Ev Θ b1 ta δ (.int l)) (hb : Ev Θ b2 tb δ (.int m)) (hc : Ev Θ false tc δ (.int n)) : Ev Θ b (tChain (rI0 fun i j => .bl (decide (i ≤ j))) (rI0 fun i j => .bl (decide (i ≤ j))) ta tb tc) δ (.bool (decide (l ≤ m) && decide (m ≤ n))) := fun σ H0 Hb H A st Q q =>
  ha σ H0 Hb H A st _ fun v H1 s1 d1 => hb σ _ _ H1 A (st.ext s1) _ fun u H2 s2 d2 => by
    cases d1
    cases d2
    refine ⟨l, m, rfl, rfl, decide (l ≤ m), rfl, ?_⟩
    cases h : decide (l ≤ m) with
    | true =>
      rw [if_pos rfl]
      refine hc σ _ _ H2 A ((st.ext s1).ext s2) _ fun v H3 s3 d3 => ?_
      cases d3
      exact ⟨m, n, rfl, rfl, q _ _ ((s1.trans s2).trans s3) (by rw [h, Bool.true_and]; exact .bl _)⟩
    | false =>
      rw [if_neg Bool.false_ne_true]
      exact q _ _ (s1.trans s2) (by rw [h, Bool.false_and]; exact .bl _)
theorem r_is_integer (n : Int) (F : Frm) : SDr Θ F (t_is_integer Θ) [.dat (.int n)] (.bool true) anyP := by
  unfold t_is_integer
  exact sdr_ret (Ev.is (ev_andV (ev_isiI (b := false) (ev_v rfl)) fun _ => ev_notV (b := false) (ev_isiB (b := false) (ev_v rfl))) rfl) trivial
theorem r_is_between (n a c : Int) (F : Frm) : SDr Θ F (t_is_between Θ) [.dat (.int n), .dat (.int a), .dat (.int c)] (.bool (decide (a ≤ n) && decide (n ≤ c))) anyP := by
  unfold t_is_between
  exact sdr_ret (Ev.is (ev_andV (ev_call (b := false) (ea_cons (ev_v rfl) ea_nil) ⟨n, rfl, rfl⟩) fun _ => ev_chain (b := false) (ev_v rfl) (ev_v rfl) (ev_v rfl)) (by rw [Bool.true_and])) trivial
theorem r_is_one_of (ss : List Str) (s : Str) (F : Frm) : SDr Θ F (t_is_one_of Θ) [.dat (.tuple (ss.map .str)), .dat (.str s)] (.bool (ss.any fun z => PyData.eqv (.str z) (.str s))) anyP := by
  unfold t_is_one_of
  refine sdr_ret (Ev.is (ev_andV (ev_isiS (b := false) (ev_v rfl)) fun _ => ev_inS (b := false) (ev_v rfl) (ev_v rfl) (.inr rfl)) ?_) trivial
  rw [Bool.true_and, ← any_str, List.any_map]
  rfl
/-- CHOICES -/
def dChoices : List (List Str) := [["line", "seen"], ["none", "on"], ["asks", "old", "tells"], ["quiet", "told"], ["asks", "claims"]]
abbrev dCh : PyData := .tuple (dChoices.map fun ss => .tuple (ss.map .str))
theorem rule_choice (r : Rule) (i : Nat) (ss : List Str) (h : dChoices[i]? = some ss) : ∃ s, atI [PyData.int r.k, .int r.t, .str (sLine r.line), .str (sOn r.on), .str r.back.s, .str (sTold r.told), .str (sAsks r.asks)] ((2 : Int) + (i : Int)) = some (.str s) ∧ ss.any (fun z => PyData.eqv (.str z) (.str s)) = true := by
  unfold dChoices at h
  match i, h with
  | 0, h => cases h; refine ⟨_, rfl, ?_⟩; cases r.line <;> decide +kernel
  | 1, h => cases h; refine ⟨_, rfl, ?_⟩; cases r.on <;> decide +kernel
  | 2, h => cases h; refine ⟨_, rfl, ?_⟩; cases r.back <;> decide +kernel
  | 3, h => cases h; refine ⟨_, rfl, ?_⟩; cases r.told <;> decide +kernel
  | 4, h => cases h; refine ⟨_, rfl, ?_⟩; cases r.asks <;> decide +kernel
  | n + 5, h => simp at h
theorem r_need_rule (hC : ∀ H, Dp Θ.K H (.ref Θ.aC) dCh) (r : Rule) (ok : RuleOk r) (F : Frm) : SDr Θ F (t_need_rule Θ) [.dat (dRule r), .un, .un] (dRule r) anyP := by
  obtain ⟨k1, k2, k3⟩ := ok
  unfold t_need_rule
  refine sdr_seq (sd_iff (et_or (et_not (et_B (b := false) (ev_isiT (b1 := false) (ev_v rfl)))) fun _ => et_neI (b1 := false) (b2 := false) (ev_len (b1 := false) (ev_v rfl) (.inr rfl)) (ev_add (b1 := false) (b2 := false) ev_int (ev_len (b1 := false) (ev_mod hC) (.inr rfl)))) rfl sd_next) ?_
  refine sdr_seq (sd_iff (et_not (et_B (b := false) (ev_call (ea_cons (ev_ixc (ev_v rfl) (.inr rfl) rfl) (ea_cons ev_int (ea_cons ev_int ea_nil))) ⟨_, _, _, rfl, rfl⟩))) ?_ sd_next) ?_
  · rw [decide_eq_true (by omega), decide_eq_true (by omega)]
    rfl
  refine sdr_seq (sd_iff (et_not (et_B (b := false) (ev_call (ea_cons (ev_ixc (ev_v rfl) (.inr rfl) rfl) (ea_cons ev_int (ea_cons (ev_ixc (ev_v rfl) (.inr rfl) rfl) ea_nil))) ⟨_, _, _, rfl, rfl⟩))) ?_ sd_next) ?_
  · rw [decide_eq_true (by omega), decide_eq_true (by omega)]
    rfl
  refine sdr_seq (sd_for (b := false) (l := dChoices.zipIdx) (enc := fun x => .tuple [.int (x.2 : Nat), .tuple (x.1.map .str)]) (fun _ => [.dat (dRule r), .un, .un]) (ei_enumT (ev_mod hC)) rfl (fun pre x post e => ?_)) (sdr_ret (ev_v rfl) trivial)
  have hx : x ∈ dChoices.zipIdx := by rw [e]; simp
  rw [List.mem_zipIdx_iff_getElem?] at hx
  obtain ⟨s, h1, h2⟩ := rule_choice r x.2 x.1 hx
  refine ⟨_, _, _, bd_tup rfl (bds_cons (bd_name (i := 1) rfl rfl) (bds_cons (bd_name (i := 2) rfl rfl) bds_nil)), .inl (sd_iff (et_not (et_B (b := false) (ev_call (ea_cons (ev_v rfl) (ea_cons (ev_ixi (ev_v rfl) (ev_add (b1 := false) (b2 := false) ev_int (ev_v rfl)) (.inr rfl) h1) ea_nil)) ⟨_, _, rfl, rfl⟩))) ?_ sd_next), .same (.drop rfl (.drop rfl .nil))⟩
  rw [h2]
  rfl
theorem r_need_people (n : Nat) (h1 : 1 ≤ n) (h2 : n ≤ 6) (F : Frm) : SDr Θ F (t_need_people Θ) [.dat (.int n), .dat (.int 0)] (.int n) anyP := by
  unfold t_need_people
  refine sdr_seq (sd_iff (et_not (et_B (b := false) (ev_call (ea_cons (ev_v rfl) (ea_cons (d := .int 1) ?_ (ea_cons ev_int ea_nil))) ⟨_, _, _, rfl, rfl⟩))) ?_ sd_next) (sdr_ret (ev_v rfl) trivial)
  · intro σ H0 Hb H A st Q q
    obtain ⟨o, ho, _, v, rfl, hd⟩ := st.sl 1 _ rfl
    cases hd
    exact ⟨_, ho, 1, 0, rfl, q _ _ (Same.refl _) (.int _)⟩
  · rw [decide_eq_true (by omega), decide_eq_true (by omega)]
    rfl
end
end Ask
-- AskF4
set_option Elab.async false
set_option linter.all false
set_option maxRecDepth 100000
/-! what the room's methods compute -/
namespace Ask
open PySem PySem.Spec PyProof.Rows L2
section
variable {Θ : Th} {F : Frm} {δ : List Sl} {b b1 b2 : Bool} {ta tb te : TE} {tr : TA} {d x y : PyData} {ds es : List PyData} {i j : Nat} {E : XK}
/-! a text or None -/
def isHow (n : Str) : Option How → Bool
  | none => false
  | some h => decide (h.s = n)
def inHow (ns : List Str) : Option How → Bool
  | none => false
  | some h => decide (h.s ∈ ns)
theorem ev_eqHow {o : Option How} {n : Str} (ha : Ev Θ b1 ta δ (dHow o)) : Ev Θ b (tOp rEq ta (tC (.str n))) δ (.bool (isHow n o)) := by
  cases o with
  | none => exact ev_eqNS (b2 := false) ha ev_str
  | some h => exact ev_eqS (b2 := false) ha ev_str
variable (Θ) in
/-- a list that stands as it was laid -/
def EvM (b : Bool) (t : TE) (δ : List Sl) (ds : List PyData) : Prop := ∀ σ H0 Hb H A, St0 Θ δ σ H0 Hb H A → ∀ Q : VK, (∀ p vs H', Same H H' → H' p = some (.lst vs) → DpAll Θ.K (ext (bse b H0 Hb) H H') vs ds → Q (.ref p) H') → t σ H Q
theorem EvL.m (h : EvL Θ b ta δ ds) : EvM Θ b ta δ ds := fun σ H0 Hb H A st Q q => h σ H0 Hb H A st Q fun p vs H' s' n hp hd => q p vs H' s' hp (hd.mono del_same)
theorem em_own (h : δ[i]? = some (.own ds)) : EvM Θ b (tVar i) δ ds := fun σ H0 Hb H A st Q q => by
  obtain ⟨o, ho, p, vs, _, rfl, h1, h2, h3⟩ := st.sl i _ h
  exact ⟨_, ho, q p vs H (Same.refl _) h2 (h3.mono ((bse_same st.h0).trans (same_ext ((bse_le st.h0).trans st.hb))))⟩
theorem el_cat (ha : EvM Θ b ta δ ds) (hb : EvM Θ b tb δ es) (hl : ds.length + es.length ≤ 100000) : EvL Θ b (tOp rCat ta tb) δ (ds ++ es) := fun σ H0 Hb H A st Q q =>
  ha σ H0 Hb H A st _ fun p vs H1 s1 hp hd => hb σ _ _ H1 A (st.ext s1) _ fun p2 us H2 s2 hp2 hd2 => by
    rw [bse_ext, ext_ext s1 s2] at hd2
    refine ⟨p, p2, vs, us, rfl, rfl, s2 _ _ hp, hp2, sz1000 (by rw [hd.length, hd2.length]; exact hl), fun z nz => ?_⟩
    obtain ⟨a1, a2, a3⟩ := new_lstL (B := bse b H0 Hb) (s1.trans s2) nz ((hd.mono (ext_monoR s2)).append hd2)
    exact q z _ _ a1 a2 upd_same a3
/-- list(range(a, b)) -/
theorem ev_listRg {s n : Nat} (ha : Ev Θ b1 ta δ (.int s)) (hb : Ev Θ b2 tb δ (.int n)) (hs : s ≤ 10000) (hn : n ≤ 10000) : Ev Θ b (tLstRg (tRg2 ta tb)) δ (dSpots ((List.range (n - s)).map fun i => s + i)) := fun σ H0 Hb H A st Q q =>
  two st ha hb (R := fun v u H2 => ∃ i j, v = .int i ∧ u = .int j ∧ (RgOk i j ∧ ∀ q, H2 q = none → Q (.ref q) (upd H2 q (.lst (rgV i j))))) fun v u H' s' dv du => by
    cases dv
    cases du
    refine ⟨_, _, rfl, rfl, RgOk.of_le (by omega) (by omega) (by omega) (by omega), fun z nz => ?_⟩
    have e : (((n : Int) - (s : Int)).toNat) = n - s := by omega
    have hd : DpAll Θ.K (ext (bse b H0 Hb) H H') (rgV (s : Int) (n : Int)) (((List.range (n - s)).map fun i => s + i).map fun (i : Nat) => PyData.int (i : Int)) := by
      unfold rgV
      rw [e, List.map_map]
      generalize List.range (n - s) = l
      induction l with
      | nil => exact .nil
      | cons a r ih => exact .cons (by
          show Dp _ _ (.int ((s : Int) + (a : Int))) (.int ((s + a : Nat) : Int))
          rw [show ((s + a : Nat) : Int) = (s : Int) + (a : Int) by omega]
          exact .int _) ih
    obtain ⟨a1, a2⟩ := new_lst s' nz hd
    exact q _ _ a1 a2
theorem at_range (s n : Nat) : ∀ i, i < n → at_ ((List.range (n - s)).map fun i => s + i) i = decide (s ≤ i) := fun i hi => by
  unfold at_
  refine decide_eq_decide.mpr ⟨fun h => ?_, fun h => ?_⟩
  · obtain ⟨k, _, rfl⟩ := List.mem_map.mp h
    omega
  · exact List.mem_map.mpr ⟨i - s, List.mem_range.mpr (by omega), by omega⟩
theorem renewed_congr {r : Rule} {l : Line} {f g : Nat → Bool} (h : ∀ i, i < l.length → f i = g i) : renewed r l f = renewed r l g := by
  rw [renewed_zip, renewed_zip]
  refine List.map_congr_left fun x hx => ?_
  have := List.mem_zipIdx_iff_getElem?.mp hx
  unfold ren
  rw [h x.2 (List.getElem?_eq_some_iff.mp this).1]
theorem ev_line {s : Sl} {r : Rule} {m : Rm} (K : ClsF Θ.K Θ.C) (hs : δ[i]? = some s) (hr : roomOf s = some (dRm r m)) : Ev Θ b (tFld Θ.K (tVar i) "line_now") δ (dLine m.l) := ev_fLine K hs hr
theorem ev_rule {s : Sl} {r : Rule} {m : Rm} (K : ClsF Θ.K Θ.C) (hs : δ[i]? = some s) (hr : roomOf s = some (dRm r m)) : Ev Θ b (tFld Θ.K (tVar i) "own_rule") δ (dRule r) := ev_fRule K hs hr
theorem ev_cameN {s : Sl} {r : Rule} {m : Rm} (K : ClsF Θ.K Θ.C) (hs : δ[i]? = some s) (hr : roomOf s = some (dRm r m)) : Ev Θ b (tFld Θ.K (tVar i) "came_so_far") δ (.int (m.c : Nat)) := ev_fCame K hs hr
theorem evt_at0 (e : Evt) : atI (.str e.s :: e.who.map .int) (0 : Int) = some (PyData.str e.s) := by
  rw [show (0 : Int) = ((0 : Nat) : Int) from rfl, atI_nat]
  rfl
theorem atI_0 {z : PyData} {zs : List PyData} : atI (z :: zs) (0 : Int) = some z := by
  rw [show (0 : Int) = ((0 : Nat) : Int) from rfl, atI_nat]
  rfl
theorem wd_come (w : Wd) : decide (w.s = "come") = false := by cases w <;> decide +kernel
theorem wd_door (w : Wd) : decide (w.s = "door") = false := by cases w <;> decide +kernel
theorem wd_back (w : Wd) : decide (w.s = "back") = decide (w = .back) := by cases w <;> decide +kernel
theorem wd_let (w : Wd) : decide (w.s = "let") = decide (w = .let_) := by cases w <;> decide +kernel
theorem wd_leave (w : Wd) : decide (w.s = "leave") = decide (w = .leave) := by cases w <;> decide +kernel
theorem wd_out (w : Wd) : decide (w.s = "out") = decide (w = .out) := by cases w <;> decide +kernel
theorem evt_come (e : Evt) : decide (e.s = "come") = decide (e = .come) := by
  cases e with
  | come => decide +kernel
  | door => decide +kernel
  | per w p =>
    rw [show decide (Evt.per w p = Evt.come) = false from decide_eq_false (by simp)]
    exact wd_come w
theorem evt_door (e : Evt) : decide (e.s = "door") = decide (e = .door) := by
  cases e with
  | come => decide +kernel
  | door => decide +kernel
  | per w p =>
    rw [show decide (Evt.per w p = Evt.door) = false from decide_eq_false (by simp)]
    exact wd_door w
theorem how_iff {o : Option How} {n : Str} {h : How} (hn : ∀ g : How, decide (g.s = n) = decide (g = h)) : isHow n o = decide (o = some h) := by
  cases o with
  | none => rfl
  | some g =>
    show decide (g.s = n) = _
    rw [hn g]
    exact decide_eq_decide.mpr ⟨fun e => by rw [e], fun e => Option.some.inj e⟩
variable (K : ClsF Θ.K Θ.C)
include K
theorem r_are_here (r : Rule) (m : Rm) (hl : Okl m.l) (F : Frm) (pq : Addr × Addr) : SDr Θ F (t_are_here Θ) [.par false pq (dRm r m), .un, .un, .un] (.list ((hereOf m.l).map .int)) anyP := by
  have hl := hl.1
  unfold t_are_here
  refine sdr_ret (EvL.ev (el_is (el_lc (b0 := false) (l := m.l) (enc := dRow) isHere (fun w => .int w.p) (T := [1, 2, 3]) (ei_tup (ev_line K (r := r) (m := m) rfl rfl)) (by omega) (fun w _ => ⟨_, bd_row rfl rfl rfl rfl rfl rfl, (et_eqS (b1 := false) (ev_v rfl)).is (here_iff _), fun _ => ev_v rfl⟩)) ?_)) trivial
  unfold hereOf
  rw [List.map_map]
  rfl
theorem r_how_is (r : Rule) (m : Rm) (p : Int) (hl : Okl m.l) (F : Frm) (pq : Addr × Addr) : SDr Θ F (t_how_is Θ) [.par false pq (dRm r m), .dat (.int p), .un, .un, .un, .un] (dHow (howOf m.l p)) anyP := by
  have hl := hl.1
  unfold t_how_is
  have e0 : howOf m.l p = ((m.l.filter fun w => decide (w.p = p)).head?).map (·.h) := by unfold howOf; rw [List.head?_filter]
  refine sdr_seq (sd_set (d := .list ((m.l.filter fun w => decide (w.p = p)).map fun w => .str w.h.s)) (EvL.ev (el_lc (b0 := false) (l := m.l) (enc := dRow) (fun w => decide (w.p = p)) (fun w => .str w.h.s) (T := [3, 4, 5]) (ei_tup (ev_line K (r := r) (m := m) rfl rfl)) (by omega) (fun w _ => ⟨_, bd_row rfl rfl rfl rfl rfl rfl, et_eqI (b1 := false) (b2 := false) (ev_v rfl) (ev_v rfl), fun _ => ev_v rfl⟩)))) (sdr_ret (ev_if (et_neD (b1 := false) (b2 := false) (ev_v rfl) (ev_lst ea_nil (by decide)) (lay_shaped (n := 1) (lay_lst fun d hd => ?_)) rfl) (fun h => ?_) (fun h => ?_)) trivial)
  · obtain ⟨w, _, rfl⟩ := List.mem_map.mp hd
    exact lay_how _
  · rw [e0]
    cases q : m.l.filter fun w => decide (w.p = p) with
    | nil => rw [q] at h; cases h
    | cons w rest => exact ev_ixc (ev_v rfl) (.inl rfl) atI_0
  · rw [e0]
    cases q : m.l.filter fun w => decide (w.p = p) with
    | nil => exact ev_non
    | cons w rest => rw [q] at h; cases h
omit K in
theorem ev_inHow {o : Option How} {ns : List Str} (ha : Ev Θ b1 ta δ (dHow o)) (hb : Ev Θ b2 tb δ (.tuple (ns.map .str))) : Ev Θ b (tOp (rIn Θ.K false) ta tb) δ (.bool (inHow ns o)) := by
  cases o with
  | some h => exact ev_inS ha hb (.inr rfl)
  | none =>
    refine (ev_in (neg := false) ha hb (.inr rfl) rfl (flats_str _)).is ?_
    rw [if_neg Bool.false_ne_true]
    have : ∀ ns : List Str, (ns.map PyData.str).any (fun z => PyData.eqv z .none) = false := fun ns => by
      induction ns with
      | nil => rfl
      | cons a r ih => rw [List.map_cons, List.any_cons, ih]; simp [PyData.eqv]
    show PyData.bool _ = PyData.bool false
    rw [show dHow none = PyData.none from rfl, this]
omit K in
theorem here_any (l : Line) : (!PyData.eqv (.list ((hereOf l).map .int)) (.list [])) = l.any isHere := by
  cases q : hereOf l with
  | nil =>
    unfold hereOf at q
    rw [List.map_eq_nil_iff] at q
    symm
    rw [show (!PyData.eqv (.list (([] : List Int).map PyData.int)) (.list [])) = false by rfl]
    rw [List.any_eq_false]
    intro w hw hh
    have : w ∈ l.filter isHere := List.mem_filter.mpr ⟨hw, hh⟩
    rw [q] at this
    cases this
  | cons p rest =>
    unfold hereOf at q
    symm
    rw [show (!PyData.eqv (.list ((p :: rest).map PyData.int)) (.list [])) = true by rfl]
    rw [List.any_eq_true]
    cases q2 : l.filter isHere with
    | nil => rw [q2] at q; cases q
    | cons w ws =>
      have : w ∈ l.filter isHere := by rw [q2]; exact List.mem_cons_self ..
      exact ⟨w, (List.mem_filter.mp this).1, (List.mem_filter.mp this).2⟩
theorem r_can_be (r : Rule) (m : Rm) (e : Evt) (hl : Okl m.l) (F : Frm) (pq : Addr × Addr) : SDr Θ F (t_can_be Θ) [.par false pq (dRm r m), .dat (dEvt e), .un, .un, .un] (.bool (canBe r m e)) anyP := by
  unfold t_can_be
  refine sdr_seq (sd_set (d := .str e.s) (ev_ixc (ev_v rfl) (.inr rfl) (evt_at0 e))) ?_
  cases e with
  | come => exact sdr_seq_rt (sdr_if (et_eqS (b1 := false) (ev_v rfl)) (fun _ => sdr_ret (Ev.is (ev_lt (b1 := false) (b2 := false) (ev_cameN K (r := r) (m := m) rfl rfl) ev_int) (congrArg _ (decide_eq_decide.mpr (by show ((m.c : Nat) : Int) < 12 ↔ m.c < 12; omega)))) trivial) fun h => absurd h (by decide +kernel))
  | door => exact sdr_seq (sd_iff (et_eqS (b1 := false) (ev_v rfl)) (by decide +kernel) sd_next) (sdr_seq_rt (sdr_if (et_eqS (b1 := false) (ev_v rfl)) (fun _ => sdr_ret (Ev.is (ev_neD (b1 := false) (b2 := false) (ev_meth (b := false) rfl rfl ea_nil ⟨r, m, rfl, hl, rfl, rfl⟩) (ev_lst ea_nil (by decide)) (lay_shaped (lay_ints _)) rfl) (congrArg _ (here_any _))) trivial) fun h => absurd h (by decide +kernel)))
  | per w p =>
    refine sdr_seq (sd_iff (et_eqS (b1 := false) (ev_v rfl)) (wd_come w) sd_next) (sdr_seq (sd_iff (et_eqS (b1 := false) (ev_v rfl)) (wd_door w) sd_next) (sdr_seq (sd_set (d := dHow (howOf m.l p)) (ev_meth (b := false) rfl rfl (ea_cons (ev_ixc (ev_v rfl) (.inr rfl) rfl) ea_nil) ⟨r, m, p, rfl, hl, rfl, rfl⟩)) ?_))
    have e12 : (decide (((m.c : Nat) : Int) < 12)) = decide (m.c < 12) := decide_eq_decide.mpr (by omega)
    by_cases hw : w = .back
    · subst hw
      refine sdr_seq_rt (sdr_if (et_eqS (b1 := false) (ev_v rfl)) (fun _ => sdr_seq (sd_set (ev_andV (ev_eqHow (b := false) (b1 := false) (ev_v rfl)) fun _ => ev_eqS (b := false) (b1 := false) (b2 := false) (ev_ixc (ev_rule K (r := r) (m := m) rfl rfl) (.inr rfl) rfl) ev_str))
        (sdr_ret (Ev.is (ev_andV (ev_inHow (ns := ["out", "lost"]) (b := false) (b1 := false) (b2 := false) (ev_v rfl) (ev_rowT (ea_cons ev_str (ea_cons ev_str ea_nil)))) fun _ => ev_orV (b := false) (ev_notV (b := false) (b1 := false) (ev_v rfl)) fun _ => ev_lt (b := false) (b1 := false) (b2 := false) (ev_cameN K (r := r) (m := m) rfl rfl) ev_int) ?_) trivial)) fun h => absurd ((wd_back .back).symm.trans h) (by decide +kernel))
      show PyData.bool (_ && (!(_ && decide (r.back.s = "asks")) || decide ((m.c : Int) < 12))) = PyData.bool (canBe r m (.per .back p))
      rw [e12, bk_asks, how_iff (h := .lost) (n := "lost") lost_iff]
      unfold canBe
      congr 2
      cases howOf m.l p with
      | none => rfl
      | some h => cases h <;> decide +kernel
    · refine sdr_seq (sd_iff (et_eqS (b1 := false) (ev_v rfl)) ((wd_back w).trans (decide_eq_false hw)) sd_next) (sdr_ret (Ev.is (ev_andV (ev_eqHow (b := false) (b1 := false) (ev_v rfl)) fun _ => ev_orV (b := false) (ev_neS (b := false) (b1 := false) (b2 := false) (ev_v rfl) ev_str) fun _ => ev_lt (b := false) (b1 := false) (b2 := false) (ev_cameN K (r := r) (m := m) rfl rfl) ev_int) ?_) trivial)
      show PyData.bool (_ && ((!decide (w.s = "let")) || decide ((m.c : Int) < 12))) = PyData.bool (canBe r m (.per w p))
      rw [e12, wd_let, how_iff (h := .here) (n := "here") here_iff, ← decide_not]
      cases w <;> first | rfl | exact absurd rfl hw
theorem r_is_growing (r : Rule) (m : Rm) (e : Evt) (hl : Okl m.l) (F : Frm) (pq : Addr × Addr) : SDr Θ F (t_is_growing Θ) [.par false pq (dRm r m), .dat (dEvt e)] (.bool (growing r m e)) anyP := by
  unfold t_is_growing
  have et : EvT Θ (tTest (tOp rNe (tOp (rIx Θ.K) (tVar 1) (tC (.int 0))) (tC (.str "back")))) [.par false pq (dRm r m), .dat (dEvt e)] (!decide (e.s = "back")) := et_neS (b1 := false) (ev_ixc (ev_v rfl) (.inr rfl) (evt_at0 e))
  by_cases he : ∃ p, e = .per .back p
  · obtain ⟨p, rfl⟩ := he
    refine sdr_seq (sd_iff et (show (!decide (Wd.back.s = "back")) = false by decide +kernel) sd_next) (sdr_ret (Ev.is (ev_andV (ev_eqS (b := false) (b1 := false) (b2 := false) (ev_ixc (ev_rule K (r := r) (m := m) rfl rfl) (.inr rfl) rfl) ev_str) fun _ => ev_eqHow (b := false) (b1 := false) (ev_meth (b := false) rfl rfl (ea_cons (ev_ixc (ev_v rfl) (.inr rfl) rfl) ea_nil) ⟨r, m, p, rfl, hl, rfl, rfl⟩)) ?_) trivial)
    rw [bk_asks, how_iff (h := .lost) (n := "lost") lost_iff]
    rfl
  · refine sdr_seq_rt (sdr_if et (fun _ => sdr_ret (Ev.is (ev_inS (ns := ["come", "let"]) (b := false) (b1 := false) (b2 := false) (ev_ixc (ev_v rfl) (.inr rfl) (evt_at0 e)) (ev_rowT (ea_cons ev_str (ea_cons ev_str ea_nil))) (.inr rfl)) ?_) trivial) fun h => ?_)
    · congr 1
      cases e with
      | come => show decide (("come" : Str) ∈ (["come", "let"] : List Str)) = true; decide +kernel
      | door => show decide (("door" : Str) ∈ (["come", "let"] : List Str)) = false; decide +kernel
      | per w p =>
        have q : ∀ w : Wd, w ≠ .back → decide (w.s ∈ (["come", "let"] : List Str)) = decide (w = .let_) := by intro w hw; cases w <;> first | decide +kernel | exact absurd rfl hw
        refine (q w fun e => he ⟨p, by rw [e]⟩).trans ?_
        cases w <;> first | rfl | exact absurd ⟨p, rfl⟩ he
    · exfalso
      cases e with
      | come => exact absurd h (by decide +kernel)
      | door => exact absurd h (by decide +kernel)
      | per w p =>
        have : decide (w.s = "back") = false := (wd_back w).trans (decide_eq_false fun e => he ⟨p, by rw [e]⟩)
        have h2 : (!decide (w.s = "back")) = false := h
        rw [this] at h2
        cases h2
end
end Ask
-- AskPure2
set_option Elab.async false
set_option linter.all false
set_option maxRecDepth 100000
/-! sizes stay -/
namespace Ask
open PySem PySem.Spec PyProof.Rows L2
theorem nearest_len (r : Rule) (l : Line) (s : Nat) : (nearest r l s).length ≤ l.length := by
  unfold nearest
  rw [List.length_take, List.length_reverse, List.length_map]
  have h1 := List.length_filter_le (fun w : Row => decide (w.h = .here) || (r.line && (decide (w.h = .out) || decide (w.h = .away)))) (l.take s)
  rw [List.length_take] at h1
  omega
theorem renewed_len (r : Rule) (l : Line) (f : Nat → Bool) : (renewed r l f).length = l.length := by unfold renewed; rw [List.length_mapIdx]
theorem okl_renewed {r : Rule} {l : Line} (h : Okl l) (f : Nat → Bool) : Okl (renewed r l f) := by
  refine ⟨by rw [renewed_len]; exact h.1, fun w hw => ?_⟩
  rw [renewed_zip] at hw
  obtain ⟨x, hx, rfl⟩ := List.mem_map.mp hw
  unfold ren
  split
  · exact Nat.le_trans (nearest_len r l x.2) h.1
  · exact h.2 _ (List.mem_of_getElem? (List.mem_zipIdx_iff_getElem?.mp hx))
theorem okl_sub {l l' : Line} (h : Okl l) (hl : l'.length ≤ l.length) (hs : ∀ w ∈ l', w ∈ l) : Okl l' := ⟨Nat.le_trans hl h.1, fun w hw => h.2 w (hs w hw)⟩
theorem okl_ins {l : Line} (h : Okl l) (hl : l.length < 60) (s : Nat) {w : Row} (hw : w.ns = []) : Okl (l.take s ++ w :: l.drop s) := by
  refine ⟨?_, fun v hv => ?_⟩
  · rw [List.length_append, List.length_cons, List.length_take, List.length_drop]
    omega
  · rcases List.mem_append.mp hv with hv | hv
    · exact h.2 v (List.mem_of_mem_take hv)
    · rcases List.mem_cons.mp hv with rfl | hv
      · rw [hw]; exact Nat.zero_le _
      · exact h.2 v (List.mem_of_mem_drop hv)
theorem okl_putIn {r : Rule} {m : Rm} (h : Okl m.l) (hl : m.l.length < 60) (s : Nat) : Okl (putIn r m s).l := okl_renewed (okl_ins h hl s rfl) _
theorem okl_renewFrom {r : Rule} {m : Rm} (h : Okl m.l) (s : Nat) : Okl (renewFrom r m s).l := okl_renewed h _
theorem okl_asHow {l : Line} (h : Okl l) (s : Nat) (k : How) : Okl (asHow l s k) := by
  unfold asHow
  refine ⟨by rw [List.length_modify]; exact h.1, fun w hw => ?_⟩
  obtain ⟨i, hi⟩ := List.mem_iff_getElem?.mp hw
  rw [List.getElem?_modify] at hi
  cases q : l[i]? with
  | none => rw [q] at hi; cases hi
  | some v =>
    rw [q] at hi
    have hv := h.2 v (List.mem_of_getElem? q)
    have hi : (if s = i then setHow k v else v) = w := Option.some.inj hi
    split at hi
    · rw [← hi]
      show (setHow k v).ns.length ≤ 60
      unfold setHow
      show (if k = .away then [] else v.ns).length ≤ 60
      split
      · exact Nat.zero_le _
      · exact hv
    · rw [← hi]
      exact hv
theorem okl_without {r : Rule} {l : Line} (h : Okl l) (p : Int) : Okl (without r l p) := by
  unfold without
  split
  · exact okl_renewed (okl_left h p) _
  · exact okl_left h p
theorem okl_asked {r : Rule} {l : Line} (h : Okl l) : Okl (askedAgain r l) := by
  unfold askedAgain
  split
  · exact okl_renewed h _
  · exact h
theorem okl_open {r : Rule} {m : Rm} (h : Okl m.l) : Okl (openDoor r m).l := by
  unfold openDoor
  dsimp only
  split
  · exact okl_without (okl_asked h) _
  · exact okl_asked h
theorem cut_len {l : Line} {s : Nat} (hs : s < l.length) : (l.take s ++ l.drop (s + 1)).length = l.length - 1 := by
  rw [List.length_append, List.length_take, List.length_drop]
  omega
theorem okl_cut {l : Line} (h : Okl l) (s : Nat) : Okl (l.take s ++ l.drop (s + 1)) := by
  refine okl_sub h ?_ fun w hw => ?_
  · rw [List.length_append, List.length_take, List.length_drop]
    omega
  · rcases List.mem_append.mp hw with hw | hw
    · exact List.mem_of_mem_take hw
    · exact List.mem_of_mem_drop hw
theorem okl_bring {r : Rule} {m : Rm} {s : Nat} (h : Okl m.l) (hs : s < m.l.length) : Okl (bringBack r m s).l := by
  unfold bringBack
  split
  · refine okl_putIn (okl_cut h s) ?_ _
    have := h.1
    rw [cut_len hs]
    omega
  · split
    · exact okl_renewFrom (okl_asHow h s .here) s
    · exact okl_renewed (okl_asHow h s .here) _
    · exact okl_asHow h s .here
theorem spotOf_lt {l : Line} {p : Int} (h : ∃ w ∈ l, w.p = p) : spotOf l p < l.length := by
  obtain ⟨w, hw, rfl⟩ := h
  exact List.findIdx_lt_length_of_exists ⟨w, hw, decide_eq_true rfl⟩
theorem okl_doPer {r : Rule} {m : Rm} {w : Wd} {p : Int} (h : Okl m.l) (hl : m.l.length < 60) (hp : ∃ v ∈ m.l, v.p = p) : Okl (doPer r m w p).l := by
  unfold doPer
  cases w with
  | let_ =>
    dsimp only
    split
    · exact okl_renewFrom (okl_putIn h hl _) _
    · exact okl_putIn h hl _
  | leave => exact okl_without h p
  | back => exact okl_bring h (spotOf_lt hp)
  | out => exact okl_asHow h _ _
  | vanish => exact okl_asHow h _ _
theorem okl_do1 {r : Rule} {m : Rm} {e : Evt} (h : Okl m.l) (hl : m.l.length < 60) (ht : there m.l e) : Okl (do1 r m e).l := by
  unfold do1
  cases e with
  | come => exact okl_putIn h hl _
  | door => exact okl_open h
  | per w p => exact okl_doPer h hl ht
end Ask
-- AskF5
set_option Elab.async false
set_option linter.all false
set_option maxRecDepth 100000
/-! what the room's changing methods compute -/
namespace Ask
open PySem PySem.Spec PyProof.Rows L2
section
variable {Θ : Th} {F : Frm} {δ : List Sl} {b b1 b2 : Bool} {ta tb te : TE} {tr : TA} {d x y : PyData} {ds es : List PyData} {i j : Nat} {E : XK}
theorem at_one (s : Nat) : at_ [s] = fun i => decide (i = s) := by
  funext i
  unfold at_
  simp
theorem dLine_append (a c : Line) : (a.map dRow) ++ (c.map dRow) = (a ++ c).map dRow := List.map_append.symm
abbrev isR (pq : Addr × Addr) (r : Rule) (m : Rm) : List Sl → Prop := fun δ' => δ'[0]? = some (.par true pq (dRm r m))
variable (K : ClsF Θ.K Θ.C)
include K
theorem r_put_in (r : Rule) (m : Rm) (s : Nat) (hl : Okl m.l) (hn : m.l.length < 60) (F : Frm) (pq : Addr × Addr) : SDu Θ F (t_put_in Θ) [.par true pq (dRm r m), .dat (.int s), .un] (isR pq r (putIn r m s)) := by
  unfold t_put_in
  refine sdu_seq (sd_set (d := dRow ⟨(m.c : Int), .here, []⟩) (ev_rowT (ea_cons (ev_cameN K (r := r) (m := m) rfl rfl) (ea_cons ev_str (ea_cons (ev_rowT ea_nil) ea_nil))))) (sdu_seq (sd_line (w := .par true pq) K rfl rfl (ev_call (ea_cons (ev_rule K (r := r) (m := m) rfl rfl) (ea_cons (d := dLine (m.l.take s ++ ⟨(m.c : Int), .here, []⟩ :: m.l.drop s)) (Ev.is (ev_tup (ea_starT (ev_slT (ev_line K (r := r) (m := m) rfl rfl) eo_none (eo_some (b := false) (ev_v rfl))) (ea_cons (ev_v rfl) (ea_starT (ev_slT (ev_line K (r := r) (m := m) rfl rfl) (eo_some (b := false) (ev_v rfl)) eo_none) ea_nil))) ?_) ?_) (ea_cons (d := dSpots [s]) (ev_lst (ea_cons (ev_v rfl) ea_nil) (by show 1 ≤ _; decide)) ea_nil))) ⟨r, _, _, rfl, okl_ins hl hn s rfl, rfl⟩)) (sdu_nx (sd_came (w := .par true pq) K rfl rfl) ?_))
  · rw [cutD_to, cutD_from]
    simp only [List.length_append, List.length_cons, List.length_take, List.length_drop, List.length_map, List.length_nil]
    have := hl.1
    omega
  · rw [cutD_to, cutD_from, List.append_nil]
    show _ = PyData.tuple (List.map dRow _)
    rw [List.map_append, List.map_cons, List.map_take, List.map_drop]
  · rw [at_one]
    rfl
theorem r_renew_from (r : Rule) (m : Rm) (s : Nat) (hl : Okl m.l) (hs : s ≤ 1000) (F : Frm) (pq : Addr × Addr) : SDu Θ F (t_renew_from Θ) [.par true pq (dRm r m), .dat (.int s)] (isR pq r (renewFrom r m s)) := by
  unfold t_renew_from
  refine sdu_nx (sd_line (w := .par true pq) K rfl rfl (ev_call (ea_cons (ev_rule K (r := r) (m := m) rfl rfl) (ea_cons (ev_line K (r := r) (m := m) rfl rfl) (ea_cons (ev_listRg (b1 := false) (b2 := false) (n := m.l.length) (ev_v rfl) (Ev.is (ev_len (b1 := false) (ev_line K (r := r) (m := m) rfl rfl) (.inr rfl)) (by rw [List.length_map])) (by omega) (by have := hl.1; omega)) ea_nil))) ⟨r, _, _, rfl, hl, rfl⟩)) ?_
  show some (Sl.par true pq (dRm r { m with l := renewed r m.l (at_ _) })) = _
  rw [renewed_congr (at_range s m.l.length)]
  rfl
theorem r_bring_back (r : Rule) (m : Rm) (s : Nat) (hl : Okl m.l) (hs : s < m.l.length) (F : Frm) (pq : Addr × Addr) : SDu Θ F (t_bring_back Θ) [.par true pq (dRm r m), .dat (.int s), .un] (isR pq r (bringBack r m s)) := by
  unfold t_bring_back
  have hh : howAt m.l s = some (m.l[s]).h := by unfold howAt; rw [List.getElem?_eq_getElem hs]; rfl
  refine sdu_seq (sd_set (d := .str (m.l[s]).h.s) (ev_ixc (x := dRow m.l[s]) (ev_ixi (ev_line K (r := r) (m := m) rfl rfl) (ev_v rfl) (.inr rfl) ?_) (.inr rfl) rfl)) ?_
  · rw [atI_nat, List.getElem?_map, List.getElem?_eq_getElem hs]; rfl
  have et : EvT Θ (tAnd (tTest (tOp rEq (tOp (rIx Θ.K) (tFld Θ.K (tVar 0) "own_rule") (tC (.int 4))) (tC (.str "asks")))) (tTest (tOp rEq (tVar 2) (tC (.str "lost"))))) [.par true pq (dRm r m), .dat (.int s), .dat (.str (m.l[s]).h.s)] (decide (r.back = .asks) && decide ((m.l[s]).h = .lost)) :=
    et_and ((et_eqS (b1 := false) (ev_ixc (ev_rule K (r := r) (m := m) rfl rfl) (.inr rfl) rfl)).is (bk_asks r)) fun _ => (et_eqS (b1 := false) (ev_v rfl)).is (lost_iff _)
  cases hc : decide (r.back = .asks) && decide ((m.l[s]).h = .lost) with
  | true =>
    rw [Bool.and_eq_true] at hc
    have h1 := of_decide_eq_true hc.1
    have h2 := of_decide_eq_true hc.2
    refine sdu_seq_rt (sdn_ift et (by rw [decide_eq_true h1, decide_eq_true h2]; rfl) (sdn_seq (sd_line (w := .par true pq) K rfl rfl (d := dLine (m.l.take s ++ m.l.drop (s + 1))) (Ev.is (ev_tup (ea_starT (ev_slT (ev_line K (r := r) (m := m) rfl rfl) eo_none (eo_some (b := false) (ev_v rfl))) (ea_starT (ev_slT (ev_line K (r := r) (m := m) rfl rfl) (eo_some (b := false) (ev_add (b1 := false) (b2 := false) (ev_v rfl) ev_int)) eo_none) ea_nil)) ?_) ?_)) (sdn_seq (sd_meth (w := .par true pq) rfl rfl (ea_cons (Ev.is (ev_len (b1 := false) (ev_line K (r := r) (m := { m with l := m.l.take s ++ m.l.drop (s + 1) }) rfl rfl) (.inr rfl)) rfl) ea_nil) ⟨r, { m with l := m.l.take s ++ m.l.drop (s + 1) }, _, rfl, okl_cut hl s, ?_, ?_, rfl, rfl⟩) (sdn_ret ?_))))
    · have e1 : ((s : Int) + 1) = ((s + 1 : Nat) : Int) := by omega
      rw [e1, cutD_from, cutD_to]
      simp only [List.length_append, List.length_take, List.length_drop, List.length_map, List.length_nil]
      have := hl.1
      omega
    · have e1 : ((s : Int) + 1) = ((s + 1 : Nat) : Int) := by omega
      rw [e1, cutD_from, cutD_to, List.append_nil]
      show _ = PyData.tuple (List.map dRow _)
      rw [List.map_append, List.map_take, List.map_drop]
    · rw [cut_len hs]
      have := hl.1
      omega
    · rw [List.length_map]
      exact Nat.le_refl _
    · show some (Sl.par true pq (dRm r (putIn r { m with l := m.l.take s ++ m.l.drop (s + 1) } (List.map dRow _).length))) = _
      unfold bringBack
      rw [if_pos ⟨h1, by rw [hh, h2]⟩, List.length_map]
  | false =>
    have hne : ¬ (r.back = .asks ∧ howAt m.l s = some .lost) := fun ⟨h1, h2⟩ => by
      rw [hh] at h2
      rw [decide_eq_true h1, decide_eq_true (Option.some.inj h2)] at hc
      cases hc
    have eb : bringBack r m s = (match r.back with
      | .tells => renewFrom r { m with l := asHow m.l s .here } s
      | .asks => { m with l := renewed r (asHow m.l s .here) (fun i => decide (i = s)) }
      | .old => { m with l := asHow m.l s .here }) := by unfold bringBack; rw [if_neg hne]; all_goals (cases r.back <;> rfl)
    rw [eb]
    have hok := okl_asHow hl s .here
    refine sdu_seq (sd_iff et hc sd_next) (sdu_seq (sd_line (w := .par true pq) K rfl rfl (ev_call (ea_cons (ev_line K (r := r) (m := m) rfl rfl) (ea_cons (ev_v rfl) (ea_cons ev_str ea_nil))) ⟨m.l, s, .here, rfl, hl, hs, rfl⟩)) ?_)
    refine sdu_if ((et_eqS (b1 := false) (ev_ixc (ev_rule K (r := r) (m := { m with l := asHow m.l s .here }) rfl rfl) (.inr rfl) rfl)).is (bk_tells r)) (fun h => ?_) (fun h => sdu_if ((et_neS (b1 := false) (ev_ixc (ev_rule K (r := r) (m := { m with l := asHow m.l s .here }) rfl rfl) (.inr rfl) rfl)).is (by rw [bk_old r])) (fun h2 => ?_) (fun h2 => ?_))
    · have := of_decide_eq_true h
      rw [this]
      exact sdu_nx (sd_meth (w := .par true pq) rfl rfl (ea_cons (ev_v rfl) ea_nil) ⟨r, { m with l := asHow m.l s .here }, s, rfl, hok, (by have := hl.1; omega), rfl, rfl⟩) rfl
    · have n1 := of_decide_eq_false h
      have hb : r.back = .asks := by
        cases q : r.back with
        | asks => rfl
        | old => rw [q] at h2; exact absurd h2 (by decide)
        | tells => exact absurd q n1
      rw [hb]
      refine sdu_nx (sd_line (w := .par true pq) K rfl rfl (ev_call (ea_cons (ev_rule K (r := r) (m := { m with l := asHow m.l s .here }) rfl rfl) (ea_cons (ev_line K (r := r) (m := { m with l := asHow m.l s .here }) rfl rfl) (ea_cons (d := dSpots [s]) (ev_lst (ea_cons (ev_v rfl) ea_nil) (by show 1 ≤ _; decide)) ea_nil))) ⟨r, _, _, rfl, hok, rfl⟩)) ?_
      rw [at_one]
      rfl
    · have hb : r.back = .old := by
        cases q : r.back with
        | old => rfl
        | asks => rw [q] at h2; exact absurd h2 (by decide)
        | tells => rw [q] at h2; exact absurd h2 (by decide)
      rw [hb]
      exact sdu_nx sd_next rfl
theorem r_open_door (r : Rule) (m : Rm) (hl : Okl m.l) (hs : m.sv.length ≤ 60) (F : Frm) (pq : Addr × Addr) : SDu Θ F (t_open_door Θ) [.par true pq (dRm r m), .un] (isR pq r (openDoor r m)) := by
  unfold t_open_door
  have hok := okl_asked (r := r) hl
  refine sdu_seq (sd_line (w := .par true pq) K rfl rfl (ev_call (ea_cons (ev_rule K (r := r) (m := m) rfl rfl) (ea_cons (ev_line K (r := r) (m := m) rfl rfl) ea_nil)) ⟨r, _, rfl, hl, rfl⟩)) (sdu_seq (sd_set (ev_call (ea_cons (ev_rule K (r := r) (m := { m with l := askedAgain r m.l }) rfl rfl) (ea_cons (ev_line K (r := r) (m := { m with l := askedAgain r m.l }) rfl rfl) ea_nil)) ⟨r, _, rfl, hok, rfl⟩)) ?_)
  have et : EvT Θ (tTest (tOp rEq (tCB (rLen Θ.K) (tCons (tVar 1) tNil)) (tC (.int 1)))) [.par true pq (dRm r { m with l := askedAgain r m.l }), .dat (.list ((claiming r (askedAgain r m.l)).map .int))] (decide (((claiming r (askedAgain r m.l)).length : Int) = 1)) :=
    (et_eqI (b1 := false) (b2 := false) (ev_len (b1 := false) (ev_v rfl) (.inl rfl)) ev_int).is (by rw [List.length_map])
  unfold openDoor
  dsimp only
  cases q : claiming r (askedAgain r m.l) with
  | nil => rw [q] at et; exact sdu_if et (fun h => absurd h (by decide)) fun _ => sdu_nx sd_next rfl
  | cons p rest =>
    cases rest with
    | nil =>
      rw [q] at et
      refine sdu_if et (fun _ => sdu_seq (sd_serve (w := .par true pq) K rfl rfl (d := .int p) (ev_ixc (ev_v rfl) (.inl rfl) atI_0) ?_) (sdu_nx (sd_line (w := .par true pq) K rfl rfl (ev_call (ea_cons (ev_rule K (r := r) (m := { m with l := askedAgain r m.l, sv := m.sv ++ [p] }) rfl ?_) (ea_cons (ev_line K (r := r) (m := { m with l := askedAgain r m.l, sv := m.sv ++ [p] }) rfl ?_) (ea_cons (ev_ixc (ev_v rfl) (.inl rfl) atI_0) ea_nil))) ⟨r, _, p, rfl, hok, rfl⟩)) ?_)) fun h => absurd h (show ¬ (decide ((1 : Int) = 1) = false) by decide)
      · show (m.sv.map PyData.int).length < _
        rw [List.length_map]
        omega
      · show some (RoomD.mk _ _ _ _) = some (RoomD.mk _ _ _ _)
        rw [List.map_append]
        rfl
      · show some (RoomD.mk _ _ _ _) = some (RoomD.mk _ _ _ _)
        rw [List.map_append]
        rfl
      · show some (Sl.par true pq (RoomD.mk _ _ _ _)) = some (Sl.par true pq (RoomD.mk _ _ _ _))
        rw [List.map_append]
        rfl
    | cons p2 rest =>
      rw [q] at et
      refine sdu_if et (fun h => ?_) fun _ => sdu_nx sd_next rfl
      have := of_decide_eq_true h
      rw [List.length_cons, List.length_cons] at this
      omega
theorem r_do_personal (r : Rule) (m : Rm) (w : Wd) (p : Int) (hl : Okl m.l) (hn : m.l.length < 60) (hp : ∃ v ∈ m.l, v.p = p) (F : Frm) (pq : Addr × Addr) : SDu Θ F (t_do_personal Θ) [.par true pq (dRm r m), .dat (.str w.s), .dat (.int p), .un] (isR pq r (doPer r m w p)) := by
  unfold t_do_personal
  have hs := spotOf_lt hp
  refine sdu_seq (sd_set (ev_call (ea_cons (ev_line K (r := r) (m := m) rfl rfl) (ea_cons (ev_v rfl) ea_nil)) ⟨_, p, rfl, hl, hp, rfl⟩)) ?_
  refine sdu_if ((et_eqS (b1 := false) (ev_v rfl)).is (wd_let w)) (fun h => ?_) (fun h => sdu_if ((et_eqS (b1 := false) (ev_v rfl)).is (wd_leave w)) (fun h2 => ?_) (fun h2 => sdu_if ((et_eqS (b1 := false) (ev_v rfl)).is (wd_back w)) (fun h3 => ?_) (fun h3 => ?_)))
  · obtain rfl := of_decide_eq_true h
    refine sdu_seq (sd_meth (w := .par true pq) rfl rfl (ea_cons (ev_add (b1 := false) (b2 := false) (ev_v rfl) ev_int) ea_nil) ⟨r, m, spotOf m.l p + 1, rfl, hl, hn, by omega, rfl, rfl⟩) ?_
    refine sdu_if ((et_eqS (b1 := false) (ev_ixc (ev_rule K (r := r) (m := putIn r m (spotOf m.l p + 1)) rfl rfl) (.inr rfl) rfl)).is (told_iff r)) (fun h => ?_) (fun h => ?_)
    · refine sdu_nx (sd_meth (w := .par true pq) rfl rfl (ea_cons (ev_add (b1 := false) (b2 := false) (ev_v rfl) ev_int) ea_nil) ⟨r, putIn r m (spotOf m.l p + 1), spotOf m.l p + 2, rfl, okl_putIn hl hn _, by omega, rfl, rfl⟩) ?_
      unfold doPer
      dsimp only
      rw [h, if_pos rfl]
      rfl
    · refine sdu_nx sd_next ?_
      unfold doPer
      dsimp only
      rw [h, if_neg Bool.false_ne_true]
      rfl
  · obtain rfl := of_decide_eq_true h2
    exact sdu_nx (sd_line (w := .par true pq) K rfl rfl (ev_call (ea_cons (ev_rule K (r := r) (m := m) rfl rfl) (ea_cons (ev_line K (r := r) (m := m) rfl rfl) (ea_cons (ev_v rfl) ea_nil))) ⟨r, _, p, rfl, hl, rfl⟩)) rfl
  · obtain rfl := of_decide_eq_true h3
    exact sdu_nx (sd_meth (w := .par true pq) rfl rfl (ea_cons (ev_v rfl) ea_nil) ⟨r, m, spotOf m.l p, rfl, hl, hs, rfl, rfl⟩) rfl
  · have n1 := of_decide_eq_false h
    have n2 := of_decide_eq_false h2
    have n3 := of_decide_eq_false h3
    cases w with
    | back => exact absurd rfl n3
    | leave => exact absurd rfl n2
    | let_ => exact absurd rfl n1
    | out => exact sdu_nx (sd_line (w := .par true pq) K rfl rfl (ev_call (ea_cons (ev_line K (r := r) (m := m) rfl rfl) (ea_cons (ev_v rfl) (ea_cons (d := .str How.out.s) (ev_if (et_eqS (b1 := false) (ev_v rfl)) (fun _ => ev_str) fun h => absurd h (by decide +kernel)) ea_nil))) ⟨_, _, .out, rfl, hl, hs, rfl⟩)) rfl
    | vanish => exact sdu_nx (sd_line (w := .par true pq) K rfl rfl (ev_call (ea_cons (ev_line K (r := r) (m := m) rfl rfl) (ea_cons (ev_v rfl) (ea_cons (d := .str How.away.s) (ev_if (et_eqS (b1 := false) (ev_v rfl)) (fun h => absurd h (by decide +kernel)) fun _ => ev_str) ea_nil))) ⟨_, _, .away, rfl, hl, hs, rfl⟩)) rfl
theorem r_do (r : Rule) (m : Rm) (e : Evt) (hl : Okl m.l) (hn : m.l.length < 60) (hsv : m.sv.length ≤ 60) (ht : there m.l e) (F : Frm) (pq : Addr × Addr) : SDu Θ F (t_do Θ) [.par true pq (dRm r m), .dat (dEvt e)] (isR pq r (do_ r m e)) := by
  unfold t_do
  have ht0 : EvT Θ (tTest (tOp rEq (tOp (rIx Θ.K) (tVar 1) (tC (.int 0))) (tC (.str "come")))) [.par true pq (dRm r m), .dat (dEvt e)] (decide (e = .come)) := (et_eqS (b1 := false) (ev_ixc (ev_v rfl) (.inr rfl) (evt_at0 e))).is (evt_come e)
  have ht1 : EvT Θ (tTest (tOp rEq (tOp (rIx Θ.K) (tVar 1) (tC (.int 0))) (tC (.str "door")))) [.par true pq (dRm r m), .dat (dEvt e)] (decide (e = .door)) := (et_eqS (b1 := false) (ev_ixc (ev_v rfl) (.inr rfl) (evt_at0 e))).is (evt_door e)
  refine sdu_seq (δ1 := [.par true pq (dRm r (do1 r m e)), .dat (dEvt e)]) (sd_if ht0 (fun h => ?_) (fun h => sd_if ht1 (fun h2 => ?_) (fun h2 => ?_))) (sdu_nx (sd_line (w := .par true pq) K rfl rfl (ev_call (ea_cons (ev_line K (r := r) (m := do1 r m e) rfl rfl) ea_nil) ⟨_, rfl, okl_do1 hl hn ht, rfl⟩)) rfl)
  · obtain rfl := of_decide_eq_true h
    exact sd_meth (w := .par true pq) rfl rfl (ea_cons (Ev.is (ev_len (b1 := false) (ev_line K (r := r) (m := m) rfl rfl) (.inr rfl)) (by rw [List.length_map])) ea_nil) ⟨r, m, m.l.length, rfl, hl, hn, Nat.le_refl _, rfl, rfl⟩
  · obtain rfl := of_decide_eq_true h2
    exact sd_meth (w := .par true pq) rfl rfl ea_nil ⟨r, m, rfl, hl, hsv, rfl, rfl⟩
  · cases e with
    | come => exact absurd rfl (of_decide_eq_false h)
    | door => exact absurd rfl (of_decide_eq_false h2)
    | per w p => exact sd_meth (w := .par true pq) rfl rfl (ea_cons (ev_ixc (ev_v rfl) (.inr rfl) atI_0) (ea_cons (ev_ixc (ev_v rfl) (.inr rfl) rfl) ea_nil)) ⟨r, m, w, p, rfl, hl, hn, ht, rfl, rfl⟩
end
end Ask
-- AskF6
set_option Elab.async false
set_option linter.all false
set_option maxRecDepth 100000
/-! events, rooms made, ways -/
namespace Ask
open PySem PySem.Spec PyProof.Rows L2
section
variable {Θ : Th} {F : Frm} {δ : List Sl} {b b1 b2 : Bool} {ta tb te : TE} {tr : TA} {d x y : PyData} {ds es : List PyData} {i j : Nat} {E : XK}
abbrev dPers : PyData := .tuple ([Wd.back, .leave, .let_, .out, .vanish].map fun w => .str w.s)
theorem evt_sort (l : List Evt) : SortOk (l.map dEvt) := by
  refine ⟨PySem.W.AllAlike.of fun a c => ?_, PySem.W.Sortable.tuples fun a => ⟨_, _, rfl⟩, fun d hd => ?_⟩
  · simp [PySem.W.alike, PySem.W.alikeAll, PySem.W.alike_ints]
  · obtain ⟨e, _, rfl⟩ := List.mem_map.mp hd
    exact Nat.le_trans (lay_evt e).2 (by decide)
theorem dsort_map {α : Type} (enc : α → PyData) (l : List α) : dsort (l.map enc) = (l.mergeSort (PySem.W.dataLe false enc)).map enc :=
  (PySem.W.sort_maps (s := PySem.W.dataLe false id) enc fun _ _ _ _ => rfl).symm
def someEv (l : Line) (ws : List Wd) : List Evt := l.map (fun w => Evt.per .back w.p) ++ ws.flatMap fun w => (hereOf l).map (Evt.per w)
theorem allEv_eq (r : Rule) (m : Rm) : allEv r m = (someEv m.l [.leave, .let_, .out, .vanish] ++ [Evt.come, Evt.door]).filter (canBe r m) := by
  unfold allEv someEv
  simp [List.flatMap]
theorem here_len (l : Line) : (hereOf l).length ≤ l.length := by unfold hereOf; rw [List.length_map]; exact List.length_filter_le _ _
theorem some_len (l : Line) (ws : List Wd) : (someEv l ws).length ≤ l.length + ws.length * l.length := by
  unfold someEv
  rw [List.length_append, List.length_map]
  have : (ws.flatMap fun w => (hereOf l).map (Evt.per w)).length ≤ ws.length * l.length := by
    induction ws with
    | nil => simp
    | cons a r ih =>
      rw [List.flatMap_cons, List.length_append, List.length_map, List.length_cons, Nat.succ_mul]
      have := here_len l
      omega
  omega
theorem there_of {r : Rule} {m : Rm} {e : Evt} (h : e ∈ evs r m) : there m.l e := by
  unfold evs at h
  rw [List.mem_mergeSort, allEv_eq] at h
  have h := (List.mem_filter.mp h).1
  cases e with
  | come => trivial
  | door => trivial
  | per w p =>
    rcases List.mem_append.mp h with h | h
    · unfold someEv at h
      rcases List.mem_append.mp h with h | h
      · obtain ⟨v, hv, e⟩ := List.mem_map.mp h
        cases e
        exact ⟨v, hv, rfl⟩
      · obtain ⟨w', _, h⟩ := List.mem_flatMap.mp h
        obtain ⟨q, hq, e⟩ := List.mem_map.mp h
        cases e
        unfold hereOf at hq
        obtain ⟨v, hv, rfl⟩ := List.mem_map.mp hq
        exact ⟨v, (List.mem_filter.mp hv).1, rfl⟩
    · simp at h
variable (K : ClsF Θ.K Θ.C)
include K
theorem r_all_events (hP : ∀ H, Dp Θ.K H (.ref Θ.aP) dPers) (r : Rule) (m : Rm) (hl : Okl m.l) (F : Frm) (pq : Addr × Addr) : SDr Θ F (t_all_events Θ) [.par false pq (dRm r m), .un, .un, .un, .un, .un, .un] (.list ((evs r m).map dEvt)) anyP := by
  have hl1 := hl.1
  unfold t_all_events
  refine sdr_seq (sd_setL (el_lc (b0 := false) (l := m.l) (enc := dRow) (fun _ => true) (fun w => dEvt (.per .back w.p)) (T := [3, 4, 5]) (ei_tup (ev_line K (r := r) (m := m) rfl rfl)) (by omega) (fun w _ => ⟨_, bd_row rfl rfl rfl rfl rfl rfl, et_yes, fun _ => ev_rowT (ea_cons ev_str (ea_cons (ev_v rfl) ea_nil))⟩)))
    (sdr_seq (sd_for (b := false) (l := [Wd.leave, .let_, .out, .vanish]) (enc := fun w => .str w.s) (fun pre => [.par false pq (dRm r m), .own ((someEv m.l pre).map dEvt), .un, .un, .un, .un, .un]) (ei_tup (Ev.is (ev_slT (ev_mod hP) (eo_some (b := false) ev_int) eo_none) rfl)) ?_ (fun pre w post e => ?_)) (sdr_ret (Ev.is (EvL.ev (el_sorted (EvL.ev (el_lc (b0 := false) (l := someEv m.l [.leave, .let_, .out, .vanish] ++ [Evt.come, Evt.door]) (enc := dEvt) (canBe r m) dEvt (T := [6])
      (ei_list (Ev.is (EvL.ev (el_cat (em_own rfl) (EvL.m (el_lst (ea_cons (d := dEvt .come) (ev_rowT (ea_cons ev_str ea_nil)) (ea_cons (d := dEvt .door) (ev_rowT (ea_cons ev_str ea_nil)) ea_nil)) (by show 2 ≤ _; decide))) ?_)) ?_)) ?_ (fun e _ => ⟨_, bd_name rfl rfl, et_B (b := false) (ev_meth (b := false) rfl rfl (ea_cons (ev_v rfl) ea_nil) ⟨r, m, e, rfl, hl, rfl, rfl⟩), fun _ => ev_v rfl⟩))) (evt_sort _))) ?_) trivial))
  · unfold someEv
    rw [map_filter_true, List.map_append, List.map_map]
    simp only [List.flatMap_nil, List.map_nil, List.append_nil]
    rfl
  · have hpre : pre.length ≤ 4 := by
      have := congrArg List.length e
      rw [List.length_append, List.length_cons] at this
      simp at this
      omega
    have hsl := some_len m.l pre
    have hhl := here_len m.l
    have hmul : pre.length * m.l.length ≤ 4 * 60 := Nat.mul_le_mul hpre hl1
    refine ⟨_, _, _, bd_name (i := 2) rfl rfl, .inl (sd_extend rfl (el_lc (b0 := false) (l := hereOf m.l) (enc := .int) (fun _ => true) (fun p => dEvt (.per w p)) (T := [3]) (ei_list (ev_meth (b := false) rfl rfl ea_nil ⟨r, m, rfl, hl, rfl, rfl⟩)) (by omega) (fun p _ => ⟨_, bd_name rfl rfl, et_yes, fun _ => ev_rowT (ea_cons (ev_v rfl) (ea_cons (ev_v rfl) ea_nil))⟩)) ?_), ?_⟩
    · rw [List.length_map, map_filter_true, List.length_map]
      omega
    · have : (someEv m.l (pre ++ [w])).map dEvt = (someEv m.l pre).map dEvt ++ (hereOf m.l).map fun p => dEvt (.per w p) := by
        unfold someEv
        simp [List.flatMap_append, List.map_append]
      rw [map_filter_true, this]
      exact .same (.same (.drop rfl (.same (.same (.same (.same .nil))))))
  · have := some_len m.l [.leave, .let_, .out, .vanish]
    simp only [List.length_map, List.length_cons, List.length_nil] at this ⊢
    omega
  · rw [List.map_append]
    rfl
  · have := some_len m.l [.leave, .let_, .out, .vanish]
    simp only [List.length_append, List.length_cons, List.length_nil] at this ⊢
    omega
  · rw [dsort_map, ← allEv_eq]
    rfl
end
end Ask
-- AskF7
set_option Elab.async false
set_option linter.all false
set_option maxRecDepth 100000
/-! rooms made, ways -/
namespace Ask
open PySem PySem.Spec PyProof.Rows L2
section
variable {Θ : Th} {F : Frm} {δ : List Sl} {b b1 b2 : Bool} {ta tb te : TE} {tr : TA} {d x y : PyData} {ds es : List PyData} {i j : Nat} {E : XK}
theorem same_del2 {B H : Hp} {p q : Addr} (s : Same B H) (h1 : B p = none) (h2 : B q = none) : Same B (del (del H p) q) := same_del (same_del s h1) h2
theorem dp_room {B H : Hp} {p q : Addr} {v : V} (s : Same B H) (h1 : B p = none) (h2 : B q = none) (h : Dp Θ.K B v d) : Dp Θ.K (del (del H p) q) v d := h.mono (same_del2 s h1 h2)
theorem putF_len {f : Str} {v : V} : ∀ {fs : List (Str × V)}, (putF f v fs).length ≤ fs.length + 1
  | [] => Nat.le_refl _
  | (g, x) :: r => by
    unfold putF
    split
    · simp
    · have := putF_len (f := f) (v := v) (fs := r)
      simp only [List.length_cons]
      omega
theorem putF_all {vr vl : V} {n : Int} {q : Addr} : putF "served_so_far" (.ref q) (putF "came_so_far" (.int n) (putF "line_now" vl (putF "own_rule" vr []))) = roomF vr vl n q := by
  have e1 : ¬ ("own_rule" : Str) = "line_now" := by decide +kernel
  have e2 : ¬ ("own_rule" : Str) = "came_so_far" := by decide +kernel
  have e3 : ¬ ("own_rule" : Str) = "served_so_far" := by decide +kernel
  have e4 : ¬ ("line_now" : Str) = "came_so_far" := by decide +kernel
  have e5 : ¬ ("line_now" : Str) = "served_so_far" := by decide +kernel
  have e6 : ¬ ("came_so_far" : Str) = "served_so_far" := by decide +kernel
  simp only [putF, if_neg e1, if_neg e2, if_neg e3, if_neg e4, if_neg e5, if_neg e6]
  rfl
variable (K : ClsF Θ.K Θ.C)
include K
theorem w_init (vs : List V) (H : Hp) (Q : VK) (E : XK) (h : sp_init Θ vs H Q E) : t_init Θ { nx := fun _ H' => Q .non H', rt := Q } (L2.start ["self", "rule"] vs) H := by
  obtain ⟨x, dx, vr, H0, d, rfl, hx, hdx, s, h0, hd, k⟩ := h
  have l1 : (putF "own_rule" vr []).length ≤ 1 := putF_len
  refine ⟨_, rfl, _, rfl, x, Θ.C, dx, [], rfl, hx, K.c, K.n1, (show 0 < 1000 by decide), ?_⟩
  refine ⟨(show 0 ≤ sizeLine from Nat.zero_le _), fun p np => ⟨_, rfl, x, Θ.C, dx, putF "own_rule" vr [], rfl, by rw [upd_ne (ne_of_none upd_same np), upd_same], K.c, K.n2, by omega, ?_⟩⟩
  have l2 : (putF "line_now" (.ref p) (putF "own_rule" vr [])).length ≤ 2 := Nat.le_trans putF_len (by omega)
  have hpx : p ≠ x := fun e => by rw [e, upd_same] at np; cases np
  refine ⟨_, rfl, x, Θ.C, dx, putF "line_now" (.ref p) (putF "own_rule" vr []), rfl, upd_same, K.c, K.n3, by omega, ?_⟩
  have l3 : (putF "came_so_far" (.int 0) (putF "line_now" (.ref p) (putF "own_rule" vr []))).length ≤ 3 := Nat.le_trans putF_len (by omega)
  refine ⟨(show 0 ≤ sizeLine from Nat.zero_le _), fun q nq => ⟨_, rfl, x, Θ.C, dx, putF "came_so_far" (.int 0) (putF "line_now" (.ref p) (putF "own_rule" vr [])), rfl, by rw [upd_ne (ne_of_none upd_same nq), upd_same], K.c, K.n4, by omega, ?_⟩⟩
  have hqx : q ≠ x := fun e => by rw [e, upd_same] at nq; cases nq
  rw [upd_ne hqx, upd_ne hqx] at nq
  have hqp : q ≠ p := fun e => by rw [e, upd_same] at nq; cases nq
  rw [upd_ne hqp, upd_ne hqx] at nq
  rw [upd_ne hpx] at np
  refine k q _ (fun a o ha e => ?_) nq ⟨dx, vr, .ref p, [], by rw [upd_same, putF_all], ?_, ?_, ?_, .nil⟩
  · have e1 : a ≠ p := ne_of_none e np
    have e2 : a ≠ q := ne_of_none e nq
    rw [upd_ne ha, upd_ne e2, upd_ne ha, upd_ne ha, upd_ne e1, upd_ne ha]
    exact e
  · exact dp_room (same_ext s) h0 (none_of_same s nq) hd
  · refine .tup (SqT.of ?_) .nil
    rw [del_ne (fun e => hqp e.symm), del_ne hpx, ext_new np, upd_ne hpx, upd_ne (fun e => hqp e.symm), upd_ne hpx, upd_ne hpx, upd_same]
  · rw [upd_ne hqx, upd_same]
theorem w_room_at (vs : List V) (H : Hp) (Q : VK) (E : XK) (h : sp_room_at Θ vs H Q E) : t_room_at Θ { nx := fun _ H' => Q .non H', rt := Q } (L2.start ["rule", "pair", "found"] vs) H := by
  obtain ⟨H0, ds, r, s, hv, ⟨ru, xx, rfl, rfl⟩, k⟩ := h
  cases hv with
  | @cons vr _ _ _ d1 t1 =>
  cases t1 with
  | @cons vp _ _ _ d2 t2 =>
  cases t2
  cases d2 with
  | @tup a xs _ hs ha =>
  cases ha with
  | @cons vl _ _ _ d3 t3 =>
  cases t3 with
  | @cons vc _ _ _ d4 t4 =>
  cases t4
  cases d4
  refine ⟨_, rfl, fun x dx nx nd ne => ?_⟩
  have s1 : Same H (upd (upd H dx (.own x)) x (.ins Θ.C dx [])) := fun z o e => by rw [upd_ne (ne_of_none e nx), upd_ne (ne_of_none e nd)]; exact e
  have h0x : H0 x = none := none_of_same s nx
  refine ⟨x, dx, vr, H0, dRule ru, rfl, upd_same, by rw [upd_ne ne, upd_same]; simp, s.trans s1, h0x, d1, fun q H' hk nq hat => ⟨rfl, ?_⟩⟩
  have hqx : q ≠ x := fun e => by rw [e, upd_same] at nq; cases nq
  have nqH : H q = none := by
    cases e : H q with
    | none => rfl
    | some o => rw [s1 _ _ e] at nq; cases nq
  obtain ⟨dx', vr', vl', ws, g1, g2, g3, g4, g5⟩ := hat
  have sH' : Same H H' := fun z o e => hk z o (ne_of_none e nx) (s1 _ _ e)
  refine ⟨_, rfl, a, _, rfl, Same.seqT (s.trans sH') hs, rfl, vl, _, rfl, ⟨_, rfl, x, Θ.C, dx', _, rfl, g1, K.c, K.n2, (show 4 < 1000 by decide), ?_⟩⟩
  rw [putF2]
  refine ⟨.int xx.2, _, rfl, ⟨_, rfl, x, Θ.C, dx', _, rfl, upd_same, K.c, K.n3, (show 4 < 1000 by decide), ?_⟩⟩
  rw [putF3]
  refine ⟨rfl, _, rfl, k x q _ (fun z o e => ?_) nx nqH ⟨dx', vr', vl, ws, upd_same, ?_, ?_, ?_, ?_⟩⟩
  · have : z ≠ x := ne_of_none e nx
    rw [upd_ne this, upd_ne this]
    exact sH' _ _ e
  · refine g2.mono fun z o e => ?_
    have e1 : z ≠ q := fun e' => by rw [e', del_at] at e; cases e
    rw [del_ne e1] at e ⊢
    have e2 : z ≠ x := fun e' => by rw [e', del_at] at e; cases e
    rw [del_ne e2] at e ⊢
    by_cases h1 : (upd (upd H dx (.own x)) x (.ins Θ.C dx [])) z = none
    · rw [ext_new h1] at e
      rw [upd_ne e2] at h1
      have e3 : z ≠ dx := fun e' => by rw [e', upd_same] at h1; cases h1
      rw [upd_ne e3] at h1
      rw [ext_new h1, upd_ne e2, upd_ne e2]
      exact e
    · rw [ext_old h1] at e
      by_cases h2 : H z = none
      · rw [none_of_same s h2] at e; cases e
      · rw [ext_old h2]; exact e
  · exact dp_room (same_ext s) h0x (none_of_same s nqH) d3
  · rw [upd_ne hqx, upd_ne hqx]
    exact g4
  · cases ws with
    | nil => exact .nil
    | cons _ _ => cases g5
omit K in
theorem es_room {G : List PyData → RoomD → Prop} {r : RoomD} (h : EvA Θ false tr δ ds) (hG : G ds r) : EvS Θ (tCall (spRm Θ G) [] E tr) δ (.room r) := fun σ H0 Hb H A st Q q => h σ H0 Hb H A st _ fun vs H1 s1 d1 => by
  refine ⟨ext H0 H H1, ds, r, ext_same (st.h0.trans st.hb) s1, by rw [List.append_nil]; exact d1, hG, fun p z H' s' np nz hat => ?_⟩
  rw [ext_ext s1 s'] at hat
  have sH := s1.trans s'
  have hp := s1.free np
  have hz := s1.free nz
  have n1 : ∀ {B : Hp} {a : Addr}, Same B H → H a = none → B a = none := fun s h => none_of_same s h
  refine q (.ref p) H' (del (del (ext H0 H H') p) z) (del (del (ext Hb H H') p) z) [p, z] sH ⟨same_del2 (same_ext (st.h0.trans st.hb)) (n1 (st.h0.trans st.hb) hp) (n1 (st.h0.trans st.hb) hz), same_del2 (same_ext st.hb) (n1 st.hb hp) (n1 st.hb hz), fun a o e => ?_, (del_same.trans del_same).trans (ext_same st.hb sH), del_same.trans del_same, del_same.trans del_same⟩ ⟨p, z, rfl, rfl, ?_, del_at, hat⟩ fun a ha => ?_
  · have e1 : a ≠ z := fun e' => by rw [e', del_at] at e; cases e
    rw [del_ne e1] at e ⊢
    have e2 : a ≠ p := fun e' => by rw [e', del_at] at e; cases e
    rw [del_ne e2] at e ⊢
    exact ext_monoL st.h0 _ _ e
  · have : p ≠ z := hat.ne
    rw [del_ne this, del_at]
  · rcases (show a = p ∨ a = z by simpa using ha) with rfl | rfl
    · exact hp
    · exact hz
theorem sv_len (r : Rule) (x : Pair) (e : Evt) : (do_ r (rm0 x) e).sv.length ≤ 1 := by
  unfold do_ do1
  cases e with
  | come => exact Nat.zero_le _
  | door =>
    show (openDoor r (rm0 x)).sv.length ≤ 1
    unfold openDoor
    dsimp only
    split
    · exact Nat.le_refl _
    · exact Nat.zero_le _
  | per w p =>
    have : (doPer r (rm0 x) w p).sv = [] := by
      unfold doPer
      cases w with
      | let_ =>
        dsimp only
        split <;> rfl
      | back =>
        show (bringBack r (rm0 x) _).sv = []
        unfold bringBack
        split
        · rfl
        · split <;> rfl
      | _ => rfl
    show (doPer r (rm0 x) w p).sv.length ≤ 1
    rw [this]
    exact Nat.zero_le _
theorem r_ways_on (r : Rule) (x : Pair) (n : Nat) (hl : Okl x.1) (hn : x.1.length < 60) (F : Frm) : SDr Θ F (t_ways_on Θ) [.dat (dRule r), .dat (dPair x), .dat (.int n), .un, .un, .un, .un, .un] (.list ((ways r x n).map (dWay r x))) anyP := by
  unfold t_ways_on
  refine sdr_seq (sd_par (es_room (ea_cons (ev_v rfl) (ea_cons (ev_v rfl) ea_nil)) ⟨r, x, rfl, rfl⟩) (es_own (el_lst ea_nil (by decide)))) (sdr_seq
    (sd_for (b := false) (l := evs r (rm0 x)) (enc := dEvt) (fun pre => [.dat (dRule r), .dat (dPair x), .dat (.int n), .room (dRm r (rm0 x)), .own ((pre.filter fun e => decide (x.2 < n) || !growing r (rm0 x) e).map (dWay r x)), .un, .un, .un]) (ei_list (ev_callRd (b := false) rfl rfl ea_nil ⟨r, rm0 x, rfl, hl, rfl, rfl⟩)) rfl (fun pre e post he => ?_)) (sdr_retF (ev_v rfl) trivial))
  have hmem : e ∈ evs r (rm0 x) := by rw [he]; simp
  have hpre : pre.length < 10000 := by
    have h1 := congrArg List.length he
    rw [List.length_append, List.length_cons] at h1
    unfold evs at h1
    rw [List.length_mergeSort, allEv_eq] at h1
    have h1' := h1
    have h2 := List.length_filter_le (canBe r (rm0 x)) (someEv (rm0 x).l [.leave, .let_, .out, .vanish] ++ [Evt.come, Evt.door])
    have h3 := some_len (rm0 x).l [.leave, .let_, .out, .vanish]
    rw [List.length_append] at h2
    have h4 : (rm0 x).l.length < 60 := hn
    simp only [List.length_cons, List.length_nil] at h2 h3
    rw [h1'] at h2
    omega
  have et : EvT Θ (tOr (tTest (tOp (rI0 fun i j => .bl (decide (i < j))) (tFld Θ.K (tVar 3) "came_so_far") (tVar 2))) (tNot (tB (tCall (sp_is_growing Θ) [] C8.E0 (tCons (tVar 3) (tCons (tVar 5) tNil)))))) [.dat (dRule r), .dat (dPair x), .dat (.int n), .room (dRm r (rm0 x)), .own ((pre.filter fun e => decide (x.2 < n) || !growing r (rm0 x) e).map (dWay r x)), .dat (dEvt e), .un, .un] (decide (x.2 < n) || !growing r (rm0 x) e) :=
    et_or ((et_lt (b1 := false) (b2 := false) (ev_cameN K (r := r) (m := rm0 x) rfl rfl) (ev_v rfl)).is (decide_eq_decide.mpr (by show ((x.2 : Nat) : Int) < (n : Int) ↔ x.2 < n; omega))) fun _ => et_not (et_B (b := false) (ev_callRd rfl rfl (ea_cons (ev_v rfl) ea_nil) ⟨r, rm0 x, e, rfl, hl, rfl, rfl⟩))
  cases hc : decide (x.2 < n) || !growing r (rm0 x) e with
  | false =>
    refine ⟨_, _, _, bd_name (i := 5) rfl rfl, .inl (sd_iff et hc sd_next), ?_⟩
    rw [List.filter_append, List.filter_cons, if_neg (by rw [hc]; exact Bool.false_ne_true), List.filter_nil, List.append_nil]
    exact .same (.same (.same (.same (.same (.drop rfl (.same (.same .nil)))))))
  | true =>
    have hsv : (do_ r (rm0 x) e).sv.length ≤ 1 := sv_len K r x e
    refine ⟨_, _, _, bd_name (i := 5) rfl rfl, .inl (sd_ift et hc (sd_seq (sd_setS (es_room (ea_cons (ev_v rfl) (ea_cons (ev_v rfl) ea_nil)) ⟨r, x, rfl, rfl⟩) (by show 6 < 8; decide) rfl) (sd_seq (sd_meth (w := .room) rfl rfl (ea_cons (ev_v rfl) ea_nil) ⟨r, rm0 x, e, rfl, hl, hn, Nat.zero_le _, there_of hmem, rfl, rfl⟩)
      (sd_seq (sd_set (d := dOpt (served r x e)) (ev_if (et_test (b := false) (ev_servedNe K rfl rfl (lay_shaped (lay_ints _)))) (fun h => ?_) (fun h => ?_)))
        (sd_append rfl (d := dWay r x e) (ev_rowT (ea_cons (ev_v rfl) (ea_cons (ev_rowT (ea_cons (ev_line K (r := r) (m := do_ r (rm0 x) e) rfl rfl) (ea_cons (ev_cameN K (r := r) (m := do_ r (rm0 x) e) rfl rfl) ea_nil))) (ea_cons (ev_v rfl) ea_nil)))) ?_))))), ?_⟩
    · unfold served
      cases q : (do_ r (rm0 x) e).sv with
      | nil => exfalso; revert h; show ¬ (!PyData.eqv (.list ((do_ r (rm0 x) e).sv.map .int)) (.list [])) = true; rw [q]; decide +kernel
      | cons p rest => exact ev_served0 (d := .int p) K rfl rfl (by show atI ((do_ r (rm0 x) e).sv.map PyData.int) 0 = _; rw [q]; exact atI_0)
    · unfold served
      cases q : (do_ r (rm0 x) e).sv with
      | nil => exact ev_non
      | cons p rest => exfalso; revert h; show ¬ (!PyData.eqv (.list ((do_ r (rm0 x) e).sv.map .int)) (.list [])) = false; rw [q]; simp [PyData.eqv, PyData.eqvAll]
    · rw [List.length_map]
      have := List.length_filter_le (fun e => decide (x.2 < n) || !growing r (rm0 x) e) pre
      omega
    · rw [List.filter_append, List.filter_cons, if_pos hc, List.filter_nil, List.map_append]
      exact .same (.same (.same (.same (.same (.drop rfl (.drop rfl (.drop rfl .nil)))))))
end
end Ask
-- AskDict
set_option Elab.async false
set_option linter.all false
set_option maxRecDepth 100000
/-! dicts of one's own; while; lists that stay -/
namespace Ask
open PySem PySem.Spec PyProof.Rows L2
section
variable {Θ : Th} {F : Frm} {δ δ1 δ' : List Sl} {σ : L2.St} {H0 Hb H H0' Hb' H' H1 H2 : Hp} {A : Nat → List Addr} {b b0 b1 b2 : Bool} {ta tb te : TE} {c : TT} {t u : TS} {tr : TA} {d e x y : PyData} {ds es ks : List PyData} {i j : Nat} {o : Out} {E : XK}
theorem keys_all {xs : List Ent} (h : KeysAt Θ H0 xs ks) (s : Same H0 H') : ∀ z ∈ xs, KeyN Θ.K H' z := by
  induction h with
  | nil => intro z hz; cases hz
  | cons h1 h2 ih =>
    intro z hz
    rcases List.mem_cons.mp hz with rfl | hz
    · exact ⟨_, h1.1.mono s, h1.2⟩
    · exact ih z hz
theorem keys_len {xs : List Ent} (h : KeysAt Θ H0 xs ks) : xs.length = ks.length := by
  induction h with
  | nil => rfl
  | cons h1 h2 ih => rw [List.length_cons, List.length_cons, ih]
theorem keys_mem {xs : List Ent} (h : KeysAt Θ H0 xs ks) (kd : keyable d = true) : nkey d ∈ xs.map (·.1) ↔ d ∈ ks := by
  induction h with
  | nil => simp
  | @cons z k xs ks h1 h2 ih =>
    rw [List.map_cons, List.mem_cons, List.mem_cons, ih, ← h1.2.2.1]
    exact or_congr ⟨fun e => nkey_inj _ _ kd h1.2.1 e, fun e => by rw [e]⟩ Iff.rfl
theorem keys_snoc {xs : List Ent} {a : Addr} (h : KeysAt Θ H0 xs ks) (hd : Dp Θ.K H0 (.ref a) d) (kd : keyable d = true) (dd : (nkey d).depth ≤ 8) : KeysAt Θ H0 (xs ++ [(nkey d, a)]) (ks ++ [d]) := by
  induction h with
  | nil => exact .cons ⟨hd, kd, rfl, dd⟩ .nil
  | cons h1 h2 ih => exact .cons h1 ih
theorem keys_dp {xs : List Ent} (h : KeysAt Θ H0 xs ks) : DpAll Θ.K H0 (xs.map fun x => V.ref x.2) ks := by
  induction h with
  | nil => exact .nil
  | cons h1 h2 ih => exact .cons h1.1 ih
theorem keys_nodup {xs : List Ent} (h : KeysAt Θ H0 xs ks) (n : (xs.map (·.1)).Nodup) : ks.Nodup := by
  induction h with
  | nil => exact .nil
  | @cons z k xs ks h1 h2 ih =>
    rw [List.map_cons, List.nodup_cons] at n
    rw [List.nodup_cons]
    refine ⟨fun hm => n.1 ?_, ih n.2⟩
    rw [← h1.2.2.1]
    exact (keys_mem h2 h1.2.1).mpr hm
/-- a key: a tuple, small -/
structure KeyD (d : PyData) : Prop where
  t : ∃ ds, d = .tuple ds
  k : keyable d = true
  n : (nkey d).depth ≤ 8
theorem KeyD.ref {v : V} (k : KeyD d) (h : Dp Θ.K H v d) : ∃ a, v = .ref a := by
  obtain ⟨ds, rfl⟩ := k.t
  cases h with
  | tup hs ha => exact ⟨_, rfl⟩
theorem et_notInDic {v : Bool} (h : δ[i]? = some (.dic ks)) (ha : Ev Θ b1 ta δ d) (k : KeyD d) (hc : v = true ↔ d ∈ ks) : EvT Θ (tTest (tOp (rInN Θ.K Θ.P Θ.w true) ta (tVar i))) δ (!v) := fun σ H0 Hb H A st Q q => ha σ H0 Hb H A st _ fun z H1 s1 d1 => by
  obtain ⟨a, rfl⟩ := k.ref d1
  obtain ⟨o, ho, p, xs, _, rfl, h1, h2, h3⟩ := st.sl i _ h
  have sB := ext_same ((bse_le (b := b1) st.h0).trans st.hb) s1
  refine ⟨_, ho, nkey d, a, p, xs, rfl, rfl, ⟨d, d1.mono sB, k.k, rfl, k.n⟩, .inl (s1 _ _ h2), keys_all h3 ((st.h0.trans st.hb).trans s1), !v, ?_, q _ s1⟩
  rw [if_pos rfl]
  congr 2
  cases v with
  | true => exact decide_eq_true ((keys_mem h3 k.k).mpr (hc.mp rfl))
  | false => exact decide_eq_false fun hm => Bool.false_ne_true (hc.mpr ((keys_mem h3 k.k).mp hm))
theorem ev_lenDic (h : δ[i]? = some (.dic ks)) : Ev Θ b (tCB (rLenN Θ) (tCons (tVar i) tNil)) δ (.int ks.length) := fun σ H0 Hb H A st Q q => by
  obtain ⟨o, ho, p, xs, _, rfl, h1, h2, h3⟩ := st.sl i _ h
  refine ⟨_, ho, p, xs, rfl, .inl h2, keys_all h3 (st.h0.trans st.hb), q _ _ (Same.refl _) ?_⟩
  rw [keys_len h3]
  exact .int _
theorem el_listDic (h : δ[i]? = some (.dic ks)) : EvL Θ b (tCB (rListN Θ) (tCons (tVar i) tNil)) δ ks := fun σ H0 Hb H A st Q q => by
  obtain ⟨o, ho, p, xs, _, rfl, h1, h2, h3⟩ := st.sl i _ h
  refine ⟨_, ho, p, xs, rfl, .inl h2, fun z nz => ?_⟩
  obtain ⟨a1, a2, a3⟩ := new_lstL (B := bse b H0 Hb) (Same.refl H) nz ((keys_dp h3).mono ((bse_same st.h0).trans (same_ext ((bse_le st.h0).trans st.hb))))
  exact q z _ _ a1 a2 upd_same a3
/-- d[k] = True, a new key -/
theorem sd_setDic (h : δ[i]? = some (.dic ks)) (ha : Ev Θ false ta δ d) (k : KeyD d) (hn : d ∉ ks) (hl : ks.length < 100000) : SD Θ F (tAsg (tC (.bl true)) (gSub (tVar i) ta (rSetN Θ.K Θ.P Θ.w))) δ (.nx (δ.set i (.dic (ks ++ [d])))) := fun σ H0 Hb H A st D fin => by
  obtain ⟨o, ho, p, xs, hA, rfl, h1, h2, h3⟩ := st.s.sl i _ h
  refine ⟨_, ho, ha σ H0 Hb H A st.s _ fun z H1 s1 d1 => ?_⟩
  obtain ⟨a, rfl⟩ := k.ref d1
  have st1 := st.ext s1
  have s0 := same_ext (H1 := H1) (st.s.h0.trans st.s.hb)
  refine ⟨nkey d, a, p, xs, rfl, rfl, rfl, ⟨d, d1.mono (st1.s.h0.trans st1.s.hb), k.k, rfl, k.n⟩, s1 _ _ h2, keys_all h3 ((st.s.h0.trans st.s.hb).trans s1), szlt (by rw [keys_len h3]; exact hl), ?_⟩
  have hput : putN xs (nkey d) a = xs ++ [(nkey d, a)] := by
    unfold putN
    rw [if_neg fun hm => hn ((keys_mem h3 k.k).mp hm)]
  rw [hput]
  refine fin _ _ _ _ _ (st1.mutS h (fun w hw => upd_ne fun e => hw (by rw [hA, e]; simp)) ho ⟨p, _, hA, rfl, by rw [ext_old (not_none h2)]; exact h1, upd_same, keys_snoc (h3.mono s0) d1 k.k k.n⟩ (fun w hw => by have z := st.fr i _ w h hw; exact z) fun w hw => .inl (st.fr i _ w h hw)) s0 (same_ext st.s.hb)
theorem es_dnew : EvS Θ (tDNewN Θ.P Θ.w) δ (.dic []) := fun σ H0 Hb H A st Q q => fun p np => by
  have s1 : Same H (upd H p (DN Θ.P Θ.w p [])) := same_new np
  exact q _ _ _ _ [p] s1 (grow_del st.h0 st.hb s1 np) ⟨p, [], rfl, rfl, del_at, upd_same, .nil⟩ fun a ha => by
    obtain rfl : a = p := by simpa using ha
    exact np
theorem es_disp1 (ha : Ev Θ false ta δ d) (k : KeyD d) : EvS Θ (tDisp1 Θ.K Θ.P Θ.w ta (tC (.bl true))) δ (.dic [d]) := fun σ H0 Hb H A st Q q => fun p np => by
  have s1 : Same H (upd H p (DN Θ.P Θ.w p [])) := same_new np
  have st1 := st.grow s1 (grow_del st.h0 st.hb s1 np)
  refine ha σ _ _ _ A st1 _ fun v H1 s2 d2 => ?_
  obtain ⟨a, rfl⟩ := k.ref d2
  have hp1 : H1 p = some (DN Θ.P Θ.w p []) := s2 _ _ upd_same
  have d3 : Dp Θ.K (del (ext H0 H (upd H1 p (DN Θ.P Θ.w p [(nkey d, a)]))) p) (.ref a) d := by
    refine d2.mono fun z o e => ?_
    show del _ p z = some o
    by_cases hz : (upd H p (DN Θ.P Θ.w p [])) z = none
    · have e2 : H1 z = some o := by rw [show bse false (del (ext H0 H (upd H p (DN Θ.P Θ.w p []))) p) _ = del (ext H0 H (upd H p (DN Θ.P Θ.w p []))) p from rfl, ext_new hz] at e; exact e
      have e1 : z ≠ p := fun e' => by rw [e', upd_same] at hz; cases hz
      rw [del_ne e1, ext_new (s1.free hz), upd_ne e1]
      exact e2
    · have e2 : del (ext H0 H (upd H p (DN Θ.P Θ.w p []))) p z = some o := by rw [show bse false (del (ext H0 H (upd H p (DN Θ.P Θ.w p []))) p) _ = del (ext H0 H (upd H p (DN Θ.P Θ.w p []))) p from rfl, ext_old hz] at e; exact e
      have e1 : z ≠ p := fun e' => by rw [e', del_at] at e2; cases e2
      rw [del_ne e1] at e2 ⊢
      rw [upd_ne e1] at hz
      rw [ext_old hz] at e2 ⊢
      exact e2
  have sB : Same (ext (del (ext H0 H (upd H p (DN Θ.P Θ.w p []))) p) (upd H p (DN Θ.P Θ.w p [])) H1) H1 := ext_same (st1.h0.trans st1.hb) s2
  refine ⟨nkey d, a, rfl, rfl, ⟨d, d2.mono sB, k.k, rfl, k.n⟩, hp1, ?_⟩
  have sF : Same H (upd H1 p (DN Θ.P Θ.w p [(nkey d, a)])) := fun z o e => by
    rw [upd_ne (ne_of_none e np)]
    exact s2 _ _ (s1 _ _ e)
  exact q _ _ _ _ [p] sF (grow_del st.h0 st.hb sF np) ⟨p, [(nkey d, a)], rfl, rfl, del_at, upd_same, .cons ⟨d3, k.k, rfl, k.n⟩ .nil⟩ fun a ha => by
    obtain rfl : a = p := by simpa using ha
    exact np
/-! ### an own list stays from here on -/
theorem St.frz1 (st : St Θ F δ σ H0 Hb H A) (hi : δ[i]? = some (.own ds)) : ∃ H0' Hb' A', St Θ F (δ.set i (.dat (.list ds))) σ H0' Hb' H A' ∧ Same H0 H0' ∧ Same Hb Hb' := by
  obtain ⟨o, ho, p, vs, hA, rfl, h1, h2, h3⟩ := st.s.sl i _ hi
  have hil : i < δ.length := (List.getElem?_eq_some_iff.mp hi).1
  have hp0 : H0 p = none := none_of_same st.s.h0 h1
  let add : Hp → Hp := fun B => upd B p (.lst vs)
  have s0 : Same H0 (add H0) := same_new hp0
  have sb : Same Hb (add Hb) := same_new h1
  have hc : F.Hc p = none := st.fr i _ p hi (by rw [hA]; simp)
  refine ⟨add H0, add Hb, fun k => if k = i then [] else A k, ⟨⟨fun z o e => ?_, fun z o e => ?_, fun k s hs => ?_, fun k hk => ?_, fun k l a g1 g2 => ?_, by rw [List.length_set, st.s.len]⟩, st.keep, st.there, fun z o e => ?_, st.c0.trans s0, st.ac, st.m0, fun k s a hs ha => ?_⟩, s0, sb⟩
  · show upd Hb p (.lst vs) z = some o
    have e : upd H0 p (.lst vs) z = some o := e
    by_cases hz : z = p
    · rw [hz, upd_same] at e ⊢; exact e
    · rw [upd_ne hz] at e ⊢; exact st.s.h0 _ _ e
  · have e : upd Hb p (.lst vs) z = some o := e
    by_cases hz : z = p
    · rw [hz, upd_same] at e
      rw [hz, h2]; exact e
    · rw [upd_ne hz] at e; exact st.s.hb _ _ e
  · by_cases e : k = i
    · subst e
      rw [List.getElem?_set_self hil] at hs
      cases hs
      rw [if_pos rfl]
      exact ⟨_, ho, rfl, _, rfl, .lst (SqL.of (show upd H0 p (.lst vs) p = some (.lst vs) from upd_same)) (h3.mono s0)⟩
    · rw [List.getElem?_set_ne (Ne.symm e)] at hs
      obtain ⟨o, g1, g2⟩ := st.s.sl k s hs
      rw [if_neg e]
      refine ⟨o, g1, g2.mono s0 sb fun a ha => ⟨fun w hw => hw, fun hn => ?_⟩⟩
      show upd Hb p (.lst vs) a = none
      rw [upd_ne fun z => e (st.s.dj k i a ha (by rw [hA, z]; simp))]
      exact hn
  · rw [List.getElem?_eq_none_iff, List.length_set] at hk
    have e : k ≠ i := by omega
    rw [if_neg e]
    exact st.s.out k (List.getElem?_eq_none_iff.mpr hk)
  · by_cases e1 : k = i
    · rw [if_pos e1] at g1; cases g1
    · by_cases e2 : l = i
      · rw [if_pos e2] at g2; cases g2
      · rw [if_neg e1] at g1
        rw [if_neg e2] at g2
        exact st.s.dj k l a g1 g2
  · have e : upd H0 p (.lst vs) z = some o := e
    by_cases hz : z = p
    · rw [hz, upd_same] at e
      rw [hz, ext_new hc, h2]; exact e
    · rw [upd_ne hz] at e; exact st.b0 _ _ e
  · by_cases e : k = i
    · rw [if_pos e] at ha; cases ha
    · rw [if_neg e] at ha
      rw [List.getElem?_set_ne (Ne.symm e)] at hs
      exact st.fr k s a hs ha
/-- a = b, b an own list that is changed no more -/
theorem sd_move (hi : δ[i]? = some (.own ds)) (hj : Nat.blt j δ.length = true := by rfl) : SD Θ F (tAsg (tVar i) (gName j)) δ (.nx ((δ.set i (.dat (.list ds))).set j (.dat (.list ds)))) := fun σ H0 Hb H A st D fin => by
  obtain ⟨H0', Hb', A', st', s0, sb⟩ := st.frz1 hi
  have hil : i < δ.length := (List.getElem?_eq_some_iff.mp hi).1
  exact sd_set (F := F) (ev_v (List.getElem?_set_self hil)) (by rw [List.length_set]; exact hj) σ _ _ H _ st' D (fin.mono s0 sb)
theorem sd_drop (h : Ev Θ b te δ d) : SD Θ F (tDrop te) δ (.nx δ) := fun σ H0 Hb H A st D fin => h σ H0 Hb H A st.s _ fun v H1 s1 d1 => fin _ _ _ _ _ (st.ext s1) (same_ext (st.s.h0.trans st.s.hb)) (same_ext st.s.hb)
/-! ### while -/
theorem sd_while {α : Type} (S : α → List Sl) (m : α → Nat) (I : α → Prop) {a : α} (Z : α → Prop) (ha : I a) (h : ∀ a, I a → ∃ v, EvT Θ c (S a) v ∧ (v = true → ∃ a' δ', SD Θ F t (S a) (.nx δ') ∧ Wk δ' (S a') ∧ I a' ∧ m a' < m a) ∧ (v = false → Z a)) {o : PyData} {P : List Sl → Prop} (hu : ∀ a, I a → Z a → SDr Θ F u (S a) o P) : SDr Θ F (tSeq (tWhile c t) u) (S a) o P := fun σ H0 Hb H A st D fin => by
  refine ⟨fun n σ' H' => ∃ a H0' Hb' A', I a ∧ m a = n ∧ St Θ F (S a) σ' H0' Hb' H' A', ⟨m a, a, _, _, _, ha, rfl, st⟩, ?_⟩
  rintro n σ' H' ⟨a, H0', Hb', A', hI, rfl, st'⟩
  obtain ⟨v, hv, ht, hf⟩ := h a hI
  refine hv σ' _ _ _ _ st'.s _ fun H2 s2 => ?_
  cases v with
  | true =>
    rw [if_pos rfl]
    obtain ⟨a', δ', hb, hw, hI', hm⟩ := ht rfl
    refine ⟨fun σ2 H3 => ∃ H0' Hb' A', St Θ F (S a') σ2 H0' Hb' H3 A', fun σ2 H3 ⟨z1, z2, z3, z4⟩ => ⟨m a', hm, a', z1, z2, z3, hI', rfl, z4⟩, ?_⟩
    exact hb σ' _ _ _ _ (st'.ext s2) _ fun σ2 z1 z2 H3 z3 st3 _ _ => ⟨z1, z2, _, st3.weak hw⟩
  | false =>
    rw [if_neg Bool.false_ne_true]
    exact hu a hI (hf rfl) σ' _ _ _ _ (st'.ext s2) D fin
end
end Ask
-- AskDict2
set_option Elab.async false
set_option linter.all false
set_option maxRecDepth 100000
/-! sorted({k: True for .. in d if ..}) -/
namespace Ask
open PySem PySem.Spec PyProof.Rows L2
section
variable {Θ : Th} {δ : List Sl} {σ : L2.St} {H0 Hb H H' : Hp} {A : Nat → List Addr} {b : Bool} {te : TE} {ks : List PyData} {i : Nat}
theorem keys_get {xs : List Ent} (h : KeysAt Θ H0 xs ks) : ∀ {k : Nat} {x : Ent}, xs[k]? = some x → ∃ d, ks[k]? = some d ∧ Dp Θ.K H0 (.ref x.2) d := by
  induction h with
  | nil => intro k x hx; simp at hx
  | cons h1 h2 ih =>
    intro k x hx
    cases k with
    | zero =>
      have := Option.some.inj (show some _ = some x by simpa using hx)
      subst this
      exact ⟨_, rfl, h1.1⟩
    | succ k => exact ih (by simpa using hx)
theorem St0.lock (st : St0 Θ δ σ H0 Hb H A) {p : Addr} {u : HO} (hi : δ[i]? = some (.dic ks)) (hA : A i = [p]) (hp : Hb p = none) : St0 Θ (δ.set i .un) σ H0 Hb (upd H p u) (fun k => if k = i then [] else A k) where
  h0 := st.h0
  hb := fun z o e => by rw [upd_ne (ne_of_none e hp)]; exact st.hb z o e
  sl := fun k s hs => by
    have hil : i < δ.length := (List.getElem?_eq_some_iff.mp hi).1
    by_cases e : k = i
    · subst e
      rw [List.getElem?_set_self hil] at hs
      cases hs
      obtain ⟨o, ho, _⟩ := st.sl k _ hi
      exact ⟨o, ho, if_pos rfl⟩
    · rw [List.getElem?_set_ne (Ne.symm e)] at hs
      obtain ⟨o, g1, g2⟩ := st.sl k s hs
      rw [if_neg e]
      refine ⟨o, g1, g2.mono (Same.refl _) (Same.refl _) fun a ha => ⟨fun w hw => ?_, fun h => h⟩⟩
      rw [upd_ne fun z => e (st.dj k i a ha (by rw [hA, z]; simp))]
      exact hw
  out := fun k hk => by
    rw [List.getElem?_eq_none_iff, List.length_set] at hk
    have hil : i < δ.length := (List.getElem?_eq_some_iff.mp hi).1
    have e : k ≠ i := by omega
    rw [if_neg e]
    exact st.out k (List.getElem?_eq_none_iff.mpr hk)
  dj := fun k l a g1 g2 => by
    by_cases e1 : k = i
    · rw [if_pos e1] at g1; cases g1
    · by_cases e2 : l = i
      · rw [if_pos e2] at g2; cases g2
      · rw [if_neg e1] at g1
        rw [if_neg e2] at g2
        exact st.dj k l a g1 g2
  len := by rw [List.length_set, st.len]
theorem el_sortedDc {α : Type} {l : List α} {enc : α → PyData} (p : α → Bool) (g : α → PyData) {gt : TG} {tt : TT} {vs T : List Nat} (hi : δ[i]? = some (.dic (l.map enc)))
    (hb : ∀ r ∈ l, ∃ δ1, Bd Θ false gt (enc r) (wipeD (δ.set i .un) vs) δ1 T ∧ EvT Θ tt δ1 (p r) ∧ (p r = true → Ev Θ false te δ1 (g r) ∧ KeyD (g r)))
    (hnd : ((l.filter p).map g).Nodup) (ok : SortOk ((l.filter p).map g)) (hl : l.length ≤ 100000) (hf : frees (δ.set i .un) vs = true := by rfl) (hT : ∀ i ∈ T, i ∈ vs := by decide) :
    EvL Θ b (tCB (rSortN Θ.P Θ.w Θ.K) (tCons (tLockE (tDcN Θ.K Θ.P Θ.w (iKeysN Θ.P Θ.w (tVar i)) gt tt te (tC (.bl true)) vs)) tNil)) δ (dsort ((l.filter p).map g)) := by
  intro σ H0 Hb H A st Q q
  obtain ⟨o, ho, pk, xs, hA, rfl, h1, h2, h3⟩ := st.sl i _ hi
  refine ⟨pk, _, h2, trivial, fun od => ?_⟩
  have hxl : xs.length = l.length := by rw [keys_len h3, List.length_map]
  obtain ⟨HL, eHL⟩ : ∃ HL, HL = upd H pk (.frz od (DN Θ.P Θ.w pk xs)) := ⟨_, rfl⟩
  have stL : St0 Θ (δ.set i .un) σ H0 Hb HL (fun k => if k = i then [] else A k) := by rw [eHL]; exact st.lock hi hA h1
  have hLp : HL pk = some (.frz od (DN Θ.P Θ.w pk xs)) := by rw [eHL, upd_same]
  have hLn : ∀ z, z ≠ pk → HL z = H z := fun z hz => by rw [eHL, upd_ne hz]
  rw [← eHL]
  refine ⟨_, ho, pk, od, xs, rfl, hLp, fun D hD => ?_⟩
  have hDp : D ≠ pk := fun e => by rw [e, hLp] at hD; cases hD
  have hDH : H D = none := by rw [← hLn D hDp]; exact hD
  have s0L : Same H0 HL := stL.h0.trans stL.hb
  let Pv : Nat → Hp → Prop := fun k Hi => Same HL Hi ∧ ∃ ys, Hi D = some (DN Θ.P Θ.w D ys) ∧ KeysAt Θ (del (ext H0 HL Hi) D) ys (((l.take k).filter p).map g)
  refine ⟨fun k m Hi => m = l.length - k ∧ k ≤ l.length ∧ Pv k Hi, ⟨l.length, by simp, Nat.zero_le _, same_new hD, [], upd_same, by simp only [List.take_zero, List.filter_nil, List.map_nil]; exact .nil⟩, ?_⟩
  rintro k m Hi ⟨rfl, hk, sHi, ys, hys, hks⟩
  by_cases hlt : k < l.length
  · refine .inr ⟨⟨sHi _ _ hLp, by rw [hxl]; exact hlt⟩, Pv (k + 1), fun H' p' => ⟨l.length - (k + 1), by omega, rfl, hlt, p'⟩, ?_⟩
    rintro x H2 ⟨rfl, ent, hent, rfl⟩
    obtain ⟨d, hd1, hd2⟩ := keys_get h3 hent
    have hd3 : d = enc l[k] := by
      rw [List.getElem?_map, List.getElem?_eq_getElem hlt] at hd1
      exact (Option.some.inj hd1).symm
    subst hd3
    obtain ⟨δ1, hB, hC, hE⟩ := hb l[k] (List.getElem_mem hlt)
    have n0 : H0 D = none := none_of_same s0L hD
    have st2 := (stL.grow sHi (grow_del stL.h0 stL.hb sHi hD)).wipe (frees_of hf) (ws := vs) fun _ h => h
    refine hB.2 _ _ _ _ _ _ st2 (hd2.mono (same_del (same_ext s0L) n0)) _ fun σ1 st3 hw => ⟨by rw [hw vs hT, wipe_wipe σ fun _ h => h], ?_⟩
    refine hC σ1 _ _ _ _ st3 _ fun H3 s3 => ?_
    have take1 : l.take (k + 1) = l.take k ++ [l[k]] := by rw [List.take_add_one, List.getElem?_eq_getElem hlt]; rfl
    have accs : ∀ {H4 : Hp}, Same H2 H4 → KeysAt Θ (del (ext H0 HL H4) D) ys (((l.take k).filter p).map g) := fun {H4} s4 => hks.mono fun z o e => by
      have hzD : z ≠ D := fun e' => by rw [e', del_at] at e; cases e
      rw [del_ne hzD] at e ⊢
      exact ext_monoR s4 _ _ e
    cases hp : p l[k] with
    | false =>
      rw [if_neg Bool.false_ne_true]
      refine ⟨sHi.trans s3, ys, s3 _ _ hys, ?_⟩
      have e : ((l.take (k + 1)).filter p).map g = ((l.take k).filter p).map g := by rw [take1, List.filter_append, List.filter_cons, hp, if_neg Bool.false_ne_true, List.filter_nil, List.append_nil]
      rw [e]
      exact accs s3
    | true =>
      rw [if_pos rfl]
      have e : ((l.take (k + 1)).filter p).map g = ((l.take k).filter p).map g ++ [g l[k]] := by
        rw [take1, List.filter_append, List.filter_cons, hp, if_pos rfl, List.filter_nil, List.map_append]
        rfl
      obtain ⟨hev, hkey⟩ := hE hp
      refine hev σ1 _ _ H3 _ (st3.ext s3) _ fun y H4 s4 dy => ?_
      obtain ⟨a, rfl⟩ := hkey.ref dy
      have hD4 : H4 D = some (DN Θ.P Θ.w D ys) := s4 _ _ (s3 _ _ hys)
      have s24 := s3.trans s4
      rw [bse_ext, ext_ext s3 s4] at dy
      have later : Same (ext (bse false (del (ext H0 HL H2) D) (del (ext Hb HL H2) D)) H2 H4) (del (ext H0 HL H4) D) := fun z o e => by
        by_cases hz : H2 z = none
        · rw [ext_new hz] at e
          have hzD : z ≠ D := fun e' => by rw [e', hys] at hz; cases hz
          rw [del_ne hzD, ext_new (sHi.free hz)]
          exact e
        · rw [ext_old hz] at e
          have e : del (ext H0 HL H2) D z = some o := e
          have hzD : z ≠ D := fun e' => by rw [e', del_at] at e; cases e
          rw [del_ne hzD] at e ⊢
          exact ext_monoR s24 _ _ e
      have sBH : Same (del (ext H0 HL H4) D) H4 := del_same.trans (ext_same s0L (sHi.trans s24))
      refine ⟨nkey (g l[k]), a, ys, rfl, rfl, ⟨_, (dy.mono later).mono sBH, hkey.k, rfl, hkey.n⟩, hD4, keys_all (accs s24) sBH, ?_, ?_⟩
      · rw [keys_len hks, List.length_map]
        have h1 := List.length_filter_le p (l.take k)
        rw [List.length_take] at h1
        exact szlt (by omega)
      · have hput : putN ys (nkey (g l[k])) a = ys ++ [(nkey (g l[k]), a)] := by
          unfold putN
          rw [if_neg]
          intro hm
          have hm := (keys_mem hks hkey.k).mp hm
          have hnd2 : (((l.take (k + 1)).filter p).map g).Nodup := by
            have := List.Sublist.map g (List.Sublist.filter p (List.take_sublist (k + 1) l))
            exact this.nodup hnd
          rw [e, List.nodup_append] at hnd2
          exact hnd2.2.2 _ hm _ (List.mem_singleton.mpr rfl) rfl
        have sup : Same (del (ext H0 HL H4) D) (del (ext H0 HL (upd H4 D (DN Θ.P Θ.w D (ys ++ [(nkey (g l[k]), a)])))) D) := fun z o e => by
          have hzD : z ≠ D := fun e' => by rw [e', del_at] at e; cases e
          rw [del_ne hzD] at e ⊢
          by_cases hz2 : HL z = none
          · rw [ext_new hz2] at e ⊢
            rw [upd_ne hzD]
            exact e
          · rw [ext_old hz2] at e ⊢
            exact e
        rw [hput]
        refine ⟨fun z o ez => ?_, _, upd_same, ?_⟩
        · rw [upd_ne (ne_of_none ez hD)]
          exact (sHi.trans s24) _ _ ez
        · rw [e]
          exact keys_snoc ((accs s24).mono sup) ((dy.mono later).mono sup) hkey.k hkey.n
  · have e : k = l.length := by omega
    subst e
    rw [List.take_length] at hks
    have hpI : Hi pk = some (.frz od (DN Θ.P Θ.w pk xs)) := sHi _ _ hLp
    refine .inl ⟨⟨hpI, by rw [hxl]; exact Nat.le_refl _⟩, hpI, ?_⟩
    have sHf : Same H (upd Hi pk (DN Θ.P Θ.w pk xs)) := fun z o e => by
      by_cases hz : z = pk
      · rw [hz] at e ⊢; rw [upd_same, ← e, h2]
      · rw [upd_ne hz]
        exact sHi _ _ (by rw [hLn z hz]; exact e)
    have up : Same (del (ext H0 HL Hi) D) (ext (bse b H0 Hb) H (upd Hi pk (DN Θ.P Θ.w pk xs))) := fun z o e => by
      have hzD : z ≠ D := fun e' => by rw [e', del_at] at e; cases e
      rw [del_ne hzD] at e
      by_cases hz : HL z = none
      · have hzp : z ≠ pk := fun e' => by rw [e', hLp] at hz; cases hz
        rw [ext_new hz] at e
        rw [ext_new (by rw [← hLn z hzp]; exact hz), upd_ne hzp]
        exact e
      · rw [ext_old hz] at e
        have hzH : H z ≠ none := not_none ((st.h0.trans st.hb) _ _ e)
        rw [ext_old hzH]
        exact bse_same st.h0 _ _ e
    have hdp := (keys_dp hks).mono up
    refine ⟨D, ys, _, rfl, .inl (by rw [upd_ne hDp]; exact hys), hdp.mono (ext_same ((bse_le st.h0).trans st.hb) sHf), ok, fun zs z nz hp he => ?_⟩
    have hz := zip_base hdp hp
    rw [he] at hz
    obtain ⟨a1, a2, a3⟩ := new_lstL sHf nz hz
    exact q z _ _ a1 a2 upd_same a3
end
end Ask
-- AskBfs
set_option Elab.async false
set_option linter.all false
set_option maxRecDepth 100000
/-! what can be reached: sizes, keys, sorted orders, the search in layers -/
namespace Ask
open PySem PySem.Spec PyProof.Rows L2
/-! ### the order of orders -/
theorem le_names : PySem.W.dataLe false dNames = fun p q => decide (p ≤ q) := by
  funext p q
  show (!PySem.W.dataLt (.tuple (q.map .int)) (.tuple (p.map .int))) = _
  rw [PySem.W.dataLt_tuple]
  show (!PySem.W.rowLt (q.map .int) (p.map .int)) = _
  rw [PySem.W.dataLt_ints]
  by_cases h : q < p
  · have h' : ¬ p ≤ q := fun r => List.not_lt.mpr r h
    simp [h, h']
  · have h' : p ≤ q := List.not_lt.mp h
    simp [h, h']
def sortO (os : List (List Int)) : List (List Int) := os.mergeSort fun p q => decide (p ≤ q)
theorem sortO_pw (os : List (List Int)) : (sortO os).Pairwise fun a b => a ≤ b := by
  have h := List.pairwise_mergeSort (le := fun p q : List Int => decide (p ≤ q)) (fun a b c h1 h2 => by
    have h1 := of_decide_eq_true h1
    have h2 := of_decide_eq_true h2
    exact decide_eq_true (List.le_trans h1 h2)) (fun a b => by
    rcases List.le_total a b with h | h
    · simp [h]
    · simp [h]) os
  exact h.imp fun h => of_decide_eq_true h
theorem orders_unique {r : Rule} {n : Nat} {a c : List (List Int)} (h1 : Orders r n a) (h2 : Orders r n c) : a = c := by
  have hp : a.Perm c := (List.perm_ext_iff_of_nodup h1.1 h2.1).mpr fun o => (h1.2.2 o).trans (h2.2.2 o).symm
  exact hp.eq_of_pairwise (le := fun a b => a ≤ b) (fun x y _ _ h1 h2 => List.le_antisymm h1 h2) h1.2.1 h2.2.1
theorem dsort_names (os : List (List Int)) : dsort (os.map dNames) = (sortO os).map dNames := by
  unfold sortO
  rw [← le_names]
  exact (PySem.W.sort_maps (s := PySem.W.dataLe false id) dNames fun _ _ _ _ => rfl).symm
/-! ### lengths, counts, hows -/
theorem askedAgain_len (r : Rule) (l : Line) : (askedAgain r l).length = l.length := by
  unfold askedAgain
  split
  · exact renewed_len r l _
  · rfl
theorem without_len (r : Rule) (l : Line) (p : Int) : (without r l p).length ≤ l.length := by
  unfold without
  split
  · rw [renewed_len, List.length_map]; exact left_le l p
  · rw [List.length_map]; exact left_le l p
theorem putIn_len (r : Rule) (m : Rm) (s : Nat) : (putIn r m s).l.length = m.l.length + 1 := by
  unfold putIn
  show (renewed r _ _).length = _
  rw [renewed_len, List.length_append, List.length_cons, List.length_take, List.length_drop]
  omega
theorem asHow_len (l : Line) (s : Nat) (h : How) : (asHow l s h).length = l.length := List.length_modify ..
theorem renewFrom_len (r : Rule) (m : Rm) (s : Nat) : (renewFrom r m s).l.length = m.l.length := renewed_len r m.l _
theorem bring_len (r : Rule) (m : Rm) (s : Nat) (hs : s < m.l.length) : (bringBack r m s).l.length = m.l.length := by
  unfold bringBack
  split
  · rw [putIn_len]
    show (m.l.take s ++ m.l.drop (s + 1)).length + 1 = _
    rw [cut_len hs]
    omega
  · split
    · rw [renewFrom_len]; exact asHow_len ..
    · show (renewed r _ _).length = _
      rw [renewed_len]; exact asHow_len ..
    · exact asHow_len ..
theorem open_len (r : Rule) (m : Rm) : (openDoor r m).l.length ≤ m.l.length := by
  unfold openDoor
  dsimp only
  split
  · exact Nat.le_trans (without_len ..) (Nat.le_of_eq (askedAgain_len ..))
  · exact Nat.le_of_eq (askedAgain_len ..)
theorem howAt_spot (l : Line) (p : Int) : howAt l (spotOf l p) = howOf l p := by
  unfold howAt spotOf howOf
  induction l with
  | nil => rfl
  | cons a r ih =>
    rw [List.findIdx_cons, List.find?_cons]
    cases h : decide (a.p = p) with
    | true => simp
    | false => simpa using ih
def grow1 (r : Rule) (m : Rm) (e : Evt) : Nat := if growing r m e then 1 else 0
theorem bring_c (r : Rule) (m : Rm) (p : Int) : (bringBack r m (spotOf m.l p)).c = m.c + grow1 r m (.per .back p) := by
  have eg : grow1 r m (.per .back p) = if (decide (r.back = .asks) && decide (howOf m.l p = some .lost)) = true then 1 else 0 := rfl
  rw [eg]
  unfold bringBack
  rw [howAt_spot]
  by_cases h : r.back = .asks ∧ howOf m.l p = some .lost
  · rw [if_pos h, decide_eq_true h.1, decide_eq_true h.2]
    rfl
  · rw [if_neg h]
    have : (decide (r.back = .asks) && decide (howOf m.l p = some .lost)) = false := by
      rw [Bool.and_eq_false_iff]
      by_cases h1 : r.back = .asks
      · exact .inr (decide_eq_false fun h2 => h ⟨h1, h2⟩)
      · exact .inl (decide_eq_false h1)
    rw [this]
    split <;> rfl
theorem open_c (r : Rule) (m : Rm) : (openDoor r m).c = m.c := by
  unfold openDoor
  dsimp only
  split <;> rfl
theorem do1_c (r : Rule) (m : Rm) (e : Evt) : (do1 r m e).c = m.c + grow1 r m e := by
  unfold do1
  cases e with
  | come => rfl
  | door => exact open_c r m
  | per w p =>
    unfold doPer
    cases w with
    | back => exact bring_c r m p
    | let_ =>
      dsimp only
      split <;> rfl
    | _ => rfl
theorem do_c (r : Rule) (m : Rm) (e : Evt) : (do_ r m e).c = m.c + grow1 r m e := do1_c r m e
theorem left_lt {l : Line} {p : Int} (h : ∃ w ∈ l, w.p = p) : (left l p).length < l.length := by
  unfold left
  have h1 : (l.filter fun w => decide (w.p ≠ p)).length ≤ l.length := List.length_filter_le _ _
  rcases Nat.lt_or_ge (l.filter fun w => decide (w.p ≠ p)).length l.length with h2 | h2
  · exact h2
  · exfalso
    have := List.length_filter_eq_length_iff.mp (Nat.le_antisymm h1 h2)
    obtain ⟨w, hw, e⟩ := h
    exact of_decide_eq_true (this w hw) e
theorem without_lt (r : Rule) {l : Line} {p : Int} (h : ∃ w ∈ l, w.p = p) : (without r l p).length < l.length := by
  unfold without
  split
  · rw [renewed_len, List.length_map]; exact left_lt h
  · rw [List.length_map]; exact left_lt h
theorem claim_in {r : Rule} {l : Line} {p : Int} (h : p ∈ claiming r l) : ∃ w ∈ l, w.p = p := by
  unfold claiming at h
  obtain ⟨w, hw, e⟩ := List.mem_map.mp h
  exact ⟨w, (List.mem_filter.mp hw).1, e⟩
theorem open_lens (r : Rule) (m : Rm) : (openDoor r m).l.length + (openDoor r m).sv.length ≤ m.l.length + m.sv.length := by
  unfold openDoor
  dsimp only
  split
  · rename_i p hp
    have h1 := without_lt r (claim_in (r := r) (l := askedAgain r m.l) (p := p) (by rw [hp]; exact List.mem_singleton.mpr rfl))
    rw [askedAgain_len] at h1
    show (without r (askedAgain r m.l) p).length + (m.sv ++ [p]).length ≤ _
    rw [List.length_append, List.length_singleton]
    omega
  · rw [askedAgain_len]
    exact Nat.le_refl _
theorem bring_sv (r : Rule) (m : Rm) (s : Nat) : (bringBack r m s).sv = m.sv := by
  unfold bringBack
  split
  · rfl
  · split <;> rfl
theorem do1_len (r : Rule) (m : Rm) (e : Evt) (ht : there m.l e) : (do1 r m e).l.length + (do1 r m e).sv.length ≤ m.l.length + m.sv.length + grow1 r m e := by
  unfold do1
  cases e with
  | come =>
    show (putIn r m m.l.length).l.length + m.sv.length ≤ m.l.length + m.sv.length + 1
    rw [putIn_len]; omega
  | door => exact Nat.le_trans (open_lens r m) (Nat.le_add_right _ _)
  | per w p =>
    unfold doPer
    cases w with
    | back =>
      show (bringBack r m (spotOf m.l p)).l.length + (bringBack r m (spotOf m.l p)).sv.length ≤ _
      rw [bring_len r m _ (spotOf_lt ht), bring_sv]
      exact Nat.le_add_right _ _
    | let_ =>
      show (if r.told = true then _ else _ : Rm).l.length + (if r.told = true then _ else _ : Rm).sv.length ≤ m.l.length + m.sv.length + 1
      split
      · show (renewFrom r (putIn r m (spotOf m.l p + 1)) _).l.length + m.sv.length ≤ _
        rw [renewFrom_len, putIn_len]; omega
      · show (putIn r m (spotOf m.l p + 1)).l.length + m.sv.length ≤ _
        rw [putIn_len]; omega
    | leave =>
      have := without_len r m.l p
      show (without r m.l p).length + m.sv.length ≤ _
      omega
    | out =>
      show (asHow m.l _ .out).length + m.sv.length ≤ _
      rw [asHow_len]
      exact Nat.le_add_right _ _
    | vanish =>
      show (asHow m.l _ .away).length + m.sv.length ≤ _
      rw [asHow_len]
      exact Nat.le_add_right _ _
/-- nobody is away -/
def noAway (l : Line) : Prop := ∀ w ∈ l, w.h ≠ .away
theorem na_renewed {r : Rule} {l : Line} (h : noAway l) (f : Nat → Bool) : noAway (renewed r l f) := fun w hw => by
  rw [renewed_zip] at hw
  obtain ⟨x, hx, rfl⟩ := List.mem_map.mp hw
  have := h _ (List.mem_of_getElem? (List.mem_zipIdx_iff_getElem?.mp hx))
  unfold ren
  split
  · exact this
  · exact this
theorem na_ins {l : Line} (h : noAway l) (s : Nat) {w : Row} (hw : w.h ≠ .away) : noAway (l.take s ++ w :: l.drop s) := fun v hv => by
  rcases List.mem_append.mp hv with hv | hv
  · exact h v (List.mem_of_mem_take hv)
  · rcases List.mem_cons.mp hv with rfl | hv
    · exact hw
    · exact h v (List.mem_of_mem_drop hv)
theorem na_cut {l : Line} (h : noAway l) (s : Nat) : noAway (l.take s ++ l.drop (s + 1)) := fun v hv => by
  rcases List.mem_append.mp hv with hv | hv
  · exact h v (List.mem_of_mem_take hv)
  · exact h v (List.mem_of_mem_drop hv)
theorem na_putIn {r : Rule} {m : Rm} (h : noAway m.l) (s : Nat) : noAway (putIn r m s).l := na_renewed (na_ins h s (show How.here ≠ .away by decide)) _
theorem na_asHow {l : Line} (h : noAway l) (s : Nat) {k : How} (hk : k ≠ .away) : noAway (asHow l s k) := fun w hw => by
  obtain ⟨i, hi⟩ := List.mem_iff_getElem?.mp hw
  unfold asHow at hi
  rw [List.getElem?_modify] at hi
  cases q : l[i]? with
  | none => rw [q] at hi; cases hi
  | some v =>
    rw [q] at hi
    have hi : (if s = i then setHow k v else v) = w := Option.some.inj hi
    rw [← hi]
    split
    · exact hk
    · exact h v (List.mem_of_getElem? q)
theorem na_left {l : Line} (h : noAway l) (p : Int) : noAway ((left l p).map (unname p)) := fun w hw => by
  obtain ⟨v, hv, rfl⟩ := List.mem_map.mp hw
  have := h v (List.mem_filter.mp hv).1
  unfold unname
  split
  · exact this
  · exact this
theorem na_without {r : Rule} {l : Line} (h : noAway l) (p : Int) : noAway (without r l p) := by
  unfold without
  split
  · exact na_renewed (na_left h p) _
  · exact na_left h p
theorem na_asked {r : Rule} {l : Line} (h : noAway l) : noAway (askedAgain r l) := by
  unfold askedAgain
  split
  · exact na_renewed h _
  · exact h
theorem na_do1 {r : Rule} {m : Rm} {e : Evt} (h : noAway m.l) (hq : quietE e = true) : noAway (do1 r m e).l := by
  unfold do1
  cases e with
  | come => exact na_putIn h _
  | door =>
    show noAway (openDoor r m).l
    unfold openDoor
    dsimp only
    split
    · exact na_without (na_asked h) _
    · exact na_asked h
  | per w p =>
    unfold doPer
    cases w with
    | back =>
      show noAway (bringBack r m _).l
      unfold bringBack
      split
      · exact na_putIn (m := { m with l := m.l.take (spotOf m.l p) ++ m.l.drop (spotOf m.l p + 1) }) (na_cut h _) _
      · split
        · exact na_renewed (na_asHow h _ (by decide)) _
        · exact na_renewed (na_asHow h _ (by decide)) _
        · exact na_asHow h _ (by decide)
    | let_ =>
      show noAway (if r.told = true then _ else _ : Rm).l
      split
      · exact na_renewed (na_putIn h _) _
      · exact na_putIn h _
    | leave => cases hq
    | out => exact na_asHow h _ (by decide)
    | vanish => cases hq
theorem na_forget {l : Line} (h : noAway l) : noAway (forgetting l) ∧ (forgetting l).length = l.length := by
  unfold forgetting
  split
  · exact ⟨h, rfl⟩
  · refine ⟨fun w hw => ?_, ?_⟩
    · obtain ⟨v, _, rfl⟩ := List.mem_map.mp hw
      show How.lost ≠ .away
      decide
    · rw [List.length_map, List.filter_eq_self.mpr fun w hw => decide_eq_true (h w hw)]
theorem okl_forget {l : Line} (h : Okl l) : Okl (forgetting l) := by
  unfold forgetting
  split
  · exact h
  · refine ⟨by rw [List.length_map]; exact Nat.le_trans (List.length_filter_le _ _) h.1, fun w hw => ?_⟩
    obtain ⟨v, hv, rfl⟩ := List.mem_map.mp hw
    exact h.2 v (List.mem_filter.mp hv).1
theorem do1_ne {r : Rule} {m : Rm} {e : Evt} (hc : canBe r m e = true) (ht : there m.l e) (hq : quietE e = true) (h : (do1 r m e).l = []) : (do1 r m e).sv ≠ [] := by
  have h0 : (do1 r m e).l.length = 0 := by rw [h]; rfl
  unfold do1 at h0 ⊢
  cases e with
  | come =>
    have h0 : (putIn r m m.l.length).l.length = 0 := h0
    rw [putIn_len] at h0
    omega
  | door =>
    have h0 : (openDoor r m).l.length = 0 := h0
    show (openDoor r m).sv ≠ []
    unfold openDoor at h0 ⊢
    dsimp only at h0 ⊢
    split at h0
    · simp
    · exfalso
      have h0 : (askedAgain r m.l).length = 0 := h0
      rw [askedAgain_len] at h0
      have : m.l = [] := List.eq_nil_of_length_eq_zero h0
      unfold canBe at hc
      rw [this] at hc
      cases hc
  | per w p =>
    exfalso
    have hl : 0 < m.l.length := Nat.lt_of_le_of_lt (Nat.zero_le _) (spotOf_lt ht)
    unfold doPer at h0
    cases w with
    | back =>
      have h0 : (bringBack r m (spotOf m.l p)).l.length = 0 := h0
      rw [bring_len r m _ (spotOf_lt ht)] at h0
      omega
    | let_ =>
      dsimp only at h0
      split at h0
      · rw [renewFrom_len, putIn_len] at h0; omega
      · rw [putIn_len] at h0; omega
    | leave => cases hq
    | out =>
      have h0 : (asHow m.l (spotOf m.l p) .out).length = 0 := h0
      rw [asHow_len] at h0
      omega
    | vanish => cases hq
/-! ### what can be reached -/
structure Good (n : Nat) (x : Node) : Prop where
  lens : x.1.1.length + x.2.length ≤ x.1.2
  cn : x.1.2 ≤ n
  ok : Okl x.1.1
  na : noAway x.1.1
  ne : x.1.1 = [] → x.1.2 = 0 ∨ x.2 ≠ []
theorem Good.len {n : Nat} {x : Node} (g : Good n x) : x.1.1.length ≤ x.1.2 := Nat.le_trans (Nat.le_add_right _ _) g.lens
theorem next_len (r : Rule) (x : Node) (e : Evt) : (nextN r x e).2.length ≤ x.2.length + (do1 r (rm0 x.1) e).sv.length := by
  unfold nextN served
  show (match (do1 r (rm0 x.1) e).sv.head? with
    | none => x.2
    | some p => x.2 ++ [p]).length ≤ _
  cases q : (do1 r (rm0 x.1) e).sv with
  | nil => exact Nat.le_refl _
  | cons p rest =>
    show (x.2 ++ [p]).length ≤ _
    rw [List.length_append, List.length_cons, List.length_cons]
    simp
theorem can_of {r : Rule} {m : Rm} {e : Evt} (h : e ∈ evs r m) : canBe r m e = true := by
  unfold evs at h
  rw [List.mem_mergeSort] at h
  unfold allEv at h
  exact (List.mem_filter.mp h).2
theorem good_next {r : Rule} {n : Nat} {x : Node} {e : Evt} (g : Good n x) (hn : n ≤ 6) (he : e ∈ ways r x.1 n) (hq : quietE e = true) : Good n (nextN r x e) := by
  unfold ways at he
  obtain ⟨h1, h2⟩ := List.mem_filter.mp he
  have ht : there (rm0 x.1).l e := there_of h1
  have hcan := can_of h1
  have hna := na_do1 (r := r) (m := rm0 x.1) (e := e) g.na hq
  obtain ⟨f1, f2⟩ := na_forget hna
  have hlen := do1_len r (rm0 x.1) e ht
  have hc := do_c r (rm0 x.1) e
  have hl60 : (rm0 x.1).l.length < 60 := Nat.lt_of_le_of_lt g.len (by have := g.cn; omega)
  refine ⟨?_, ?_, okl_forget (okl_do1 g.ok hl60 ht), f1, fun h => ?_⟩
  · have h3 := next_len r x e
    show (forgetting (do1 r (rm0 x.1) e).l).length + (nextN r x e).2.length ≤ (do_ r (rm0 x.1) e).c
    rw [f2, hc]
    have h4 := g.lens
    have h5 : (rm0 x.1).l.length = x.1.1.length := rfl
    have h6 : (rm0 x.1).sv.length = 0 := rfl
    have h7 : (rm0 x.1).c = x.1.2 := rfl
    omega
  · show (do_ r (rm0 x.1) e).c ≤ n
    rw [hc]
    have := g.cn
    unfold grow1
    cases hg : growing r (rm0 x.1) e with
    | false => rw [if_neg Bool.false_ne_true]; exact this
    | true =>
      rw [hg] at h2
      have h2 : decide (x.1.2 < n) = true := by simpa using h2
      have := of_decide_eq_true h2
      rw [if_pos rfl]
      exact this
  · have h : forgetting (do1 r (rm0 x.1) e).l = [] := h
    have h0 : (do1 r (rm0 x.1) e).l = [] := List.eq_nil_of_length_eq_zero (by rw [← f2, h]; rfl)
    have hsv := do1_ne hcan ht hq h0
    right
    show (match served r x.1 e with
      | none => x.2
      | some p => x.2 ++ [p]) ≠ []
    cases q : (do1 r (rm0 x.1) e).sv with
    | nil => exact absurd q hsv
    | cons p rest =>
      have : served r x.1 e = some p := by
        show (do1 r (rm0 x.1) e).sv.head? = some p
        rw [q]; rfl
      rw [this]
      simp
theorem reach_good {r : Rule} {n : Nat} (hn : n ≤ 6) {x : Node} (h : Reach r n x) : Good n x := by
  induction h with
  | start => exact ⟨Nat.le_refl _, Nat.zero_le _, ⟨Nat.zero_le _, fun w hw => (by cases hw)⟩, fun w hw => (by cases hw), fun _ => .inl rfl⟩
  | step hx he hq ih => exact good_next ih hn he hq
/-! ### keys -/
theorem nkeys_depth {n : Nat} : ∀ {ds : List PyData}, (∀ d ∈ ds, (nkey d).depth ≤ n) → NestedKey.depthAll (nkeys ds) ≤ n
  | [], _ => by simp [nkeys, NestedKey.depthAll]
  | d :: r, h => by
    have h1 := h d (List.mem_cons_self ..)
    have h2 := nkeys_depth fun e he => h e (List.mem_cons_of_mem _ he)
    simp only [nkeys, NestedKey.depthAll]
    omega
theorem keyables_of : ∀ {ds : List PyData}, (∀ d ∈ ds, keyable d = true) → keyables ds = true
  | [], _ => by simp [keyables]
  | d :: r, h => by simp [keyables, h d (List.mem_cons_self ..), keyables_of fun e he => h e (List.mem_cons_of_mem _ he)]
def Ky (n : Nat) (d : PyData) : Prop := keyable d = true ∧ (nkey d).depth ≤ n
theorem ky_tup {n : Nat} {ds : List PyData} (h : ∀ d ∈ ds, Ky n d) : Ky (n + 1) (.tuple ds) :=
  ⟨by simpa [keyable] using keyables_of fun d hd => (h d hd).1, by have := nkeys_depth fun d hd => (h d hd).2; simp only [nkey, NestedKey.depth]; omega⟩
theorem ky_int {n : Nat} {i : Int} : Ky n (.int i) := ⟨by simp [keyable], by simp [nkey, NestedKey.depth]⟩
theorem ky_str {n : Nat} {i : Str} : Ky n (.str i) := ⟨by simp [keyable], by simp [nkey, NestedKey.depth]⟩
theorem ky_names (ns : List Int) : Ky 1 (dNames ns) := ky_tup fun d hd => by
  obtain ⟨n, _, rfl⟩ := List.mem_map.mp hd
  exact ky_int
theorem Ky.up {m n : Nat} {d : PyData} (h : Ky m d) (k : m ≤ n) : Ky n d := ⟨h.1, Nat.le_trans h.2 k⟩
theorem ky_row (w : Row) : Ky 2 (dRow w) := ky_tup fun d hd => by
  rcases List.mem_cons.mp hd with rfl | hd
  · exact ky_int
  rcases List.mem_cons.mp hd with rfl | hd
  · exact ky_str
  rcases List.mem_cons.mp hd with rfl | hd
  · exact ky_names _
  · cases hd
theorem ky_line (l : Line) : Ky 3 (dLine l) := ky_tup fun d hd => by
  obtain ⟨n, _, rfl⟩ := List.mem_map.mp hd
  exact ky_row _
theorem ky_pair (x : Pair) : Ky 4 (dPair x) := ky_tup fun d hd => by
  rcases List.mem_cons.mp hd with rfl | hd
  · exact ky_line _
  rcases List.mem_cons.mp hd with rfl | hd
  · exact ky_int
  · cases hd
theorem ky_node (x : Node) : Ky 5 (dNode x) := ky_tup fun d hd => by
  rcases List.mem_cons.mp hd with rfl | hd
  · exact ky_pair _
  rcases List.mem_cons.mp hd with rfl | hd
  · exact (ky_names _).up (by decide)
  · cases hd
theorem kd_node (x : Node) : KeyD (dNode x) := ⟨⟨_, rfl⟩, (ky_node x).1, Nat.le_trans (ky_node x).2 (by decide)⟩
theorem kd_names (ns : List Int) : KeyD (dNames ns) := ⟨⟨_, rfl⟩, (ky_names ns).1, Nat.le_trans (ky_names ns).2 (by decide)⟩
/-! ### data tells what it is of -/
theorem map_inj {α : Type} {f : α → PyData} (hf : ∀ a c, f a = f c → a = c) : ∀ {xs ys : List α}, xs.map f = ys.map f → xs = ys
  | [], [], _ => rfl
  | x :: xs, y :: ys, h => by
    rw [List.map_cons, List.map_cons] at h
    injection h with h1 h2
    rw [hf _ _ h1, map_inj hf h2]
  | [], _ :: _, h => by cases h
  | _ :: _, [], h => by cases h
theorem int_inj (a c : Int) (h : PyData.int a = PyData.int c) : a = c := PyData.int.inj h
theorem names_inj (a c : List Int) (h : dNames a = dNames c) : a = c := map_inj int_inj (PyData.tuple.inj h)
theorem row_inj (a c : Row) (h : dRow a = dRow c) : a = c := by
  have h := PyData.tuple.inj h
  injection h with h1 h
  injection h with h2 h
  injection h with h3 _
  obtain ⟨p, k, ns⟩ := a
  obtain ⟨p', k', ns'⟩ := c
  have e1 := PyData.int.inj h1
  have e2 := How.s_inj (PyData.str.inj h2)
  have e3 := names_inj _ _ h3
  simp only at e1 e2 e3
  rw [e1, e2, e3]
theorem line_inj (a c : Line) (h : dLine a = dLine c) : a = c := map_inj row_inj (PyData.tuple.inj h)
theorem pair_inj (a c : Pair) (h : dPair a = dPair c) : a = c := by
  have h := PyData.tuple.inj h
  injection h with h1 h
  injection h with h2 _
  have e1 := line_inj _ _ h1
  have e2 := PyData.int.inj h2
  exact Prod.ext e1 (by omega)
theorem node_inj (a c : Node) (h : dNode a = dNode c) : a = c := by
  have h := PyData.tuple.inj h
  injection h with h1 h
  injection h with h2 _
  exact Prod.ext (pair_inj _ _ h1) (names_inj _ _ h2)
theorem mem_nodes {x : Node} {N : List Node} : dNode x ∈ N.map dNode ↔ x ∈ N := ⟨fun h => by
  obtain ⟨y, hy, e⟩ := List.mem_map.mp h
  rw [← node_inj _ _ e]
  exact hy, fun h => List.mem_map_of_mem h⟩
/-! ### == of data -/
theorem eqv_ints : ∀ a c : List Int, PyData.eqvAll (a.map .int) (c.map .int) = decide (a = c)
  | [], [] => by simp [PyData.eqvAll]
  | [], _ :: _ => by simp [PyData.eqvAll]
  | _ :: _, [] => by simp [PyData.eqvAll]
  | x :: xs, y :: ys => by
    show PyData.eqvAll (.int x :: xs.map .int) (.int y :: ys.map .int) = _
    simp only [PyData.eqvAll, PyData.eqv]
    rw [eqv_ints xs ys]
    by_cases h1 : x = y <;> by_cases h2 : xs = ys <;> simp [h1, h2]
/-- pair == ((), people) -/
theorem eqv_end (x : Pair) (n : Nat) : PyData.eqv (dPair x) (.tuple [.tuple [], .int n]) = decide (x = ([], n)) := by
  obtain ⟨l, c⟩ := x
  show PyData.eqv (.tuple [dLine l, .int c]) (.tuple [.tuple [], .int n]) = _
  cases l with
  | nil =>
    simp only [PyData.eqv, PyData.eqvAll, List.map_nil]
    by_cases h : c = n
    · subst h; simp
    · have h1 : ¬ (c : Int) = (n : Int) := by omega
      simp [h, h1]
  | cons w r =>
    show PyData.eqv (.tuple [.tuple (dRow w :: r.map dRow), .int c]) (.tuple [.tuple [], .int n]) = _
    simp [PyData.eqv, PyData.eqvAll]
end Ask
-- AskF8
set_option Elab.async false
set_option linter.all false
set_option maxRecDepth 100000
/-! the search in layers; what orders_of computes -/
namespace Ask
open PySem PySem.Spec PyProof.Rows L2
abbrev NL := List Node × List Node
def stepE (r : Rule) (x : Node) (s : NL) (e : Evt) : NL := if (quietE e && !decide (nextN r x e ∈ s.1)) = true then (s.1 ++ [nextN r x e], s.2 ++ [nextN r x e]) else s
def stepX (r : Rule) (n : Nat) (s : NL) (x : Node) : NL := (ways r x.1 n).foldl (stepE r x) s
/-- new ones come behind, in both -/
structure Gr (r : Rule) (n : Nat) (s t : NL) : Prop where
  nd : t.1.Nodup
  re : ∀ y ∈ t.1, Reach r n y
  mo : ∃ M, t.1 = s.1 ++ M ∧ t.2 = s.2 ++ M
theorem Gr.sub {r : Rule} {n : Nat} {s t : NL} (g : Gr r n s t) {y : Node} (h : y ∈ s.1) : y ∈ t.1 := by
  obtain ⟨M, h1, _⟩ := g.mo
  rw [h1]; exact List.mem_append_left _ h
theorem Gr.trans {r : Rule} {n : Nat} {s t u : NL} (a : Gr r n s t) (c : Gr r n t u) : Gr r n s u := by
  obtain ⟨M, h1, h2⟩ := a.mo
  obtain ⟨M', h3, h4⟩ := c.mo
  exact ⟨c.nd, c.re, M ++ M', by rw [h3, h1, List.append_assoc], by rw [h4, h2, List.append_assoc]⟩
theorem gr_step {r : Rule} {n : Nat} {x : Node} {e : Evt} {s : NL} (hn : s.1.Nodup) (hr : ∀ y ∈ s.1, Reach r n y) (hx : Reach r n x) (he : e ∈ ways r x.1 n) : Gr r n s (stepE r x s e) ∧ (quietE e = true → nextN r x e ∈ (stepE r x s e).1) := by
  unfold stepE
  cases h : quietE e && !decide (nextN r x e ∈ s.1) with
  | true =>
    rw [if_pos rfl]
    rw [Bool.and_eq_true] at h
    have h2 : nextN r x e ∉ s.1 := fun hm => by rw [decide_eq_true hm] at h; cases h.2
    refine ⟨⟨?_, fun y hy => ?_, [nextN r x e], rfl, rfl⟩, fun _ => List.mem_append_right _ (List.mem_singleton.mpr rfl)⟩
    · rw [List.nodup_append]
      refine ⟨hn, (by simp), fun a ha c hc => ?_⟩
      rw [List.mem_singleton.mp hc]
      exact fun e' => h2 (e' ▸ ha)
    · rcases List.mem_append.mp hy with hy | hy
      · exact hr y hy
      · rw [List.mem_singleton.mp hy]
        exact .step hx he h.1
  | false =>
    rw [if_neg Bool.false_ne_true]
    refine ⟨⟨hn, hr, [], by simp, by simp⟩, fun hq => ?_⟩
    rw [hq, Bool.true_and] at h
    have h : decide (nextN r x e ∈ s.1) = true := by simpa using h
    exact of_decide_eq_true h
theorem gr_evs {r : Rule} {n : Nat} {x : Node} (hx : Reach r n x) : ∀ (es : List Evt) (s : NL), (∀ e ∈ es, e ∈ ways r x.1 n) → s.1.Nodup → (∀ y ∈ s.1, Reach r n y) → Gr r n s (es.foldl (stepE r x) s) ∧ ∀ e ∈ es, quietE e = true → nextN r x e ∈ (es.foldl (stepE r x) s).1
  | [], s, _, hn, hr => ⟨⟨hn, hr, [], by simp, by simp⟩, fun e he => by cases he⟩
  | e :: es, s, he, hn, hr => by
    obtain ⟨g1, g2⟩ := gr_step (s := s) hn hr hx (he e (List.mem_cons_self ..))
    obtain ⟨g3, g4⟩ := gr_evs hx es (stepE r x s e) (fun e' h => he e' (List.mem_cons_of_mem _ h)) g1.nd g1.re
    rw [List.foldl_cons]
    refine ⟨g1.trans g3, fun e' h hq => ?_⟩
    rcases List.mem_cons.mp h with rfl | h
    · exact g3.sub (g2 hq)
    · exact g4 e' h hq
def Closed (r : Rule) (n : Nat) (N : List Node) (x : Node) : Prop := ∀ e ∈ ways r x.1 n, quietE e = true → nextN r x e ∈ N
theorem gr_xs {r : Rule} {n : Nat} : ∀ (xs : List Node) (s : NL), (∀ x ∈ xs, Reach r n x) → s.1.Nodup → (∀ y ∈ s.1, Reach r n y) → Gr r n s (xs.foldl (stepX r n) s) ∧ ∀ x ∈ xs, Closed r n (xs.foldl (stepX r n) s).1 x
  | [], s, _, hn, hr => ⟨⟨hn, hr, [], by simp, by simp⟩, fun e he => by cases he⟩
  | x :: xs, s, hx, hn, hr => by
    obtain ⟨g1, g2⟩ := gr_evs (hx x (List.mem_cons_self ..)) (ways r x.1 n) s (fun _ h => h) hn hr
    obtain ⟨g3, g4⟩ := gr_xs xs (stepX r n s x) (fun e' h => hx e' (List.mem_cons_of_mem _ h)) g1.nd g1.re
    rw [List.foldl_cons]
    refine ⟨g1.trans g3, fun y h => ?_⟩
    rcases List.mem_cons.mp h with rfl | h
    · exact fun e he hq => g3.sub (g2 e he hq)
    · exact g4 y h
/-- the search's state: known, layer -/
structure BI (r : Rule) (n : Nat) (s : NL) : Prop where
  nd : s.1.Nodup
  re : ∀ y ∈ s.1, Reach r n y
  la : ∀ y ∈ s.2, y ∈ s.1
  st : (([], 0), []) ∈ s.1
  cl : ∀ y ∈ s.1, y ∉ s.2 → Closed r n s.1 y
def turn (r : Rule) (n : Nat) (s : NL) : NL := s.2.foldl (stepX r n) (s.1, [])
theorem bi_turn {r : Rule} {n : Nat} {s : NL} (b : BI r n s) : BI r n (turn r n s) ∧ Gr r n (s.1, []) (turn r n s) := by
  obtain ⟨g1, g2⟩ := gr_xs s.2 (s.1, []) (fun x hx => b.re x (b.la x hx)) b.nd b.re
  obtain ⟨M, h1, h2⟩ := g1.mo
  refine ⟨⟨g1.nd, g1.re, fun y hy => ?_, g1.sub b.st, fun y hy hn => ?_⟩, g1⟩
  · unfold turn at hy ⊢
    rw [h2, List.nil_append] at hy
    rw [h1]
    exact List.mem_append_right _ hy
  · unfold turn at hy hn ⊢
    rw [h2, List.nil_append] at hn
    have hy0 : y ∈ s.1 := by
      rw [h1] at hy
      exact (List.mem_append.mp hy).resolve_right hn
    by_cases hl : y ∈ s.2
    · exact g2 y hl
    · exact fun e he hq => g1.sub (b.cl y hy0 hl e he hq)
theorem bi_all {r : Rule} {n : Nat} {s : NL} (b : BI r n s) (h : s.2 = []) {x : Node} : x ∈ s.1 ↔ Reach r n x := by
  refine ⟨b.re x, fun hr => ?_⟩
  induction hr with
  | start => exact b.st
  | step hx he hq ih => exact b.cl _ ih (by rw [h]; simp) _ he hq
theorem bi_start (r : Rule) (n : Nat) : BI r n ([(([], 0), [])], [(([], 0), [])]) := ⟨(by simp), fun y hy => by rw [List.mem_singleton.mp hy]; exact .start, fun y hy => hy, List.mem_singleton.mpr rfl, fun y hy hn => absurd hy hn⟩
theorem few_len {r : Rule} {n k : Nat} (f : Few r n k) {N : List Node} (hn : N.Nodup) (hr : ∀ y ∈ N, Reach r n y) : N.length ≤ k := by
  obtain ⟨M, h1, h2⟩ := f
  exact Nat.le_trans (hn.length_le_of_subset fun y hy => h2 y (hr y hy)) h1
/-- how far the search is -/
def bm (s : NL) : Nat := 2 * (20000 - s.1.length) + if s.2.isEmpty then 0 else 1
theorem bm_turn {r : Rule} {n : Nat} {s : NL} (f : Few r n 20000) (b : BI r n s) (hne : s.2.isEmpty = false) : bm (turn r n s) < bm s := by
  obtain ⟨b', g⟩ := bi_turn b
  obtain ⟨M, h1, h2⟩ := g.mo
  have hlen := few_len f b'.nd b'.re
  rw [List.nil_append] at h2
  unfold bm
  rw [hne, h2, if_neg Bool.false_ne_true]
  rw [h1, List.length_append] at hlen ⊢
  cases M with
  | nil => simp
  | cons a M =>
    rw [List.length_cons] at hlen ⊢
    have : ((a :: M : List Node).isEmpty) = false := rfl
    rw [this, if_neg Bool.false_ne_true]
    dsimp only at hlen ⊢
    omega
theorem nodup_mapOn {α β : Type} {f : α → β} : ∀ {l : List α}, l.Nodup → (∀ a ∈ l, ∀ c ∈ l, f a = f c → a = c) → (l.map f).Nodup
  | [], _, _ => .nil
  | a :: l, h, hf => by
    rw [List.nodup_cons] at h
    rw [List.map_cons, List.nodup_cons]
    refine ⟨fun hm => ?_, nodup_mapOn h.2 fun x hx y hy e => hf x (List.mem_cons_of_mem _ hx) y (List.mem_cons_of_mem _ hy) e⟩
    obtain ⟨y, hy, e⟩ := List.mem_map.mp hm
    have := hf y (List.mem_cons_of_mem _ hy) a (List.mem_cons_self ..) e
    rw [this] at hy
    exact h.1 hy
/-- the orders that are found -/
def foundO (n : Nat) (N : List Node) : List (List Int) := (N.filter fun x => decide (x.1 = (([], n) : Pair))).map (·.2)
theorem found_nodup {n : Nat} {N : List Node} (h : N.Nodup) : (foundO n N).Nodup := by
  refine nodup_mapOn (h.sublist (List.filter_sublist ..)) fun a ha c hc e => ?_
  have h1 := of_decide_eq_true (List.mem_filter.mp ha).2
  have h2 := of_decide_eq_true (List.mem_filter.mp hc).2
  exact Prod.ext (h1.trans h2.symm) e
theorem found_orders {r : Rule} {n : Nat} {N : List Node} (h : N.Nodup) (ha : ∀ x, x ∈ N ↔ Reach r n x) : Orders r n (sortO (foundO n N)) := by
  refine ⟨(List.mergeSort_perm _ _).nodup_iff.mpr (found_nodup h), sortO_pw _, fun o => ?_⟩
  unfold sortO
  rw [List.mem_mergeSort]
  constructor
  · intro hm
    obtain ⟨x, hx, rfl⟩ := List.mem_map.mp hm
    obtain ⟨h1, h2⟩ := List.mem_filter.mp hx
    have := (ha x).mp h1
    have h2 := of_decide_eq_true h2
    obtain ⟨pr, o⟩ := x
    simp only at h2
    subst h2
    exact this
  · intro hr
    exact List.mem_map.mpr ⟨(([], n), o), List.mem_filter.mpr ⟨(ha _).mpr hr, decide_eq_true rfl⟩, rfl⟩
theorem found_sort {r : Rule} {n : Nat} {N : List Node} (h1 : 1 ≤ n) (h6 : n ≤ 6) (hr : ∀ y ∈ N, Reach r n y) : SortOk ((foundO n N).map dNames) := by
  refine ⟨PySem.W.AllAlike.of fun a c => by simp [PySem.W.alike, PySem.W.alike_ints], .inl fun d hd => ?_, fun d hd => ?_⟩
  · obtain ⟨o, ho, rfl⟩ := List.mem_map.mp hd
    obtain ⟨x, hx, rfl⟩ := List.mem_map.mp ho
    obtain ⟨g1, g2⟩ := List.mem_filter.mp hx
    have g2 := of_decide_eq_true g2
    have g := reach_good h6 (hr x g1)
    have hne : x.2 ≠ [] := by
      rcases g.ne (by rw [g2]) with h | h
      · rw [g2] at h
        have h : n = 0 := h
        omega
      · exact h
    cases q : x.2 with
    | nil => exact absurd q hne
    | cons p o => exact ⟨_, _, rfl⟩
  · obtain ⟨o, ho, rfl⟩ := List.mem_map.mp hd
    exact Nat.le_trans (lay_names o).2 (by decide)
theorem quiet_word (e : Evt) : decide (e.s ∈ (["leave", "vanish"] : List Str)) = !quietE e := by
  cases e with
  | come => decide +kernel
  | door => decide +kernel
  | per w p =>
    have : ∀ w : Wd, decide (w.s ∈ (["leave", "vanish"] : List Str)) = (decide (w = .leave) || decide (w = .vanish)) := by intro w; cases w <;> decide +kernel
    refine (this w).trans ?_
    cases w <;> rfl
section
variable {Θ : Th}
abbrev oSt (r : Rule) (n : Nat) (N L : List Node) : List Sl := [.dat (dRule r), .dat (.int n), .dic (N.map dNode), .dat (.list (L.map dNode)), .un, .un, .un, .un, .un, .un, .un]
theorem lay_node (x : Node) : Lay 5 (dNode x) := lay_tup fun d hd => by
  rcases List.mem_cons.mp hd with rfl | hd
  · exact lay_pair _
  rcases List.mem_cons.mp hd with rfl | hd
  · exact lay_up (lay_names _) (by decide)
  · cases hd
theorem lay_nodes (L : List Node) : Lay 6 (.list (L.map dNode)) := lay_lst fun d hd => by
  obtain ⟨x, _, rfl⟩ := List.mem_map.mp hd
  exact lay_node x
theorem r_orders_of (r : Rule) (n : Nat) (os : List (List Int)) (hr : RuleOk r) (h1 : 1 ≤ n) (h6 : n ≤ 6) (hf : Few r n 20000) (ho : Orders r n os) (F : Frm) : SDr Θ F (t_orders_of Θ) [.dat (dRule r), .dat (.int n), .un, .un, .un, .un, .un, .un, .un, .un, .un] (.tuple (os.map dNames)) anyP := by
  unfold t_orders_of
  have start : ∀ {δ : List Sl} {b : Bool}, Ev Θ b (tTup (tCons (tTup (tCons (tTup tNil) (tCons (tC (.int 0)) tNil))) (tCons (tTup tNil) tNil))) δ (dNode (([], 0), [])) := ev_rowT (ea_cons (ev_rowT (ea_cons (ev_rowT ea_nil) (ea_cons ev_int ea_nil))) (ea_cons (ev_rowT ea_nil) ea_nil))
  refine sdr_seq (sd_drop (b := false) (ev_call (ea_cons (ev_v rfl) ea_nil) ⟨r, hr, rfl, rfl⟩)) (sdr_seq (sd_drop (b := false) (ev_call (ea_cons (ev_v rfl) (ea_cons ev_int ea_nil)) ⟨n, h1, h6, rfl, rfl⟩)) (sdr_seq (sd_par (es_disp1 start (kd_node _)) (es_dat (ev_lst (ea_cons start ea_nil) (by show 1 ≤ _; decide)))) ?_))
  refine sd_while (α := NL) (fun s => oSt r n s.1 s.2) bm (BI r n) (a := ([(([], 0), [])], [(([], 0), [])])) (fun s => s.2 = []) (bi_start r n) (fun s b => ⟨!s.2.isEmpty, ?_, fun hv => ?_, fun hv => ?_⟩) fun s b hz => ?_
  · refine (et_neD (b1 := false) (b2 := false) (ev_v rfl) (ev_lst ea_nil (by decide)) (lay_shaped (lay_nodes _)) rfl).is ?_
    cases s.2 with
    | nil => rfl
    | cons x L => simp [PyData.eqv, PyData.eqvAll]
  · have hne : s.2.isEmpty = false := by simpa using hv
    obtain ⟨b', g⟩ := bi_turn b
    refine ⟨turn r n s, _, sd_seq (sd_setL (el_lst ea_nil (by decide))) (sd_seq (sd_for (b := false) (l := s.2) (enc := dNode)
      (fun pre => [.dat (dRule r), .dat (.int n), .dic ((pre.foldl (stepX r n) (s.1, [])).1.map dNode), .dat (.list (s.2.map dNode)), .own ((pre.foldl (stepX r n) (s.1, [])).2.map dNode), .un, .un, .un, .un, .un, .un]) (ei_list (ev_v rfl)) rfl (fun pre x post e => ?_)) (sd_move (i := 4) (j := 3) rfl)), .same (.same (.same (.same (.drop rfl (.same (.same (.same (.same (.same (.same .nil)))))))))), b', bm_turn hf b hne⟩
    have hx : Reach r n x := b.re x (b.la x (by rw [e]; simp))
    obtain ⟨s1, es1⟩ : ∃ s1, s1 = pre.foldl (stepX r n) (s.1, []) := ⟨_, rfl⟩
    have g1 : Gr r n (s.1, []) s1 := by rw [es1]; exact (gr_xs pre (s.1, []) (fun y hy => b.re y (b.la y (by rw [e]; exact List.mem_append_left _ hy))) b.nd b.re).1
    have e1 : (pre ++ [x]).foldl (stepX r n) (s.1, []) = stepX r n s1 x := by rw [List.foldl_append, es1]; rfl
    rw [e1, ← es1]
    have gd := reach_good h6 hx
    refine ⟨_, _, _, bd_tup rfl (bds_cons (bd_name (i := 5) rfl rfl) (bds_cons (bd_name (i := 6) rfl rfl) bds_nil)), .inl (sd_for (b := false) (l := ways r x.1 n) (enc := dWay r x.1)
      (fun pre => [.dat (dRule r), .dat (.int n), .dic ((pre.foldl (stepE r x) s1).1.map dNode), .dat (.list (s.2.map dNode)), .own ((pre.foldl (stepE r x) s1).2.map dNode), .dat (dPair x.1), .dat (dNames x.2), .un, .un, .un, .un])
      (ei_list (ev_call (ea_cons (ev_v rfl) (ea_cons (ev_v rfl) (ea_cons (ev_v rfl) ea_nil))) ⟨r, x.1, n, rfl, gd.ok, Nat.lt_of_le_of_lt gd.len (by have := gd.cn; omega), rfl⟩)) rfl (fun pre ev post he => ?_)), .same (.same (.same (.same (.same (.drop rfl (.drop rfl (.same (.same (.same (.same .nil))))))))))⟩
    have hmem : ev ∈ ways r x.1 n := by rw [he]; simp
    obtain ⟨s2, es2⟩ : ∃ s2, s2 = pre.foldl (stepE r x) s1 := ⟨_, rfl⟩
    have g2 : Gr r n s1 s2 := by rw [es2]; exact (gr_evs hx pre s1 (fun y hy => by rw [he]; exact List.mem_append_left _ hy) g1.nd g1.re).1
    have e2 : (pre ++ [ev]).foldl (stepE r x) s1 = stepE r x s2 ev := by rw [List.foldl_append, es2]; rfl
    rw [e2, ← es2]
    have hl2 := few_len hf g2.nd g2.re
    have hm2 : s2.2.length ≤ s2.1.length := by
      obtain ⟨M, q1, q2⟩ := (g1.trans g2).mo
      rw [q1, q2, List.nil_append, List.length_append]
      exact Nat.le_add_left _ _
    refine ⟨_, _, _, bd_tup rfl (bds_cons (bd_name (i := 7) rfl rfl) (bds_cons (bd_name (i := 8) rfl rfl) (bds_cons (bd_name (i := 9) rfl rfl) bds_nil))), .inl (sd_seq (sd_set (d := dNode (nextN r x ev)) (ev_rowT (ea_cons (ev_v rfl) (ea_cons ?_ ea_nil))))
      (sd_if (v := quietE ev && !decide (nextN r x ev ∈ s2.1)) (o := .nx [.dat (dRule r), .dat (.int n), .dic ((stepE r x s2 ev).1.map dNode), .dat (.list (s.2.map dNode)), .own ((stepE r x s2 ev).2.map dNode), .dat (dPair x.1), .dat (dNames x.2), .dat (dEvt ev), .dat (dPair (behind r x.1 ev)), .dat (dOpt (served r x.1 ev)), .dat (dNode (nextN r x ev))])
        (et_and ((et_test (b := false) (ev_notInS (ns := ["leave", "vanish"]) (b1 := false) (b2 := false) (ev_ixc (ev_v rfl) (.inr rfl) (evt_at0 ev)) (ev_rowT (ea_cons ev_str (ea_cons ev_str ea_nil))) (.inr rfl))).is (by rw [quiet_word, Bool.not_not])) fun _ => et_notInDic (v := decide (nextN r x ev ∈ s2.1)) rfl (ev_v rfl) (kd_node _) ⟨fun h => mem_nodes.mpr (of_decide_eq_true h), fun h => decide_eq_true (mem_nodes.mp h)⟩) (fun hv => ?_) (fun hv => ?_))), .same (.same (.same (.same (.same (.same (.same (.drop rfl (.drop rfl (.drop rfl (.drop rfl .nil))))))))))⟩
    · cases q : served r x.1 ev with
      | none =>
        refine ev_if (d := dNames (nextN r x ev).2) (et_test (b := false) (ev_isN (b1 := false) (ev_v rfl))) (fun _ => ?_) (fun h => by cases h)
        have : (nextN r x ev).2 = x.2 := by unfold nextN; rw [q]
        rw [this]
        exact ev_v rfl
      | some p =>
        refine ev_if (d := dNames (nextN r x ev).2) (et_test (b := false) (ev_isN (b1 := false) (ev_v rfl))) (fun h => by cases h) (fun _ => ?_)
        have : (nextN r x ev).2 = x.2 ++ [p] := by unfold nextN; rw [q]
        rw [this]
        refine (ev_tup (ea_starT (ev_v rfl) (ea_cons (ev_v rfl) ea_nil)) ?_).is ?_
        · have := gd.lens
          have := gd.cn
          rw [List.length_append, List.length_map]
          show _ + 1 ≤ _
          omega
        · show PyData.tuple (x.2.map .int ++ [.int p]) = PyData.tuple ((x.2 ++ [p]).map .int)
          rw [List.map_append]
          rfl
    · have hst : stepE r x s2 ev = (s2.1 ++ [nextN r x ev], s2.2 ++ [nextN r x ev]) := by unfold stepE; rw [if_pos hv]
      have hni : nextN r x ev ∉ s2.1 := fun hm => by
        rw [Bool.and_eq_true, decide_eq_true hm] at hv
        cases hv.2
      have hl3 : s2.1.length < 20000 := by
        obtain ⟨g3, _⟩ := gr_step (s := s2) g2.nd g2.re hx hmem
        have := few_len hf g3.nd g3.re
        rw [hst, List.length_append, List.length_singleton] at this
        exact this
      refine sd_is (sd_seq (sd_iff (et_eqI (b1 := false) (b2 := false) (ev_lenDic rfl) ev_int) (decide_eq_false ?_) sd_next) (sd_seq (sd_setDic rfl (ev_v rfl) (kd_node _) (fun hm => hni (mem_nodes.mp hm)) ?_) (sd_append rfl (d := dNode (nextN r x ev)) (ev_v rfl) ?_))) ?_
      · rw [List.length_map]
        omega
      · rw [List.length_map]
        omega
      · rw [List.length_map]
        omega
      · rw [hst, List.map_append, List.map_append]
        rfl
    · have hst : stepE r x s2 ev = s2 := by unfold stepE; rw [hv, if_neg Bool.false_ne_true]
      rw [hst]
      exact sd_next
  · simpa using hv
  · have hsort := found_sort h1 h6 b.re
    have hlen := few_len hf b.nd b.re
    refine sdr_ret (Ev.is (ev_tupleOf (EvL.ev (el_sortedDc (l := s.1) (enc := dNode) (fun x => decide (x.1 = (([], n) : Pair))) (fun x => dNames x.2) (T := [5, 6]) rfl (fun x hx => ⟨_, bd_tup rfl (bds_cons (bd_name (i := 5) rfl rfl) (bds_cons (bd_name (i := 6) rfl rfl) bds_nil)), (et_eqD (b1 := false) (b2 := false) (ev_v rfl) (ev_rowT (ea_cons (ev_rowT ea_nil) (ea_cons (ev_v rfl) ea_nil))) (lay_shaped (lay_pair _)) (lay_shaped (n := 2) (lay_tup fun d hd => ?_))).is (eqv_end _ _), fun _ => ⟨ev_v rfl, kd_names _⟩⟩) ?_ ?_ (by omega)))) ?_) trivial
    · rcases List.mem_cons.mp hd with rfl | hd
      · exact ⟨by decide +kernel, by decide +kernel⟩
      · rcases List.mem_cons.mp hd with rfl | hd
        · exact lay_int
        · cases hd
    · have := found_nodup (n := n) b.nd
      unfold foundO at this
      have h2 := nodup_mapOn (f := dNames) this fun a _ c _ e => names_inj a c e
      rw [List.map_map] at h2
      exact h2
    · unfold foundO at hsort
      rw [List.map_map] at hsort
      exact hsort
    · have e1 : (s.1.filter fun x => decide (x.1 = (([], n) : Pair))).map (fun x => dNames x.2) = (foundO n s.1).map dNames := by
        unfold foundO
        rw [List.map_map]
        rfl
      rw [e1, dsort_names, orders_unique (found_orders b.nd fun x => bi_all b hz) ho]
end
end Ask
-- AskOk
set_option Elab.async false
set_option linter.all false
set_option maxRecDepth 100000
/-! the program's defs keep their promises -/
namespace Ask
open PySem PySem.Spec PyProof.Rows L2
section
variable {Θ : Th}
theorem len_spD {G : List PyData → PyData → Prop} {n : Nat} {vs : List V} {H : Hp} {Q : VK} {E : XK} (hG : ∀ ds d, G ds d → ds.length = n) (h : spD Θ G vs H Q E) : vs.length = n := by
  obtain ⟨H0, ds, d, _, hv, g, _⟩ := h
  rw [hv.length, hG ds d g]
theorem len_spRd {G : RoomD → List PyData → PyData → Prop} {n : Nat} {vs : List V} {H : Hp} {Q : VK} {E : XK} (hG : ∀ r ds d, G r ds d → ds.length = n) (h : spRd Θ G vs H Q E) : vs.length = n + 1 := by
  obtain ⟨p, q, r, us, H0, ds, d, rfl, _, _, _, _, hv, g, _⟩ := h
  rw [List.length_cons, hv.length, hG r ds d g]
theorem len_spMu {G : RoomD → List PyData → RoomD → Prop} {n : Nat} {vs : List V} {H : Hp} {Q : VK} {E : XK} (hG : ∀ r ds d, G r ds d → ds.length = n) (h : spMu Θ G vs H Q E) : vs.length = n + 1 := by
  obtain ⟨p, q, r, us, H0, ds, d, rfl, _, _, _, _, hv, g, _⟩ := h
  rw [List.length_cons, hv.length, hG r ds d g]
theorem len_room_at {vs : List V} {H : Hp} {Q : VK} {E : XK} (h : sp_room_at Θ vs H Q E) : vs.length = 2 := by
  obtain ⟨H0, ds, r, _, hv, ⟨_, _, rfl, _⟩, _⟩ := h
  exact hv.length
theorem len_init {vs : List V} {H : Hp} {Q : VK} {E : XK} (h : sp_init Θ vs H Q E) : vs.length = 2 := by
  obtain ⟨x, dx, vr, H0, d, rfl, _⟩ := h
  rfl
end
variable {P : Program} {w : World} {K : PySem.W.Frag} {mg : Str → Option Value} {base : Heap} {C aP aC : Addr}
theorem ok_is_integer (T : Txt mg aP aC) {f : Addr} {fd : FuncData} (D : C8.Def K mg "is_integer" s_is_integer f fd) (b : Binds K fd ["thing"] []) : C8.Cal P w K mg base 1 "is_integer" (sp_is_integer ⟨P, w, K, C, aP, aC⟩) [] :=
  C8.cal0 D b .nil sc_is_integer (fun vs H Q E h => len_spD (n := 1) (fun ds d g => by obtain ⟨n, rfl, rfl⟩ := g; rfl) h) fun cdv A outer s H vs Q E hr h => ⟨t_is_integer ⟨P, w, K, C, aP, aC⟩, d_is_integer T hr, fn_spD (N := ["thing"]) (n := 1) (fun ds d g => by obtain ⟨n, rfl, rfl⟩ := g; rfl) (by decide) (fun ds d g F => by obtain ⟨n, rfl, rfl⟩ := g; exact r_is_integer n F) vs H Q E h⟩
theorem ok_is_between (T : Txt mg aP aC) (c_is_integer : C8.Cal P w K mg base 1 "is_integer" (sp_is_integer ⟨P, w, K, C, aP, aC⟩) []) {f : Addr} {fd : FuncData} (D : C8.Def K mg "is_between" s_is_between f fd) (b : Binds K fd ["thing", "least", "most"] []) : C8.Cal P w K mg base 2 "is_between" (sp_is_between ⟨P, w, K, C, aP, aC⟩) [] :=
  C8.cal0 D b .nil sc_is_between (fun vs H Q E h => len_spD (n := 3) (fun ds d g => by obtain ⟨n, a, c, rfl, rfl⟩ := g; rfl) h) fun cdv A outer s H vs Q E hr h => ⟨t_is_between ⟨P, w, K, C, aP, aC⟩, d_is_between T c_is_integer hr, fn_spD (N := ["thing", "least", "most"]) (n := 3) (fun ds d g => by obtain ⟨n, a, c, rfl, rfl⟩ := g; rfl) (by decide) (fun ds d g F => by obtain ⟨n, a, c, rfl, rfl⟩ := g; exact r_is_between n a c F) vs H Q E h⟩
theorem ok_is_one_of (T : Txt mg aP aC) {f : Addr} {fd : FuncData} (D : C8.Def K mg "is_one_of" s_is_one_of f fd) (b : Binds K fd ["some", "thing"] []) : C8.Cal P w K mg base 1 "is_one_of" (sp_is_one_of ⟨P, w, K, C, aP, aC⟩) [] :=
  C8.cal0 D b .nil sc_is_one_of (fun vs H Q E h => len_spD (n := 2) (fun ds d g => by obtain ⟨ss, s, rfl, rfl⟩ := g; rfl) h) fun cdv A outer s H vs Q E hr h => ⟨t_is_one_of ⟨P, w, K, C, aP, aC⟩, d_is_one_of T hr, fn_spD (N := ["some", "thing"]) (n := 2) (fun ds d g => by obtain ⟨ss, s, rfl, rfl⟩ := g; rfl) (by decide) (fun ds d g F => by obtain ⟨ss, s, rfl, rfl⟩ := g; exact r_is_one_of ss s F) vs H Q E h⟩
theorem ok_need_rule (T : Txt mg aP aC) (c_is_between : C8.Cal P w K mg base 2 "is_between" (sp_is_between ⟨P, w, K, C, aP, aC⟩) []) (c_is_one_of : C8.Cal P w K mg base 1 "is_one_of" (sp_is_one_of ⟨P, w, K, C, aP, aC⟩) []) (hC : ∀ H, Dp K H (.ref aC) dCh) {f : Addr} {fd : FuncData} (D : C8.Def K mg "need_rule" s_need_rule f fd) (b : Binds K fd ["thing"] []) : C8.Cal P w K mg base 3 "need_rule" (sp_need_rule ⟨P, w, K, C, aP, aC⟩) [] :=
  C8.cal0 D b .nil sc_need_rule (fun vs H Q E h => len_spD (n := 1) (fun ds d g => by obtain ⟨r, ok, rfl, rfl⟩ := g; rfl) h) fun cdv A outer s H vs Q E hr h => ⟨t_need_rule ⟨P, w, K, C, aP, aC⟩, d_need_rule T c_is_between c_is_one_of hr, fn_spD (N := ["thing", "number", "some"]) (n := 1) (fun ds d g => by obtain ⟨r, ok, rfl, rfl⟩ := g; rfl) (by decide) (fun ds d g F => by obtain ⟨r, ok, rfl, rfl⟩ := g; exact r_need_rule hC r ok F) vs H Q E h⟩
theorem ok_nearest_ahead (T : Txt mg aP aC) {f : Addr} {fd : FuncData} (D : C8.Def K mg "nearest_ahead" s_nearest_ahead f fd) (b : Binds K fd ["rule", "line", "spot"] []) : C8.Cal P w K mg base 1 "nearest_ahead" (sp_nearest_ahead ⟨P, w, K, C, aP, aC⟩) [] :=
  C8.cal0 D b .nil sc_nearest_ahead (fun vs H Q E h => len_spD (n := 3) (fun ds d g => by obtain ⟨r, l, s, rfl, hl, rfl⟩ := g; rfl) h) fun cdv A outer s H vs Q E hr h => ⟨t_nearest_ahead ⟨P, w, K, C, aP, aC⟩, d_nearest_ahead T hr, fn_spD (N := ["rule", "line", "spot", "hows", "ahead", "person", "how", "names"]) (n := 3) (fun ds d g => by obtain ⟨r, l, s, rfl, hl, rfl⟩ := g; rfl) (by decide) (fun ds d g F => by obtain ⟨r, l, s, rfl, hl, rfl⟩ := g; exact r_nearest_ahead r l s hl F) vs H Q E h⟩
theorem ok_renewed (T : Txt mg aP aC) (c_nearest_ahead : C8.Cal P w K mg base 1 "nearest_ahead" (sp_nearest_ahead ⟨P, w, K, C, aP, aC⟩) []) {f : Addr} {fd : FuncData} (D : C8.Def K mg "renewed" s_renewed f fd) (b : Binds K fd ["rule", "line", "spots"] []) : C8.Cal P w K mg base 2 "renewed" (sp_renewed ⟨P, w, K, C, aP, aC⟩) [] :=
  C8.cal0 D b .nil sc_renewed (fun vs H Q E h => len_spD (n := 3) (fun ds d g => by obtain ⟨r, l, ss, rfl, hl, rfl⟩ := g; rfl) h) fun cdv A outer s H vs Q E hr h => ⟨t_renewed ⟨P, w, K, C, aP, aC⟩, d_renewed T c_nearest_ahead hr, fn_spD (N := ["rule", "line", "spots", "found", "spot", "person", "how", "names", "does_take"]) (n := 3) (fun ds d g => by obtain ⟨r, l, ss, rfl, hl, rfl⟩ := g; rfl) (by decide) (fun ds d g F => by obtain ⟨r, l, ss, rfl, hl, rfl⟩ := g; exact r_renewed r l ss hl F) vs H Q E h⟩
theorem ok_spot_of (T : Txt mg aP aC) {f : Addr} {fd : FuncData} (D : C8.Def K mg "spot_of" s_spot_of f fd) (b : Binds K fd ["line", "person"] []) : C8.Cal P w K mg base 1 "spot_of" (sp_spot_of ⟨P, w, K, C, aP, aC⟩) [] :=
  C8.cal0 D b .nil sc_spot_of (fun vs H Q E h => len_spD (n := 2) (fun ds d g => by obtain ⟨l, p, rfl, hl, hp, rfl⟩ := g; rfl) h) fun cdv A outer s H vs Q E hr h => ⟨t_spot_of ⟨P, w, K, C, aP, aC⟩, d_spot_of T hr, fn_spD (N := ["line", "person", "one", "how", "names"]) (n := 2) (fun ds d g => by obtain ⟨l, p, rfl, hl, hp, rfl⟩ := g; rfl) (by decide) (fun ds d g F => by obtain ⟨l, p, rfl, hl, hp, rfl⟩ := g; exact r_spot_of l p hl hp F) vs H Q E h⟩
theorem ok_as_how (T : Txt mg aP aC) {f : Addr} {fd : FuncData} (D : C8.Def K mg "as_how" s_as_how f fd) (b : Binds K fd ["line", "spot", "how"] []) : C8.Cal P w K mg base 1 "as_how" (sp_as_how ⟨P, w, K, C, aP, aC⟩) [] :=
  C8.cal0 D b .nil sc_as_how (fun vs H Q E h => len_spD (n := 3) (fun ds d g => by obtain ⟨l, s, h, rfl, hl, hs, rfl⟩ := g; rfl) h) fun cdv A outer s H vs Q E hr h => ⟨t_as_how ⟨P, w, K, C, aP, aC⟩, d_as_how T hr, fn_spD (N := ["line", "spot", "how", "person", "was", "names"]) (n := 3) (fun ds d g => by obtain ⟨l, s, h, rfl, hl, hs, rfl⟩ := g; rfl) (by decide) (fun ds d g F => by obtain ⟨l, s, h, rfl, hl, hs, rfl⟩ := g; exact r_as_how l s h hl hs F) vs H Q E h⟩
theorem ok_without (T : Txt mg aP aC) (c_renewed : C8.Cal P w K mg base 2 "renewed" (sp_renewed ⟨P, w, K, C, aP, aC⟩) []) {f : Addr} {fd : FuncData} (D : C8.Def K mg "without" s_without f fd) (b : Binds K fd ["rule", "line", "person"] []) : C8.Cal P w K mg base 3 "without" (sp_without ⟨P, w, K, C, aP, aC⟩) [] :=
  C8.cal0 D b .nil sc_without (fun vs H Q E h => len_spD (n := 3) (fun ds d g => by obtain ⟨r, l, p, rfl, hl, rfl⟩ := g; rfl) h) fun cdv A outer s H vs Q E hr h => ⟨t_without ⟨P, w, K, C, aP, aC⟩, d_without T c_renewed hr, fn_spD (N := ["rule", "line", "person", "found", "spots", "one", "how", "names", "left", "name"]) (n := 3) (fun ds d g => by obtain ⟨r, l, p, rfl, hl, rfl⟩ := g; rfl) (by decide) (fun ds d g F => by obtain ⟨r, l, p, rfl, hl, rfl⟩ := g; exact r_without r l p hl F) vs H Q E h⟩
theorem ok_forgetting (T : Txt mg aP aC) {f : Addr} {fd : FuncData} (D : C8.Def K mg "forgetting" s_forgetting f fd) (b : Binds K fd ["line"] []) : C8.Cal P w K mg base 1 "forgetting" (sp_forgetting ⟨P, w, K, C, aP, aC⟩) [] :=
  C8.cal0 D b .nil sc_forgetting (fun vs H Q E h => len_spD (n := 1) (fun ds d g => by obtain ⟨l, rfl, hl, rfl⟩ := g; rfl) h) fun cdv A outer s H vs Q E hr h => ⟨t_forgetting ⟨P, w, K, C, aP, aC⟩, d_forgetting T hr, fn_spD (N := ["line", "person", "how", "names"]) (n := 1) (fun ds d g => by obtain ⟨l, rfl, hl, rfl⟩ := g; rfl) (by decide) (fun ds d g F => by obtain ⟨l, rfl, hl, rfl⟩ := g; exact r_forgetting l hl F) vs H Q E h⟩
theorem ok_asked_again (T : Txt mg aP aC) (c_renewed : C8.Cal P w K mg base 2 "renewed" (sp_renewed ⟨P, w, K, C, aP, aC⟩) []) {f : Addr} {fd : FuncData} (D : C8.Def K mg "asked_again" s_asked_again f fd) (b : Binds K fd ["rule", "line"] []) : C8.Cal P w K mg base 3 "asked_again" (sp_asked_again ⟨P, w, K, C, aP, aC⟩) [] :=
  C8.cal0 D b .nil sc_asked_again (fun vs H Q E h => len_spD (n := 2) (fun ds d g => by obtain ⟨r, l, rfl, hl, rfl⟩ := g; rfl) h) fun cdv A outer s H vs Q E hr h => ⟨t_asked_again ⟨P, w, K, C, aP, aC⟩, d_asked_again T c_renewed hr, fn_spD (N := ["rule", "line", "spot", "person", "how", "names"]) (n := 2) (fun ds d g => by obtain ⟨r, l, rfl, hl, rfl⟩ := g; rfl) (by decide) (fun ds d g F => by obtain ⟨r, l, rfl, hl, rfl⟩ := g; exact r_asked_again r l hl F) vs H Q E h⟩
theorem ok_claiming (T : Txt mg aP aC) {f : Addr} {fd : FuncData} (D : C8.Def K mg "claiming" s_claiming f fd) (b : Binds K fd ["rule", "line"] []) : C8.Cal P w K mg base 1 "claiming" (sp_claiming ⟨P, w, K, C, aP, aC⟩) [] :=
  C8.cal0 D b .nil sc_claiming (fun vs H Q E h => len_spD (n := 2) (fun ds d g => by obtain ⟨r, l, rfl, hl, rfl⟩ := g; rfl) h) fun cdv A outer s H vs Q E hr h => ⟨t_claiming ⟨P, w, K, C, aP, aC⟩, d_claiming T hr, fn_spD (N := ["rule", "line", "here", "found", "person", "how", "names", "name"]) (n := 2) (fun ds d g => by obtain ⟨r, l, rfl, hl, rfl⟩ := g; rfl) (by decide) (fun ds d g F => by obtain ⟨r, l, rfl, hl, rfl⟩ := g; exact r_claiming r l hl F) vs H Q E h⟩
theorem ok_init (T : Txt mg aP aC) (KF : ClsF K C) {f : Addr} {fd : FuncData} (D : C8.Fun K "__init__" "Room.__init__" s_init f fd) (M : Mk K C f) (hm : mg "Room" = some (.ref C)) (b : Binds K fd ["self", "rule"] []) : C8.Mak P w K mg base 1 "Room" C (sp_init ⟨P, w, K, C, aP, aC⟩) [] :=
  C8.mak0 M hm D b .nil sc_init (fun vs H Q E h => len_init h) fun cdv A outer s H vs Q E hr h => ⟨t_init ⟨P, w, K, C, aP, aC⟩, d_init T hr, w_init KF vs H Q E h⟩
theorem ok_how_is (T : Txt mg aP aC) (KF : ClsF K C) {f : Addr} {fd : FuncData} (D : C8.Fun K "how_is" "Room.how_is" s_how_is f fd) (me : Meth K C "how_is" f) (hc : Cls K C) (b : Binds K fd ["self", "person"] []) : C8.Met P w K mg base 1 C "how_is" (sp_how_is ⟨P, w, K, C, aP, aC⟩) [] :=
  C8.met0 hc me D b sc_how_is (fun vs H Q E h => len_spRd (n := 1) (fun x ds d g => by obtain ⟨r, m, p, rfl, hl, rfl, rfl⟩ := g; rfl) h) fun cdv A outer s H vs Q E hr h => ⟨t_how_is ⟨P, w, K, C, aP, aC⟩, d_how_is T hr, fn_spRd (N := ["self", "person", "found", "one", "how", "names"]) (n := 1) (fun x ds d g => by obtain ⟨r, m, p, rfl, hl, rfl, rfl⟩ := g; rfl) (by decide) (fun x ds d g F pq => by obtain ⟨r, m, p, rfl, hl, rfl, rfl⟩ := g; exact r_how_is KF r m p hl F pq) vs H Q E h⟩
theorem ok_are_here (T : Txt mg aP aC) (KF : ClsF K C) {f : Addr} {fd : FuncData} (D : C8.Fun K "are_here" "Room.are_here" s_are_here f fd) (me : Meth K C "are_here" f) (hc : Cls K C) (b : Binds K fd ["self"] []) : C8.Met P w K mg base 1 C "are_here" (sp_are_here ⟨P, w, K, C, aP, aC⟩) [] :=
  C8.met0 hc me D b sc_are_here (fun vs H Q E h => len_spRd (n := 0) (fun x ds d g => by obtain ⟨r, m, rfl, hl, rfl, rfl⟩ := g; rfl) h) fun cdv A outer s H vs Q E hr h => ⟨t_are_here ⟨P, w, K, C, aP, aC⟩, d_are_here T hr, fn_spRd (N := ["self", "person", "how", "names"]) (n := 0) (fun x ds d g => by obtain ⟨r, m, rfl, hl, rfl, rfl⟩ := g; rfl) (by decide) (fun x ds d g F pq => by obtain ⟨r, m, rfl, hl, rfl, rfl⟩ := g; exact r_are_here KF r m hl F pq) vs H Q E h⟩
theorem ok_can_be (T : Txt mg aP aC) (c_are_here : C8.Met P w K mg base 1 C "are_here" (sp_are_here ⟨P, w, K, C, aP, aC⟩) []) (c_how_is : C8.Met P w K mg base 1 C "how_is" (sp_how_is ⟨P, w, K, C, aP, aC⟩) []) (KF : ClsF K C) {f : Addr} {fd : FuncData} (D : C8.Fun K "can_be" "Room.can_be" s_can_be f fd) (me : Meth K C "can_be" f) (hc : Cls K C) (b : Binds K fd ["self", "event"] []) : C8.Met P w K mg base 2 C "can_be" (sp_can_be ⟨P, w, K, C, aP, aC⟩) [] :=
  C8.met0 hc me D b sc_can_be (fun vs H Q E h => len_spRd (n := 1) (fun x ds d g => by obtain ⟨r, m, e, rfl, hl, rfl, rfl⟩ := g; rfl) h) fun cdv A outer s H vs Q E hr h => ⟨t_can_be ⟨P, w, K, C, aP, aC⟩, d_can_be T c_are_here c_how_is hr, fn_spRd (N := ["self", "event", "word", "how", "is_new"]) (n := 1) (fun x ds d g => by obtain ⟨r, m, e, rfl, hl, rfl, rfl⟩ := g; rfl) (by decide) (fun x ds d g F pq => by obtain ⟨r, m, e, rfl, hl, rfl, rfl⟩ := g; exact r_can_be KF r m e hl F pq) vs H Q E h⟩
theorem ok_put_in (T : Txt mg aP aC) (c_renewed : C8.Cal P w K mg base 2 "renewed" (sp_renewed ⟨P, w, K, C, aP, aC⟩) []) (KF : ClsF K C) {f : Addr} {fd : FuncData} (D : C8.Fun K "put_in" "Room.put_in" s_put_in f fd) (me : Meth K C "put_in" f) (hc : Cls K C) (b : Binds K fd ["self", "spot"] []) : C8.Met P w K mg base 3 C "put_in" (sp_put_in ⟨P, w, K, C, aP, aC⟩) [] :=
  C8.met0 hc me D b sc_put_in (fun vs H Q E h => len_spMu (n := 1) (fun x ds d g => by obtain ⟨r, m, s, rfl, hl, hn, hs, rfl, rfl⟩ := g; rfl) h) fun cdv A outer s H vs Q E hr h => ⟨t_put_in ⟨P, w, K, C, aP, aC⟩, d_put_in T c_renewed hr, fn_spMu (N := ["self", "spot", "fresh"]) (n := 1) (fun x ds d g => by obtain ⟨r, m, s, rfl, hl, hn, hs, rfl, rfl⟩ := g; rfl) (by decide) (fun x ds y g F pq => by obtain ⟨r, m, s, rfl, hl, hn, hs, rfl, rfl⟩ := g; exact r_put_in KF r m s hl hn F pq) vs H Q E h⟩
theorem ok_renew_from (T : Txt mg aP aC) (c_renewed : C8.Cal P w K mg base 2 "renewed" (sp_renewed ⟨P, w, K, C, aP, aC⟩) []) (KF : ClsF K C) {f : Addr} {fd : FuncData} (D : C8.Fun K "renew_from" "Room.renew_from" s_renew_from f fd) (me : Meth K C "renew_from" f) (hc : Cls K C) (b : Binds K fd ["self", "spot"] []) : C8.Met P w K mg base 3 C "renew_from" (sp_renew_from ⟨P, w, K, C, aP, aC⟩) [] :=
  C8.met0 hc me D b sc_renew_from (fun vs H Q E h => len_spMu (n := 1) (fun x ds d g => by obtain ⟨r, m, s, rfl, hl, hs, rfl, rfl⟩ := g; rfl) h) fun cdv A outer s H vs Q E hr h => ⟨t_renew_from ⟨P, w, K, C, aP, aC⟩, d_renew_from T c_renewed hr, fn_spMu (N := ["self", "spot"]) (n := 1) (fun x ds d g => by obtain ⟨r, m, s, rfl, hl, hs, rfl, rfl⟩ := g; rfl) (by decide) (fun x ds y g F pq => by obtain ⟨r, m, s, rfl, hl, hs, rfl, rfl⟩ := g; exact r_renew_from KF r m s hl hs F pq) vs H Q E h⟩
theorem ok_bring_back (T : Txt mg aP aC) (c_as_how : C8.Cal P w K mg base 1 "as_how" (sp_as_how ⟨P, w, K, C, aP, aC⟩) []) (c_renewed : C8.Cal P w K mg base 2 "renewed" (sp_renewed ⟨P, w, K, C, aP, aC⟩) []) (c_put_in : C8.Met P w K mg base 3 C "put_in" (sp_put_in ⟨P, w, K, C, aP, aC⟩) []) (c_renew_from : C8.Met P w K mg base 3 C "renew_from" (sp_renew_from ⟨P, w, K, C, aP, aC⟩) []) (KF : ClsF K C) {f : Addr} {fd : FuncData} (D : C8.Fun K "bring_back" "Room.bring_back" s_bring_back f fd) (me : Meth K C "bring_back" f) (hc : Cls K C) (b : Binds K fd ["self", "spot"] []) : C8.Met P w K mg base 4 C "bring_back" (sp_bring_back ⟨P, w, K, C, aP, aC⟩) [] :=
  C8.met0 hc me D b sc_bring_back (fun vs H Q E h => len_spMu (n := 1) (fun x ds d g => by obtain ⟨r, m, s, rfl, hl, hs, rfl, rfl⟩ := g; rfl) h) fun cdv A outer s H vs Q E hr h => ⟨t_bring_back ⟨P, w, K, C, aP, aC⟩, d_bring_back T c_as_how c_renewed c_put_in c_renew_from hr, fn_spMu (N := ["self", "spot", "how"]) (n := 1) (fun x ds d g => by obtain ⟨r, m, s, rfl, hl, hs, rfl, rfl⟩ := g; rfl) (by decide) (fun x ds y g F pq => by obtain ⟨r, m, s, rfl, hl, hs, rfl, rfl⟩ := g; exact r_bring_back KF r m s hl hs F pq) vs H Q E h⟩
theorem ok_open_door (T : Txt mg aP aC) (c_asked_again : C8.Cal P w K mg base 3 "asked_again" (sp_asked_again ⟨P, w, K, C, aP, aC⟩) []) (c_claiming : C8.Cal P w K mg base 1 "claiming" (sp_claiming ⟨P, w, K, C, aP, aC⟩) []) (c_without : C8.Cal P w K mg base 3 "without" (sp_without ⟨P, w, K, C, aP, aC⟩) []) (KF : ClsF K C) {f : Addr} {fd : FuncData} (D : C8.Fun K "open_door" "Room.open_door" s_open_door f fd) (me : Meth K C "open_door" f) (hc : Cls K C) (b : Binds K fd ["self"] []) : C8.Met P w K mg base 4 C "open_door" (sp_open_door ⟨P, w, K, C, aP, aC⟩) [] :=
  C8.met0 hc me D b sc_open_door (fun vs H Q E h => len_spMu (n := 0) (fun x ds d g => by obtain ⟨r, m, rfl, hl, hs, rfl, rfl⟩ := g; rfl) h) fun cdv A outer s H vs Q E hr h => ⟨t_open_door ⟨P, w, K, C, aP, aC⟩, d_open_door T c_asked_again c_claiming c_without hr, fn_spMu (N := ["self", "some"]) (n := 0) (fun x ds d g => by obtain ⟨r, m, rfl, hl, hs, rfl, rfl⟩ := g; rfl) (by decide) (fun x ds y g F pq => by obtain ⟨r, m, rfl, hl, hs, rfl, rfl⟩ := g; exact r_open_door KF r m hl hs F pq) vs H Q E h⟩
theorem ok_do_personal (T : Txt mg aP aC) (c_as_how : C8.Cal P w K mg base 1 "as_how" (sp_as_how ⟨P, w, K, C, aP, aC⟩) []) (c_spot_of : C8.Cal P w K mg base 1 "spot_of" (sp_spot_of ⟨P, w, K, C, aP, aC⟩) []) (c_without : C8.Cal P w K mg base 3 "without" (sp_without ⟨P, w, K, C, aP, aC⟩) []) (c_bring_back : C8.Met P w K mg base 4 C "bring_back" (sp_bring_back ⟨P, w, K, C, aP, aC⟩) []) (c_put_in : C8.Met P w K mg base 3 C "put_in" (sp_put_in ⟨P, w, K, C, aP, aC⟩) []) (c_renew_from : C8.Met P w K mg base 3 C "renew_from" (sp_renew_from ⟨P, w, K, C, aP, aC⟩) []) (KF : ClsF K C) {f : Addr} {fd : FuncData} (D : C8.Fun K "do_personal" "Room.do_personal" s_do_personal f fd) (me : Meth K C "do_personal" f) (hc : Cls K C) (b : Binds K fd ["self", "word", "person"] []) : C8.Met P w K mg base 5 C "do_personal" (sp_do_personal ⟨P, w, K, C, aP, aC⟩) [] :=
  C8.met0 hc me D b sc_do_personal (fun vs H Q E h => len_spMu (n := 2) (fun x ds d g => by obtain ⟨r, m, w, p, rfl, hl, hn, hp, rfl, rfl⟩ := g; rfl) h) fun cdv A outer s H vs Q E hr h => ⟨t_do_personal ⟨P, w, K, C, aP, aC⟩, d_do_personal T c_as_how c_spot_of c_without c_bring_back c_put_in c_renew_from hr, fn_spMu (N := ["self", "word", "person", "spot"]) (n := 2) (fun x ds d g => by obtain ⟨r, m, w, p, rfl, hl, hn, hp, rfl, rfl⟩ := g; rfl) (by decide) (fun x ds y g F pq => by obtain ⟨r, m, w, p, rfl, hl, hn, hp, rfl, rfl⟩ := g; exact r_do_personal KF r m w p hl hn hp F pq) vs H Q E h⟩
theorem ok_do (T : Txt mg aP aC) (c_forgetting : C8.Cal P w K mg base 1 "forgetting" (sp_forgetting ⟨P, w, K, C, aP, aC⟩) []) (c_do_personal : C8.Met P w K mg base 5 C "do_personal" (sp_do_personal ⟨P, w, K, C, aP, aC⟩) []) (c_open_door : C8.Met P w K mg base 4 C "open_door" (sp_open_door ⟨P, w, K, C, aP, aC⟩) []) (c_put_in : C8.Met P w K mg base 3 C "put_in" (sp_put_in ⟨P, w, K, C, aP, aC⟩) []) (KF : ClsF K C) {f : Addr} {fd : FuncData} (D : C8.Fun K "do" "Room.do" s_do f fd) (me : Meth K C "do" f) (hc : Cls K C) (b : Binds K fd ["self", "event"] []) : C8.Met P w K mg base 6 C "do" (sp_do ⟨P, w, K, C, aP, aC⟩) [] :=
  C8.met0 hc me D b sc_do (fun vs H Q E h => len_spMu (n := 1) (fun x ds d g => by obtain ⟨r, m, e, rfl, hl, hn, hsv, ht, rfl, rfl⟩ := g; rfl) h) fun cdv A outer s H vs Q E hr h => ⟨t_do ⟨P, w, K, C, aP, aC⟩, d_do T c_forgetting c_do_personal c_open_door c_put_in hr, fn_spMu (N := ["self", "event"]) (n := 1) (fun x ds d g => by obtain ⟨r, m, e, rfl, hl, hn, hsv, ht, rfl, rfl⟩ := g; rfl) (by decide) (fun x ds y g F pq => by obtain ⟨r, m, e, rfl, hl, hn, hsv, ht, rfl, rfl⟩ := g; exact r_do KF r m e hl hn hsv ht F pq) vs H Q E h⟩
theorem ok_all_events (T : Txt mg aP aC) (c_are_here : C8.Met P w K mg base 1 C "are_here" (sp_are_here ⟨P, w, K, C, aP, aC⟩) []) (c_can_be : C8.Met P w K mg base 2 C "can_be" (sp_can_be ⟨P, w, K, C, aP, aC⟩) []) (KF : ClsF K C) (hP : ∀ H, Dp K H (.ref aP) dPers) {f : Addr} {fd : FuncData} (D : C8.Def K mg "all_events" s_all_events f fd) (b : Binds K fd ["room"] []) : C8.Cal P w K mg base 3 "all_events" (sp_all_events ⟨P, w, K, C, aP, aC⟩) [] :=
  C8.cal0 D b .nil sc_all_events (fun vs H Q E h => len_spRd (n := 0) (fun x ds d g => by obtain ⟨r, m, rfl, hl, rfl, rfl⟩ := g; rfl) h) fun cdv A outer s H vs Q E hr h => ⟨t_all_events ⟨P, w, K, C, aP, aC⟩, d_all_events T c_are_here c_can_be hr, fn_spRd (N := ["room", "found", "word", "person", "how", "names", "event"]) (n := 0) (fun x ds d g => by obtain ⟨r, m, rfl, hl, rfl, rfl⟩ := g; rfl) (by decide) (fun x ds d g F pq => by obtain ⟨r, m, rfl, hl, rfl, rfl⟩ := g; exact r_all_events KF hP r m hl F pq) vs H Q E h⟩
theorem ok_room_at (T : Txt mg aP aC) (c_init : C8.Mak P w K mg base 1 "Room" C (sp_init ⟨P, w, K, C, aP, aC⟩) []) (KF : ClsF K C) {f : Addr} {fd : FuncData} (D : C8.Def K mg "room_at" s_room_at f fd) (b : Binds K fd ["rule", "pair"] []) : C8.Cal P w K mg base 3 "room_at" (sp_room_at ⟨P, w, K, C, aP, aC⟩) [] :=
  C8.cal0 D b .nil sc_room_at (fun vs H Q E h => len_room_at h) fun cdv A outer s H vs Q E hr h => ⟨t_room_at ⟨P, w, K, C, aP, aC⟩, d_room_at T c_init hr, w_room_at KF vs H Q E h⟩
theorem ok_is_growing (T : Txt mg aP aC) (c_how_is : C8.Met P w K mg base 1 C "how_is" (sp_how_is ⟨P, w, K, C, aP, aC⟩) []) (KF : ClsF K C) {f : Addr} {fd : FuncData} (D : C8.Def K mg "is_growing" s_is_growing f fd) (b : Binds K fd ["room", "event"] []) : C8.Cal P w K mg base 2 "is_growing" (sp_is_growing ⟨P, w, K, C, aP, aC⟩) [] :=
  C8.cal0 D b .nil sc_is_growing (fun vs H Q E h => len_spRd (n := 1) (fun x ds d g => by obtain ⟨r, m, e, rfl, hl, rfl, rfl⟩ := g; rfl) h) fun cdv A outer s H vs Q E hr h => ⟨t_is_growing ⟨P, w, K, C, aP, aC⟩, d_is_growing T c_how_is hr, fn_spRd (N := ["room", "event"]) (n := 1) (fun x ds d g => by obtain ⟨r, m, e, rfl, hl, rfl, rfl⟩ := g; rfl) (by decide) (fun x ds d g F pq => by obtain ⟨r, m, e, rfl, hl, rfl, rfl⟩ := g; exact r_is_growing KF r m e hl F pq) vs H Q E h⟩
theorem ok_ways_on (T : Txt mg aP aC) (c_all_events : C8.Cal P w K mg base 3 "all_events" (sp_all_events ⟨P, w, K, C, aP, aC⟩) []) (c_is_growing : C8.Cal P w K mg base 2 "is_growing" (sp_is_growing ⟨P, w, K, C, aP, aC⟩) []) (c_room_at : C8.Cal P w K mg base 3 "room_at" (sp_room_at ⟨P, w, K, C, aP, aC⟩) []) (c_do : C8.Met P w K mg base 6 C "do" (sp_do ⟨P, w, K, C, aP, aC⟩) []) (KF : ClsF K C) {f : Addr} {fd : FuncData} (D : C8.Def K mg "ways_on" s_ways_on f fd) (b : Binds K fd ["rule", "pair", "people"] []) : C8.Cal P w K mg base 7 "ways_on" (sp_ways_on ⟨P, w, K, C, aP, aC⟩) [] :=
  C8.cal0 D b .nil sc_ways_on (fun vs H Q E h => len_spD (n := 3) (fun ds d g => by obtain ⟨r, x, n, rfl, hl, hn, rfl⟩ := g; rfl) h) fun cdv A outer s H vs Q E hr h => ⟨t_ways_on ⟨P, w, K, C, aP, aC⟩, d_ways_on T c_all_events c_is_growing c_room_at c_do hr, fn_spD (N := ["rule", "pair", "people", "room", "found", "event", "later", "served"]) (n := 3) (fun ds d g => by obtain ⟨r, x, n, rfl, hl, hn, rfl⟩ := g; rfl) (by decide) (fun ds d g F => by obtain ⟨r, x, n, rfl, hl, hn, rfl⟩ := g; exact r_ways_on KF r x n hl hn F) vs H Q E h⟩
theorem ok_need_people (T : Txt mg aP aC) (c_is_between : C8.Cal P w K mg base 2 "is_between" (sp_is_between ⟨P, w, K, C, aP, aC⟩) []) {f : Addr} {fd : FuncData} (D : C8.Def K mg "need_people" s_need_people f fd) (b : Binds K fd ["thing", "came"] []) : C8.Cal P w K mg base 3 "need_people" (sp_need_people ⟨P, w, K, C, aP, aC⟩) [] :=
  C8.cal0 D b .nil sc_need_people (fun vs H Q E h => len_spD (n := 2) (fun ds d g => by obtain ⟨n, h1, h2, rfl, rfl⟩ := g; rfl) h) fun cdv A outer s H vs Q E hr h => ⟨t_need_people ⟨P, w, K, C, aP, aC⟩, d_need_people T c_is_between hr, fn_spD (N := ["thing", "came"]) (n := 2) (fun ds d g => by obtain ⟨n, h1, h2, rfl, rfl⟩ := g; rfl) (by decide) (fun ds d g F => by obtain ⟨n, h1, h2, rfl, rfl⟩ := g; exact r_need_people n h1 h2 F) vs H Q E h⟩
theorem ok_orders_of (T : Txt mg aP aC) (c_need_people : C8.Cal P w K mg base 3 "need_people" (sp_need_people ⟨P, w, K, C, aP, aC⟩) []) (c_need_rule : C8.Cal P w K mg base 3 "need_rule" (sp_need_rule ⟨P, w, K, C, aP, aC⟩) []) (c_ways_on : C8.Cal P w K mg base 7 "ways_on" (sp_ways_on ⟨P, w, K, C, aP, aC⟩) []) {f : Addr} {fd : FuncData} (D : C8.Def K mg "orders_of" s_orders_of f fd) (b : Binds K fd ["rule", "people"] []) : C8.Cal P w K mg base 8 "orders_of" (sp_orders_of ⟨P, w, K, C, aP, aC⟩) [] :=
  C8.cal0 D b .nil sc_orders_of (fun vs H Q E h => len_spD (n := 2) (fun ds d g => by obtain ⟨r, n, os, hr, h1, h6, hf, ho, rfl, rfl⟩ := g; rfl) h) fun cdv A outer s H vs Q E hr h => ⟨t_orders_of ⟨P, w, K, C, aP, aC⟩, d_orders_of T c_need_people c_need_rule c_ways_on hr, fn_spD (N := ["rule", "people", "known", "layer", "later", "pair", "order", "event", "behind", "served", "name"]) (n := 2) (fun ds d g => by obtain ⟨r, n, os, hr, h1, h6, hf, ho, rfl, rfl⟩ := g; rfl) (by decide) (fun ds d g F => by obtain ⟨r, n, os, hr, h1, h6, hf, ho, rfl, rfl⟩ := g; exact r_orders_of r n os hr h1 h6 hf ho F) vs H Q E h⟩
end Ask
-- AskRows
set_option Elab.async false
set_option linter.all false
set_option maxRecDepth 100000
/-! rows that are lists: read, changed, handed on; promises of the law's own defs -/
namespace Ask
open PySem PySem.Spec PyProof.Rows L2
abbrev dRowD (w : RowD) : PyData := .list [.int w.p, .str w.h, w.ns]
abbrev dRowsD (l : List RowD) : PyData := .list (l.map dRowD)
/-- B without L -/
def delL (B : Hp) (L : List Addr) : Hp := fun z => if z ∈ L then none else B z
section
variable {B B' : Hp} {L : List Addr} {z : Addr}
theorem delL_in (h : z ∈ L) : delL B L z = none := if_pos h
theorem delL_ne (h : z ∉ L) : delL B L z = B z := if_neg h
theorem delL_some {o : HO} (h : delL B L z = some o) : z ∉ L ∧ B z = some o := by
  by_cases e : z ∈ L
  · rw [delL_in e] at h; cases h
  · rw [delL_ne e] at h; exact ⟨e, h⟩
theorem delL_same : Same (delL B L) B := fun z o h => (delL_some h).2
theorem same_delL (a : Same B B') (h : ∀ a ∈ L, B a = none) : Same B (delL B' L) := fun q o e => by
  have : q ∉ L := fun m => by rw [h q m] at e; cases e
  rw [delL_ne this]
  exact a q o e
theorem delL_mono (a : Same B B') : Same (delL B L) (delL B' L) := fun q o e => by
  obtain ⟨h1, h2⟩ := delL_some e
  rw [delL_ne h1]
  exact a q o h2
end
variable (Θ : Th)
/-! ### promises -/
/-- what is given back is new -/
def spN (G : List PyData → PyData → Prop) : Sp := fun vs H Q _ => ∃ H0 ds d, Same H0 H ∧ DpAll Θ.K H0 vs ds ∧ G ds d ∧ ∀ v H', Same H H' → Dp Θ.K (ext (fun _ => none) H H') v d → Q v H'
/-- a new list is given back -/
def spNL (G : List PyData → List PyData → Prop) : Sp := fun vs H Q _ => ∃ H0 ds es, Same H0 H ∧ DpAll Θ.K H0 vs ds ∧ G ds es ∧ ∀ p us H', Same H H' → H p = none → H' p = some (.lst us) → DpAll Θ.K (del (ext (fun _ => none) H H') p) us es → Q (.ref p) H'
/-- the second argument's rows are changed -/
def spRn (G : List RowD → List PyData → List RowD → Prop) : Sp := fun vs H Q _ => ∃ p as vr us H0 ds l l', vs = vr :: .ref p :: us ∧ Same H0 H ∧ (∀ a ∈ p :: as, H0 a = none) ∧ RowsAt Θ H0 H p as l ∧ DpAll Θ.K H0 (vr :: us) ds ∧ G l ds l' ∧
  ∀ H', (∀ a o, a ∉ p :: as → H a = some o → H' a = some o) → RowsAt Θ (ext H0 H H') H' p as l' → Q .non H'
/-- the second argument's rows go into those that are given back -/
def spRw (G : List RowD → List PyData → List RowD → Prop) : Sp := fun vs H Q _ => ∃ p as vr us H0 ds l l', vs = vr :: .ref p :: us ∧ Same H0 H ∧ (∀ a ∈ p :: as, H0 a = none) ∧ RowsAt Θ H0 H p as l ∧ DpAll Θ.K H0 (vr :: us) ds ∧ G l ds l' ∧
  ∀ p' as' H', (∀ a o, a ∉ p :: as → H a = some o → H' a = some o) → (∀ a, H a ≠ none → H' a ≠ none) → (∀ a ∈ p' :: as', H a = none ∨ a ∈ p :: as) → RowsAt Θ (delL (ext H0 H H') (p' :: as')) H' p' as' l' → Q (.ref p') H'
/-- .. with a number behind them, as a tuple -/
def spRb (G : List RowD → List PyData → List RowD → Int → Prop) : Sp := fun vs H Q _ => ∃ p as vr us H0 ds l l' n, vs = vr :: .ref p :: us ∧ Same H0 H ∧ (∀ a ∈ p :: as, H0 a = none) ∧ RowsAt Θ H0 H p as l ∧ DpAll Θ.K H0 (vr :: us) ds ∧ G l ds l' n ∧
  ∀ T p' as' H', (∀ a o, a ∉ p :: as → H a = some o → H' a = some o) → (∀ a, H a ≠ none → H' a ≠ none) → (∀ a ∈ p' :: as', H a = none ∨ a ∈ p :: as) → RowsAt Θ (delL (ext H0 H H') (p' :: as')) H' p' as' l' → H' T = some (.tup [.ref p', .int n]) → Q (.ref T) H'
/-- new rows are given back -/
def spDR (G : List PyData → List RowD → Prop) : Sp := fun vs H Q _ => ∃ H0 ds l', Same H0 H ∧ DpAll Θ.K H0 vs ds ∧ G ds l' ∧
  ∀ p' as' H', Same H H' → (∀ a ∈ p' :: as', H a = none) → RowsAt Θ (delL (ext H0 H H') (p' :: as')) H' p' as' l' → Q (.ref p') H'
variable {Θ}
section
variable {F : Frm} {δ δ1 δ' : List Sl} {σ : L2.St} {H0 Hb H H0' Hb' H' H1 H2 : Hp} {A : Nat → List Addr} {b b0 b1 b2 : Bool} {ta tb te tq : TE} {t u : TT} {tr : TA} {d e x y : PyData} {ds es : List PyData} {i j k : Nat} {o : Out} {E : XK} {L : List Addr} {m : Bool} {po : Option (Addr × List Addr)} {l l' : List RowD}
theorem ext_up (s : Same H H1) : Same (ext (fun _ => none) H1 H2) (ext B H H2) := fun z o e => by
  by_cases h : H1 z = none
  · rw [ext_new h] at e
    rw [ext_new (s.free h)]
    exact e
  · rw [ext_old h] at e; cases e
theorem ev_callN {G : List PyData → PyData → Prop} (h : EvA Θ b1 tr δ ds) (hG : G ds d) : Ev Θ b (tCall (spN Θ G) [] E tr) δ d := fun σ H0 Hb H A st Q q =>
  h σ H0 Hb H A st _ fun vs H1 s1 d1 => ⟨ext (bse b1 H0 Hb) H H1, ds, d, ext_same ((bse_le st.h0).trans st.hb) s1, by rw [List.append_nil]; exact d1, hG, fun v H' s' dv => q v H' (s1.trans s') (dv.mono (ext_up s1))⟩
theorem el_callN {G : List PyData → List PyData → Prop} (h : EvA Θ b1 tr δ ds) (hG : G ds es) : EvL Θ b (tCall (spNL Θ G) [] E tr) δ es := fun σ H0 Hb H A st Q q =>
  h σ H0 Hb H A st _ fun vs H1 s1 d1 => ⟨ext (bse b1 H0 Hb) H H1, ds, es, ext_same ((bse_le st.h0).trans st.hb) s1, by rw [List.append_nil]; exact d1, hG, fun p us H' s' np hp dv => q p us H' (s1.trans s') (s1.free np) hp (dv.mono fun z o e => by
    have hz : z ≠ p := fun e' => by rw [e', del_at] at e; cases e
    rw [del_ne hz] at e ⊢
    exact ext_up s1 _ _ e)⟩
theorem el_listOf (ha : Ev Θ b ta δ x) (hx : x = .list ds ∨ x = .tuple ds) : EvL Θ b (tCB (rListOf Θ.K) (tCons ta tNil)) δ ds := fun σ H0 Hb H A st Q q => ha σ H0 Hb H A st _ fun v H1 s1 d1 => by
  obtain ⟨p, vs, rfl, hs, hv⟩ := seq_of d1 (ext_same ((bse_le st.h0).trans st.hb) s1) hx
  refine ⟨p, vs, rfl, hs, fun l nl => ?_⟩
  obtain ⟨a1, a2, a3⟩ := new_lstL s1 nl hv
  exact q l _ _ a1 a2 upd_same a3
/-! ### rows, read -/
theorem St0.bor (st : St0 Θ δ σ H0 Hb H A) (hi : δ[i]? = some (.rows m po l)) : ∃ Hb' A', St0 Θ (δ.set i (.brw (dRowsD l))) σ H0 Hb' H A' ∧ Same Hb Hb' ∧ ∀ z ∈ A i, Hb' z = H z := by
  obtain ⟨o, ho, p, as, hA, rfl, h2, h3, h4, h5⟩ := st.sl i _ hi
  have hil : i < δ.length := (List.getElem?_eq_some_iff.mp hi).1
  obtain ⟨Hn, eHn⟩ : ∃ Hn : Hp, Hn = fun z => if z ∈ A i then H z else Hb z := ⟨_, rfl⟩
  have hin : ∀ z, z ∈ A i → Hn z = H z := fun z hz => by rw [eHn]; exact if_pos hz
  have hout : ∀ z, z ∉ A i → Hn z = Hb z := fun z hz => by rw [eHn]; exact if_neg hz
  have sb : Same Hb Hn := fun z o e => by
    have : z ∉ A i := fun hz => by rw [(st.at hz).2] at e; cases e
    rw [hout z this]; exact e
  refine ⟨Hn, fun k => if k = i then [] else A k, ⟨st.h0.trans sb, fun z o e => ?_, fun k s hs => ?_, fun k hk => ?_, fun k l a g1 g2 => ?_, by rw [List.length_set, st.len]⟩, sb, hin⟩
  · by_cases hz : z ∈ A i
    · rw [hin z hz] at e; exact e
    · rw [hout z hz] at e; exact st.hb _ _ e
  · by_cases e : k = i
    · subst e
      rw [List.getElem?_set_self hil] at hs
      cases hs
      rw [if_pos rfl]
      refine ⟨_, ho, rfl, _, rfl, .lst (SqL.of (by rw [hin p (by rw [hA]; simp)]; exact h5.lst)) (rows_dp (each_mono h5.each (st.h0.trans sb) fun a ha => ?_))⟩
      intro o e
      rw [hin a (by rw [hA]; exact List.mem_cons_of_mem _ ha)]
      exact e
    · rw [List.getElem?_set_ne (Ne.symm e)] at hs
      obtain ⟨o, g1, g2⟩ := st.sl k s hs
      rw [if_neg e]
      refine ⟨o, g1, g2.mono (Same.refl _) sb fun a ha => ⟨fun w hw => hw, fun hn => ?_⟩⟩
      rw [hout a fun z => e (st.dj k i a ha z)]
      exact hn
  · rw [List.getElem?_eq_none_iff, List.length_set] at hk
    have e : k ≠ i := by omega
    rw [if_neg e]
    exact st.out k (List.getElem?_eq_none_iff.mpr hk)
  · by_cases e1 : k = i
    · rw [if_pos e1] at g1; cases g1
    · by_cases e2 : l = i
      · rw [if_pos e2] at g2; cases g2
      · rw [if_neg e1] at g1
        rw [if_neg e2] at g2
        exact st.dj k l a g1 g2
theorem Ev.bor (hi : δ[i]? = some (.rows m po l)) (h : Ev Θ false ta (δ.set i (.brw (dRowsD l))) d) : Ev Θ false ta δ d := fun σ H0 Hb H A st Q q => by
  obtain ⟨Hb', A', st', _, _⟩ := st.bor hi
  exact h σ H0 Hb' H A' st' Q q
theorem EvL.bor (hi : δ[i]? = some (.rows m po l)) (h : EvL Θ false ta (δ.set i (.brw (dRowsD l))) ds) : EvL Θ false ta δ ds := fun σ H0 Hb H A st Q q => by
  obtain ⟨Hb', A', st', _, _⟩ := st.bor hi
  exact h σ H0 Hb' H A' st' Q q
theorem EvA.bor (hi : δ[i]? = some (.rows m po l)) (h : EvA Θ false tr (δ.set i (.brw (dRowsD l))) ds) : EvA Θ false tr δ ds := fun σ H0 Hb H A st Q q => by
  obtain ⟨Hb', A', st', _, _⟩ := st.bor hi
  exact h σ H0 Hb' H A' st' Q q
theorem EvT.bor {v : Bool} (hi : δ[i]? = some (.rows m po l)) (h : EvT Θ t (δ.set i (.brw (dRowsD l))) v) : EvT Θ t δ v := fun σ H0 Hb H A st Q q => by
  obtain ⟨Hb', A', st', _, _⟩ := st.bor hi
  exact h σ H0 Hb' H A' st' Q q
/-! ### rows, changed -/
theorem each_set {as : List Addr} {s : Nat} {a : Addr} {w' : RowD} {vt : V} (h : Paired (RowAt Θ H0 H) as l) (hn : as.Nodup) (ha : as[s]? = some a) (hv : Dp Θ.K H0 vt w'.ns) : Paired (RowAt Θ H0 (upd H a (.lst [.int w'.p, .str w'.h, vt]))) as (l.set s w') := by
  induction h generalizing s with
  | nil => simp at ha
  | @cons c r cs rs h1 h2 ih =>
    rw [List.nodup_cons] at hn
    cases s with
    | zero =>
      obtain rfl : c = a := by simpa using ha
      refine .cons ⟨vt, upd_same, hv⟩ (each_mono h2 (Same.refl _) fun z hz o e => ?_)
      rw [upd_ne fun e' => by rw [e'] at hz; exact hn.1 hz]
      exact e
    | succ s =>
      have ha : cs[s]? = some a := by simpa using ha
      refine .cons ?_ (ih hn.2 ha)
      obtain ⟨vt', g1, g2⟩ := h1
      refine ⟨vt', ?_, g2⟩
      rw [upd_ne fun e' => by rw [← e'] at ha; exact hn.1 (List.mem_of_getElem? ha)]
      exact g1
theorem each_get {as : List Addr} {s : Nat} {w : RowD} (h : Paired (RowAt Θ H0 H) as l) (hs : l[s]? = some w) : ∃ a, as[s]? = some a ∧ RowAt Θ H0 H a w := by
  induction h generalizing s with
  | nil => simp at hs
  | @cons c r cs rs h1 h2 ih =>
    cases s with
    | zero =>
      obtain rfl : r = w := by simpa using hs
      exact ⟨c, rfl, h1⟩
    | succ s => exact ih (s := s) (by simpa using hs)
theorem fr_rows (st : St Θ F δ σ H0 Hb H A) (hi : δ[i]? = some (.rows m po l)) {a : Addr} (ha : a ∈ A i) : F.Hc a = none ∨ F.M a := by
  have := st.fr i _ a hi ha
  cases m
  · exact .inl this
  · exact this
theorem atI_natV {xs : List V} {k : Nat} : atI xs (k : Int) = xs[k]? := by
  unfold atI ixN
  by_cases h : k < xs.length
  · have h1 : (0 : Int) ≤ (k : Int) := by omega
    have h2 : (k : Int) < (xs.length : Int) := by omega
    simp [h1, h2]
  · have h1 : (0 : Int) ≤ (k : Int) := by omega
    have h2 : ¬ (k : Int) < (xs.length : Int) := by omega
    simp [h1, h2]
    omega
/-- what a store in a row puts in its place -/
def Store (Θ : Th) (H0 : Hp) (n : Int) (v : V) (w w' : RowD) : Prop := (n = 1 ∧ v = .str w'.h ∧ w'.p = w.p ∧ w'.ns = w.ns) ∨ (n = 2 ∧ Dp Θ.K H0 v w'.ns ∧ w'.p = w.p ∧ w'.h = w.h)
theorem row_store {ts : TE} {s : Nat} {n : Int} {v : V} {w w' : RowD} (st : St Θ F δ σ H0 Hb H A) (hi : δ[i]? = some (.rows m po l)) (hts : Ev Θ false ts δ (.int s)) (hs : l[s]? = some w) (hv : Store Θ H0 n v w w') {Q : L2.St → Hp → Prop}
    (q : ∀ H0' Hb' H' A', St Θ F (δ.set i (.rows m po (l.set s w'))) σ H0' Hb' H' A' → Same H0 H0' → Same Hb Hb' → Same H0' H' → Q σ H') : gSub (tOp (rIx Θ.K) (tVar i) ts) (tC (.int n)) rSetL v σ H Q := by
  obtain ⟨o, ho, p, as, hA, rfl, h2, h3, h4, h5⟩ := st.s.sl i _ hi
  refine ⟨_, ho, hts σ H0 Hb H A st.s _ fun z H1 s1 d1 => ?_⟩
  cases d1
  have st1 := st.ext s1
  have h51 : RowsAt Θ (ext H0 H H1) H1 p as l := h5.mono (same_ext (st.s.h0.trans st.s.hb)) fun a _ o e => s1 _ _ e
  obtain ⟨a, ha, vt, g1, g2⟩ := each_get h51.each hs
  have hix : atI (as.map V.ref) (s : Int) = some (.ref a) := by
    have : (as.map V.ref)[s]? = some (.ref a) := by rw [List.getElem?_map, ha]; rfl
    rw [atI_natV]
    exact this
  refine .inl ⟨p, _, (s : Int), _, rfl, rfl, SqL.of h51.lst, hix, ?_⟩
  have hmem : a ∈ as := List.mem_of_getElem? ha
  have hpa : p ≠ a := fun e => h5.np (e ▸ hmem)
  have hn : ixN ([V.int w.p, V.str w.h, vt] : List V).length n = some n.toNat := by
    rcases hv with ⟨rfl, _⟩ | ⟨rfl, _⟩ <;> rfl
  have hset : ∃ vt', ([V.int w.p, V.str w.h, vt] : List V).set n.toNat v = [.int w'.p, .str w'.h, vt'] ∧ Dp Θ.K (ext H0 H H1) vt' w'.ns := by
    rcases hv with ⟨rfl, rfl, e1, e2⟩ | ⟨rfl, hd, e1, e2⟩
    · exact ⟨vt, by rw [e1]; rfl, by rw [e2]; exact g2⟩
    · exact ⟨v, by rw [e1, e2]; rfl, hd.mono (same_ext (st.s.h0.trans st.s.hb))⟩
  obtain ⟨vt', e1, hd'⟩ := hset
  refine ⟨a, _, n, _, rfl, rfl, g1, hn, ?_⟩
  rw [e1]
  have fin := st1.mutS (s' := .rows m po (l.set s w')) hi (H' := upd H1 a (.lst [.int w'.p, .str w'.h, vt'])) (fun z hz => upd_ne fun e => hz (by rw [hA, e]; exact List.mem_cons_of_mem _ hmem)) ho
    ⟨p, as, hA, rfl, h2, by rw [ext_old (h5.there p (by simp))]; exact h3, fun c hc => by rw [ext_old (h5.there c (List.mem_cons_of_mem _ hc))]; exact h4 c hc, ⟨by rw [upd_ne hpa]; exact h51.lst, each_set h51.each h5.nd ha hd', h5.nd, h5.np⟩⟩
    (fun c hc => by have z := st.fr i _ c hi hc; cases m <;> exact z) fun c hc => fr_rows st hi hc
  exact q _ _ _ _ fin (same_ext (st.s.h0.trans st.s.hb)) (same_ext st.s.hb) (fin.s.h0.trans fin.s.hb)
theorem sd_setRow1 {ts : TE} {s : Nat} {h : Str} {w : RowD} (hi : δ[i]? = some (.rows m po l)) (hte : Ev Θ false te δ (.str h)) (hts : Ev Θ false ts δ (.int s)) (hs : l[s]? = some w) :
    SD Θ F (tAsg te (gSub (tOp (rIx Θ.K) (tVar i) ts) (tC (.int 1)) rSetL)) δ (.nx (δ.set i (.rows m po (l.set s { w with h := h })))) := fun σ H0 Hb H A st D fin => hte σ H0 Hb H A st.s _ fun v H1 s1 d1 => by
  cases d1
  exact row_store (w' := { w with h := h }) (st.ext s1) hi hts hs (.inl ⟨rfl, rfl, rfl, rfl⟩) fun _ _ _ _ st' a c _ => fin _ _ _ _ _ st' ((same_ext (st.s.h0.trans st.s.hb)).trans a) ((same_ext st.s.hb).trans c)
theorem sd_setRow2 {ts : TE} {s : Nat} {w : RowD} (hi : δ[i]? = some (.rows m po l)) (hte : Ev Θ false te δ d) (hts : Ev Θ false ts δ (.int s)) (hs : l[s]? = some w) :
    SD Θ F (tAsg te (gSub (tOp (rIx Θ.K) (tVar i) ts) (tC (.int 2)) rSetL)) δ (.nx (δ.set i (.rows m po (l.set s { w with ns := d })))) := fun σ H0 Hb H A st D fin => hte σ H0 Hb H A st.s _ fun v H1 s1 d1 =>
  row_store (w' := { w with ns := d }) (st.ext s1) hi hts hs (.inr ⟨rfl, d1, rfl, rfl⟩) fun _ _ _ _ st' a c _ => fin _ _ _ _ _ st' ((same_ext (st.s.h0.trans st.s.hb)).trans a) ((same_ext st.s.hb).trans c)
/-- xs[s][1], xs[s][2] = h, () -/
theorem sd_setRow12 {ts : TE} {s : Nat} {h : Str} {w : RowD} (hi : δ[i]? = some (.rows m po l)) (hts : Ev Θ false ts δ (.int s)) (hts2 : ∀ l', Ev Θ false ts (δ.set i (.rows m po l')) (.int s)) (hs : l[s]? = some w) :
    SD Θ F (tAsg (tTup (tCons (tC (.str h)) (tCons (tTup tNil) tNil))) (gTup Θ.K 2 (gCons (gSub (tOp (rIx Θ.K) (tVar i) ts) (tC (.int 1)) rSetL) (gCons (gSub (tOp (rIx Θ.K) (tVar i) ts) (tC (.int 2)) rSetL) gNil)))) δ
      (.nx ((δ.set i (.rows m po (l.set s { w with h := h }))).set i (.rows m po ((l.set s { w with h := h }).set s { w with h := h, ns := .tuple [] })))) := fun σ H0 Hb H A st D fin => by
  have hil : i < δ.length := (List.getElem?_eq_some_iff.mp hi).1
  have hsl : s < l.length := (List.getElem?_eq_some_iff.mp hs).1
  refine (show Ev Θ false (tTup (tCons (tC (.str h)) (tCons (tTup tNil) tNil))) δ (.tuple [.str h, .tuple []]) from ev_tup (ea_cons ev_str (ea_cons (ev_tup ea_nil (by decide)) ea_nil)) (by show 2 ≤ _; decide)) σ H0 Hb H A st.s _ fun v H1 s1 d1 => ?_
  have st1 := st.ext s1
  cases d1 with
  | @tup a vs _ hsq hall =>
  cases hall with
  | @cons v1 _ _ _ c1 c2 =>
  cases c2 with
  | @cons v2 _ _ _ c2 c3 =>
  cases c3
  cases c1
  refine ⟨a, _, rfl, Same.seqT (st1.s.h0.trans st1.s.hb) hsq, rfl, _, _, rfl, row_store (w' := { w with h := h }) st1 hi hts hs (.inl ⟨rfl, rfl, rfl, rfl⟩) fun H0a Hba Ha Aa sta a1 a2 a3 => ?_⟩
  refine ⟨_, _, rfl, row_store (w' := { w with h := h, ns := .tuple [] }) sta (List.getElem?_set_self hil) (hts2 _) (w := { w with h := h }) (List.getElem?_set_self hsl) (.inr ⟨rfl, c2.mono a1, rfl, rfl⟩) fun H0b Hbb Hb2 Ab stb b1 b2 b3 => ⟨rfl, ?_⟩⟩
  exact fin _ _ _ _ _ stb (((same_ext (st.s.h0.trans st.s.hb)).trans a1).trans b1) (((same_ext st.s.hb).trans a2).trans b2)
end
end Ask
-- AskRows2
set_option Elab.async false
set_option linter.all false
set_option maxRecDepth 100000
/-! rows, handed on -/
namespace Ask
open PySem PySem.Spec PyProof.Rows L2
section
variable {Θ : Th} {F : Frm} {δ δ1 δ' : List Sl} {σ : L2.St} {H0 Hb H H0' Hb' H' H1 H2 : Hp} {A : Nat → List Addr} {b b0 b1 b2 : Bool} {ta tb te tq tw : TE} {t u : TT} {tr : TA} {d d0 e x y : PyData} {ds es : List PyData} {i j k : Nat} {o : Out} {E : XK} {L L' : List Addr} {m : Bool} {po : Option (Addr × List Addr)} {l l' : List RowD}
theorem grow_delL (h0 : Same H0 Hb) (hb : Same Hb H) (e : Same H H') (n : ∀ a ∈ L, Hb a = none) : Grow H0 Hb H (delL (ext H0 H H') L) (delL (ext Hb H H') L) H' :=
  ⟨same_delL (same_ext (h0.trans hb)) (fun a ha => none_of_same h0 (n a ha)), same_delL (same_ext hb) n, delL_mono (ext_monoL h0), delL_same.trans (ext_same hb e), delL_same, delL_same⟩
/-- a slot is given up -/
theorem St.dropS (st : St Θ F δ σ H0 Hb H A) (hi : i < δ.length) : St Θ F (δ.set i .un) σ H0 Hb H (fun k => if k = i then [] else A k) where
  s := {
    h0 := st.s.h0
    hb := st.s.hb
    sl := fun k s hs => by
      by_cases e : k = i
      · subst e
        rw [List.getElem?_set_self hi] at hs
        cases hs
        cases q : δ[k]? with
        | none => rw [List.getElem?_eq_none_iff] at q; omega
        | some s =>
          obtain ⟨o, ho, _⟩ := st.s.sl k s q
          exact ⟨o, ho, if_pos rfl⟩
      · rw [List.getElem?_set_ne (Ne.symm e)] at hs
        obtain ⟨o, g1, g2⟩ := st.s.sl k s hs
        rw [if_neg e]
        exact ⟨o, g1, g2⟩
    out := fun k hk => by
      rw [List.getElem?_eq_none_iff, List.length_set] at hk
      have e : k ≠ i := by omega
      rw [if_neg e]
      exact st.s.out k (List.getElem?_eq_none_iff.mpr hk)
    dj := fun k l a g1 g2 => by
      by_cases e1 : k = i
      · rw [if_pos e1] at g1; cases g1
      · by_cases e2 : l = i
        · rw [if_pos e2] at g2; cases g2
        · rw [if_neg e1] at g1
          rw [if_neg e2] at g2
          exact st.s.dj k l a g1 g2
    len := by rw [List.length_set, st.s.len] }
  keep := st.keep
  there := st.there
  b0 := st.b0
  c0 := st.c0
  ac := st.ac
  m0 := st.m0
  fr := fun k s a hs ha => by
    by_cases e : k = i
    · rw [if_pos e] at ha; cases ha
    · rw [if_neg e] at ha
      rw [List.getElem?_set_ne (Ne.symm e)] at hs
      exact st.fr k s a hs ha
/-- a call that changes what nobody holds -/
theorem St.jump (st : St Θ F δ σ H0 Hb H A) (hL : ∀ a ∈ L, H a ≠ none ∧ Hb a = none ∧ (F.Hc a = none ∨ F.M a) ∧ ∀ k, a ∉ A k) (hk : ∀ a o, a ∉ L → H a = some o → H' a = some o) (hth : ∀ a, H a ≠ none → H' a ≠ none) (hL' : ∀ a ∈ L', H a = none ∨ a ∈ L) :
    St Θ F δ σ (delL (Ask.ext H0 H H') L') (delL (Ask.ext Hb H H') L') H' A ∧ Same H0 (delL (Ask.ext H0 H H') L') ∧ Same Hb (delL (Ask.ext Hb H H') L') ∧ ∀ a ∈ L', delL (Ask.ext Hb H H') L' a = none ∧ (F.Hc a = none ∨ F.M a) ∧ ∀ k, a ∉ A k := by
  have hb0 : ∀ a ∈ L', Hb a = none := fun a ha => (hL' a ha).elim (fun h => none_of_same st.s.hb h) fun h => (hL a h).2.1
  have s0 : Same H0 (delL (Ask.ext H0 H H') L') := same_delL (same_ext (st.s.h0.trans st.s.hb)) fun a ha => none_of_same st.s.h0 (hb0 a ha)
  have sb : Same Hb (delL (Ask.ext Hb H H') L') := same_delL (same_ext st.s.hb) hb0
  have inH' : ∀ z o, Hb z = some o → H' z = some o := fun z o e => hk z o (fun hz => by rw [(hL z hz).2.1] at e; cases e) (st.s.hb _ _ e)
  refine ⟨⟨⟨delL_mono (ext_monoL st.s.h0), fun z o e => ?_, fun k s hs => ?_, st.s.out, st.s.dj, st.s.len⟩, fun q o h1 h2 => ?_, fun q h => hth q (st.there q h), fun z o e => ?_, st.c0.trans s0, st.ac, st.m0, st.fr⟩, s0, sb, fun a ha => ⟨delL_in ha, ?_, fun k hk => ?_⟩⟩
  · obtain ⟨h1, e⟩ := delL_some e
    by_cases hz : H z = none
    · rw [ext_new hz] at e; exact e
    · rw [ext_old hz] at e; exact inH' _ _ e
  · obtain ⟨o, g1, g2⟩ := st.s.sl k s hs
    refine ⟨o, g1, g2.mono s0 sb fun a ha => ⟨fun w hw => hk a w (fun hz => (hL a hz).2.2.2 k ha) hw, fun hn => ?_⟩⟩
    by_cases h1 : a ∈ L'
    · exact delL_in h1
    · rw [delL_ne h1, ext_old (g2.there' ha)]; exact hn
  · refine hk q o (fun hz => ?_) (st.keep q o h1 h2)
    rcases (hL q hz).2.2.1 with h | h
    · rw [h] at h2; cases h2
    · exact h1 h
  · obtain ⟨h1, e⟩ := delL_some e
    by_cases hz : H z = none
    · rw [ext_new hz] at e
      rw [ext_new (st.newHc hz)]; exact e
    · rw [ext_old hz] at e
      have := st.b0 _ _ e
      by_cases hc : F.Hc z = none
      · rw [ext_new hc]
        exact inH' _ _ (st.s.h0 _ _ e)
      · rw [ext_old hc] at this ⊢
        exact this
  · rcases hL' a ha with h | h
    · exact .inl (st.newHc h)
    · exact (hL a h).2.2.1
  · rcases hL' a ha with h | h
    · exact st.notA h k hk
    · exact (hL a h).2.2.2 k hk
/-- name(.., rows, ..): the rows are changed -/
theorem sd_callRn {G : List RowD → List PyData → List RowD → Prop} (hi : δ[i]? = some (.rows m po l)) (ha : Ev Θ false ta δ d0) (hr : EvA Θ false tr δ ds) (hG : G l (d0 :: ds) l') :
    SD Θ F (tDrop (tCall (spRn Θ G) [] E (tCons ta (tCons (tVar i) tr)))) δ (.nx (δ.set i (.rows m po l'))) := fun σ H0 Hb H A st D fin => by
  obtain ⟨o, ho, p, as, hA, rfl, h2, h3, h4, h5⟩ := st.s.sl i _ hi
  refine ha σ H0 Hb H A st.s _ fun v0 H1 s1 d1 => ⟨_, ho, ?_⟩
  have st1 := st.ext s1
  refine hr σ _ _ H1 A st1.s _ fun us H2 s2 d2 => ?_
  have st2 := st1.ext s2
  rw [show bse false (ext H0 H H1) (ext Hb H H1) = ext H0 H H1 from rfl] at d2
  have hown : ∀ a ∈ p :: as, Hb a = none := fun a ha => by
    rcases List.mem_cons.mp ha with rfl | ha
    · exact h3
    · exact h4 a ha
  have hnone : ∀ {B : Hp}, Same B Hb → ∀ a ∈ p :: as, ext (ext B H H1) H1 H2 a = none := fun {B} sB a ha => by
    rw [ext_ext s1 s2, ext_old (h5.there a ha)]
    exact none_of_same sB (hown a ha)
  have h52 : RowsAt Θ (ext (ext H0 H H1) H1 H2) H2 p as l := h5.mono ((same_ext (st.s.h0.trans st.s.hb)).trans (same_ext (st1.s.h0.trans st1.s.hb))) fun a _ o e => s2 _ _ (s1 _ _ e)
  refine ⟨p, as, v0, us, ext (ext H0 H H1) H1 H2, d0 :: ds, l, l', by rw [List.append_nil], st2.s.h0.trans st2.s.hb, hnone st.s.h0, h52, .cons (d1.mono (same_ext (st1.s.h0.trans st1.s.hb))) d2, hG, fun H' hk hat2 => ?_⟩
  obtain ⟨Hm, eHm⟩ : ∃ Hm : Hp, Hm = fun z => if z ∈ p :: as then H2 z else H' z := ⟨_, rfl⟩
  have hin : ∀ z, z ∈ p :: as → Hm z = H2 z := fun z hz => by rw [eHm]; exact if_pos hz
  have hout : ∀ z, z ∉ p :: as → Hm z = H' z := fun z hz => by rw [eHm]; exact if_neg hz
  have sm : Same H2 Hm := fun z o hz => by
    by_cases e : z ∈ p :: as
    · rw [hin z e]; exact hz
    · rw [hout z e]; exact hk z o e hz
  have eqm : ∀ B : Hp, Ask.ext B H2 Hm = Ask.ext B H2 H' := fun B => by
    funext z
    by_cases hz : H2 z = none
    · rw [ext_new hz, ext_new hz]
      exact hout z fun hm => h52.there z hm hz
    · rw [ext_old hz, ext_old hz]
  have st3 := st2.ext sm
  rw [eqm, eqm] at st3
  have fin2 := st3.mutS (s' := .rows m po l') hi (H' := H') (fun z hz => (hout z (by rw [← hA]; exact hz)).symm) ho
    ⟨p, as, hA, rfl, h2, by rw [ext_old (h52.there p (by simp))]; exact hnone (Same.refl _) p (by simp), fun c hc => by rw [ext_old (h52.there c (List.mem_cons_of_mem _ hc))]; exact hnone (Same.refl _) c (List.mem_cons_of_mem _ hc), hat2⟩
    (fun c hc => by have z := st.fr i _ c hi hc; cases m <;> exact z) fun c hc => fr_rows st hi hc
  exact fin _ _ _ _ _ fin2 (((same_ext (st.s.h0.trans st.s.hb)).trans (same_ext (st1.s.h0.trans st1.s.hb))).trans (same_ext (st2.s.h0.trans st2.s.hb))) (((same_ext st.s.hb).trans (same_ext st1.s.hb)).trans (same_ext st2.s.hb))
variable (Θ) in
/-- rows out of slot i's, in a list -/
def EvQ (t : TE) (δ : List Sl) (i : Nat) (l2 : List RowD) : Prop := ∀ σ H0 Hb H A, St0 Θ δ σ H0 Hb H A → ∀ Q : VK, (∀ p as H', Same H H' → (∀ a ∈ p :: as, H a = none ∨ a ∈ A i) → RowsAt Θ (delL (ext H0 H H') (p :: as)) H' p as l2 → Q (.ref p) H') → t σ H Q
theorem own_none (st : St0 Θ δ σ H0 Hb H A) {a : Addr} (ha : a ∈ A i) (e : Same H H') : ext H0 H H' a = none := by
  rw [ext_old (st.at ha).1]
  exact none_of_same st.h0 (st.at ha).2
theorem eq_var (hi : δ[i]? = some (.rows m po l)) : EvQ Θ (tVar i) δ i l := fun σ H0 Hb H A st Q q => by
  obtain ⟨o, ho, p, as, hA, rfl, h2, h3, h4, h5⟩ := st.sl i _ hi
  refine ⟨_, ho, q p as H (Same.refl _) (fun a ha => .inr (by rw [hA]; exact ha)) (h5.mono (same_delL (same_ext (st.h0.trans st.hb)) fun a ha => ?_) fun _ _ _ e => e)⟩
  exact none_of_same st.h0 ((st.at (i := i) (by rw [hA]; exact ha)).2)
variable (Θ) in
/-- slot i's rows go into those that are given back -/
def EvW (F : Frm) (t : TE) (δ : List Sl) (i : Nat) (l2 : List RowD) : Prop := ∀ σ H0 Hb H A, St Θ F δ σ H0 Hb H A → ∀ Q : VK, (∀ p as H0' Hb' H' A', St Θ F (δ.set i .un) σ H0' Hb' H' A' → Same H0 H0' → Same Hb Hb' → RowsAt Θ H0' H' p as l2 → (∀ a ∈ p :: as, Hb' a = none ∧ (F.Hc a = none ∨ F.M a) ∧ ∀ k, a ∉ A' k) → Q (.ref p) H') → t σ H Q
theorem EvQ.state (st : St Θ F δ σ H0 Hb H A) (hi : δ[i]? = some (.rows m po l)) {p : Addr} {as : List Addr} (s : Same H H') (hn : ∀ a ∈ p :: as, H a = none ∨ a ∈ A i) : St Θ F δ σ (delL (ext H0 H H') (p :: as)) (delL (ext Hb H H') (p :: as)) H' A ∧ ∀ a ∈ p :: as, (F.Hc a = none ∨ F.M a) ∧ ∀ k, k ≠ i → a ∉ A k := by
  refine ⟨st.grow s (grow_delL st.s.h0 st.s.hb s fun a ha => (hn a ha).elim (fun h => none_of_same st.s.hb h) fun h => (st.s.at h).2), fun a ha => ?_⟩
  rcases hn a ha with h | h
  · exact ⟨.inl (st.newHc h), fun k _ => st.notA h k⟩
  · exact ⟨fr_rows st hi h, fun k hk hA => hk (st.s.dj k i a hA h)⟩
theorem ew_of (hi : δ[i]? = some (.rows m po l)) (h : EvQ Θ tq δ i l') : EvW Θ F tq δ i l' := fun σ H0 Hb H A st Q q => h σ H0 Hb H A st.s Q fun p as H' s' hn hat => by
  have hil : i < δ.length := (List.getElem?_eq_some_iff.mp hi).1
  obtain ⟨st', ho⟩ := EvQ.state st hi s' hn
  refine q p as _ _ H' _ (st'.dropS hil) ?_ ?_ hat fun a ha => ⟨delL_in ha, (ho a ha).1, fun k hk => ?_⟩
  · exact same_delL (same_ext (st.s.h0.trans st.s.hb)) fun a ha => (hn a ha).elim (fun h => none_of_same (st.s.h0.trans st.s.hb) h) fun h => none_of_same st.s.h0 (st.s.at h).2
  · exact same_delL (same_ext st.s.hb) fun a ha => (hn a ha).elim (fun h => none_of_same st.s.hb h) fun h => (st.s.at h).2
  · have hk : a ∈ (if k = i then [] else A k) := hk
    by_cases e : k = i
    · rw [if_pos e] at hk; cases hk
    · rw [if_neg e] at hk; exact (ho a ha).2 k e hk
theorem pre_call (hi : δ[i]? = some (.rows m po l)) (ha : Ev Θ false ta δ d0) (hq : EvQ Θ tq δ i l1) (hr : EvA Θ false tr δ ds) (st : St Θ F δ σ H0 Hb H A) {Q : List V → Hp → Prop}
    (q : ∀ vr p as us H3 H0x Hbx A', St Θ F (δ.set i .un) σ H0x Hbx H3 A' → Same H0 H0x → Same Hb Hbx → RowsAt Θ H0x H3 p as l1 → DpAll Θ.K H0x (vr :: us) (d0 :: ds) → (∀ a ∈ p :: as, H0x a = none) → (∀ a ∈ p :: as, H3 a ≠ none ∧ Hbx a = none ∧ (F.Hc a = none ∨ F.M a) ∧ ∀ k, a ∉ A' k) → Q (vr :: .ref p :: us) H3) : tCons ta (tCons tq tr) σ H Q := by
  have hil : i < δ.length := (List.getElem?_eq_some_iff.mp hi).1
  refine ha σ H0 Hb H A st.s _ fun v0 H1 s1 d1 => ?_
  have st1 := st.ext s1
  refine hq σ _ _ H1 A st1.s _ fun p as H2 s2 hn hat => ?_
  obtain ⟨st2, ho⟩ := EvQ.state st1 hi s2 hn
  refine hr σ _ _ H2 A st2.s _ fun us H3 s3 d3 => ?_
  have st3 := st2.ext s3
  have n2 : ∀ a ∈ p :: as, H2 a ≠ none := hat.there
  have nb : ∀ a ∈ p :: as, (ext Hb H H1) a = none := fun a ha => (hn a ha).elim (fun h => none_of_same st1.s.hb h) fun h => (st1.s.at h).2
  have n0 : ∀ a ∈ p :: as, (ext H0 H H1) a = none := fun a ha => none_of_same st1.s.h0 (nb a ha)
  have up0 : Same (ext H0 H H1) (delL (ext (ext H0 H H1) H1 H2) (p :: as)) := same_delL (same_ext (st1.s.h0.trans st1.s.hb)) n0
  have up1 := up0.trans (same_ext (H1 := H3) (st2.s.h0.trans st2.s.hb))
  refine q v0 p as us H3 _ _ _ (st3.dropS hil) ((same_ext (st.s.h0.trans st.s.hb)).trans up1) ?_ (hat.mono (same_ext (st2.s.h0.trans st2.s.hb)) fun a _ o e => s3 _ _ e) (.cons (d1.mono up1) d3) (fun a ha => ?_) fun a ha => ⟨?_, ?_, (ho a ha).1, fun k hk => ?_⟩
  · exact ((same_ext st.s.hb).trans (same_delL (same_ext st1.s.hb) nb)).trans (same_ext st2.s.hb)
  · rw [ext_old (n2 a ha), delL_in ha]
  · intro e
    cases q2 : H2 a with
    | none => exact n2 a ha q2
    | some o => rw [s3 _ _ q2] at e; cases e
  · rw [ext_old (n2 a ha), delL_in ha]
  · have hk : a ∈ (if k = i then [] else A k) := hk
    by_cases e : k = i
    · rw [if_pos e] at hk; cases hk
    · rw [if_neg e] at hk; exact (ho a ha).2 k e hk
theorem ew_call {G : List RowD → List PyData → List RowD → Prop} {l1 : List RowD} (hi : δ[i]? = some (.rows m po l)) (ha : Ev Θ false ta δ d0) (hq : EvQ Θ tq δ i l1) (hr : EvA Θ false tr δ ds) (hG : G l1 (d0 :: ds) l') : EvW Θ F (tCall (spRw Θ G) [] E (tCons ta (tCons tq tr))) δ i l' := fun σ H0 Hb H A st Q q =>
  pre_call hi ha hq hr st fun vr p as us H3 H0x Hbx A' st3 u0 ub hat hd n0 hL => ⟨p, as, vr, us, H0x, d0 :: ds, l1, l', by rw [List.append_nil], st3.s.h0.trans st3.s.hb, n0, hat, hd, hG, fun p' as' H' hk hth hn hat' => by
    obtain ⟨st4, v0, vb, ho⟩ := st3.jump hL hk hth hn
    exact q p' as' _ _ H' _ st4 (u0.trans v0) (ub.trans vb) hat' ho⟩
/-- a slot that may hold what was handed in -/
theorem St.putR (st : St Θ F δ σ H0 Hb H A) {p : Addr} {as : List Addr} (hk : k < δ.length) (hat : RowsAt Θ H0 H p as l) (ho : ∀ a ∈ p :: as, Hb a = none ∧ (F.Hc a = none ∨ F.M a) ∧ ∀ k, a ∉ A k) (hm : m = false → ∀ a, ¬ F.M a) :
    St Θ F (δ.set k (.rows m none l)) (σ.set k (some (.ref p))) H0 Hb H (fun j => if j = k then p :: as else A j) where
  s := {
    h0 := st.s.h0
    hb := st.s.hb
    sl := fun j u hu => by
      by_cases e : j = k
      · subst e
        rw [List.getElem?_set_self hk] at hu
        cases hu
        exact ⟨_, List.getElem?_set_self (by rw [← st.s.len]; exact hk), p, as, if_pos rfl, rfl, fun x hx => (by cases hx), (ho p (by simp)).1, fun a ha => (ho a (List.mem_cons_of_mem _ ha)).1, hat⟩
      · rw [List.getElem?_set_ne (Ne.symm e)] at hu
        obtain ⟨o', ho, h⟩ := st.s.sl j u hu
        exact ⟨o', by rw [List.getElem?_set_ne (Ne.symm e)]; exact ho, by rw [if_neg e]; exact h⟩
    out := fun j hj => by
      rw [List.getElem?_eq_none_iff, List.length_set] at hj
      have e : j ≠ k := by omega
      rw [if_neg e]
      exact st.s.out j (List.getElem?_eq_none_iff.mpr hj)
    dj := fun j l a h1 h2 => by
      by_cases e : j = k
      · by_cases e2 : l = k
        · rw [e, e2]
        · rw [if_pos e] at h1
          rw [if_neg e2] at h2
          exact absurd h2 ((ho a h1).2.2 l)
      · rw [if_neg e] at h1
        by_cases e2 : l = k
        · rw [if_pos e2] at h2
          exact absurd h1 ((ho a h2).2.2 j)
        · rw [if_neg e2] at h2
          exact st.s.dj j l a h1 h2
    len := by rw [List.length_set, List.length_set, st.s.len] }
  keep := st.keep
  there := st.there
  b0 := st.b0
  c0 := st.c0
  ac := st.ac
  m0 := st.m0
  fr := fun j u a hu ha => by
    by_cases e : j = k
    · subst e
      rw [List.getElem?_set_self hk] at hu
      cases hu
      rw [if_pos rfl] at ha
      cases m with
      | true => exact (ho a ha).2.1
      | false => exact (ho a ha).2.1.resolve_right (hm rfl a)
    · rw [List.getElem?_set_ne (Ne.symm e)] at hu
      rw [if_neg e] at ha
      exact st.fr j u a hu ha
theorem sd_asgW (h : EvW Θ F tw δ i l') (hk : Nat.blt k δ.length = true := by rfl) (hm : m = false → ∀ a, ¬ F.M a) : SD Θ F (tAsg tw (gName k)) δ (.nx ((δ.set i .un).set k (.rows m none l'))) := fun σ H0 Hb H A st D fin => h σ H0 Hb H A st _ fun p as H0' Hb' H' A' st' s0 sb hat ho =>
  fin _ _ _ _ _ (st'.putR (by rw [List.length_set]; exact Nat.blt_eq.mp hk) hat ho hm) s0 sb
/-- rows, e = f(rows ..), e2 -/
theorem sd_parW {s2 : Sl} (h : EvW Θ F tw δ i l') (h2 : EvS Θ tb (δ.set i .un) s2) (hk' : Nat.blt k δ.length = true := by rfl) (hj' : Nat.blt j δ.length = true := by rfl) (hkj : k ≠ j := by decide) (n2 : parS s2 = false := by rfl) (hm : m = false → ∀ a, ¬ F.M a) :
    SD Θ F (tPar k j (tCons tw (tCons tb tNil))) δ (.nx (((δ.set i .un).set k (.rows m none l')).set j s2)) := fun σ H0 Hb H A st D fin => h σ H0 Hb H A st _ fun p as H01 Hb1 H1 A1 st1 a0 ab hat ho => h2 σ H01 Hb1 H1 A1 st1.s _ fun u H2 H02 Hb2 L2 e2 g2 hs2 hn2 => by
    have hk := Nat.blt_eq.mp hk'
    have hj := Nat.blt_eq.mp hj'
    have st2 := st1.grow e2 g2
    have hat2 : RowsAt Θ H02 H2 p as l' := hat.mono g2.s0 fun a _ o e => e2 _ _ e
    have ho2 : ∀ a ∈ p :: as, Hb2 a = none ∧ (F.Hc a = none ∨ F.M a) ∧ ∀ k, a ∉ A1 k := fun a ha => ⟨g2.keeps (hat.there a ha) (ho a ha).1, (ho a ha).2⟩
    have st3 := st2.putR (m := m) (k := k) (by rw [List.length_set]; exact hk) hat2 ho2 hm
    refine ⟨_, _, rfl, fin _ _ _ _ _ (st3.put (by rw [List.length_set, List.length_set]; exact hj) hs2 (fun a ha => ⟨st1.newHc (hn2 a ha), fun q hq => ?_⟩) n2) (a0.trans g2.s0) (ab.trans g2.sb)⟩
    show a ∉ (if q = k then p :: as else A1 q)
    by_cases e : q = k
    · rw [if_pos e]
      exact fun ha' => absurd (hn2 a ha) (hat.there a ha')
    · rw [if_neg e]
      exact st1.notA (hn2 a ha) q
/-- rows, n = f(rows ..), that gives a tuple -/
theorem sd_callRb {G : List RowD → List PyData → List RowD → Int → Prop} {l1 : List RowD} {n : Int} {s : Sl} (hi : δ[i]? = some (.rows m po l)) (ha : Ev Θ false ta δ d0) (hq : EvQ Θ tq δ i l1) (hr : EvA Θ false tr δ ds) (hG : G l1 (d0 :: ds) l' n) (hk' : Nat.blt k δ.length = true := by rfl) (hj : ((δ.set i .un).set k (.rows m none l'))[j]? = some s) (fj : freeS s = true) (hm : m = false → ∀ a, ¬ F.M a) :
    SD Θ F (tAsg (tCall (spRb Θ G) [] E (tCons ta (tCons tq tr))) (gTup Θ.K 2 (gCons (gName k) (gCons (gName j) gNil)))) δ (.nx (((δ.set i .un).set k (.rows m none l')).set j (.dat (.int n)))) := fun σ H0 Hb H A st D fin =>
  pre_call (Q := fun vs H1 => spRb Θ G (vs ++ []) H1 (fun v H2 => gTup Θ.K 2 (gCons (gName k) (gCons (gName j) gNil)) v σ H2 D.nx) E) hi ha hq hr st fun vr p as us H3 H0x Hbx A' st3 u0 ub hat hd n0 hL => ⟨p, as, vr, us, H0x, d0 :: ds, l1, l', n, by rw [List.append_nil], st3.s.h0.trans st3.s.hb, n0, hat, hd, hG, fun T p' as' H' hk hth hn hat' hT => by
    obtain ⟨st4, v0, vb, ho⟩ := st3.jump hL hk hth hn
    have st5 := st4.putR (m := m) (k := k) (by rw [List.length_set]; exact Nat.blt_eq.mp hk') hat' ho hm
    refine ⟨T, _, rfl, SqT.of hT, rfl, _, _, rfl, _, _, rfl, rfl, ?_⟩
    have hjl : j < ((δ.set i .un).set k (.rows m none l')).length := (List.getElem?_eq_some_iff.mp hj).1
    have st6 := st5.put (i := j) (s := .dat (.int n)) (o := some (.int n)) (L := []) hjl ⟨rfl, _, rfl, .int n⟩ (fun a ha => by cases ha) rfl
    exact fin _ _ _ _ _ st6 (u0.trans v0) (ub.trans vb)⟩
end
end Ask
-- AskRows3
set_option Elab.async false
set_option linter.all false
set_option maxRecDepth 100000
/-! rows: new ones, some of them; promises from bodies -/
namespace Ask
open PySem PySem.Spec PyProof.Rows L2
section
variable {Θ : Th} {F : Frm} {δ δ1 δ' : List Sl} {σ : L2.St} {H0 Hb H H0' Hb' H' H1 H2 : Hp} {A : Nat → List Addr} {b b0 b1 b2 : Bool} {ta tb te tq tw : TE} {t u : TS} {tt c : TT} {tr : TA} {d d0 e x y : PyData} {ds es : List PyData} {i j k : Nat} {o : Out} {E : XK} {L L' : List Addr} {m : Bool} {po : Option (Addr × List Addr)} {l l' : List RowD} {P : List Sl → Prop}
/-! ### a new list of new rows -/
theorem each_snoc {as : List Addr} {a : Addr} {w : RowD} (h : Paired (RowAt Θ H0 H) as l) (ha : RowAt Θ H0 H a w) : Paired (RowAt Θ H0 H) (as ++ [a]) (l ++ [w]) := by
  induction h with
  | nil => exact .cons ha .nil
  | cons h1 h2 ih => exact .cons h1 ih
theorem each_len {as : List Addr} (h : Paired (RowAt Θ H0 H) as l) : as.length = l.length := by
  induction h with
  | nil => rfl
  | cons h1 h2 ih => rw [List.length_cons, List.length_cons, ih]
theorem es_lcRows {α : Type} {l : List α} {enc : α → PyData} (p : α → Bool) (g : α → RowD) {wi : TI} {gt : TG} {vs T : List Nat} (hs : EvI Θ b0 wi δ (l.map enc)) (hl : l.length ≤ 100000)
    (hb : ∀ r ∈ l, ∃ δ1, Bd Θ b0 gt (enc r) (wipeD δ vs) δ1 T ∧ EvT Θ tt δ1 (p r) ∧ (p r = true → EvL Θ false te δ1 [.int (g r).p, .str (g r).h, (g r).ns])) (hf : frees δ vs = true := by rfl) (hT : ∀ i ∈ T, i ∈ vs := by decide) :
    EvS Θ (tLc wi gt tt te vs) δ (.rows false none ((l.filter p).map g)) := by
  intro σ H0 Hb H A st Q q
  refine hs σ H0 Hb H A st _ fun J H1 s1 Y => fun D hD => ?_
  have hDH : H D = none := s1.free hD
  -- behind i turns: the new rows
  let Pv : Nat → Hp → Prop := fun i Hi => Same H1 Hi ∧ ∃ as, Hi D = some (.lst (as.map .ref)) ∧ (∀ a ∈ as, H1 a = none) ∧ as.Nodup ∧ D ∉ as ∧ Paired (RowAt Θ (delL (ext H0 H Hi) (D :: as)) Hi) as (((l.take i).filter p).map g)
  have sB : Same (bse b0 H0 Hb) H := (bse_le st.h0).trans st.hb
  have sS : Same (ext (bse b0 H0 Hb) H H1) H1 := ext_same sB s1
  refine ⟨fun i m Hi => m = l.length - i ∧ i ≤ l.length ∧ Pv i Hi, ⟨l.length, by simp, Nat.zero_le _, same_new hD, [], upd_same, fun a ha => (by cases ha), .nil, by simp, by simp only [List.take_zero, List.filter_nil, List.map_nil]; exact .nil⟩, ?_⟩
  rintro i m Hi ⟨rfl, hi, sHi, as, hacc, hfr, hnd, hDas, hdp⟩
  have sHHi : Same H Hi := s1.trans sHi
  have hall1 : ∀ a ∈ D :: as, H1 a = none := fun a ha => by
    rcases List.mem_cons.mp ha with rfl | ha
    · exact hD
    · exact hfr a ha
  have hall : ∀ a ∈ D :: as, H a = none := fun a ha => s1.free (hall1 a ha)
  have hasHi : ∀ a ∈ D :: as, Hi a ≠ none := fun a ha => by
    rcases List.mem_cons.mp ha with rfl | ha
    · exact not_none hacc
    · exact each_there hdp a ha
  by_cases hlt : i < l.length
  · refine .inr ⟨Y.go i Hi (sS.trans sHi) (by rw [List.length_map]; exact hlt), Pv (i + 1), fun H' p' => ⟨l.length - (i + 1), by omega, rfl, hlt, p'⟩, fun x H2 y => ?_⟩
    have hget : (l.map enc)[i]? = some (enc l[i]) := by rw [List.getElem?_map, List.getElem?_eq_getElem hlt]; rfl
    obtain ⟨s2, dx⟩ := Y.yld i Hi x H2 (enc l[i]) (sS.trans sHi) hget y
    obtain ⟨δ1, hB, hC, hE⟩ := hb l[i] (List.getElem_mem hlt)
    have sH2 : Same H H2 := sHHi.trans s2
    have st2 := (st.grow sH2 (grow_delL (L := D :: as) st.h0 st.hb sH2 fun a ha => none_of_same st.hb (hall a ha))).wipe (frees_of hf) (ws := vs) fun _ h => h
    have bdel : bse b0 (delL (ext H0 H H2) (D :: as)) (delL (ext Hb H H2) (D :: as)) = delL (ext (bse b0 H0 Hb) H H2) (D :: as) := by cases b0 <;> rfl
    have dx2 : Dp Θ.K (bse b0 (delL (ext H0 H H2) (D :: as)) (delL (ext Hb H H2) (D :: as))) x (enc l[i]) := by
      rw [bdel]
      refine dx.mono fun z o e => ?_
      by_cases hz : Hi z = none
      · rw [ext_new hz] at e
        have hzD : z ∉ D :: as := fun hm => hasHi z hm hz
        rw [delL_ne hzD, ext_new (sHHi.free hz)]
        exact e
      · rw [ext_old hz] at e
        have hzD : z ∉ D :: as := fun hm => by
          rw [ext_new (hall z hm), hall1 z hm] at e
          cases e
        rw [delL_ne hzD]
        by_cases hz2 : H z = none
        · rw [ext_new hz2] at e ⊢
          exact s2 _ _ (sHi _ _ e)
        · rw [ext_old hz2] at e ⊢
          exact e
    refine hB.2 x _ _ _ _ _ st2 dx2 _ fun σ1 st3 hw => ⟨by rw [hw vs hT, wipe_wipe σ fun _ h => h], ?_⟩
    refine hC σ1 _ _ H2 A st3 _ fun H3 s3 => ?_
    have take1 : l.take (i + 1) = l.take i ++ [l[i]] := by rw [List.take_add_one, List.getElem?_eq_getElem hlt]; rfl
    cases hp : p l[i] with
    | false =>
      rw [if_neg Bool.false_ne_true]
      refine ⟨(sHi.trans s2).trans s3, as, s3 _ _ (s2 _ _ hacc), hfr, hnd, hDas, ?_⟩
      have e : ((l.take (i + 1)).filter p).map g = ((l.take i).filter p).map g := by rw [take1, List.filter_append, List.filter_cons, hp, if_neg Bool.false_ne_true, List.filter_nil, List.append_nil]
      rw [e]
      exact each_mono hdp (delL_mono (ext_monoR (s2.trans s3))) fun a _ o e => s3 _ _ (s2 _ _ e)
    | true =>
      rw [if_pos rfl]
      refine hE hp σ1 _ _ H3 A (st3.ext s3) _ fun pr vs' H4 s4 np hp4 hd4 => ?_
      have e : ((l.take (i + 1)).filter p).map g = ((l.take i).filter p).map g ++ [g l[i]] := by
        rw [take1, List.filter_append, List.filter_cons, hp, if_pos rfl, List.filter_nil, List.map_append]
        rfl
      have hD4 : H4 D = some (.lst (as.map .ref)) := s4 _ _ (s3 _ _ (s2 _ _ hacc))
      have s24 : Same Hi H4 := (s2.trans s3).trans s4
      have npi : Hi pr = none := (s2.trans s3).free np
      have hprD : pr ≠ D := fun e => by rw [e] at npi; exact hasHi D (by simp) npi
      have hpras : pr ∉ as := fun hm => hasHi pr (List.mem_cons_of_mem _ hm) npi
      refine ⟨as.map .ref, hD4, ?_, fun z o ez => ?_, as ++ [pr], ?_, ?_, ?_, ?_, ?_⟩
      · rw [List.length_map, each_len hdp, List.length_map]
        have h1 := List.length_filter_le p (l.take i)
        rw [List.length_take] at h1
        exact szlt (by omega)
      · rw [upd_ne (ne_of_none ez hD)]; exact s24 _ _ (sHi _ _ ez)
      · rw [upd_same, List.map_append]; rfl
      · intro a ha
        rcases List.mem_append.mp ha with ha | ha
        · exact hfr a ha
        · rw [List.mem_singleton.mp ha]; exact sHi.free npi
      · rw [List.nodup_append]
        refine ⟨hnd, by simp, fun a ha c hc => ?_⟩
        rw [List.mem_singleton.mp hc]
        exact fun e' => hpras (e' ▸ ha)
      · intro hm
        rcases List.mem_append.mp hm with hm | hm
        · exact hDas hm
        · exact hprD (List.mem_singleton.mp hm).symm
      · rw [e]
        have hL : ∀ z, z ∈ D :: (as ++ [pr]) → z ∈ D :: as ∨ z = pr := fun z hz => by
          rcases List.mem_cons.mp hz with rfl | hz
          · exact .inl (by simp)
          · rcases List.mem_append.mp hz with hz | hz
            · exact .inl (List.mem_cons_of_mem _ hz)
            · exact .inr (List.mem_singleton.mp hz)
        have upB : Same (delL (ext H0 H Hi) (D :: as)) (delL (ext H0 H (upd H4 D (.lst (as.map V.ref ++ [V.ref pr])))) (D :: (as ++ [pr]))) := fun z o ez => by
          obtain ⟨h1, ez⟩ := delL_some ez
          have hzp : z ≠ pr := fun e' => by
            rw [e', ext_new (s1.free (sHi.free npi)), npi] at ez
            cases ez
          have hzL : z ∉ D :: (as ++ [pr]) := fun hz => (hL z hz).elim h1 hzp
          have hzD : z ≠ D := fun e' => h1 (by rw [e']; simp)
          rw [delL_ne hzL]
          by_cases hz : H z = none
          · rw [ext_new hz] at ez ⊢
            rw [upd_ne hzD]
            exact s24 _ _ ez
          · rw [ext_old hz] at ez ⊢
            exact ez
        refine each_snoc (each_mono hdp upB fun a ha o ez => ?_) ?_
        · rw [upd_ne fun e' => hDas (by rw [← e']; exact ha)]
          exact s24 _ _ ez
        · cases hd4 with
          | cons c1 hd4 =>
          cases hd4 with
          | cons c2 hd4 =>
          cases hd4 with
          | @cons vt _ _ _ c3 hd4 =>
          cases hd4
          cases c1
          cases c2
          refine ⟨vt, by rw [upd_ne hprD]; exact hp4, c3.mono fun z o ez => ?_⟩
          have hzp : z ≠ pr := fun e' => by rw [e', del_at] at ez; cases ez
          rw [del_ne hzp] at ez
          rw [show bse false (ext (delL (ext H0 H H2) (D :: as)) H2 H3) (ext (delL (ext Hb H H2) (D :: as)) H2 H3) = ext (delL (ext H0 H H2) (D :: as)) H2 H3 from rfl, ext_ext s3 s4] at ez
          by_cases hz2 : H2 z = none
          · rw [ext_new hz2] at ez
            have hzi := s2.free hz2
            have hzL0 : z ∉ D :: as := fun hm => hasHi z hm hzi
            have hzL : z ∉ D :: (as ++ [pr]) := fun hz => (hL z hz).elim hzL0 hzp
            have hzD : z ≠ D := fun e' => hzL0 (by rw [e']; simp)
            rw [delL_ne hzL, ext_new (sHHi.free hzi), upd_ne hzD]
            exact ez
          · rw [ext_old hz2] at ez
            obtain ⟨h1, ez⟩ := delL_some ez
            have hzL : z ∉ D :: (as ++ [pr]) := fun hz => (hL z hz).elim h1 hzp
            have hzD : z ≠ D := fun e' => h1 (by rw [e']; simp)
            rw [delL_ne hzL]
            by_cases hz : H z = none
            · rw [ext_new hz] at ez ⊢
              rw [upd_ne hzD]
              exact s4 _ _ (s3 _ _ ez)
            · rw [ext_old hz] at ez ⊢
              exact ez
  · have e : i = l.length := by omega
    subst e
    have hstop := Y.stop Hi (sS.trans sHi)
    rw [List.length_map] at hstop
    rw [List.take_length] at hdp
    refine .inl ⟨hstop, q (.ref D) Hi _ _ (D :: as) sHHi (grow_delL st.h0 st.hb sHHi fun a ha => none_of_same st.hb (hall a ha)) ⟨D, as, rfl, rfl, fun x hx => (by cases hx), delL_in (by simp), fun a ha => delL_in (List.mem_cons_of_mem _ ha), ⟨hacc, hdp, hnd, hDas⟩⟩ hall⟩
end
end Ask
-- AskRows4
set_option Elab.async false
set_option linter.all false
set_option maxRecDepth 100000
/-! some of the rows; rows that stay; promises from bodies -/
namespace Ask
open PySem PySem.Spec PyProof.Rows L2
section
variable {Θ : Th} {F : Frm} {δ δ1 δ' : List Sl} {σ : L2.St} {H0 Hb H H0' Hb' H' H1 H2 : Hp} {A : Nat → List Addr} {b b0 b1 b2 : Bool} {ta tb te tq tw : TE} {t u : TS} {tt c : TT} {tr : TA} {d d0 e x y : PyData} {ds es : List PyData} {i j k : Nat} {o : Out} {E : XK} {L L' : List Addr} {m : Bool} {po : Option (Addr × List Addr)} {l l' : List RowD} {P : List Sl → Prop}
theorem each_at {as : List Addr} (h : Paired (RowAt Θ H0 H) as l) {s : Nat} {a : Addr} (ha : as[s]? = some a) : ∃ w, l[s]? = some w ∧ RowAt Θ H0 H a w := by
  induction h generalizing s with
  | nil => simp at ha
  | @cons c r cs rs h1 h2 ih =>
    cases s with
    | zero =>
      obtain rfl : c = a := by simpa using ha
      exact ⟨r, rfl, h1⟩
    | succ s => exact ih (s := s) (by simpa using ha)
theorem each_take {as : List Addr} (h : Paired (RowAt Θ H0 H) as l) : ∀ n, Paired (RowAt Θ H0 H) (as.take n) (l.take n) := by
  induction h with
  | nil => intro n; rw [List.take_nil, List.take_nil]; exact .nil
  | cons h1 h2 ih =>
    intro n
    cases n with
    | zero => exact .nil
    | succ n => exact .cons h1 (ih n)
theorem each_drop {as : List Addr} (h : Paired (RowAt Θ H0 H) as l) : ∀ n, Paired (RowAt Θ H0 H) (as.drop n) (l.drop n) := by
  induction h with
  | nil => intro n; rw [List.drop_nil, List.drop_nil]; exact .nil
  | cons h1 h2 ih =>
    intro n
    cases n with
    | zero => exact .cons h1 h2
    | succ n => exact ih n
theorem each_app {as cs : List Addr} (h : Paired (RowAt Θ H0 H) as l) (h' : Paired (RowAt Θ H0 H) cs l') : Paired (RowAt Θ H0 H) (as ++ cs) (l ++ l') := by
  induction h with
  | nil => exact h'
  | cons h1 h2 ih => exact .cons h1 ih
/-- the addresses of those that p picks -/
def pick (p : RowD → Bool) : List Addr → List RowD → List Addr
  | a :: as, w :: l => if p w then a :: pick p as l else pick p as l
  | _, _ => []
theorem pick_sub (p : RowD → Bool) : ∀ (as : List Addr) (l : List RowD), (pick p as l).Sublist as
  | [], _ => by unfold pick; exact List.nil_sublist _
  | a :: as, [] => by unfold pick; exact List.nil_sublist _
  | a :: as, w :: l => by
    unfold pick
    split
    · exact (pick_sub p as l).cons_cons a
    · exact (pick_sub p as l).cons a
theorem pick_each {as : List Addr} (h : Paired (RowAt Θ H0 H) as l) (p : RowD → Bool) : Paired (RowAt Θ H0 H) (pick p as l) (l.filter p) := by
  induction h with
  | nil => exact .nil
  | @cons a w as l h1 h2 ih =>
    unfold pick
    rw [List.filter_cons]
    split
    · exact .cons h1 ih
    · exact ih
theorem pick_snoc (p : RowD → Bool) : ∀ (as : List Addr) (l : List RowD) (a : Addr) (w : RowD), as.length = l.length → pick p (as ++ [a]) (l ++ [w]) = pick p as l ++ if p w then [a] else []
  | [], [], a, w, _ => by
    show pick p [a] [w] = _
    unfold pick
    split
    · simp [pick]
    · simp [pick]
  | b :: as, v :: l, a, w, h => by
    show pick p (b :: (as ++ [a])) (v :: (l ++ [w])) = _
    unfold pick
    rw [pick_snoc p as l a w (by simpa using h)]
    split <;> simp
/-- [row for row in rows if ..] -/
theorem eq_filter {s : Sl} (hi : δ[i]? = some (.rows m po l)) (p : RowD → Bool) (hj : (δ.set i (.brw (dRowsD l)))[j]? = some s) (fj : freeS s = true) (hl : l.length ≤ 100000) (hb : ∀ w ∈ l, EvT Θ tt ((δ.set i (.brw (dRowsD l))).set j (.brw (dRowD w))) (p w)) :
    EvQ Θ (tLc (iList Θ.K (tVar i)) (gName j) tt (tVar j) [j]) δ i (l.filter p) := by
  intro σ H0 Hb H A st Q q
  obtain ⟨o, ho, pp, as, hA, rfl, h2, h3, h4, h5⟩ := st.sl i _ hi
  obtain ⟨Hb2, A2, stB, sbb, hin⟩ := st.bor hi
  refine ⟨_, ho, pp, rfl, ⟨_, SqL.of h5.lst⟩, fun D hD => ?_⟩
  have hal := each_len h5.each
  let Pv : Nat → Hp → Prop := fun k Hi => Same H Hi ∧ Hi D = some (.lst ((pick p (as.take k) (l.take k)).map .ref))
  refine ⟨fun k m Hi => m = l.length - k ∧ k ≤ l.length ∧ Pv k Hi, ⟨l.length, by simp, Nat.zero_le _, same_new hD, by rw [upd_same]; rfl⟩, ?_⟩
  rintro k m Hi ⟨rfl, hk, sHi, hacc⟩
  have hpD : pp ≠ D := fun e => by rw [← e, h5.lst] at hD; cases hD
  have hlst : Hi pp = some (.lst (as.map .ref)) := sHi _ _ h5.lst
  by_cases hlt : k < l.length
  · have hka : k < as.length := by omega
    have hga : (as.map V.ref)[k]? = some (.ref as[k]) := by rw [List.getElem?_map, List.getElem?_eq_getElem hka]; rfl
    refine .inr ⟨⟨_, _, SqL.of hlst, hga⟩, Pv (k + 1), fun H' p' => ⟨l.length - (k + 1), by omega, rfl, hlt, p'⟩, ?_⟩
    rintro x H2 ⟨rfl, hx⟩
    have hx := hx _ (SqL.of hlst)
    rw [hga] at hx
    cases hx
    obtain ⟨w, hw, vt, g1, g2⟩ := each_at h5.each (List.getElem?_eq_getElem hka)
    rw [List.getElem?_eq_getElem hlt] at hw
    obtain rfl := Option.some.inj hw
    have hmem : as[k] ∈ A i := by rw [hA]; exact List.mem_cons_of_mem _ (List.getElem_mem hka)
    have st2 := stB.grow sHi (grow_del stB.h0 stB.hb sHi hD)
    have hd : Dp Θ.K (del (ext Hb2 H H2) D) (.ref as[k]) (dRowD l[k]) := by
      have b2 : Dp Θ.K Hb2 (.ref as[k]) (dRowD l[k]) := .lst (SqL.of (by rw [hin _ hmem]; exact g1)) (.cons (.int _) (.cons (.str _) (.cons (g2.mono stB.h0) .nil)))
      exact b2.mono (same_del (same_ext stB.hb) (none_of_same stB.hb hD))
    have st3 := st2.set (i := j) (s' := .brw (dRowD l[k])) (o' := some (.ref as[k])) hj fj ⟨rfl, _, rfl, hd⟩
    have ew : (wipe σ [j]).set j (some (V.ref as[k])) = σ.set j (some (.ref as[k])) := by
      show (σ.set j none).set j _ = _
      rw [List.set_set]
    show (fun σ2 H2 => wipe σ2 [j] = wipe σ [j] ∧ _) ((wipe σ [j]).set j (some (V.ref as[k]))) H2
    rw [ew]
    refine ⟨by show ((σ.set j _).set j none) = σ.set j none; rw [List.set_set], ?_⟩
    refine hb l[k] (List.getElem_mem hlt) _ _ _ H2 _ st3 _ fun H3 s3 => ?_
    have takeA : as.take (k + 1) = as.take k ++ [as[k]] := by rw [List.take_add_one, List.getElem?_eq_getElem hka]; rfl
    have takeL : l.take (k + 1) = l.take k ++ [l[k]] := by rw [List.take_add_one, List.getElem?_eq_getElem hlt]; rfl
    have ep := pick_snoc p (as.take k) (l.take k) as[k] l[k] (by rw [List.length_take, List.length_take]; omega)
    rw [← takeA, ← takeL] at ep
    cases hp : p l[k] with
    | false =>
      rw [if_neg Bool.false_ne_true]
      rw [hp, if_neg Bool.false_ne_true, List.append_nil] at ep
      exact ⟨sHi.trans s3, by rw [ep]; exact s3 _ _ hacc⟩
    | true =>
      rw [if_pos rfl]
      rw [hp, if_pos rfl] at ep
      have hjl : j < σ.length := by
        have := (List.getElem?_eq_some_iff.mp hj).1
        rw [List.length_set, st.len] at this
        exact this
      refine ⟨_, List.getElem?_set_self hjl, _, s3 _ _ hacc, ?_, fun z o e => ?_, ?_⟩
      · rw [List.length_map]
        have := (pick_sub p (as.take k) (l.take k)).length_le
        rw [List.length_take] at this
        exact szlt (by omega)
      · rw [upd_ne (ne_of_none e hD)]
        exact s3 _ _ (sHi _ _ e)
      · rw [ep, upd_same, List.map_append]
        rfl
  · have e : k = l.length := by omega
    subst e
    have e1 : as.take l.length = as := by rw [← hal, List.take_length]
    rw [e1, List.take_length] at hacc
    have hsub := pick_sub p as l
    refine .inl ⟨⟨_, SqL.of hlst, by rw [List.length_map]; omega⟩, q D (pick p as l) Hi sHi (fun a ha => ?_) ⟨hacc, ?_, hsub.nodup h5.nd, fun hm => ?_⟩⟩
    · rcases List.mem_cons.mp ha with rfl | ha
      · exact .inl hD
      · exact .inr (by rw [hA]; exact List.mem_cons_of_mem _ (hsub.subset ha))
    · refine each_mono (pick_each h5.each p) (same_delL (same_ext (st.h0.trans st.hb)) fun a ha => ?_) fun a _ o e => sHi _ _ e
      rcases List.mem_cons.mp ha with rfl | ha
      · exact none_of_same (st.h0.trans st.hb) hD
      · exact none_of_same st.h0 (st.at (i := i) (by rw [hA]; exact List.mem_cons_of_mem _ (hsub.subset ha))).2
    · exact each_there h5.each D (hsub.subset hm) hD
theorem cutV_to {xs : List V} {k : Nat} : cutV xs none (some (k : Nat)) = xs.take k := by
  unfold cutV
  rw [HT.sIx_none, HT.sIx_nat, List.drop_zero, Nat.sub_zero]
  by_cases h : k ≤ xs.length
  · rw [Nat.min_eq_left h]
  · rw [Nat.min_eq_right (by omega), List.take_length, List.take_of_length_le (by omega)]
theorem cutV_from {xs : List V} {k : Nat} : cutV xs (some (k : Nat)) none = xs.drop k := by
  unfold cutV
  rw [HT.sIx_none, HT.sIx_nat]
  by_cases h : k ≤ xs.length
  · rw [Nat.min_eq_left h, List.take_of_length_le (by rw [List.length_drop]; omega)]
  · rw [Nat.min_eq_right (by omega), List.drop_length, List.take_nil, List.drop_of_length_le (by omega)]
theorem nodup_cut {α : Type} {as : List α} (h : as.Nodup) (s t : Nat) (hst : s ≤ t) : (as.take s ++ as.drop t).Nodup := by
  refine List.Sublist.nodup (l₂ := as) ?_ h
  conv => rhs; rw [← List.take_append_drop s as]
  exact List.Sublist.append (List.Sublist.refl _) (by
    have : as.drop t = (as.drop s).drop (t - s) := by rw [List.drop_drop]; congr 1; omega
    rw [this]
    exact List.drop_sublist _ _)
theorem mem_cut {α : Type} {as : List α} {s t : Nat} {a : α} (h : a ∈ as.take s ++ as.drop t) : a ∈ as := by
  rcases List.mem_append.mp h with h | h
  · exact List.mem_of_mem_take h
  · exact List.mem_of_mem_drop h
/-- rows[:s] + rows[t:] -/
theorem eq_cut {tl th : TE} {s t : Nat} (hi : δ[i]? = some (.rows m po l)) (hl : l.length ≤ 1000) (hst : s ≤ t) (h1 : Ev Θ false tl δ (.int s)) (h2 : Ev Θ false th δ (.int t)) :
    EvQ Θ (tOp rCat (tSl (rSlL Θ.K) (tVar i) tNoPart (tPart tl)) (tSl (rSlL Θ.K) (tVar i) (tPart th) tNoPart)) δ i (l.take s ++ l.drop t) := by
  intro σ H0 Hb H A st Q q
  obtain ⟨o, ho, p, as, hA, rfl, h2', h3, h4, h5⟩ := st.sl i _ hi
  have hal := each_len h5.each
  refine ⟨_, ho, ?_⟩
  refine h1 σ H0 Hb H A st _ fun v H1 s1 d1 => ?_
  cases d1
  refine ⟨_, rfl, p, _, rfl, SqL.of (s1 _ _ h5.lst), fun p1 np1 => ?_⟩
  have sA : Same H1 (upd H1 p1 (.lst (cutV (as.map V.ref) none (some (s : Int))))) := same_new np1
  have st1 := (st.ext s1).ext sA
  refine ⟨_, ho, ?_⟩
  refine h2 σ _ _ _ A st1 _ fun v H2 s2 d2 => ?_
  cases d2
  have s12 := (s1.trans sA).trans s2
  refine ⟨_, rfl, p, _, rfl, SqL.of (s12 _ _ h5.lst), fun p2 np2 => ?_⟩
  have hp12 : p1 ≠ p2 := fun e => by rw [← e, s2 _ _ upd_same] at np2; cases np2
  refine ⟨p1, p2, _, _, rfl, rfl, by rw [upd_ne hp12]; exact s2 _ _ upd_same, upd_same, ?_, fun p3 np3 => ?_⟩
  · rw [cutV_to, cutV_from, List.length_take, List.length_drop, List.length_map]
    exact sz1000 (by omega)
  · have sB : Same H2 (upd H2 p2 (.lst (cutV (as.map V.ref) (some (t : Int)) none))) := same_new np2
    have sC : Same (upd H2 p2 (.lst (cutV (as.map V.ref) (some (t : Int)) none))) (upd (upd H2 p2 (.lst (cutV (as.map V.ref) (some (t : Int)) none))) p3 (.lst (cutV (as.map V.ref) none (some (s : Int)) ++ cutV (as.map V.ref) (some (t : Int)) none))) := same_new np3
    have sF := (s12.trans sB).trans sC
    have np3H : H p3 = none := (s12.trans sB).free np3
    refine q p3 (as.take s ++ as.drop t) _ sF (fun a ha => ?_) ⟨?_, ?_, nodup_cut h5.nd s t hst, fun hm => ?_⟩
    · rcases List.mem_cons.mp ha with rfl | ha
      · exact .inl np3H
      · exact .inr (by rw [hA]; exact List.mem_cons_of_mem _ (mem_cut ha))
    · rw [upd_same, cutV_to, cutV_from, List.map_append, List.map_take, List.map_drop]
    · refine each_mono (each_app (each_take h5.each s) (each_drop h5.each t)) (same_delL (same_ext (st.h0.trans st.hb)) fun a ha => ?_) fun a _ o e => sF _ _ e
      rcases List.mem_cons.mp ha with rfl | ha
      · exact none_of_same (st.h0.trans st.hb) np3H
      · exact none_of_same st.h0 (st.at (i := i) (by rw [hA]; exact List.mem_cons_of_mem _ (mem_cut ha))).2
    · exact each_there h5.each p3 (mem_cut hm) np3H
end
end Ask
-- AskRows5
set_option Elab.async false
set_option linter.all false
set_option maxRecDepth 100000
/-! a row put in; rows that stay; promises from bodies -/
namespace Ask
open PySem PySem.Spec PyProof.Rows L2
section
variable {Θ : Th} {F : Frm} {δ δ1 δ' : List Sl} {σ : L2.St} {H0 Hb H H0' Hb' H' H1 H2 : Hp} {A : Nat → List Addr} {b b0 b1 b2 : Bool} {ta tb tc te tq tw : TE} {t u : TS} {tt c : TT} {tr : TA} {d d0 e x y : PyData} {ds es : List PyData} {i j k : Nat} {o : Out} {E : XK} {L L' : List Addr} {m : Bool} {po : Option (Addr × List Addr)} {l l' : List RowD} {P : List Sl → Prop}
theorem mem_ins {α : Type} {as : List α} {s : Nat} {a c : α} (h : a ∈ as.take s ++ c :: as.drop s) : a ∈ as ∨ a = c := by
  rcases List.mem_append.mp h with h | h
  · exact .inl (List.mem_of_mem_take h)
  · rcases List.mem_cons.mp h with h | h
    · exact .inr h
    · exact .inl (List.mem_of_mem_drop h)
theorem nodup_ins {α : Type} {as : List α} (h : as.Nodup) (s : Nat) {c : α} (hc : c ∉ as) : (as.take s ++ c :: as.drop s).Nodup := by
  rw [← List.take_append_drop s as] at h
  rw [List.nodup_append] at h ⊢
  obtain ⟨h1, h2, h3⟩ := h
  refine ⟨h1, ?_, fun a ha e he => ?_⟩
  · rw [List.nodup_cons]
    exact ⟨fun hm => hc (List.mem_of_mem_drop hm), h2⟩
  · rcases List.mem_cons.mp he with rfl | he
    · exact fun e' => hc (e' ▸ List.mem_of_mem_take ha)
    · exact h3 a ha e he
/-- rows[:s] + [[p, h, ()]] + rows[s:] -/
theorem eq_come {tl th tp : TE} {s : Nat} {pn : Int} {hw : Str} (hi : δ[i]? = some (.rows m po l)) (hl : l.length ≤ 1000) (h1 : Ev Θ false tl δ (.int s)) (h2 : Ev Θ false th δ (.int s)) (hp : Ev Θ false tp δ (.int pn)) :
    EvQ Θ (tOp rCat (tOp rCat (tSl (rSlL Θ.K) (tVar i) tNoPart (tPart tl)) (tLst (tCons (tLst (tCons tp (tCons (tC (.str hw)) (tCons (tTup tNil) tNil)))) tNil))) (tSl (rSlL Θ.K) (tVar i) (tPart th) tNoPart)) δ i (l.take s ++ ⟨pn, hw, .tuple []⟩ :: l.drop s) := by
  intro σ H0 Hb H A st Q q
  obtain ⟨o, ho, p, as, hA, rfl, h2', h3, h4, h5⟩ := st.sl i _ hi
  have hal := each_len h5.each
  refine ⟨_, ho, ?_⟩
  refine h1 σ H0 Hb H A st _ fun v H1 s1 d1 => ?_
  cases d1
  refine ⟨_, rfl, p, _, rfl, SqL.of (s1 _ _ h5.lst), fun p1 np1 => ?_⟩
  have sA : Same H1 (upd H1 p1 (.lst (cutV (as.map V.ref) none (some (s : Int))))) := same_new np1
  have st1 := (st.ext s1).ext sA
  refine hp σ _ _ _ A st1 _ fun v H2 s2 d2 => ?_
  cases d2
  refine ⟨(show 0 ≤ sizeLine from Nat.zero_le _), fun t0 nt0 => ?_⟩
  have sT : Same H2 (upd H2 t0 (.tup [])) := same_new nt0
  refine ⟨sz1000 (by show 3 ≤ _; decide), fun a0 na0 => ?_⟩
  have sR : Same (upd H2 t0 (.tup [])) (upd (upd H2 t0 (.tup [])) a0 (.lst [.int pn, .str hw, .ref t0])) := same_new na0
  refine ⟨sz1000 (by show 1 ≤ _; decide), fun p2 np2 => ?_⟩
  obtain ⟨H3, eH3⟩ : ∃ H3, H3 = upd (upd (upd H2 t0 (.tup [])) a0 (.lst [.int pn, .str hw, .ref t0])) p2 (.lst [.ref a0]) := ⟨_, rfl⟩
  have sL : Same (upd (upd H2 t0 (.tup [])) a0 (.lst [.int pn, .str hw, .ref t0])) H3 := by rw [eH3]; exact same_new np2
  have s23 : Same H2 H3 := (sT.trans sR).trans sL
  rw [← eH3]
  have hp1 : H3 p1 = some (.lst (cutV (as.map V.ref) none (some (s : Int)))) := s23 _ _ (s2 _ _ upd_same)
  have hp2 : H3 p2 = some (.lst [.ref a0]) := by rw [eH3, upd_same]
  refine ⟨p1, p2, _, _, rfl, rfl, hp1, hp2, ?_, fun p3 np3 => ?_⟩
  · rw [cutV_to, List.length_take, List.length_map]
    exact sz1000 (by simp; omega)
  obtain ⟨H4, eH4⟩ : ∃ H4, H4 = upd H3 p3 (.lst (cutV (as.map V.ref) none (some (s : Int)) ++ [.ref a0])) := ⟨_, rfl⟩
  have s34 : Same H3 H4 := by rw [eH4]; exact same_new np3
  rw [← eH4]
  have sH2 : Same H H2 := (s1.trans sA).trans s2
  have sH4 : Same H H4 := (sH2.trans s23).trans s34
  have st4 : St0 Θ δ σ _ _ H4 A := st.ext sH4
  refine ⟨_, ho, ?_⟩
  refine h2 σ _ _ _ A st4 _ fun v H5 s5 d5 => ?_
  cases d5
  refine ⟨_, rfl, p, _, rfl, SqL.of (s5 _ _ (sH4 _ _ h5.lst)), fun p4 np4 => ?_⟩
  have h3' : H5 p3 = some (.lst (cutV (as.map V.ref) none (some (s : Int)) ++ [.ref a0])) := s5 _ _ (by rw [eH4, upd_same])
  have n34 : p3 ≠ p4 := fun e => by rw [← e, h3'] at np4; cases np4
  refine ⟨p3, p4, _, _, rfl, rfl, by rw [upd_ne n34]; exact h3', upd_same, ?_, fun p5 np5 => ?_⟩
  · rw [cutV_to, cutV_from]
    simp only [List.length_append, List.length_take, List.length_drop, List.length_map, List.length_cons, List.length_nil]
    exact sz1000 (by omega)
  have sP4 : Same H5 (upd H5 p4 (.lst (cutV (as.map V.ref) (some (s : Int)) none))) := same_new np4
  obtain ⟨HF, eHF⟩ : ∃ HF, HF = upd (upd H5 p4 (.lst (cutV (as.map V.ref) (some (s : Int)) none))) p5 (.lst ((cutV (as.map V.ref) none (some (s : Int)) ++ [.ref a0]) ++ cutV (as.map V.ref) (some (s : Int)) none)) := ⟨_, rfl⟩
  have s45 : Same H4 HF := by rw [eHF]; exact (s5.trans sP4).trans (same_new np5)
  rw [← eHF]
  have sF : Same H HF := sH4.trans s45
  have ha0 : HF a0 = some (.lst [.int pn, .str hw, .ref t0]) := s45 _ _ (s34 _ _ (sL _ _ upd_same))
  have ht0 : HF t0 = some (.tup []) := s45 _ _ (s34 _ _ (sL _ _ (sR _ _ upd_same)))
  have na0H : H a0 = none := (sH2.trans sT).free na0
  have nt0H : H t0 = none := sH2.free nt0
  have np5H : H p5 = none := (sH4.trans (s5.trans sP4)).free np5
  have hp5 : HF p5 = some (.lst ((cutV (as.map V.ref) none (some (s : Int)) ++ [.ref a0]) ++ cutV (as.map V.ref) (some (s : Int)) none)) := by rw [eHF, upd_same]
  have hexist5 : ∀ z o, H4 z = some o → z ≠ p5 := fun z o e e' => by rw [e', (s5.trans sP4).free np5] at e; cases e
  have na5 : a0 ≠ p5 := hexist5 a0 _ (s34 _ _ (sL _ _ upd_same))
  have nt5 : t0 ≠ p5 := hexist5 t0 _ (s34 _ _ (sL _ _ (sR _ _ upd_same)))
  have nta : t0 ≠ a0 := fun e => by rw [← e, upd_same] at na0; cases na0
  have hnot : ∀ z, H z = none → z ∉ as := fun z hz hm => each_there h5.each z hm hz
  have hmemN : ∀ z, z ∈ as.take s ++ a0 :: as.drop s → z ≠ p5 := fun z hz e => by
    rcases mem_ins hz with h | h
    · exact hnot p5 np5H (e ▸ h)
    · exact na5 (h.symm.trans e)
  refine q p5 (as.take s ++ a0 :: as.drop s) HF sF (fun a ha => ?_) ⟨?_, ?_, nodup_ins h5.nd s (hnot a0 na0H), fun hm => hmemN p5 hm rfl⟩
  · rcases List.mem_cons.mp ha with rfl | ha
    · exact .inl np5H
    · rcases mem_ins ha with h | h
      · exact .inr (by rw [hA]; exact List.mem_cons_of_mem _ h)
      · exact .inl (by rw [h]; exact na0H)
  · rw [hp5, cutV_to, cutV_from]
    simp [List.map_append, List.map_take, List.map_drop]
  · have hn0 : ∀ a ∈ p5 :: (as.take s ++ a0 :: as.drop s), H0 a = none := fun a ha => by
      rcases List.mem_cons.mp ha with rfl | ha
      · exact none_of_same (st.h0.trans st.hb) np5H
      · rcases mem_ins ha with h | h
        · exact none_of_same st.h0 (st.at (i := i) (by rw [hA]; exact List.mem_cons_of_mem _ h)).2
        · rw [h]; exact none_of_same (st.h0.trans st.hb) na0H
    have old := each_mono (H' := HF) h5.each (same_delL (B := H0) (L := p5 :: (as.take s ++ a0 :: as.drop s)) (same_ext (H1 := HF) (st.h0.trans st.hb)) hn0) fun a _ o e => sF _ _ e
    refine each_app (each_take old s) (.cons ⟨.ref t0, ha0, .tup (SqT.of ?_) .nil⟩ (each_drop old s))
    rw [delL_ne, ext_new nt0H]
    · exact ht0
    · intro hm
      rcases List.mem_cons.mp hm with h | h
      · exact nt5 h
      · rcases mem_ins h with h | h
        · exact hnot t0 nt0H h
        · exact nta h
end
end Ask
-- AskRows6
set_option Elab.async false
set_option linter.all false
set_option maxRecDepth 100000
/-! rows that stay; promises from bodies -/
namespace Ask
open PySem PySem.Spec PyProof.Rows L2
section
variable {Θ : Th} {F : Frm} {δ δ1 δ' : List Sl} {σ : L2.St} {H0 Hb H H0' Hb' H' H1 H2 : Hp} {A : Nat → List Addr} {b b0 b1 b2 : Bool} {ta tb tc te tq tw : TE} {t u : TS} {c : TT} {tr : TA} {d d0 e x y : PyData} {ds es : List PyData} {i j k : Nat} {o : Out} {E : XK} {L L' : List Addr} {m : Bool} {po : Option (Addr × List Addr)} {l l' : List RowD} {P : List Sl → Prop}
/-! ### rows stay from here on -/
theorem St.frzRows (st : St Θ F δ σ H0 Hb H A) (hi : δ[i]? = some (.rows false po l)) : ∃ H0' Hb' A', St Θ F (δ.set i (.dat (dRowsD l))) σ H0' Hb' H A' ∧ Same H0 H0' ∧ Same Hb Hb' := by
  obtain ⟨o, ho, p, as, hA, rfl, h2', h3, h4, h5⟩ := st.s.sl i _ hi
  have hil : i < δ.length := (List.getElem?_eq_some_iff.mp hi).1
  have hown : ∀ z, z ∈ A i → H z ≠ none ∧ Hb z = none := fun z hz => st.s.at hz
  have h0n : ∀ z, z ∈ A i → H0 z = none := fun z hz => none_of_same st.s.h0 (hown z hz).2
  have hc : ∀ z, z ∈ A i → F.Hc z = none := fun z hz => st.fr i _ z hi hz
  obtain ⟨add, eadd⟩ : ∃ add : Hp → Hp, add = fun B z => if z ∈ A i then H z else B z := ⟨_, rfl⟩
  have ain : ∀ B z, z ∈ A i → add B z = H z := fun B z hz => by rw [eadd]; exact if_pos hz
  have aout : ∀ B z, z ∉ A i → add B z = B z := fun B z hz => by rw [eadd]; exact if_neg hz
  have s0 : Same H0 (add H0) := fun z o e => by
    rw [aout _ _ fun hz => by rw [h0n z hz] at e; cases e]; exact e
  have sb : Same Hb (add Hb) := fun z o e => by
    rw [aout _ _ fun hz => by rw [(hown z hz).2] at e; cases e]; exact e
  refine ⟨add H0, add Hb, fun k => if k = i then [] else A k, ⟨⟨fun z o e => ?_, fun z o e => ?_, fun k s hs => ?_, fun k hk => ?_, fun k l a g1 g2 => ?_, by rw [List.length_set, st.s.len]⟩, st.keep, st.there, fun z o e => ?_, st.c0.trans s0, st.ac, st.m0, fun k s a hs ha => ?_⟩, s0, sb⟩
  · by_cases hz : z ∈ A i
    · rw [ain _ _ hz] at e ⊢; exact e
    · rw [aout _ _ hz] at e ⊢; exact st.s.h0 _ _ e
  · by_cases hz : z ∈ A i
    · rw [ain _ _ hz] at e; exact e
    · rw [aout _ _ hz] at e; exact st.s.hb _ _ e
  · by_cases e : k = i
    · subst e
      rw [List.getElem?_set_self hil] at hs
      cases hs
      rw [if_pos rfl]
      refine ⟨_, ho, rfl, _, rfl, .lst (SqL.of (by rw [ain _ _ (by rw [hA]; simp)]; exact h5.lst)) (rows_dp (each_mono h5.each s0 fun a ha o e => ?_))⟩
      rw [ain _ _ (by rw [hA]; exact List.mem_cons_of_mem _ ha)]
      exact e
    · rw [List.getElem?_set_ne (Ne.symm e)] at hs
      obtain ⟨o, g1, g2⟩ := st.s.sl k s hs
      rw [if_neg e]
      refine ⟨o, g1, g2.mono s0 sb fun a ha => ⟨fun w hw => hw, fun hn => ?_⟩⟩
      rw [aout _ _ fun z => e (st.s.dj k i a ha z)]
      exact hn
  · rw [List.getElem?_eq_none_iff, List.length_set] at hk
    have e : k ≠ i := by omega
    rw [if_neg e]
    exact st.s.out k (List.getElem?_eq_none_iff.mpr hk)
  · by_cases e1 : k = i
    · rw [if_pos e1] at g1; cases g1
    · by_cases e2 : l = i
      · rw [if_pos e2] at g2; cases g2
      · rw [if_neg e1] at g1
        rw [if_neg e2] at g2
        exact st.s.dj k l a g1 g2
  · by_cases hz : z ∈ A i
    · rw [ain _ _ hz] at e
      rw [ext_new (hc z hz)]; exact e
    · rw [aout _ _ hz] at e; exact st.b0 _ _ e
  · by_cases e : k = i
    · rw [if_pos e] at ha; cases ha
    · rw [if_neg e] at ha
      rw [List.getElem?_set_ne (Ne.symm e)] at hs
      exact st.fr k s a hs ha
theorem sd_frz (hi : δ[i]? = some (.rows false po l)) (h : SD Θ F t (δ.set i (.dat (dRowsD l))) o) : SD Θ F t δ o := fun σ H0 Hb H A st D fin => by
  obtain ⟨H0', Hb', A', st', s0, sb⟩ := st.frzRows hi
  exact h σ _ _ H _ st' D (fin.mono s0 sb)
/-! ### two or three at once -/
theorem sd_parT {s1 s2 : Sl} (h1 : EvS Θ ta δ s1) (h2 : EvS Θ tb δ s2) (hi' : Nat.blt i δ.length = true := by rfl) (hj' : Nat.blt j δ.length = true := by rfl) (hij : i ≠ j := by decide) (n1 : parS s1 = false := by rfl) (n2 : parS s2 = false := by rfl) :
    SD Θ F (tAsg (tTup (tCons ta (tCons tb tNil))) (gTup Θ.K 2 (gCons (gName i) (gCons (gName j) gNil)))) δ (.nx ((δ.set i s1).set j s2)) := fun σ H0 Hb H A st D fin =>
  h1 σ H0 Hb H A st.s _ fun v H1 H01 Hb1 L1 e1 g1 hs1 hn1 => h2 σ H01 Hb1 H1 A (st.s.grow e1 g1) _ fun u H2 H02 Hb2 L2 e2 g2 hs2 hn2 => by
    have hi := Nat.blt_eq.mp hi'
    have hj := Nat.blt_eq.mp hj'
    have st2 := (st.grow e1 g1).grow e2 g2
    have hs1' : SlAt Θ H02 Hb2 H2 s1 (some v) L1 := hs1.mono g2.s0 g2.sb fun a ha => ⟨fun w hw => e2 _ _ hw, fun hn => g2.keeps (hs1.there a ha).1 hn⟩
    have p1 := st2.put hi hs1' (fun a ha => ⟨st.newHc (hn1 a ha), fun k _ => st.notA (hn1 a ha) k⟩) n1
    refine ⟨sz1000 (by show 2 ≤ _; decide), fun p np => ⟨p, _, rfl, SqT.of upd_same, rfl, _, _, rfl, _, _, rfl, rfl, ?_⟩⟩
    have p2 := p1.put (i := j) (by rw [List.length_set]; exact hj) hs2 (fun a ha => ⟨st.newHc (e1.free (hn2 a ha)), fun k hk => ?_⟩) n2
    · have sn : Same H2 (upd H2 p (.tup [v, u])) := same_new np
      exact fin _ _ _ _ _ (p2.ext sn) ((g1.s0.trans g2.s0).trans (same_ext (p2.s.h0.trans p2.s.hb))) ((g1.sb.trans g2.sb).trans (same_ext p2.s.hb))
    · show a ∉ (if k = i then L1 else A k)
      by_cases e : k = i
      · rw [if_pos e]
        exact fun ha' => absurd (hn2 a ha) (hs1.there a ha').1
      · rw [if_neg e]
        exact st.notA (e1.free (hn2 a ha)) k
theorem sd_par3 {s1 s2 s3 : Sl} (h1 : EvS Θ ta δ s1) (h2 : EvS Θ tb δ s2) (h3 : EvS Θ tc δ s3) (hi' : Nat.blt i δ.length = true := by rfl) (hj' : Nat.blt j δ.length = true := by rfl) (hk' : Nat.blt k δ.length = true := by rfl) (hij : i ≠ j := by decide) (hik : i ≠ k := by decide) (hjk : j ≠ k := by decide) (n1 : parS s1 = false := by rfl) (n2 : parS s2 = false := by rfl) (n3 : parS s3 = false := by rfl) :
    SD Θ F (tPar3 i j k (tCons ta (tCons tb (tCons tc tNil)))) δ (.nx (((δ.set i s1).set j s2).set k s3)) := fun σ H0 Hb H A st D fin =>
  h1 σ H0 Hb H A st.s _ fun v H1 H01 Hb1 L1 e1 g1 hs1 hn1 => h2 σ H01 Hb1 H1 A (st.s.grow e1 g1) _ fun u H2 H02 Hb2 L2 e2 g2 hs2 hn2 => h3 σ H02 Hb2 H2 A ((st.s.grow e1 g1).grow e2 g2) _ fun w H3 H03 Hb3 L3 e3 g3 hs3 hn3 => by
    have hi := Nat.blt_eq.mp hi'
    have hj := Nat.blt_eq.mp hj'
    have hk := Nat.blt_eq.mp hk'
    have st3 := ((st.grow e1 g1).grow e2 g2).grow e3 g3
    have hs1' : SlAt Θ H02 Hb2 H2 s1 (some v) L1 := hs1.mono g2.s0 g2.sb fun a ha => ⟨fun w hw => e2 _ _ hw, fun hn => g2.keeps (hs1.there a ha).1 hn⟩
    have hs1'' : SlAt Θ H03 Hb3 H3 s1 (some v) L1 := hs1'.mono g3.s0 g3.sb fun a ha => ⟨fun w hw => e3 _ _ hw, fun hn => g3.keeps (hs1'.there a ha).1 hn⟩
    have hs2' : SlAt Θ H03 Hb3 H3 s2 (some u) L2 := hs2.mono g3.s0 g3.sb fun a ha => ⟨fun w hw => e3 _ _ hw, fun hn => g3.keeps (hs2.there a ha).1 hn⟩
    have p1 := st3.put hi hs1'' (fun a ha => ⟨st.newHc (hn1 a ha), fun k _ => st.notA (hn1 a ha) k⟩) n1
    have p2 := p1.put (i := j) (by rw [List.length_set]; exact hj) hs2' (fun a ha => ⟨st.newHc (e1.free (hn2 a ha)), fun q hq => ?_⟩) n2
    have p3 := p2.put (i := k) (by rw [List.length_set, List.length_set]; exact hk) hs3 (fun a ha => ⟨st.newHc (e1.free (e2.free (hn3 a ha))), fun q hq => ?_⟩) n3
    · exact ⟨v, u, w, rfl, fin _ _ _ _ _ p3 ((g1.s0.trans g2.s0).trans g3.s0) ((g1.sb.trans g2.sb).trans g3.sb)⟩
    · show a ∉ (if q = j then L2 else if q = i then L1 else A q)
      by_cases e : q = j
      · rw [if_pos e]
        exact fun ha' => absurd (hn3 a ha) (hs2.there a ha').1
      · rw [if_neg e]
        by_cases e4 : q = i
        · rw [if_pos e4]
          exact fun ha' => absurd (hn3 a ha) (hs1'.there a ha').1
        · rw [if_neg e4]
          exact st.notA (e1.free (e2.free (hn3 a ha))) q
    · show a ∉ (if q = i then L1 else A q)
      by_cases e : q = i
      · rw [if_pos e]
        exact fun ha' => absurd (hn2 a ha) (hs1.there a ha').1
      · rw [if_neg e]
        exact st.notA (e1.free (hn2 a ha)) q
/-! ### bodies that give rows back -/
variable (Θ) in
def SDw (F : Frm) (t : TS) (δ : List Sl) (l' : List RowD) : Prop := ∀ σ H0 Hb H A, St Θ F δ σ H0 Hb H A → ∀ D : Ends, (∀ p as σ' H0' Hb' H' A' δ', St Θ F δ' σ' H0' Hb' H' A' → RowsAt Θ H0' H' p as l' → (∀ a ∈ p :: as, Hb' a = none ∧ (F.Hc a = none ∨ F.M a)) → D.rt (.ref p) H') → t D σ H
variable (Θ) in
def SDb (F : Frm) (t : TS) (δ : List Sl) (l' : List RowD) (n : Int) : Prop := ∀ σ H0 Hb H A, St Θ F δ σ H0 Hb H A → ∀ D : Ends, (∀ T p as σ' H0' Hb' H' A' δ', St Θ F δ' σ' H0' Hb' H' A' → RowsAt Θ H0' H' p as l' → (∀ a ∈ p :: as, Hb' a = none ∧ (F.Hc a = none ∨ F.M a)) → H' T = some (.tup [.ref p, .int n]) → D.rt (.ref T) H') → t D σ H
variable (Θ) in
/-- a list of one's own is given back -/
def SDo (F : Frm) (t : TS) (δ : List Sl) (es : List PyData) : Prop := ∀ σ H0 Hb H A, St Θ F δ σ H0 Hb H A → ∀ D : Ends, (∀ p us σ' H0' Hb' H' A' δ', St Θ F δ' σ' H0' Hb' H' A' → F.Hc p = none → H0' p = none → H' p = some (.lst us) → DpAll Θ.K H0' us es → D.rt (.ref p) H') → t D σ H
theorem sdw_seq (h1 : SD Θ F t δ (.nx δ1)) (h2 : SDw Θ F u δ1 l') : SDw Θ F (tSeq t u) δ l' := fun σ H0 Hb H A st D fin =>
  h1 σ H0 Hb H A st { D with nx := u D } fun σ' H0' Hb' H' A' st' e0 eb => h2 σ' H0' Hb' H' A' st' D fin
theorem sdw_ret (h : EvW Θ F tw δ i l') : SDw Θ F (tRet tw) δ l' := fun σ H0 Hb H A st D fin => h σ H0 Hb H A st _ fun p as H0' Hb' H' A' st' s0 sb hat ho =>
  fin p as σ H0' Hb' H' A' _ st' hat fun a ha => ⟨(ho a ha).1, (ho a ha).2.1⟩
theorem sdb_seq {n : Int} (h1 : SD Θ F t δ (.nx δ1)) (h2 : SDb Θ F u δ1 l' n) : SDb Θ F (tSeq t u) δ l' n := fun σ H0 Hb H A st D fin =>
  h1 σ H0 Hb H A st { D with nx := u D } fun σ' H0' Hb' H' A' st' e0 eb => h2 σ' H0' Hb' H' A' st' D fin
theorem sdb_seq_rt {n : Int} (h1 : SDb Θ F t δ l' n) : SDb Θ F (tSeq t u) δ l' n := fun σ H0 Hb H A st D fin => h1 σ H0 Hb H A st { D with nx := u D } fin
theorem sdb_ift {n : Int} {v : Bool} (h : EvT Θ c δ v) (hv : v = true) (h1 : SDb Θ F t δ l' n) : SDb Θ F (tIfS c t u) δ l' n := fun σ H0 Hb H A st D fin => h σ H0 Hb H A st.s _ fun H1 s1 => by
  rw [hv, if_pos rfl]; exact h1 σ _ _ H1 A (st.ext s1) D fin
theorem sdb_ret {n : Int} (h : EvW Θ F tw δ i l') (h2 : Ev Θ false tb (δ.set i .un) (.int n)) : SDb Θ F (tRet (tTup (tCons tw (tCons tb tNil)))) δ l' n := fun σ H0 Hb H A st D fin => h σ H0 Hb H A st _ fun p as H01 Hb1 H1 A1 st1 a0 ab hat ho => h2 σ H01 Hb1 H1 A1 st1.s _ fun u H2 s2 d2 => by
  cases d2
  have st2 := st1.ext s2
  refine ⟨sz1000 (by show 2 ≤ _; decide), fun T nT => ?_⟩
  have sn : Same H2 (upd H2 T (.tup [.ref p, .int n])) := same_new nT
  have st3 := st2.ext sn
  refine fin T p as σ _ _ _ _ _ st3 (hat.mono ((same_ext (st1.s.h0.trans st1.s.hb)).trans (same_ext (st2.s.h0.trans st2.s.hb))) fun a _ o e => sn _ _ (s2 _ _ e)) (fun a ha => ⟨?_, (ho a ha).2.1⟩) upd_same
  rw [ext_ext s2 sn, ext_old (hat.there a ha)]
  exact (ho a ha).1
theorem sdo_seq (h1 : SD Θ F t δ (.nx δ1)) (h2 : SDo Θ F u δ1 es) : SDo Θ F (tSeq t u) δ es := fun σ H0 Hb H A st D fin =>
  h1 σ H0 Hb H A st { D with nx := u D } fun σ' H0' Hb' H' A' st' e0 eb => h2 σ' H0' Hb' H' A' st' D fin
theorem sdo_ret (hi : δ[i]? = some (.own es)) : SDo Θ F (tRet (tVar i)) δ es := fun σ H0 Hb H A st D fin => by
  obtain ⟨p, vs, hA, ho, hn, hp, hv⟩ := own_at st hi
  exact ⟨_, ho, fin p vs σ H0 Hb H A δ st (st.fr i _ p hi (by rw [hA]; simp)) (none_of_same st.s.h0 hn) hp hv⟩
/-! ### promises -/
def brwS (ds : List PyData) (n : Nat) : List Sl := ds.map .brw ++ List.replicate (n - ds.length) .un
theorem start_brw {N : List Str} {vs : List V} (hn : vs.length ≤ N.length) (hb : Same H0 H) (h : DpAll Θ.K H0 vs ds) : St Θ ⟨H, fun _ => none, fun _ => False⟩ (brwS ds N.length) (L2.start N vs) (fun _ => none) H0 H fun _ => [] where
  s := {
    h0 := fun _ _ e => by cases e
    hb := hb
    sl := fun i s hs => by
      unfold brwS at hs
      unfold L2.start
      by_cases hi : i < ds.length
      · rw [List.getElem?_append_left (by simpa using hi), List.getElem?_map] at hs
        cases q : ds[i]? with
        | none => rw [q] at hs; cases hs
        | some d =>
          rw [q] at hs
          cases hs
          obtain ⟨v, hv, hd⟩ := h.get q
          refine ⟨some v, ?_, rfl, v, rfl, hd⟩
          rw [List.getElem?_append_left (by rw [List.length_map, h.length]; exact hi), List.getElem?_map, hv]
          rfl
      · rw [List.getElem?_append_right (by simpa using hi), List.length_map] at hs
        have hlt := (List.getElem?_eq_some_iff.mp hs).1
        rw [List.length_replicate] at hlt
        rw [List.getElem?_replicate, if_pos hlt] at hs
        cases hs
        refine ⟨none, ?_, rfl⟩
        rw [List.getElem?_append_right (by rw [List.length_map, h.length]; omega), List.length_map, h.length, List.getElem?_replicate, if_pos hlt]
    out := fun _ _ => rfl
    dj := fun _ _ _ h => by cases h
    len := by
      unfold brwS L2.start
      rw [List.length_append, List.length_append, List.length_map, List.length_map, List.length_replicate, List.length_replicate, h.length] }
  keep := fun _ _ _ h => h
  there := fun _ h => h
  b0 := fun _ _ e => by cases e
  c0 := Same.refl _
  ac := fun _ _ e => by cases e
  m0 := fun _ h => h.elim
  fr := fun _ _ _ _ h => by cases h
theorem fn_spN {N : List Str} {t : TS} {G : List PyData → PyData → Prop} {n : Nat} (hG : ∀ ds d, G ds d → ds.length = n) (hn : n ≤ N.length) (h : ∀ ds d, G ds d → ∀ F : Frm, SDr Θ F t (brwS ds N.length) d anyP) (vs : List V) (H : Hp) (Q : VK) (E : XK) (hsp : spN Θ G vs H Q E) :
    t { nx := fun _ H' => Q .non H', rt := Q } (L2.start N vs) H := by
  obtain ⟨H0, ds, d, s, hv, hg, q⟩ := hsp
  refine h ds d hg ⟨H, fun _ => none, fun _ => False⟩ _ _ _ _ _ (start_brw (by rw [hv.length, hG ds d hg]; exact hn) s hv) _ ?_
  intro v σ' H0' Hb' H' A' δ' _ st' dv
  exact q v H' (fun z o e => st'.keep z o (fun m => m) e) dv
theorem fn_spNL {N : List Str} {t : TS} {G : List PyData → List PyData → Prop} {n : Nat} (hG : ∀ ds d, G ds d → ds.length = n) (hn : n ≤ N.length) (h : ∀ ds d, G ds d → ∀ F : Frm, SDo Θ F t (brwS ds N.length) d) (vs : List V) (H : Hp) (Q : VK) (E : XK) (hsp : spNL Θ G vs H Q E) :
    t { nx := fun _ H' => Q .non H', rt := Q } (L2.start N vs) H := by
  obtain ⟨H0, ds, d, s, hv, hg, q⟩ := hsp
  refine h ds d hg ⟨H, fun _ => none, fun _ => False⟩ _ _ _ _ _ (start_brw (by rw [hv.length, hG ds d hg]; exact hn) s hv) _ ?_
  intro p us σ' H0' Hb' H' A' δ' st' hc h0 hp hu
  exact q p us H' (fun z o e => st'.keep z o (fun m => m) e) hc hp (hu.mono (same_del st'.b0 h0))
theorem sdw_fin {H0c : Hp} {M : Addr → Prop} (st' : St Θ ⟨H, H0c, M⟩ δ' σ H0' Hb' H' A) {p : Addr} {as : List Addr} (hat : RowsAt Θ H0' H' p as l') (ho : ∀ a ∈ p :: as, Hb' a = none ∧ (H a = none ∨ M a)) : RowsAt Θ (delL (ext H0c H H') (p :: as)) H' p as l' :=
  hat.mono (same_delL st'.b0 fun a ha => none_of_same st'.s.h0 (ho a ha).1) fun _ _ _ e => e
theorem fn_spDR {N : List Str} {t : TS} {G : List PyData → List RowD → Prop} {n : Nat} (hG : ∀ ds d, G ds d → ds.length = n) (hn : n ≤ N.length) (h : ∀ ds l', G ds l' → ∀ F : Frm, (∀ a, ¬ F.M a) → SDw Θ F t (datS ds N.length) l') (vs : List V) (H : Hp) (Q : VK) (E : XK) (hsp : spDR Θ G vs H Q E) :
    t { nx := fun _ H' => Q .non H', rt := Q } (L2.start N vs) H := by
  obtain ⟨H0, ds, l', s, hv, hg, q⟩ := hsp
  refine h ds l' hg ⟨H, H0, fun _ => False⟩ (fun _ h => h) _ _ _ _ _ (start_St (by rw [hv.length, hG ds l' hg]; exact hn) s hv) _ ?_
  intro p as σ' H0' Hb' H' A' δ' st' hat ho
  exact q p as H' (fun z o e => st'.keep z o (fun m => m) e) (fun a ha => (ho a ha).2.resolve_right fun m => m) (sdw_fin st' hat ho)
/-- (rule, rows, ..) -/
def rowS (p : Addr × List Addr) (l : List RowD) : List PyData → Nat → List Sl
  | d :: ds, n => .dat d :: .rows true (some p) l :: datS ds (n - 2)
  | [], _ => []
theorem start_rows {N : List Str} {p : Addr} {as : List Addr} {vr : V} {us : List V} (hn : us.length + 2 ≤ N.length) (hb : Same H0 H) (hnone : ∀ a ∈ p :: as, H0 a = none) (hat : RowsAt Θ H0 H p as l) (h : DpAll Θ.K H0 (vr :: us) (d :: ds)) :
    St Θ ⟨H, H0, fun a => a ∈ p :: as⟩ (rowS (p, as) l (d :: ds) N.length) (L2.start N (vr :: .ref p :: us)) H0 H0 H fun i => if i = 1 then p :: as else [] := by
  cases h with
  | cons hr hu =>
  have base := start_St (Θ := Θ) (N := N.drop 2) (vs := us) (ds := ds) (by rw [List.length_drop]; omega) hb hu
  have eN : (N.drop 2).length = N.length - 2 := List.length_drop ..
  rw [eN] at base
  have eS : L2.start N (vr :: .ref p :: us) = some vr :: some (.ref p) :: L2.start (N.drop 2) us := by
    unfold L2.start
    rw [List.map_cons, List.map_cons, List.length_cons, List.length_cons, eN, List.cons_append, List.cons_append]
    congr 4
    omega
  rw [eS]
  refine ⟨⟨Same.refl _, hb, fun i s hs => ?_, fun i hi => ?_, fun i j a h1 h2 => ?_, ?_⟩, fun _ _ _ h => h, fun _ h => h, by rw [ext_id hb]; exact Same.refl _, Same.refl _, hb, fun z hz => hnone z hz, fun i s a hs ha => ?_⟩
  · match i with
    | 0 =>
      obtain rfl : Sl.dat d = s := by simpa [rowS] using hs
      exact ⟨_, rfl, rfl, vr, rfl, hr⟩
    | 1 =>
      obtain rfl : Sl.rows true (some (p, as)) l = s := by simpa [rowS] using hs
      exact ⟨_, rfl, p, as, rfl, rfl, fun x hx => (by cases hx; rfl), hnone p (by simp), fun a ha => hnone a (List.mem_cons_of_mem _ ha), hat⟩
    | i + 2 =>
      obtain ⟨o, ho, hsl⟩ := base.s.sl i s (by simpa [rowS] using hs)
      exact ⟨o, by simpa using ho, hsl⟩
  · have : i ≠ 1 := fun e => by rw [e] at hi; simp [rowS] at hi
    rw [if_neg this]
  · by_cases e1 : i = 1
    · by_cases e2 : j = 1
      · rw [e1, e2]
      · rw [if_neg e2] at h2; cases h2
    · rw [if_neg e1] at h1; cases h1
  · unfold rowS
    rw [List.length_cons, List.length_cons, List.length_cons, List.length_cons, base.s.len]
  · by_cases e1 : i = 1
    · subst e1
      obtain rfl : Sl.rows true (some (p, as)) l = s := by simpa [rowS] using hs
      rw [if_pos rfl] at ha
      exact .inr ha
    · rw [if_neg e1] at ha; cases ha
theorem fn_spRn {N : List Str} {t : TS} {G : List RowD → List PyData → List RowD → Prop} {n : Nat} (hG : ∀ l ds l', G l ds l' → ds.length = n) (hn : n + 1 ≤ N.length) (h : ∀ l ds l', G l ds l' → ∀ (F : Frm) (p : Addr × List Addr), SDu Θ F t (rowS p l ds N.length) fun δ' => δ'[1]? = some (.rows true (some p) l')) (vs : List V) (H : Hp) (Q : VK) (E : XK) (hsp : spRn Θ G vs H Q E) :
    t { nx := fun _ H' => Q .non H', rt := Q } (L2.start N vs) H := by
  obtain ⟨p, as, vr, us, H0, ds, l, l', rfl, s, hnone, hat, hv, hg, k⟩ := hsp
  have hl := hG l ds l' hg
  cases hv with
  | @cons _ _ d ds hr hu =>
  have hul := hu.length
  rw [List.length_cons] at hl
  refine h l _ l' hg ⟨H, H0, fun a => a ∈ p :: as⟩ (p, as) _ _ _ _ _ (start_rows (by omega) s hnone hat (.cons hr hu)) _ ?_
  intro σ' H0' Hb' H' A' δ' hP st'
  obtain ⟨o, ho, p', as', hA, rfl, h1, h2, h3, hat'⟩ := st'.s.sl 1 _ hP
  obtain ⟨rfl, rfl⟩ : p = p' ∧ as = as' := by
    have := h1 _ rfl
    injection this with e1 e2
    exact ⟨e1, e2⟩
  have fin := k H' (fun a o z e => st'.keep a o z e) (hat'.mono st'.b0 fun _ _ _ e => e)
  exact ⟨fin, fin⟩
theorem fn_spRw {N : List Str} {t : TS} {G : List RowD → List PyData → List RowD → Prop} {n : Nat} (hG : ∀ l ds l', G l ds l' → ds.length = n) (hn : n + 1 ≤ N.length) (h : ∀ l ds l', G l ds l' → ∀ (F : Frm) (p : Addr × List Addr), SDw Θ F t (rowS p l ds N.length) l') (vs : List V) (H : Hp) (Q : VK) (E : XK) (hsp : spRw Θ G vs H Q E) :
    t { nx := fun _ H' => Q .non H', rt := Q } (L2.start N vs) H := by
  obtain ⟨p, as, vr, us, H0, ds, l, l', rfl, s, hnone, hat, hv, hg, k⟩ := hsp
  have hl := hG l ds l' hg
  cases hv with
  | @cons _ _ d ds hr hu =>
  have hul := hu.length
  rw [List.length_cons] at hl
  refine h l _ l' hg ⟨H, H0, fun a => a ∈ p :: as⟩ (p, as) _ _ _ _ _ (start_rows (by omega) s hnone hat (.cons hr hu)) _ ?_
  intro p' as' σ' H0' Hb' H' A' δ' st' hat' ho
  exact k p' as' H' (fun a o z e => st'.keep a o z e) (fun a h => st'.there a h) (fun a ha => (ho a ha).2) (sdw_fin st' hat' ho)
theorem fn_spRb {N : List Str} {t : TS} {G : List RowD → List PyData → List RowD → Int → Prop} {n : Nat} (hG : ∀ l ds l' c, G l ds l' c → ds.length = n) (hn : n + 1 ≤ N.length) (h : ∀ l ds l' c, G l ds l' c → ∀ (F : Frm) (p : Addr × List Addr), SDb Θ F t (rowS p l ds N.length) l' c) (vs : List V) (H : Hp) (Q : VK) (E : XK) (hsp : spRb Θ G vs H Q E) :
    t { nx := fun _ H' => Q .non H', rt := Q } (L2.start N vs) H := by
  obtain ⟨p, as, vr, us, H0, ds, l, l', c, rfl, s, hnone, hat, hv, hg, k⟩ := hsp
  have hl := hG l ds l' c hg
  cases hv with
  | @cons _ _ d ds hr hu =>
  have hul := hu.length
  rw [List.length_cons] at hl
  refine h l _ l' c hg ⟨H, H0, fun a => a ∈ p :: as⟩ (p, as) _ _ _ _ _ (start_rows (by omega) s hnone hat (.cons hr hu)) _ ?_
  intro T p' as' σ' H0' Hb' H' A' δ' st' hat' ho hT
  exact k T p' as' H' (fun a o z e => st'.keep a o z e) (fun a h => st'.there a h) (fun a ha => (ho a ha).2) (sdw_fin st' hat' ho) hT
end
end Ask
-- AskLaw
set_option Elab.async false
set_option linter.all false
set_option maxRecDepth 100000
/-! what the law's own defs promise -/
namespace Ask
open PySem PySem.Spec PyProof.Rows L2
abbrev toD (w : Row) : RowD := ⟨w.p, w.h.s, dNames w.ns⟩
abbrev dRowL (w : Row) : PyData := dRowD (toD w)
abbrev dLineL (l : Line) : PyData := .list (l.map dRowL)
theorem rowsD_line (l : Line) : dRowsD (l.map toD) = dLineL l := by
  show PyData.list ((l.map toD).map dRowD) = PyData.list (l.map dRowL)
  rw [List.map_map]
  rfl
abbrev dRoomL (m : Rm) : PyData := .tuple [dLineL m.l, .int (m.c : Nat), .list (m.sv.map .int)]
def howS : Option How → Str
  | none => "none"
  | some h => h.s
def allEvL (r : Rule) (m : Rm) : List Evt :=
  (m.l.map (fun w => Evt.per .back w.p) ++ (m.l.map (fun w => Evt.per .leave w.p) ++ (m.l.map (fun w => Evt.per .let_ w.p) ++ (m.l.map (fun w => Evt.per .out w.p) ++ m.l.map fun w => Evt.per .vanish w.p))) ++ [Evt.come, Evt.door]).filter (canBe r m)
def evsL (r : Rule) (m : Rm) : List Evt := (allEvL r m).mergeSort (PySem.W.dataLe false dEvt)
def waysL (r : Rule) (x : Pair) (n : Nat) : List Evt := (evsL r (rm0 x)).filter fun e => decide ((do_ r (rm0 x) e).c ≤ n)
abbrev dWayL (r : Rule) (x : Pair) (e : Evt) : PyData := .tuple [dEvt e, dPair (behind r x e), .list ((do_ r (rm0 x) e).sv.map .int)]
def mixed (a k : Int) : Int := ((a.fmod 2147483647 * (48271 + 2 * k * k) + 69621 * k + 11).fmod 2147483647 * 69621).fmod 2147483629
def G_L_names (ds : List PyData) (d : PyData) : Prop := ∃ r l s, ds = [dRule r, dLineL l, .int (s : Nat)] ∧ Okl l ∧ d = dNames (nearest r l s)
def G_L_here (ds : List PyData) (d : PyData) : Prop := ∃ l, ds = [dLineL l] ∧ Okl l ∧ d = .list ((hereOf l).map .int)
def G_L_how (ds : List PyData) (d : PyData) : Prop := ∃ l p, ds = [dLineL l, .int p] ∧ Okl l ∧ d = .str (howS (howOf l p))
def G_L_claims (ds : List PyData) (es : List PyData) : Prop := ∃ r l, ds = [dRule r, dLineL l] ∧ Okl l ∧ es = (claiming r l).map .int
def G_L_can (ds : List PyData) (d : PyData) : Prop := ∃ r m e, ds = [dRule r, dRoomL m, dEvt e] ∧ Okl m.l ∧ d = .bool (canBe r m e)
def G_L_events (ds : List PyData) (d : PyData) : Prop := ∃ r m, ds = [dRule r, dRoomL m] ∧ Okl m.l ∧ d = .list ((evsL r m).map dEvt)
def G_L_renew (l : List RowD) (ds : List PyData) (l' : List RowD) : Prop := ∃ r ln ss, l = ln.map toD ∧ ds = [dRule r, dSpots ss] ∧ Okl ln ∧ (∀ s ∈ ss, s < ln.length) ∧ l' = (renewed r ln (at_ ss)).map toD
def G_L_gone (l : List RowD) (ds : List PyData) (l' : List RowD) : Prop := ∃ r ln p, l = ln.map toD ∧ ds = [dRule r, .int p] ∧ Okl ln ∧ l' = (without r ln p).map toD
def G_L_come (l : List RowD) (ds : List PyData) (l' : List RowD) : Prop := ∃ r ln s pn, l = ln.map toD ∧ ds = [dRule r, .int (s : Nat), .int pn] ∧ Okl ln ∧ ln.length < 60 ∧ s ≤ ln.length ∧ l' = (renewed r (ln.take s ++ ⟨pn, .here, []⟩ :: ln.drop s) (fun i => decide (i = s))).map toD
def G_L_asked (ds : List PyData) (l' : List RowD) : Prop := ∃ r l, ds = [dRule r, dLineL l] ∧ Okl l ∧ l' = (askedAgain r l).map toD
def G_L_back (l : List RowD) (ds : List PyData) (l' : List RowD) (n : Int) : Prop := ∃ r m s, l = m.l.map toD ∧ ds = [dRule r, .int (m.c : Nat), .int (s : Nat)] ∧ Okl m.l ∧ s < m.l.length ∧ l' = (bringBack r m s).l.map toD ∧ n = ((bringBack r m s).c : Nat)
def G_L_do (ds : List PyData) (d : PyData) : Prop := ∃ r m e, ds = [dRule r, dRoomL m, dEvt e] ∧ Okl m.l ∧ m.l.length < 60 ∧ m.sv.length ≤ 60 ∧ there m.l e ∧ d = dRoomL (do_ r m e)
def G_L_key (ds : List PyData) (d : PyData) : Prop := ∃ m, ds = [dRoomL m] ∧ Okl m.l ∧ d = dPair (m.l, m.c)
def G_L_ways (ds : List PyData) (d : PyData) : Prop := ∃ r x n, ds = [dRule r, dPair x, .int (n : Nat)] ∧ Okl x.1 ∧ x.1.length < 60 ∧ d = .list ((waysL r x n).map (dWayL r x))
/-- the callee chooses what it gives -/
def spC (Θ : Th) (G : List PyData → PyData → Prop) (I : List PyData → Prop) : Sp := fun vs H Q _ => ∃ H0 ds, Same H0 H ∧ DpAll Θ.K H0 vs ds ∧ I ds ∧ ∀ d v H', G ds d → Same H H' → Dp Θ.K (ext H0 H H') v d → Q v H'
def I_L_due (ds : List PyData) : Prop := ∃ r n, RuleOk r ∧ 1 ≤ n ∧ n ≤ 3 ∧ ds = [dRule r, .int (n : Nat), .int 300]
def G_L_due (ds : List PyData) (d : PyData) : Prop := ∀ r n, ds = [dRule r, .int (n : Nat), .int 300] → d = .none ∨ ∃ os, Few r n 300 ∧ Orders r n os ∧ d = .tuple (os.map dNames)
section
variable (Θ : Th)
def sp_L_names : Sp := spN Θ G_L_names
def sp_L_here : Sp := spN Θ G_L_here
def sp_L_how : Sp := spN Θ G_L_how
def sp_L_claims : Sp := spNL Θ G_L_claims
def sp_L_can : Sp := spN Θ G_L_can
def sp_L_events : Sp := spD Θ G_L_events
def sp_L_renew : Sp := spRn Θ G_L_renew
def sp_L_gone : Sp := spRw Θ G_L_gone
def sp_L_come : Sp := spRw Θ G_L_come
def sp_L_asked : Sp := spDR Θ G_L_asked
def sp_L_back : Sp := spRb Θ G_L_back
def sp_L_do : Sp := spD Θ G_L_do
def sp_L_key : Sp := spD Θ G_L_key
def sp_L_ways : Sp := spD Θ G_L_ways
def sp_L_due : Sp := spC Θ G_L_due I_L_due
end
variable {P : Program} {w : World} {K : PySem.W.Frag} {mg : Str → Option Value} {base : Heap} {C aP aC : Addr}
abbrev s_L_mixed : Stmt := topS 54
theorem sc_L_mixed : FnScope ["_law_cell", "_law_k"] ["_law_cell", "_law_k"] (C8.fnScope s_L_mixed) := C8.fnScope_by (by decide +kernel)
def t_L_mixed (Θ : Th) : TS :=
  (tSeq (tAsg (tOp (rI (fun _ j => j ≠ 0) fun i j => .int (i.fmod j)) (tCB rInt1 (tCons (tVar 0) tNil)) (tC (.int 2147483647))) (gName 0))
  (tRet (tOp (rI (fun _ j => j ≠ 0) fun i j => .int (i.fmod j)) (tOp (rI CMul fun i j => .int (i * j)) (tOp (rI (fun _ j => j ≠ 0) fun i j => .int (i.fmod j)) (tOp (rI0 fun i j => .int (i + j)) (tOp (rI0 fun i j => .int (i + j)) (tOp (rI CMul fun i j => .int (i * j)) (tVar 0) (tOp (rI0 fun i j => .int (i + j)) (tC (.int 48271)) (tOp (rI CMul fun i j => .int (i * j)) (tOp (rI CMul fun i j => .int (i * j)) (tC (.int 2)) (tVar 1)) (tVar 1)))) (tOp (rI CMul fun i j => .int (i * j)) (tC (.int 69621)) (tVar 1))) (tC (.int 11))) (tC (.int 2147483647))) (tC (.int 69621))) (tC (.int 2147483629)))))
theorem d_L_mixed (T : Txt mg aP aC) {f : Addr} {cdv : Value} {A : Around} {outer : List Env} {s : Shared} {H : Hp} {E : XK} (hr : Room 0 (A.deeper (envOfC "_law_mixed" (C8.fnScope s_L_mixed) s.heap.objs.size f cdv))) :
    PSs (cxOf C8.CX0 P w K mg base ["_law_cell", "_law_k"] "_law_mixed" (C8.fnScope s_L_mixed) f cdv A outer s H E).nox (C8.fnBody s_L_mixed) (t_L_mixed ⟨P, w, K, C, aP, aC⟩) :=
  (pss_cons (ps_set (i := 0) sc_L_mixed.nd rfl (.inl rfl) (pe_op op_modN (pe_callTy call_int1K (by rfl) T.int (by decide +kernel) (pa_cons (pv 0) pa_nil)) pe_int))
  (pss_one (ps_ret (pe_op op_modN (pe_op op_mul (pe_op op_modN (pe_op op_add (pe_op op_add (pe_op op_mul (pv 0) (pe_op op_add pe_int (pe_op op_mul (pe_op op_mul pe_int (pv 1)) (pv 1)))) (pe_op op_mul pe_int (pv 1))) pe_int) pe_int) pe_int) pe_int))))
abbrev s_L_names : Stmt := topS 57
theorem sc_L_names : FnScope ["_law_rule_here", "_law_line", "_law_spot", "_law_hows", "_law_row"] ["_law_rule_here", "_law_line", "_law_spot"] (C8.fnScope s_L_names) := C8.fnScope_by (by decide +kernel)
def t_L_names (Θ : Th) : TS :=
  (tSeq (tAsg (tIf (tTest (tOp rEq (tOp (rIx Θ.K) (tVar 0) (tC (.int 2))) (tC (.str "line")))) (tTup (tCons (tC (.str "here")) (tCons (tC (.str "out")) (tCons (tC (.str "away")) tNil)))) (tTup (tCons (tC (.str "here")) tNil))) (gName 3))
  (tRet (tCB (rTupOf Θ.K) (tCons (tSl (rSlL Θ.K) (tRevL Θ.K (tLc (iList Θ.K (tSl (rSlL Θ.K) (tVar 1) tNoPart (tPart (tVar 2)))) (gName 4) (tTest (tOp (rIn Θ.K false) (tOp (rIx Θ.K) (tVar 4) (tC (.int 1))) (tVar 3))) (tOp (rIx Θ.K) (tVar 4) (tC (.int 0))) [4])) tNoPart (tPart (tOp (rIx Θ.K) (tVar 0) (tC (.int 0))))) tNil))))
theorem d_L_names (T : Txt mg aP aC) {f : Addr} {cdv : Value} {A : Around} {outer : List Env} {s : Shared} {H : Hp} {E : XK} (hr : Room 0 (A.deeper (envOfC "_law_names" (C8.fnScope s_L_names) s.heap.objs.size f cdv))) :
    PSs (cxOf C8.CX0 P w K mg base ["_law_rule_here", "_law_line", "_law_spot", "_law_hows", "_law_row"] "_law_names" (C8.fnScope s_L_names) f cdv A outer s H E).nox (C8.fnBody s_L_names) (t_L_names ⟨P, w, K, C, aP, aC⟩) :=
  (pss_cons (ps_set (i := 3) sc_L_names.nd rfl (.inr rfl) (pe_ifExp (pt_cmpR op_eq (pe_ix ix_seq (pv 0) pe_int (fun _ _ => rfl)) pe_str (nomark _)) (pe_tup (pa_cons pe_str (pa_cons pe_str (pa_cons pe_str pa_nil)))) (pe_tup (pa_cons pe_str pa_nil))))
  (pss_one (ps_ret (pe_callTy call_tupleK (by rfl) T.tuple (by decide +kernel) (pa_cons (pe_slice sl_list (pe_revL (pe_lc (own := [("_law_row", 4)]) rfl sc_L_names.nd (pi_list (pe_slice sl_list (pv 1) po_none (po_some (pv 2)))) (blkOk_by (own := [("_law_row", 4)]) (N := ["_law_rule_here", "_law_line", "_law_spot", "_law_hows", "_law_row"]) (sc := C8.fnScope s_L_names) (by decide +kernel)) (fun _ _ _ _ _ => (pg_name (i := 4) sc_L_names.nd rfl (.inl rfl))) (fun _ _ _ _ _ => (pts_one (pt_cmpR op_in_seq (pe_ix ix_seq (pv 4) pe_int (fun _ _ => rfl)) (pv 3) (by rfl)))) (fun _ _ _ _ _ => (pe_ix ix_seq (pv 4) pe_int (fun _ _ => rfl))))) po_none (po_some (pe_ix ix_seq (pv 0) pe_int (fun _ _ => rfl)))) pa_nil)))))
abbrev s_L_renew : Stmt := topS 58
theorem sc_L_renew : FnScope ["_law_rule_here", "_law_line", "_law_spots", "_law_fresh", "_law_spot"] ["_law_rule_here", "_law_line", "_law_spots"] (C8.fnScope s_L_renew) := C8.fnScope_by (by decide +kernel)
def t_L_renew (Θ : Th) : TS :=
  (tSeq (tAsg (tLc (iRng1 (tCons (tCB (rLen Θ.K) (tCons (tVar 1) tNil)) tNil)) (gName 4) tYes (tCall (sp_L_names Θ) [] C8.E0 (tCons (tVar 0) (tCons (tVar 1) (tCons (tVar 4) tNil)))) [4]) (gName 3))
  (tFor (iList Θ.K (tVar 2)) (gName 4) (tIfS (tTest (tOp rEq (tOp (rIx Θ.K) (tOp (rIx Θ.K) (tVar 1) (tVar 4)) (tC (.int 1))) (tC (.str "here")))) (tAsg (tOp (rIx Θ.K) (tVar 3) (tVar 4)) (gSub (tOp (rIx Θ.K) (tVar 1) (tVar 4)) (tC (.int 2)) rSetL)) tNext)))
theorem d_L_renew (T : Txt mg aP aC) (c_L_names : C8.Cal P w K mg base 1 "_law_names" (sp_L_names ⟨P, w, K, C, aP, aC⟩) []) {f : Addr} {cdv : Value} {A : Around} {outer : List Env} {s : Shared} {H : Hp} {E : XK} (hr : Room 1 (A.deeper (envOfC "_law_renew" (C8.fnScope s_L_renew) s.heap.objs.size f cdv))) :
    PSs (cxOf C8.CX0 P w K mg base ["_law_rule_here", "_law_line", "_law_spots", "_law_fresh", "_law_spot"] "_law_renew" (C8.fnScope s_L_renew) f cdv A outer s H E).nox (C8.fnBody s_L_renew) (t_L_renew ⟨P, w, K, C, aP, aC⟩) :=
  (pss_cons (ps_setLc (i := 3) (own := [("_law_spot", 4)]) rfl sc_L_renew.nd rfl rfl (sw_true rfl rfl rfl (by decide +kernel)) (pi_range1 (by rfl) T.range (pa_cons (pe_callB call_lenK (by rfl) T.len (by decide +kernel) (pa_cons (pv 1) pa_nil)) pa_nil)) (blkOk_by (own := [("_law_spot", 4)]) (N := ["_law_rule_here", "_law_line", "_law_spots", "_law_fresh", "_law_spot"]) (sc := C8.fnScope s_L_renew) (by decide +kernel)) (fun _ _ _ _ _ => (pg_name (i := 4) sc_L_renew.nd rfl (.inl rfl))) (fun _ _ _ _ _ => pts_nil) (fun _ _ _ _ _ => (C8.pe_c c_L_names hr (by decide) (by rfl) (pa_cons (pv 0) (pa_cons (pv 1) (pa_cons (pv 4) pa_nil))))))
  (pss_one (ps_for PassesOwn.never rfl (pi_list (pv 2)) (pg_name (i := 4) sc_L_renew.nd rfl (.inl rfl)) (pss_one (ps_if (pt_cmpR op_eq (pe_ix ix_seq (pe_ix ix_seq (pv 1) (pv 4) (fun _ _ => rfl)) pe_int (fun _ _ => rfl)) pe_str (nomark _)) (pss_one (ps_asg (pe_ix ix_seq (pv 3) (pv 4) (fun _ _ => rfl)) (pg_sub (pe_ix ix_seq (pv 1) (pv 4) (fun _ _ => rfl)) pe_int set_list))) pss_nil)))))
abbrev s_L_gone : Stmt := topS 59
theorem sc_L_gone : FnScope ["_law_rule_here", "_law_line", "_law_person", "_law_rows", "_law_hit", "_law_spot", "_law_row", "_law_name"] ["_law_rule_here", "_law_line", "_law_person"] (C8.fnScope s_L_gone) := C8.fnScope_by (by decide +kernel)
def t_L_gone (Θ : Th) : TS :=
  (tSeq (tAsg (tLc (iList Θ.K (tVar 1)) (gName 6) (tTest (tOp rNe (tOp (rIx Θ.K) (tVar 6) (tC (.int 0))) (tVar 2))) (tVar 6) [6]) (gName 3))
  (tSeq (tAsg (tLc (iEnum Θ.K (tCons (tVar 3) tNil)) (gTup Θ.K 2 (gCons (gName 5) (gCons (gName 6) gNil))) (tAnd (tTest (tOp rEq (tOp (rIx Θ.K) (tVar 6) (tC (.int 1))) (tC (.str "here")))) (tTest (tOp (rIn Θ.K false) (tVar 2) (tOp (rIx Θ.K) (tVar 6) (tC (.int 2)))))) (tVar 5) [5, 6]) (gName 4))
  (tSeq (tFor (iList Θ.K (tVar 4)) (gName 5) (tAsg (tCB (rTupOf Θ.K) (tCons (tLc (iTup Θ.K (tOp (rIx Θ.K) (tOp (rIx Θ.K) (tVar 3) (tVar 5)) (tC (.int 2)))) (gName 7) (tTest (tOp rNe (tVar 7) (tVar 2))) (tVar 7) [7]) tNil)) (gSub (tOp (rIx Θ.K) (tVar 3) (tVar 5)) (tC (.int 2)) rSetL)))
  (tSeq (tIfS (tTest (tOp rEq (tOp (rIx Θ.K) (tVar 0) (tC (.int 3))) (tC (.str "on")))) (tDrop (tCall (sp_L_renew Θ) [] C8.E0 (tCons (tVar 0) (tCons (tVar 3) (tCons (tVar 4) tNil))))) tNext)
  (tRet (tVar 3))))))
theorem d_L_gone (T : Txt mg aP aC) (c_L_renew : C8.Cal P w K mg base 2 "_law_renew" (sp_L_renew ⟨P, w, K, C, aP, aC⟩) []) {f : Addr} {cdv : Value} {A : Around} {outer : List Env} {s : Shared} {H : Hp} {E : XK} (hr : Room 2 (A.deeper (envOfC "_law_gone" (C8.fnScope s_L_gone) s.heap.objs.size f cdv))) :
    PSs (cxOf C8.CX0 P w K mg base ["_law_rule_here", "_law_line", "_law_person", "_law_rows", "_law_hit", "_law_spot", "_law_row", "_law_name"] "_law_gone" (C8.fnScope s_L_gone) f cdv A outer s H E).nox (C8.fnBody s_L_gone) (t_L_gone ⟨P, w, K, C, aP, aC⟩) :=
  (pss_cons (ps_setLc (i := 3) (own := [("_law_row", 6)]) rfl sc_L_gone.nd rfl rfl (sw_true rfl rfl rfl (by decide +kernel)) (pi_list (pv 1)) (blkOk_by (own := [("_law_row", 6)]) (N := ["_law_rule_here", "_law_line", "_law_person", "_law_rows", "_law_hit", "_law_spot", "_law_row", "_law_name"]) (sc := C8.fnScope s_L_gone) (by decide +kernel)) (fun _ _ _ _ _ => (pg_name (i := 6) sc_L_gone.nd rfl (.inl rfl))) (fun _ _ _ _ _ => (pts_one (pt_cmpR op_ne (pe_ix ix_seq (pv 6) pe_int (fun _ _ => rfl)) (pv 2) (nomark _)))) (fun _ _ _ _ _ => (pv 6)))
  (pss_cons (ps_setLc (i := 4) (own := [("_law_spot", 5), ("_law_row", 6)]) rfl sc_L_gone.nd rfl rfl (sw_true rfl rfl rfl (by decide +kernel)) (pi_enum (by rfl) T.enumerate (pa_cons (pv 3) pa_nil)) (blkOk_by (own := [("_law_spot", 5), ("_law_row", 6)]) (N := ["_law_rule_here", "_law_line", "_law_person", "_law_rows", "_law_hit", "_law_spot", "_law_row", "_law_name"]) (sc := C8.fnScope s_L_gone) (by decide +kernel)) (fun _ _ _ _ _ => (pg_tup rfl (pgs_cons (pg_name (i := 5) sc_L_gone.nd rfl (.inl rfl)) (pgs_cons (pg_name (i := 6) sc_L_gone.nd rfl (.inl rfl)) pgs_nil)))) (fun _ _ _ _ _ => (pts_one (PW.pt (pw_and (pt_cmpR op_eq (pe_ix ix_seq (pv 6) pe_int (fun _ _ => rfl)) pe_str (nomark _)) (pw_and1 (pt_cmpR op_in_seq (pv 2) (pe_ix ix_seq (pv 6) pe_int (fun _ _ => rfl)) (by rfl))))))) (fun _ _ _ _ _ => (pv 5)))
  (pss_cons (ps_for PassesOwn.never rfl (pi_list (pv 4)) (pg_name (i := 5) sc_L_gone.nd rfl (.inl rfl)) (pss_one (ps_asg (pe_callTy call_tupleK (by rfl) T.tuple (by decide +kernel) (pa_cons (pe_lc (own := [("_law_name", 7)]) rfl sc_L_gone.nd (pi_tup (pe_ix ix_seq (pe_ix ix_seq (pv 3) (pv 5) (fun _ _ => rfl)) pe_int (fun _ _ => rfl))) (blkOk_by (own := [("_law_name", 7)]) (N := ["_law_rule_here", "_law_line", "_law_person", "_law_rows", "_law_hit", "_law_spot", "_law_row", "_law_name"]) (sc := C8.fnScope s_L_gone) (by decide +kernel)) (fun _ _ _ _ _ => (pg_name (i := 7) sc_L_gone.nd rfl (.inl rfl))) (fun _ _ _ _ _ => (pts_one (pt_cmpR op_ne (pv 7) (pv 2) (nomark _)))) (fun _ _ _ _ _ => (pv 7))) pa_nil)) (pg_sub (pe_ix ix_seq (pv 3) (pv 5) (fun _ _ => rfl)) pe_int set_list))))
  (pss_cons (ps_if (pt_cmpR op_eq (pe_ix ix_seq (pv 0) pe_int (fun _ _ => rfl)) pe_str (nomark _)) (pss_one (ps_expr (C8.pe_c c_L_renew hr (by decide) (by rfl) (pa_cons (pv 0) (pa_cons (pv 3) (pa_cons (pv 4) pa_nil)))))) pss_nil)
  (pss_one (ps_ret (pv 3)))))))
abbrev s_L_here : Stmt := topS 60
theorem sc_L_here : FnScope ["_law_line", "_law_row"] ["_law_line"] (C8.fnScope s_L_here) := C8.fnScope_by (by decide +kernel)
def t_L_here (Θ : Th) : TS :=
  (tRet (tLc (iList Θ.K (tVar 0)) (gName 1) (tTest (tOp rEq (tOp (rIx Θ.K) (tVar 1) (tC (.int 1))) (tC (.str "here")))) (tOp (rIx Θ.K) (tVar 1) (tC (.int 0))) [1]))
theorem d_L_here (T : Txt mg aP aC) {f : Addr} {cdv : Value} {A : Around} {outer : List Env} {s : Shared} {H : Hp} {E : XK} (hr : Room 0 (A.deeper (envOfC "_law_here" (C8.fnScope s_L_here) s.heap.objs.size f cdv))) :
    PSs (cxOf C8.CX0 P w K mg base ["_law_line", "_law_row"] "_law_here" (C8.fnScope s_L_here) f cdv A outer s H E).nox (C8.fnBody s_L_here) (t_L_here ⟨P, w, K, C, aP, aC⟩) :=
  (pss_one (ps_ret (pe_lc (own := [("_law_row", 1)]) rfl sc_L_here.nd (pi_list (pv 0)) (blkOk_by (own := [("_law_row", 1)]) (N := ["_law_line", "_law_row"]) (sc := C8.fnScope s_L_here) (by decide +kernel)) (fun _ _ _ _ _ => (pg_name (i := 1) sc_L_here.nd rfl (.inl rfl))) (fun _ _ _ _ _ => (pts_one (pt_cmpR op_eq (pe_ix ix_seq (pv 1) pe_int (fun _ _ => rfl)) pe_str (nomark _)))) (fun _ _ _ _ _ => (pe_ix ix_seq (pv 1) pe_int (fun _ _ => rfl))))))
abbrev s_L_asked : Stmt := topS 61
theorem sc_L_asked : FnScope ["_law_rule_here", "_law_line", "_law_rows", "_law_row", "_law_spot"] ["_law_rule_here", "_law_line"] (C8.fnScope s_L_asked) := C8.fnScope_by (by decide +kernel)
def t_L_asked (Θ : Th) : TS :=
  (tSeq (tAsg (tLc (iList Θ.K (tVar 1)) (gName 3) tYes (tCB (rListOf Θ.K) (tCons (tVar 3) tNil)) [3]) (gName 2))
  (tSeq (tIfS (tTest (tOp rEq (tOp (rIx Θ.K) (tVar 0) (tC (.int 6))) (tC (.str "asks")))) (tDrop (tCall (sp_L_renew Θ) [] C8.E0 (tCons (tVar 0) (tCons (tVar 2) (tCons (tLc (iEnum Θ.K (tCons (tVar 2) tNil)) (gTup Θ.K 2 (gCons (gName 4) (gCons (gName 3) gNil))) (tTest (tOp (rEqD Θ.K) (tOp (rIx Θ.K) (tVar 3) (tC (.int 2))) (tTup tNil))) (tVar 4) [4, 3]) tNil))))) tNext)
  (tRet (tVar 2))))
theorem d_L_asked (T : Txt mg aP aC) (c_L_renew : C8.Cal P w K mg base 2 "_law_renew" (sp_L_renew ⟨P, w, K, C, aP, aC⟩) []) {f : Addr} {cdv : Value} {A : Around} {outer : List Env} {s : Shared} {H : Hp} {E : XK} (hr : Room 2 (A.deeper (envOfC "_law_asked" (C8.fnScope s_L_asked) s.heap.objs.size f cdv))) :
    PSs (cxOf C8.CX0 P w K mg base ["_law_rule_here", "_law_line", "_law_rows", "_law_row", "_law_spot"] "_law_asked" (C8.fnScope s_L_asked) f cdv A outer s H E).nox (C8.fnBody s_L_asked) (t_L_asked ⟨P, w, K, C, aP, aC⟩) :=
  (pss_cons (ps_setLc (i := 2) (own := [("_law_row", 3)]) rfl sc_L_asked.nd rfl rfl (sw_true rfl rfl rfl (by decide +kernel)) (pi_list (pv 1)) (blkOk_by (own := [("_law_row", 3)]) (N := ["_law_rule_here", "_law_line", "_law_rows", "_law_row", "_law_spot"]) (sc := C8.fnScope s_L_asked) (by decide +kernel)) (fun _ _ _ _ _ => (pg_name (i := 3) sc_L_asked.nd rfl (.inl rfl))) (fun _ _ _ _ _ => pts_nil) (fun _ _ _ _ _ => (pe_callTy call_listK (by rfl) T.list (by decide +kernel) (pa_cons (pv 3) pa_nil))))
  (pss_cons (ps_if (pt_cmpR op_eq (pe_ix ix_seq (pv 0) pe_int (fun _ _ => rfl)) pe_str (nomark _)) (pss_one (ps_expr (C8.pe_c c_L_renew hr (by decide) (by rfl) (pa_cons (pv 0) (pa_cons (pv 2) (pa_cons (pe_lc (own := [("_law_spot", 4), ("_law_row", 3)]) rfl sc_L_asked.nd (pi_enum (by rfl) T.enumerate (pa_cons (pv 2) pa_nil)) (blkOk_by (own := [("_law_spot", 4), ("_law_row", 3)]) (N := ["_law_rule_here", "_law_line", "_law_rows", "_law_row", "_law_spot"]) (sc := C8.fnScope s_L_asked) (by decide +kernel)) (fun _ _ _ _ _ => (pg_tup rfl (pgs_cons (pg_name (i := 4) sc_L_asked.nd rfl (.inl rfl)) (pgs_cons (pg_name (i := 3) sc_L_asked.nd rfl (.inl rfl)) pgs_nil)))) (fun _ _ _ _ _ => (pts_one (pt_cmpR (op_eqD hr.units) (pe_ix ix_seq (pv 3) pe_int (fun _ _ => rfl)) (pe_tup pa_nil) (nomark _)))) (fun _ _ _ _ _ => (pv 4))) pa_nil)))))) pss_nil)
  (pss_one (ps_ret (pv 2)))))
abbrev s_L_claims : Stmt := topS 62
theorem sc_L_claims : FnScope ["_law_rule_here", "_law_rows", "_law_here_here", "_law_got", "_law_person", "_law_how_here", "_law_names_here", "_law_name"] ["_law_rule_here", "_law_rows"] (C8.fnScope s_L_claims) := C8.fnScope_by (by decide +kernel)
def t_L_claims (Θ : Th) : TS :=
  (tSeq (tAsg (tTup (tCons (tCall (sp_L_here Θ) [] C8.E0 (tCons (tVar 1) tNil)) (tCons (tLst tNil) tNil))) (gTup Θ.K 2 (gCons (gName 2) (gCons (gName 3) gNil))))
  (tSeq (tFor (iList Θ.K (tVar 1)) (gLst Θ.K 3 (gCons (gName 4) (gCons (gName 5) (gCons (gName 6) gNil)))) (tIfS (tAnd (tTest (tOp rEq (tVar 5) (tC (.str "here")))) (tAnd (tTest (tOp (rI0 fun i j => .bl (decide (i ≤ j))) (tCB (rLen Θ.K) (tCons (tVar 6) tNil)) (tOp (rIx Θ.K) (tVar 0) (tC (.int 1))))) (tTest (tOp (rEqD Θ.K) (tLc (iTup Θ.K (tVar 6)) (gName 7) (tTest (tOp (rIn Θ.K false) (tVar 7) (tVar 2))) (tVar 7) [7]) (tLst tNil))))) (tDrop (tBM Θ.K "list" rAppend (tVar 3) (tCons (tVar 4) tNil))) tNext))
  (tRet (tVar 3))))
theorem d_L_claims (T : Txt mg aP aC) (c_L_here : C8.Cal P w K mg base 1 "_law_here" (sp_L_here ⟨P, w, K, C, aP, aC⟩) []) {f : Addr} {cdv : Value} {A : Around} {outer : List Env} {s : Shared} {H : Hp} {E : XK} (hr : Room 1 (A.deeper (envOfC "_law_claims" (C8.fnScope s_L_claims) s.heap.objs.size f cdv))) :
    PSs (cxOf C8.CX0 P w K mg base ["_law_rule_here", "_law_rows", "_law_here_here", "_law_got", "_law_person", "_law_how_here", "_law_names_here", "_law_name"] "_law_claims" (C8.fnScope s_L_claims) f cdv A outer s H E).nox (C8.fnBody s_L_claims) (t_L_claims ⟨P, w, K, C, aP, aC⟩) :=
  (pss_cons (ps_asg (pe_tup (pa_cons (C8.pe_c c_L_here hr (by decide) (by rfl) (pa_cons (pv 1) pa_nil)) (pa_cons (pe_lst pa_nil) pa_nil))) (pg_tup rfl (pgs_cons (pg_name (i := 2) sc_L_claims.nd rfl (.inr rfl)) (pgs_cons (pg_name (i := 3) sc_L_claims.nd rfl (.inl rfl)) pgs_nil))))
  (pss_cons (ps_for PassesOwn.never rfl (pi_list (pv 1)) (pg_lst rfl (pgs_cons (pg_name (i := 4) sc_L_claims.nd rfl (.inl rfl)) (pgs_cons (pg_name (i := 5) sc_L_claims.nd rfl (.inl rfl)) (pgs_cons (pg_name (i := 6) sc_L_claims.nd rfl (.inl rfl)) pgs_nil)))) (pss_one (ps_if (PW.pt (pw_and (pt_cmpR op_eq (pv 5) pe_str (nomark _)) (pw_and (pt_cmpR op_le (pe_callB call_lenK (by rfl) T.len (by decide +kernel) (pa_cons (pv 6) pa_nil)) (pe_ix ix_seq (pv 0) pe_int (fun _ _ => rfl)) (nomark _)) (pw_and1 (pt_cmpR (op_eqD hr.units) (pe_lc (own := [("_law_name", 7)]) rfl sc_L_claims.nd (pi_tup (pv 6)) (blkOk_by (own := [("_law_name", 7)]) (N := ["_law_rule_here", "_law_rows", "_law_here_here", "_law_got", "_law_person", "_law_how_here", "_law_names_here", "_law_name"]) (sc := C8.fnScope s_L_claims) (by decide +kernel)) (fun _ _ _ _ _ => (pg_name (i := 7) sc_L_claims.nd rfl (.inl rfl))) (fun _ _ _ _ _ => (pts_one (pt_cmpR op_in_seq (pv 7) (pv 2) (by rfl)))) (fun _ _ _ _ _ => (pv 7))) (pe_lst pa_nil) (nomark _)))))) (pss_one (ps_expr (pe_bm PySem.F.plainAttrs_list PySem.F.slot_list_append PySem.F.type_list_append mt_append (pv 3) (pa_cons (pv 4) pa_nil)))) pss_nil)))
  (pss_one (ps_ret (pv 3)))))
abbrev s_L_come : Stmt := topS 63
theorem sc_L_come : FnScope ["_law_rule_here", "_law_line", "_law_spot", "_law_person", "_law_rows"] ["_law_rule_here", "_law_line", "_law_spot", "_law_person"] (C8.fnScope s_L_come) := C8.fnScope_by (by decide +kernel)
def t_L_come (Θ : Th) : TS :=
  (tSeq (tAsg (tOp rCat (tOp rCat (tSl (rSlL Θ.K) (tVar 1) tNoPart (tPart (tVar 2))) (tLst (tCons (tLst (tCons (tVar 3) (tCons (tC (.str "here")) (tCons (tTup tNil) tNil)))) tNil))) (tSl (rSlL Θ.K) (tVar 1) (tPart (tVar 2)) tNoPart)) (gName 4))
  (tSeq (tDrop (tCall (sp_L_renew Θ) [] C8.E0 (tCons (tVar 0) (tCons (tVar 4) (tCons (tLst (tCons (tVar 2) tNil)) tNil)))))
  (tRet (tVar 4))))
theorem d_L_come (T : Txt mg aP aC) (c_L_renew : C8.Cal P w K mg base 2 "_law_renew" (sp_L_renew ⟨P, w, K, C, aP, aC⟩) []) {f : Addr} {cdv : Value} {A : Around} {outer : List Env} {s : Shared} {H : Hp} {E : XK} (hr : Room 2 (A.deeper (envOfC "_law_come" (C8.fnScope s_L_come) s.heap.objs.size f cdv))) :
    PSs (cxOf C8.CX0 P w K mg base ["_law_rule_here", "_law_line", "_law_spot", "_law_person", "_law_rows"] "_law_come" (C8.fnScope s_L_come) f cdv A outer s H E).nox (C8.fnBody s_L_come) (t_L_come ⟨P, w, K, C, aP, aC⟩) :=
  (pss_cons (ps_set (i := 4) sc_L_come.nd rfl (.inl rfl) (pe_op op_cat (pe_op op_cat (pe_slice sl_list (pv 1) po_none (po_some (pv 2))) (pe_lst (pa_cons (pe_lst (pa_cons (pv 3) (pa_cons pe_str (pa_cons (pe_tup pa_nil) pa_nil)))) pa_nil))) (pe_slice sl_list (pv 1) (po_some (pv 2)) po_none)))
  (pss_cons (ps_expr (C8.pe_c c_L_renew hr (by decide) (by rfl) (pa_cons (pv 0) (pa_cons (pv 4) (pa_cons (pe_lst (pa_cons (pv 2) pa_nil)) pa_nil)))))
  (pss_one (ps_ret (pv 4)))))
abbrev s_L_how : Stmt := topS 64
theorem sc_L_how : FnScope ["_law_line", "_law_person", "_law_row"] ["_law_line", "_law_person"] (C8.fnScope s_L_how) := C8.fnScope_by (by decide +kernel)
def t_L_how (Θ : Th) : TS :=
  (tRet (tOp (rIx Θ.K) (tOp rCat (tLc (iList Θ.K (tVar 0)) (gName 2) (tTest (tOp rEq (tOp (rIx Θ.K) (tVar 2) (tC (.int 0))) (tVar 1))) (tOp (rIx Θ.K) (tVar 2) (tC (.int 1))) [2]) (tLst (tCons (tC (.str "none")) tNil))) (tC (.int 0))))
theorem d_L_how (T : Txt mg aP aC) {f : Addr} {cdv : Value} {A : Around} {outer : List Env} {s : Shared} {H : Hp} {E : XK} (hr : Room 0 (A.deeper (envOfC "_law_how" (C8.fnScope s_L_how) s.heap.objs.size f cdv))) :
    PSs (cxOf C8.CX0 P w K mg base ["_law_line", "_law_person", "_law_row"] "_law_how" (C8.fnScope s_L_how) f cdv A outer s H E).nox (C8.fnBody s_L_how) (t_L_how ⟨P, w, K, C, aP, aC⟩) :=
  (pss_one (ps_ret (pe_ix ix_seq (pe_op op_cat (pe_lc (own := [("_law_row", 2)]) rfl sc_L_how.nd (pi_list (pv 0)) (blkOk_by (own := [("_law_row", 2)]) (N := ["_law_line", "_law_person", "_law_row"]) (sc := C8.fnScope s_L_how) (by decide +kernel)) (fun _ _ _ _ _ => (pg_name (i := 2) sc_L_how.nd rfl (.inl rfl))) (fun _ _ _ _ _ => (pts_one (pt_cmpR op_eq (pe_ix ix_seq (pv 2) pe_int (fun _ _ => rfl)) (pv 1) (nomark _)))) (fun _ _ _ _ _ => (pe_ix ix_seq (pv 2) pe_int (fun _ _ => rfl)))) (pe_lst (pa_cons pe_str pa_nil))) pe_int (fun _ _ => rfl))))
abbrev s_L_can : Stmt := topS 65
theorem sc_L_can : FnScope ["_law_rule_here", "_law_room", "_law_event", "_law_line", "_law_came", "_law_served", "_law_how_here"] ["_law_rule_here", "_law_room", "_law_event"] (C8.fnScope s_L_can) := C8.fnScope_by (by decide +kernel)
def t_L_can (Θ : Th) : TS :=
  (tSeq (tAsg (tVar 1) (gTup Θ.K 3 (gCons (gName 3) (gCons (gName 4) (gCons (gName 5) gNil)))))
  (tSeq (tIfS (tTest (tOp (rEqD Θ.K) (tVar 2) (tTup (tCons (tC (.str "come")) tNil)))) (tRet (tOp (rI0 fun i j => .bl (decide (i < j))) (tVar 4) (tC (.int 12)))) tNext)
  (tSeq (tIfS (tTest (tOp (rEqD Θ.K) (tVar 2) (tTup (tCons (tC (.str "door")) tNil)))) (tRet (tOp (rNeD Θ.K) (tCall (sp_L_here Θ) [] C8.E0 (tCons (tVar 3) tNil)) (tLst tNil))) tNext)
  (tSeq (tAsg (tCall (sp_L_how Θ) [] C8.E0 (tCons (tVar 3) (tCons (tOp (rIx Θ.K) (tVar 2) (tC (.int 1))) tNil))) (gName 6))
  (tSeq (tIfS (tTest (tOp rEq (tOp (rIx Θ.K) (tVar 2) (tC (.int 0))) (tC (.str "back")))) (tRet (tOrV (tOp rEq (tVar 6) (tC (.str "out"))) (tAndV (tOp rEq (tVar 6) (tC (.str "lost"))) (tOrV (tOp rNe (tOp (rIx Θ.K) (tVar 0) (tC (.int 4))) (tC (.str "asks"))) (tOp (rI0 fun i j => .bl (decide (i < j))) (tVar 4) (tC (.int 12))))))) tNext)
  (tRet (tAndV (tOp rEq (tVar 6) (tC (.str "here"))) (tOrV (tOp rNe (tOp (rIx Θ.K) (tVar 2) (tC (.int 0))) (tC (.str "let"))) (tOp (rI0 fun i j => .bl (decide (i < j))) (tVar 4) (tC (.int 12)))))))))))
theorem d_L_can (T : Txt mg aP aC) (c_L_here : C8.Cal P w K mg base 1 "_law_here" (sp_L_here ⟨P, w, K, C, aP, aC⟩) []) (c_L_how : C8.Cal P w K mg base 1 "_law_how" (sp_L_how ⟨P, w, K, C, aP, aC⟩) []) {f : Addr} {cdv : Value} {A : Around} {outer : List Env} {s : Shared} {H : Hp} {E : XK} (hr : Room 1 (A.deeper (envOfC "_law_can" (C8.fnScope s_L_can) s.heap.objs.size f cdv))) :
    PSs (cxOf C8.CX0 P w K mg base ["_law_rule_here", "_law_room", "_law_event", "_law_line", "_law_came", "_law_served", "_law_how_here"] "_law_can" (C8.fnScope s_L_can) f cdv A outer s H E).nox (C8.fnBody s_L_can) (t_L_can ⟨P, w, K, C, aP, aC⟩) :=
  (pss_cons (ps_asg (pv 1) (pg_tup rfl (pgs_cons (pg_name (i := 3) sc_L_can.nd rfl (.inl rfl)) (pgs_cons (pg_name (i := 4) sc_L_can.nd rfl (.inl rfl)) (pgs_cons (pg_name (i := 5) sc_L_can.nd rfl (.inl rfl)) pgs_nil)))))
  (pss_cons (ps_if (pt_cmpR (op_eqD hr.units) (pv 2) (pe_tup (pa_cons pe_str pa_nil)) (nomark _)) (pss_one (ps_ret (pe_cmpR op_lt (pv 4) pe_int (nomark _)))) pss_nil)
  (pss_cons (ps_if (pt_cmpR (op_eqD hr.units) (pv 2) (pe_tup (pa_cons pe_str pa_nil)) (nomark _)) (pss_one (ps_ret (pe_cmpR (op_neD hr.units) (C8.pe_c c_L_here hr (by decide) (by rfl) (pa_cons (pv 3) pa_nil)) (pe_lst pa_nil) (nomark _)))) pss_nil)
  (pss_cons (ps_set (i := 6) sc_L_can.nd rfl (.inl rfl) (C8.pe_c c_L_how hr (by decide) (by rfl) (pa_cons (pv 3) (pa_cons (pe_ix ix_seq (pv 2) pe_int (fun _ _ => rfl)) pa_nil))))
  (pss_cons (ps_if (pt_cmpR op_eq (pe_ix ix_seq (pv 2) pe_int (fun _ _ => rfl)) pe_str (nomark _)) (pss_one (ps_ret (pe_or (pe_cmpR op_eq (pv 6) pe_str (nomark _)) (pe_one (pe_and (pe_cmpR op_eq (pv 6) pe_str (nomark _)) (pe_one (pe_or (pe_cmpR op_ne (pe_ix ix_seq (pv 0) pe_int (fun _ _ => rfl)) pe_str (nomark _)) (pe_one (pe_cmpR op_lt (pv 4) pe_int (nomark _)))))))))) pss_nil)
  (pss_one (ps_ret (pe_and (pe_cmpR op_eq (pv 6) pe_str (nomark _)) (pe_one (pe_or (pe_cmpR op_ne (pe_ix ix_seq (pv 2) pe_int (fun _ _ => rfl)) pe_str (nomark _)) (pe_one (pe_cmpR op_lt (pv 4) pe_int (nomark _)))))))))))))
abbrev s_L_back : Stmt := topS 66
theorem sc_L_back : FnScope ["_law_rule_here", "_law_line", "_law_came", "_law_spot"] ["_law_rule_here", "_law_line", "_law_came", "_law_spot"] (C8.fnScope s_L_back) := C8.fnScope_by (by decide +kernel)
def t_L_back (Θ : Th) : TS :=
  (tSeq (tIfS (tAnd (tTest (tOp rEq (tOp (rIx Θ.K) (tVar 0) (tC (.int 4))) (tC (.str "asks")))) (tTest (tOp rEq (tOp (rIx Θ.K) (tOp (rIx Θ.K) (tVar 1) (tVar 3)) (tC (.int 1))) (tC (.str "lost"))))) (tRet (tTup (tCons (tCall (sp_L_come Θ) [] C8.E0 (tCons (tVar 0) (tCons (tOp rCat (tSl (rSlL Θ.K) (tVar 1) tNoPart (tPart (tVar 3))) (tSl (rSlL Θ.K) (tVar 1) (tPart (tOp (rI0 fun i j => .int (i + j)) (tVar 3) (tC (.int 1)))) tNoPart)) (tCons (tOp (rI0 fun i j => .int (i - j)) (tCB (rLen Θ.K) (tCons (tVar 1) tNil)) (tC (.int 1))) (tCons (tVar 2) tNil))))) (tCons (tOp (rI0 fun i j => .int (i + j)) (tVar 2) (tC (.int 1))) tNil)))) tNext)
  (tSeq (tAsg (tC (.str "here")) (gSub (tOp (rIx Θ.K) (tVar 1) (tVar 3)) (tC (.int 1)) rSetL))
  (tSeq (tIfS (tTest (tOp rNe (tOp (rIx Θ.K) (tVar 0) (tC (.int 4))) (tC (.str "old")))) (tDrop (tCall (sp_L_renew Θ) [] C8.E0 (tCons (tVar 0) (tCons (tVar 1) (tCons (tLstRg (tRg2 (tVar 3) (tIf (tTest (tOp rEq (tOp (rIx Θ.K) (tVar 0) (tC (.int 4))) (tC (.str "tells")))) (tCB (rLen Θ.K) (tCons (tVar 1) tNil)) (tOp (rI0 fun i j => .int (i + j)) (tVar 3) (tC (.int 1)))))) tNil))))) tNext)
  (tRet (tTup (tCons (tVar 1) (tCons (tVar 2) tNil)))))))
theorem d_L_back (T : Txt mg aP aC) (c_L_come : C8.Cal P w K mg base 3 "_law_come" (sp_L_come ⟨P, w, K, C, aP, aC⟩) []) (c_L_renew : C8.Cal P w K mg base 2 "_law_renew" (sp_L_renew ⟨P, w, K, C, aP, aC⟩) []) {f : Addr} {cdv : Value} {A : Around} {outer : List Env} {s : Shared} {H : Hp} {E : XK} (hr : Room 3 (A.deeper (envOfC "_law_back" (C8.fnScope s_L_back) s.heap.objs.size f cdv))) :
    PSs (cxOf C8.CX0 P w K mg base ["_law_rule_here", "_law_line", "_law_came", "_law_spot"] "_law_back" (C8.fnScope s_L_back) f cdv A outer s H E).nox (C8.fnBody s_L_back) (t_L_back ⟨P, w, K, C, aP, aC⟩) :=
  (pss_cons (ps_if (PW.pt (pw_and (pt_cmpR op_eq (pe_ix ix_seq (pv 0) pe_int (fun _ _ => rfl)) pe_str (nomark _)) (pw_and1 (pt_cmpR op_eq (pe_ix ix_seq (pe_ix ix_seq (pv 1) (pv 3) (fun _ _ => rfl)) pe_int (fun _ _ => rfl)) pe_str (nomark _))))) (pss_one (ps_ret (pe_tup (pa_cons (C8.pe_c c_L_come hr (by decide) (by rfl) (pa_cons (pv 0) (pa_cons (pe_op op_cat (pe_slice sl_list (pv 1) po_none (po_some (pv 3))) (pe_slice sl_list (pv 1) (po_some (pe_op op_add (pv 3) pe_int)) po_none)) (pa_cons (pe_op op_sub (pe_callB call_lenK (by rfl) T.len (by decide +kernel) (pa_cons (pv 1) pa_nil)) pe_int) (pa_cons (pv 2) pa_nil))))) (pa_cons (pe_op op_add (pv 2) pe_int) pa_nil))))) pss_nil)
  (pss_cons (ps_asg pe_str (pg_sub (pe_ix ix_seq (pv 1) (pv 3) (fun _ _ => rfl)) pe_int set_list))
  (pss_cons (ps_if (pt_cmpR op_ne (pe_ix ix_seq (pv 0) pe_int (fun _ _ => rfl)) pe_str (nomark _)) (pss_one (ps_expr (C8.pe_c c_L_renew hr (by decide) (by rfl) (pa_cons (pv 0) (pa_cons (pv 1) (pa_cons (pe_listRg rfl (by rfl) T.list (prg_2 (by rfl) T.range (pv 3) (pe_ifExp (pt_cmpR op_eq (pe_ix ix_seq (pv 0) pe_int (fun _ _ => rfl)) pe_str (nomark _)) (pe_callB call_lenK (by rfl) T.len (by decide +kernel) (pa_cons (pv 1) pa_nil)) (pe_op op_add (pv 3) pe_int)))) pa_nil)))))) pss_nil)
  (pss_one (ps_ret (pe_tup (pa_cons (pv 1) (pa_cons (pv 2) pa_nil))))))))
abbrev s_L_do : Stmt := topS 67
theorem sc_L_do : FnScope ["_law_rule_here", "_law_room", "_law_event", "_law_line", "_law_came", "_law_served", "_law_spot", "_law_some", "_law_row", "_law_k"] ["_law_rule_here", "_law_room", "_law_event"] (C8.fnScope s_L_do) := C8.fnScope_by (by decide +kernel)
def t_L_do (Θ : Th) : TS :=
  (tSeq (tPar3 3 4 5 (tCons (tLc (iList Θ.K (tOp (rIx Θ.K) (tVar 1) (tC (.int 0)))) (gName 8) tYes (tCB (rListOf Θ.K) (tCons (tVar 8) tNil)) [8]) (tCons (tOp (rIx Θ.K) (tVar 1) (tC (.int 1))) (tCons (tCB (rListOf Θ.K) (tCons (tOp (rIx Θ.K) (tVar 1) (tC (.int 2))) tNil)) tNil))))
  (tSeq (tAsg (tOp (rIx Θ.K) (tOp rCat (tLc (iEnum Θ.K (tCons (tVar 3) tNil)) (gTup Θ.K 2 (gCons (gName 9) (gCons (gName 8) gNil))) (tTest (tOp (rEqD Θ.K) (tSl (rSlA Θ.K) (tVar 2) (tPart (tC (.int 1))) tNoPart) (tTup (tCons (tOp (rIx Θ.K) (tVar 8) (tC (.int 0))) tNil)))) (tVar 9) [9, 8]) (tLst (tCons (tC (.int 0)) tNil))) (tC (.int 0))) (gName 6))
  (tSeq (tIfS (tTest (tOp rEq (tOp (rIx Θ.K) (tVar 2) (tC (.int 0))) (tC (.str "come")))) (tPar 3 4 (tCons (tCall (sp_L_come Θ) [] C8.E0 (tCons (tVar 0) (tCons (tVar 3) (tCons (tCB (rLen Θ.K) (tCons (tVar 3) tNil)) (tCons (tVar 4) tNil))))) (tCons (tOp (rI0 fun i j => .int (i + j)) (tVar 4) (tC (.int 1))) tNil))) tNext)
  (tSeq (tIfS (tTest (tOp rEq (tOp (rIx Θ.K) (tVar 2) (tC (.int 0))) (tC (.str "let")))) (tSeq (tPar 3 4 (tCons (tCall (sp_L_come Θ) [] C8.E0 (tCons (tVar 0) (tCons (tVar 3) (tCons (tOp (rI0 fun i j => .int (i + j)) (tVar 6) (tC (.int 1))) (tCons (tVar 4) tNil))))) (tCons (tOp (rI0 fun i j => .int (i + j)) (tVar 4) (tC (.int 1))) tNil)))
  (tIfS (tTest (tOp rEq (tOp (rIx Θ.K) (tVar 0) (tC (.int 5))) (tC (.str "told")))) (tDrop (tCall (sp_L_renew Θ) [] C8.E0 (tCons (tVar 0) (tCons (tVar 3) (tCons (tLstRg (tRg2 (tOp (rI0 fun i j => .int (i + j)) (tVar 6) (tC (.int 2))) (tCB (rLen Θ.K) (tCons (tVar 3) tNil)))) tNil))))) tNext)) tNext)
  (tSeq (tIfS (tTest (tOp rEq (tOp (rIx Θ.K) (tVar 2) (tC (.int 0))) (tC (.str "out")))) (tAsg (tC (.str "out")) (gSub (tOp (rIx Θ.K) (tVar 3) (tVar 6)) (tC (.int 1)) rSetL)) tNext)
  (tSeq (tIfS (tTest (tOp rEq (tOp (rIx Θ.K) (tVar 2) (tC (.int 0))) (tC (.str "vanish")))) (tAsg (tTup (tCons (tC (.str "away")) (tCons (tTup tNil) tNil))) (gTup Θ.K 2 (gCons (gSub (tOp (rIx Θ.K) (tVar 3) (tVar 6)) (tC (.int 1)) rSetL) (gCons (gSub (tOp (rIx Θ.K) (tVar 3) (tVar 6)) (tC (.int 2)) rSetL) gNil)))) tNext)
  (tSeq (tIfS (tTest (tOp rEq (tOp (rIx Θ.K) (tVar 2) (tC (.int 0))) (tC (.str "leave")))) (tAsg (tCall (sp_L_gone Θ) [] C8.E0 (tCons (tVar 0) (tCons (tVar 3) (tCons (tOp (rIx Θ.K) (tVar 2) (tC (.int 1))) tNil)))) (gName 3)) tNext)
  (tSeq (tIfS (tTest (tOp rEq (tOp (rIx Θ.K) (tVar 2) (tC (.int 0))) (tC (.str "back")))) (tAsg (tCall (sp_L_back Θ) [] C8.E0 (tCons (tVar 0) (tCons (tVar 3) (tCons (tVar 4) (tCons (tVar 6) tNil))))) (gTup Θ.K 2 (gCons (gName 3) (gCons (gName 4) gNil)))) tNext)
  (tSeq (tIfS (tTest (tOp rEq (tOp (rIx Θ.K) (tVar 2) (tC (.int 0))) (tC (.str "door")))) (tSeq (tAsg (tCall (sp_L_asked Θ) [] C8.E0 (tCons (tVar 0) (tCons (tVar 3) tNil))) (gName 3))
  (tSeq (tAsg (tCall (sp_L_claims Θ) [] C8.E0 (tCons (tVar 0) (tCons (tVar 3) tNil))) (gName 7))
  (tIfS (tTest (tOp rEq (tCB (rLen Θ.K) (tCons (tVar 7) tNil)) (tC (.int 1)))) (tPar 3 5 (tCons (tCall (sp_L_gone Θ) [] C8.E0 (tCons (tVar 0) (tCons (tVar 3) (tCons (tOp (rIx Θ.K) (tVar 7) (tC (.int 0))) tNil)))) (tCons (tOp rCat (tVar 5) (tVar 7)) tNil))) tNext))) tNext)
  (tSeq (tIfS (tTest (tOp (rEqD Θ.K) (tCall (sp_L_here Θ) [] C8.E0 (tCons (tVar 3) tNil)) (tLst tNil))) (tAsg (tLc (iList Θ.K (tVar 3)) (gName 8) (tTest (tOp rNe (tOp (rIx Θ.K) (tVar 8) (tC (.int 1))) (tC (.str "away")))) (tLst (tCons (tOp (rIx Θ.K) (tVar 8) (tC (.int 0))) (tCons (tC (.str "lost")) (tCons (tOp (rIx Θ.K) (tVar 8) (tC (.int 2))) tNil)))) [8]) (gName 3)) tNext)
  (tRet (tTup (tCons (tVar 3) (tCons (tVar 4) (tCons (tVar 5) tNil)))))))))))))))
theorem d_L_do (T : Txt mg aP aC) (c_L_asked : C8.Cal P w K mg base 3 "_law_asked" (sp_L_asked ⟨P, w, K, C, aP, aC⟩) []) (c_L_back : C8.Cal P w K mg base 4 "_law_back" (sp_L_back ⟨P, w, K, C, aP, aC⟩) []) (c_L_claims : C8.Cal P w K mg base 2 "_law_claims" (sp_L_claims ⟨P, w, K, C, aP, aC⟩) []) (c_L_come : C8.Cal P w K mg base 3 "_law_come" (sp_L_come ⟨P, w, K, C, aP, aC⟩) []) (c_L_gone : C8.Cal P w K mg base 3 "_law_gone" (sp_L_gone ⟨P, w, K, C, aP, aC⟩) []) (c_L_here : C8.Cal P w K mg base 1 "_law_here" (sp_L_here ⟨P, w, K, C, aP, aC⟩) []) (c_L_renew : C8.Cal P w K mg base 2 "_law_renew" (sp_L_renew ⟨P, w, K, C, aP, aC⟩) []) {f : Addr} {cdv : Value} {A : Around} {outer : List Env} {s : Shared} {H : Hp} {E : XK} (hr : Room 4 (A.deeper (envOfC "_law_do" (C8.fnScope s_L_do) s.heap.objs.size f cdv))) :
    PSs (cxOf C8.CX0 P w K mg base ["_law_rule_here", "_law_room", "_law_event", "_law_line", "_law_came", "_law_served", "_law_spot", "_law_some", "_law_row", "_law_k"] "_law_do" (C8.fnScope s_L_do) f cdv A outer s H E).nox (C8.fnBody s_L_do) (t_L_do ⟨P, w, K, C, aP, aC⟩) :=
  (pss_cons (ps_par3 (by rfl) sc_L_do.nd rfl rfl rfl (by decide) (by decide) (by decide) rfl rfl rfl (pa_cons (pe_lc (own := [("_law_row", 8)]) rfl sc_L_do.nd (pi_list (pe_ix ix_seq (pv 1) pe_int (fun _ _ => rfl))) (blkOk_by (own := [("_law_row", 8)]) (N := ["_law_rule_here", "_law_room", "_law_event", "_law_line", "_law_came", "_law_served", "_law_spot", "_law_some", "_law_row", "_law_k"]) (sc := C8.fnScope s_L_do) (by decide +kernel)) (fun _ _ _ _ _ => (pg_name (i := 8) sc_L_do.nd rfl (.inl rfl))) (fun _ _ _ _ _ => pts_nil) (fun _ _ _ _ _ => (pe_callTy call_listK (by rfl) T.list (by decide +kernel) (pa_cons (pv 8) pa_nil)))) (pa_cons (pe_ix ix_seq (pv 1) pe_int (fun _ _ => rfl)) (pa_cons (pe_callTy call_listK (by rfl) T.list (by decide +kernel) (pa_cons (pe_ix ix_seq (pv 1) pe_int (fun _ _ => rfl)) pa_nil)) pa_nil))) (by rfl))
  (pss_cons (ps_set (i := 6) sc_L_do.nd rfl (.inl rfl) (pe_ix ix_seq (pe_op op_cat (pe_lc (own := [("_law_k", 9), ("_law_row", 8)]) rfl sc_L_do.nd (pi_enum (by rfl) T.enumerate (pa_cons (pv 3) pa_nil)) (blkOk_by (own := [("_law_k", 9), ("_law_row", 8)]) (N := ["_law_rule_here", "_law_room", "_law_event", "_law_line", "_law_came", "_law_served", "_law_spot", "_law_some", "_law_row", "_law_k"]) (sc := C8.fnScope s_L_do) (by decide +kernel)) (fun _ _ _ _ _ => (pg_tup rfl (pgs_cons (pg_name (i := 9) sc_L_do.nd rfl (.inl rfl)) (pgs_cons (pg_name (i := 8) sc_L_do.nd rfl (.inl rfl)) pgs_nil)))) (fun _ _ _ _ _ => (pts_one (pt_cmpR (op_eqD hr.units) (pe_slice sl_tupA (pv 2) (po_some pe_int) po_none) (pe_tup (pa_cons (pe_ix ix_seq (pv 8) pe_int (fun _ _ => rfl)) pa_nil)) (nomark _)))) (fun _ _ _ _ _ => (pv 9))) (pe_lst (pa_cons pe_int pa_nil))) pe_int (fun _ _ => rfl)))
  (pss_cons (ps_if (pt_cmpR op_eq (pe_ix ix_seq (pv 2) pe_int (fun _ _ => rfl)) pe_str (nomark _)) (pss_one (ps_par (by rfl) sc_L_do.nd rfl rfl (by decide) rfl rfl (pa_cons (C8.pe_c c_L_come hr (by decide) (by rfl) (pa_cons (pv 0) (pa_cons (pv 3) (pa_cons (pe_callB call_lenK (by rfl) T.len (by decide +kernel) (pa_cons (pv 3) pa_nil)) (pa_cons (pv 4) pa_nil))))) (pa_cons (pe_op op_add (pv 4) pe_int) pa_nil)) (by rfl))) pss_nil)
  (pss_cons (ps_if (pt_cmpR op_eq (pe_ix ix_seq (pv 2) pe_int (fun _ _ => rfl)) pe_str (nomark _)) (pss_cons (ps_par (by rfl) sc_L_do.nd rfl rfl (by decide) rfl rfl (pa_cons (C8.pe_c c_L_come hr (by decide) (by rfl) (pa_cons (pv 0) (pa_cons (pv 3) (pa_cons (pe_op op_add (pv 6) pe_int) (pa_cons (pv 4) pa_nil))))) (pa_cons (pe_op op_add (pv 4) pe_int) pa_nil)) (by rfl))
  (pss_one (ps_if (pt_cmpR op_eq (pe_ix ix_seq (pv 0) pe_int (fun _ _ => rfl)) pe_str (nomark _)) (pss_one (ps_expr (C8.pe_c c_L_renew hr (by decide) (by rfl) (pa_cons (pv 0) (pa_cons (pv 3) (pa_cons (pe_listRg rfl (by rfl) T.list (prg_2 (by rfl) T.range (pe_op op_add (pv 6) pe_int) (pe_callB call_lenK (by rfl) T.len (by decide +kernel) (pa_cons (pv 3) pa_nil)))) pa_nil)))))) pss_nil))) pss_nil)
  (pss_cons (ps_if (pt_cmpR op_eq (pe_ix ix_seq (pv 2) pe_int (fun _ _ => rfl)) pe_str (nomark _)) (pss_one (ps_asg pe_str (pg_sub (pe_ix ix_seq (pv 3) (pv 6) (fun _ _ => rfl)) pe_int set_list))) pss_nil)
  (pss_cons (ps_if (pt_cmpR op_eq (pe_ix ix_seq (pv 2) pe_int (fun _ _ => rfl)) pe_str (nomark _)) (pss_one (ps_asg (pe_tup (pa_cons pe_str (pa_cons (pe_tup pa_nil) pa_nil))) (pg_tup rfl (pgs_cons (pg_sub (pe_ix ix_seq (pv 3) (pv 6) (fun _ _ => rfl)) pe_int set_list) (pgs_cons (pg_sub (pe_ix ix_seq (pv 3) (pv 6) (fun _ _ => rfl)) pe_int set_list) pgs_nil))))) pss_nil)
  (pss_cons (ps_if (pt_cmpR op_eq (pe_ix ix_seq (pv 2) pe_int (fun _ _ => rfl)) pe_str (nomark _)) (pss_one (ps_set (i := 3) sc_L_do.nd rfl (.inl rfl) (C8.pe_c c_L_gone hr (by decide) (by rfl) (pa_cons (pv 0) (pa_cons (pv 3) (pa_cons (pe_ix ix_seq (pv 2) pe_int (fun _ _ => rfl)) pa_nil)))))) pss_nil)
  (pss_cons (ps_if (pt_cmpR op_eq (pe_ix ix_seq (pv 2) pe_int (fun _ _ => rfl)) pe_str (nomark _)) (pss_one (ps_asg (C8.pe_c c_L_back hr (by decide) (by rfl) (pa_cons (pv 0) (pa_cons (pv 3) (pa_cons (pv 4) (pa_cons (pv 6) pa_nil))))) (pg_tup rfl (pgs_cons (pg_name (i := 3) sc_L_do.nd rfl (.inl rfl)) (pgs_cons (pg_name (i := 4) sc_L_do.nd rfl (.inl rfl)) pgs_nil))))) pss_nil)
  (pss_cons (ps_if (pt_cmpR op_eq (pe_ix ix_seq (pv 2) pe_int (fun _ _ => rfl)) pe_str (nomark _)) (pss_cons (ps_set (i := 3) sc_L_do.nd rfl (.inl rfl) (C8.pe_c c_L_asked hr (by decide) (by rfl) (pa_cons (pv 0) (pa_cons (pv 3) pa_nil))))
  (pss_cons (ps_set (i := 7) sc_L_do.nd rfl (.inl rfl) (C8.pe_c c_L_claims hr (by decide) (by rfl) (pa_cons (pv 0) (pa_cons (pv 3) pa_nil))))
  (pss_one (ps_if (pt_cmpR op_eq (pe_callB call_lenK (by rfl) T.len (by decide +kernel) (pa_cons (pv 7) pa_nil)) pe_int (nomark _)) (pss_one (ps_par (by rfl) sc_L_do.nd rfl rfl (by decide) rfl rfl (pa_cons (C8.pe_c c_L_gone hr (by decide) (by rfl) (pa_cons (pv 0) (pa_cons (pv 3) (pa_cons (pe_ix ix_seq (pv 7) pe_int (fun _ _ => rfl)) pa_nil)))) (pa_cons (pe_op op_cat (pv 5) (pv 7)) pa_nil)) (by rfl))) pss_nil)))) pss_nil)
  (pss_cons (ps_if (pt_cmpR (op_eqD hr.units) (C8.pe_c c_L_here hr (by decide) (by rfl) (pa_cons (pv 3) pa_nil)) (pe_lst pa_nil) (nomark _)) (pss_one (ps_setLc (i := 3) (own := [("_law_row", 8)]) rfl sc_L_do.nd rfl rfl (sw_true rfl rfl rfl (by decide +kernel)) (pi_list (pv 3)) (blkOk_by (own := [("_law_row", 8)]) (N := ["_law_rule_here", "_law_room", "_law_event", "_law_line", "_law_came", "_law_served", "_law_spot", "_law_some", "_law_row", "_law_k"]) (sc := C8.fnScope s_L_do) (by decide +kernel)) (fun _ _ _ _ _ => (pg_name (i := 8) sc_L_do.nd rfl (.inl rfl))) (fun _ _ _ _ _ => (pts_one (pt_cmpR op_ne (pe_ix ix_seq (pv 8) pe_int (fun _ _ => rfl)) pe_str (nomark _)))) (fun _ _ _ _ _ => (pe_lst (pa_cons (pe_ix ix_seq (pv 8) pe_int (fun _ _ => rfl)) (pa_cons pe_str (pa_cons (pe_ix ix_seq (pv 8) pe_int (fun _ _ => rfl)) pa_nil))))))) pss_nil)
  (pss_one (ps_ret (pe_tup (pa_cons (pv 3) (pa_cons (pv 4) (pa_cons (pv 5) pa_nil))))))))))))))))
abbrev s_L_events : Stmt := topS 68
theorem sc_L_events : FnScope ["_law_rule_here", "_law_room", "_law_some", "_law_word", "_law_row", "_law_event"] ["_law_rule_here", "_law_room"] (C8.fnScope s_L_events) := C8.fnScope_by (by decide +kernel)
def t_L_events (Θ : Th) : TS :=
  (tSeq (tAsg (tLc (iList Θ.K (tOp (rIx Θ.K) (tVar 1) (tC (.int 0)))) (gName 4) tYes (tTup (tCons (tC (.str "back")) (tCons (tOp (rIx Θ.K) (tVar 4) (tC (.int 0))) tNil))) [4]) (gName 2))
  (tSeq (tFor (iTup Θ.K (tTup (tCons (tC (.str "leave")) (tCons (tC (.str "let")) (tCons (tC (.str "out")) (tCons (tC (.str "vanish")) tNil)))))) (gName 3) (tDrop (tBM Θ.K "list" rExtend (tVar 2) (tCons (tLc (iList Θ.K (tOp (rIx Θ.K) (tVar 1) (tC (.int 0)))) (gName 4) tYes (tTup (tCons (tVar 3) (tCons (tOp (rIx Θ.K) (tVar 4) (tC (.int 0))) tNil))) [4]) tNil))))
  (tRet (tCB (rSortD Θ.K) (tCons (tLc (iList Θ.K (tOp rCat (tVar 2) (tLst (tCons (tTup (tCons (tC (.str "come")) tNil)) (tCons (tTup (tCons (tC (.str "door")) tNil)) tNil))))) (gName 5) (tB (tCall (sp_L_can Θ) [] C8.E0 (tCons (tVar 0) (tCons (tVar 1) (tCons (tVar 5) tNil))))) (tVar 5) [5]) tNil)))))
theorem d_L_events (T : Txt mg aP aC) (c_L_can : C8.Cal P w K mg base 2 "_law_can" (sp_L_can ⟨P, w, K, C, aP, aC⟩) []) {f : Addr} {cdv : Value} {A : Around} {outer : List Env} {s : Shared} {H : Hp} {E : XK} (hr : Room 2 (A.deeper (envOfC "_law_events" (C8.fnScope s_L_events) s.heap.objs.size f cdv))) :
    PSs (cxOf C8.CX0 P w K mg base ["_law_rule_here", "_law_room", "_law_some", "_law_word", "_law_row", "_law_event"] "_law_events" (C8.fnScope s_L_events) f cdv A outer s H E).nox (C8.fnBody s_L_events) (t_L_events ⟨P, w, K, C, aP, aC⟩) :=
  (pss_cons (ps_setLc (i := 2) (own := [("_law_row", 4)]) rfl sc_L_events.nd rfl rfl (sw_true rfl rfl rfl (by decide +kernel)) (pi_list (pe_ix ix_seq (pv 1) pe_int (fun _ _ => rfl))) (blkOk_by (own := [("_law_row", 4)]) (N := ["_law_rule_here", "_law_room", "_law_some", "_law_word", "_law_row", "_law_event"]) (sc := C8.fnScope s_L_events) (by decide +kernel)) (fun _ _ _ _ _ => (pg_name (i := 4) sc_L_events.nd rfl (.inl rfl))) (fun _ _ _ _ _ => pts_nil) (fun _ _ _ _ _ => (pe_tup (pa_cons pe_str (pa_cons (pe_ix ix_seq (pv 4) pe_int (fun _ _ => rfl)) pa_nil)))))
  (pss_cons (ps_for PassesOwn.never rfl (pi_tup (pe_tup (pa_cons pe_str (pa_cons pe_str (pa_cons pe_str (pa_cons pe_str pa_nil)))))) (pg_name (i := 3) sc_L_events.nd rfl (.inr rfl)) (pss_one (ps_expr (pe_bm PySem.F.plainAttrs_list PySem.F.slot_list_extend PySem.F.type_list_extend mt_extend (pv 2) (pa_cons (pe_lc (own := [("_law_row", 4)]) rfl sc_L_events.nd (pi_list (pe_ix ix_seq (pv 1) pe_int (fun _ _ => rfl))) (blkOk_by (own := [("_law_row", 4)]) (N := ["_law_rule_here", "_law_room", "_law_some", "_law_word", "_law_row", "_law_event"]) (sc := C8.fnScope s_L_events) (by decide +kernel)) (fun _ _ _ _ _ => (pg_name (i := 4) sc_L_events.nd rfl (.inl rfl))) (fun _ _ _ _ _ => pts_nil) (fun _ _ _ _ _ => (pe_tup (pa_cons (pv 3) (pa_cons (pe_ix ix_seq (pv 4) pe_int (fun _ _ => rfl)) pa_nil))))) pa_nil)))))
  (pss_one (ps_ret (pe_callB (call_sortD hr.units) (by rfl) T.sorted (by decide +kernel) (pa_cons (pe_lc (own := [("_law_event", 5)]) rfl sc_L_events.nd (pi_list (pe_op op_cat (pv 2) (pe_lst (pa_cons (pe_tup (pa_cons pe_str pa_nil)) (pa_cons (pe_tup (pa_cons pe_str pa_nil)) pa_nil))))) (blkOk_by (own := [("_law_event", 5)]) (N := ["_law_rule_here", "_law_room", "_law_some", "_law_word", "_law_row", "_law_event"]) (sc := C8.fnScope s_L_events) (by decide +kernel)) (fun _ _ _ _ _ => (pg_name (i := 5) sc_L_events.nd rfl (.inl rfl))) (fun _ _ _ _ _ => (pts_one (pt_val (C8.pe_c c_L_can hr (by decide) (by rfl) (pa_cons (pv 0) (pa_cons (pv 1) (pa_cons (pv 5) pa_nil))))))) (fun _ _ _ _ _ => (pv 5))) pa_nil))))))
abbrev s_L_key : Stmt := topS 70
theorem sc_L_key : FnScope ["_law_room", "_law_row"] ["_law_room"] (C8.fnScope s_L_key) := C8.fnScope_by (by decide +kernel)
def t_L_key (Θ : Th) : TS :=
  (tRet (tTup (tCons (tCB (rTupOf Θ.K) (tCons (tLc (iList Θ.K (tOp (rIx Θ.K) (tVar 0) (tC (.int 0)))) (gName 1) tYes (tCB (rTupOf Θ.K) (tCons (tVar 1) tNil)) [1]) tNil)) (tCons (tOp (rIx Θ.K) (tVar 0) (tC (.int 1))) tNil))))
theorem d_L_key (T : Txt mg aP aC) {f : Addr} {cdv : Value} {A : Around} {outer : List Env} {s : Shared} {H : Hp} {E : XK} (hr : Room 0 (A.deeper (envOfC "_law_key" (C8.fnScope s_L_key) s.heap.objs.size f cdv))) :
    PSs (cxOf C8.CX0 P w K mg base ["_law_room", "_law_row"] "_law_key" (C8.fnScope s_L_key) f cdv A outer s H E).nox (C8.fnBody s_L_key) (t_L_key ⟨P, w, K, C, aP, aC⟩) :=
  (pss_one (ps_ret (pe_tup (pa_cons (pe_callTy call_tupleK (by rfl) T.tuple (by decide +kernel) (pa_cons (pe_lc (own := [("_law_row", 1)]) rfl sc_L_key.nd (pi_list (pe_ix ix_seq (pv 0) pe_int (fun _ _ => rfl))) (blkOk_by (own := [("_law_row", 1)]) (N := ["_law_room", "_law_row"]) (sc := C8.fnScope s_L_key) (by decide +kernel)) (fun _ _ _ _ _ => (pg_name (i := 1) sc_L_key.nd rfl (.inl rfl))) (fun _ _ _ _ _ => pts_nil) (fun _ _ _ _ _ => (pe_callTy call_tupleK (by rfl) T.tuple (by decide +kernel) (pa_cons (pv 1) pa_nil)))) pa_nil)) (pa_cons (pe_ix ix_seq (pv 0) pe_int (fun _ _ => rfl)) pa_nil)))))
abbrev s_L_ways : Stmt := topS 71
theorem sc_L_ways : FnScope ["_law_rule_here", "_law_key_here", "_law_people", "_law_room", "_law_found", "_law_event", "_law_later", "_law_row"] ["_law_rule_here", "_law_key_here", "_law_people"] (C8.fnScope s_L_ways) := C8.fnScope_by (by decide +kernel)
def t_L_ways (Θ : Th) : TS :=
  (tSeq (tPar 3 4 (tCons (tTup (tCons (tLc (iTup Θ.K (tOp (rIx Θ.K) (tVar 1) (tC (.int 0)))) (gName 7) tYes (tCB (rListOf Θ.K) (tCons (tVar 7) tNil)) [7]) (tCons (tOp (rIx Θ.K) (tVar 1) (tC (.int 1))) (tCons (tLst tNil) tNil)))) (tCons (tLst tNil) tNil)))
  (tSeq (tFor (iList Θ.K (tCall (sp_L_events Θ) [] C8.E0 (tCons (tVar 0) (tCons (tVar 3) tNil)))) (gName 5) (tSeq (tAsg (tCall (sp_L_do Θ) [] C8.E0 (tCons (tVar 0) (tCons (tVar 3) (tCons (tVar 5) tNil)))) (gName 6))
  (tIfS (tTest (tOp (rI0 fun i j => .bl (decide (i ≤ j))) (tOp (rIx Θ.K) (tVar 6) (tC (.int 1))) (tVar 2))) (tDrop (tBM Θ.K "list" rAppend (tVar 4) (tCons (tTup (tCons (tVar 5) (tCons (tCall (sp_L_key Θ) [] C8.E0 (tCons (tVar 6) tNil)) (tCons (tOp (rIx Θ.K) (tVar 6) (tC (.int 2))) tNil)))) tNil))) tNext)))
  (tRet (tVar 4))))
theorem d_L_ways (T : Txt mg aP aC) (c_L_do : C8.Cal P w K mg base 5 "_law_do" (sp_L_do ⟨P, w, K, C, aP, aC⟩) []) (c_L_events : C8.Cal P w K mg base 3 "_law_events" (sp_L_events ⟨P, w, K, C, aP, aC⟩) []) (c_L_key : C8.Cal P w K mg base 1 "_law_key" (sp_L_key ⟨P, w, K, C, aP, aC⟩) []) {f : Addr} {cdv : Value} {A : Around} {outer : List Env} {s : Shared} {H : Hp} {E : XK} (hr : Room 5 (A.deeper (envOfC "_law_ways" (C8.fnScope s_L_ways) s.heap.objs.size f cdv))) :
    PSs (cxOf C8.CX0 P w K mg base ["_law_rule_here", "_law_key_here", "_law_people", "_law_room", "_law_found", "_law_event", "_law_later", "_law_row"] "_law_ways" (C8.fnScope s_L_ways) f cdv A outer s H E).nox (C8.fnBody s_L_ways) (t_L_ways ⟨P, w, K, C, aP, aC⟩) :=
  (pss_cons (ps_par (by rfl) sc_L_ways.nd rfl rfl (by decide) rfl rfl (pa_cons (pe_tup (pa_cons (pe_lc (own := [("_law_row", 7)]) rfl sc_L_ways.nd (pi_tup (pe_ix ix_seq (pv 1) pe_int (fun _ _ => rfl))) (blkOk_by (own := [("_law_row", 7)]) (N := ["_law_rule_here", "_law_key_here", "_law_people", "_law_room", "_law_found", "_law_event", "_law_later", "_law_row"]) (sc := C8.fnScope s_L_ways) (by decide +kernel)) (fun _ _ _ _ _ => (pg_name (i := 7) sc_L_ways.nd rfl (.inl rfl))) (fun _ _ _ _ _ => pts_nil) (fun _ _ _ _ _ => (pe_callTy call_listK (by rfl) T.list (by decide +kernel) (pa_cons (pv 7) pa_nil)))) (pa_cons (pe_ix ix_seq (pv 1) pe_int (fun _ _ => rfl)) (pa_cons (pe_lst pa_nil) pa_nil)))) (pa_cons (pe_lst pa_nil) pa_nil)) (by rfl))
  (pss_cons (ps_for PassesOwn.never rfl (pi_list (C8.pe_c c_L_events hr (by decide) (by rfl) (pa_cons (pv 0) (pa_cons (pv 3) pa_nil)))) (pg_name (i := 5) sc_L_ways.nd rfl (.inl rfl)) (pss_cons (ps_set (i := 6) sc_L_ways.nd rfl (.inl rfl) (C8.pe_c c_L_do hr (by decide) (by rfl) (pa_cons (pv 0) (pa_cons (pv 3) (pa_cons (pv 5) pa_nil)))))
  (pss_one (ps_if (pt_cmpR op_le (pe_ix ix_seq (pv 6) pe_int (fun _ _ => rfl)) (pv 2) (nomark _)) (pss_one (ps_expr (pe_bm PySem.F.plainAttrs_list PySem.F.slot_list_append PySem.F.type_list_append mt_append (pv 4) (pa_cons (pe_tup (pa_cons (pv 5) (pa_cons (C8.pe_c c_L_key hr (by decide) (by rfl) (pa_cons (pv 6) pa_nil)) (pa_cons (pe_ix ix_seq (pv 6) pe_int (fun _ _ => rfl)) pa_nil)))) pa_nil)))) pss_nil))))
  (pss_one (ps_ret (pv 4)))))
abbrev s_L_due : Stmt := topS 72
theorem sc_L_due : FnScope ["_law_rule_here", "_law_people", "_law_most", "_law_known", "_law_waiting", "_law_found", "_law_here_here", "_law_ways_here", "_law_way"] ["_law_rule_here", "_law_people", "_law_most"] (C8.fnScope s_L_due) := C8.fnScope_by (by decide +kernel)
def t_L_due (Θ : Th) : TS :=
  (tSeq (tPar3 3 4 5 (tCons (tDNewN Θ.P Θ.w) (tCons (tLst (tCons (tTup (tCons (tTup (tCons (tTup tNil) (tCons (tC (.int 0)) tNil))) (tCons (tTup tNil) tNil))) tNil)) (tCons (tDNewN Θ.P Θ.w) tNil))))
  (tSeq (tWhile (tTest (tOp (rNeD Θ.K) (tVar 4) (tLst tNil))) (tSeq (tAsg (tBM0 Θ.K "list" rPop (tVar 4)) (gName 6))
  (tIfS (tTest (tOp (rInN Θ.K Θ.P Θ.w true) (tVar 6) (tVar 3))) (tSeq (tIfS (tTest (tOp rEq (tCB (rLenN Θ) (tCons (tVar 3) tNil)) (tVar 2))) (tRet (tC .non)) tNext)
  (tSeq (tAsg (tC (.bl true)) (gSub (tVar 3) (tVar 6) (rSetN Θ.K Θ.P Θ.w)))
  (tSeq (tIfS (tTest (tOp (rEqD Θ.K) (tOp (rIx Θ.K) (tVar 6) (tC (.int 0))) (tTup (tCons (tTup tNil) (tCons (tVar 1) tNil))))) (tAsg (tC (.bl true)) (gSub (tVar 5) (tOp (rIx Θ.K) (tVar 6) (tC (.int 1))) (rSetN Θ.K Θ.P Θ.w))) tNext)
  (tSeq (tAsg (tLc (iList Θ.K (tCall (sp_L_ways Θ) [] C8.E0 (tCons (tVar 0) (tCons (tOp (rIx Θ.K) (tVar 6) (tC (.int 0))) (tCons (tVar 1) tNil))))) (gName 8) (tTest (tOp (rIn Θ.K true) (tOp (rIx Θ.K) (tOp (rIx Θ.K) (tVar 8) (tC (.int 0))) (tC (.int 0))) (tTup (tCons (tC (.str "leave")) (tCons (tC (.str "vanish")) tNil))))) (tVar 8) [8]) (gName 7))
  (tDrop (tBM Θ.K "list" rExtend (tVar 4) (tCons (tLc (iList Θ.K (tVar 7)) (gName 8) tYes (tTup (tCons (tOp (rIx Θ.K) (tVar 8) (tC (.int 1))) (tCons (tOp (rCatA Θ.K) (tOp (rIx Θ.K) (tVar 6) (tC (.int 1))) (tCB (rTupOf Θ.K) (tCons (tOp (rIx Θ.K) (tVar 8) (tC (.int 2))) tNil))) tNil))) [8]) tNil))))))) tNext)))
  (tRet (tCB (rTupOf Θ.K) (tCons (tCB (rSortD Θ.K) (tCons (tCB (rListN Θ) (tCons (tVar 5) tNil)) tNil)) tNil)))))
theorem d_L_due (T : Txt mg aP aC) (c_L_ways : C8.Cal P w K mg base 6 "_law_ways" (sp_L_ways ⟨P, w, K, C, aP, aC⟩) []) {f : Addr} {cdv : Value} {A : Around} {outer : List Env} {s : Shared} {H : Hp} {E : XK} (hr : Room 6 (A.deeper (envOfC "_law_due" (C8.fnScope s_L_due) s.heap.objs.size f cdv))) :
    PSs (cxOf C8.CX0 P w K mg base ["_law_rule_here", "_law_people", "_law_most", "_law_known", "_law_waiting", "_law_found", "_law_here_here", "_law_ways_here", "_law_way"] "_law_due" (C8.fnScope s_L_due) f cdv A outer s H E).nox (C8.fnBody s_L_due) (t_L_due ⟨P, w, K, C, aP, aC⟩) :=
  (pss_cons (ps_par3 (by rfl) sc_L_due.nd rfl rfl rfl (by decide) (by decide) (by decide) rfl rfl rfl (pa_cons pe_dnewN (pa_cons (pe_lst (pa_cons (pe_tup (pa_cons (pe_tup (pa_cons (pe_tup pa_nil) (pa_cons pe_int pa_nil))) (pa_cons (pe_tup pa_nil) pa_nil))) pa_nil)) (pa_cons pe_dnewN pa_nil))) (by rfl))
  (pss_cons (ps_while PassesOwn.never (pt_cmpR (op_neD hr.units) (pv 4) (pe_lst pa_nil) (nomark _)) (pss_cons (ps_set (i := 6) sc_L_due.nd rfl (.inr rfl) (pe_bm0 PySem.F.plainAttrs_list PySem.F.slot_list_pop PySem.F.type_list_pop mt_pop (pv 4)))
  (pss_one (ps_if (pt_cmpR (op_notInN hr.units) (pv 6) (pv 3) (by rfl)) (pss_cons (ps_if (pt_cmpR op_eq (pe_callB call_lenNK (by rfl) T.len (by decide +kernel) (pa_cons (pv 3) pa_nil)) (pv 2) (nomark _)) (pss_one (ps_ret pe_non)) pss_nil)
  (pss_cons (ps_asg pe_bl (pg_sub (pv 3) (pv 6) (set_N hr.units)))
  (pss_cons (ps_if (pt_cmpR (op_eqD hr.units) (pe_ix ix_seq (pv 6) pe_int (fun _ _ => rfl)) (pe_tup (pa_cons (pe_tup pa_nil) (pa_cons (pv 1) pa_nil))) (nomark _)) (pss_one (ps_asg pe_bl (pg_sub (pv 5) (pe_ix ix_seq (pv 6) pe_int (fun _ _ => rfl)) (set_N hr.units)))) pss_nil)
  (pss_cons (ps_setLc (i := 7) (own := [("_law_way", 8)]) rfl sc_L_due.nd rfl rfl (sw_true rfl rfl rfl (by decide +kernel)) (pi_list (C8.pe_c c_L_ways hr (by decide) (by rfl) (pa_cons (pv 0) (pa_cons (pe_ix ix_seq (pv 6) pe_int (fun _ _ => rfl)) (pa_cons (pv 1) pa_nil))))) (blkOk_by (own := [("_law_way", 8)]) (N := ["_law_rule_here", "_law_people", "_law_most", "_law_known", "_law_waiting", "_law_found", "_law_here_here", "_law_ways_here", "_law_way"]) (sc := C8.fnScope s_L_due) (by decide +kernel)) (fun _ _ _ _ _ => (pg_name (i := 8) sc_L_due.nd rfl (.inl rfl))) (fun _ _ _ _ _ => (pts_one (pt_cmpR op_notIn_seq (pe_ix ix_seq (pe_ix ix_seq (pv 8) pe_int (fun _ _ => rfl)) pe_int (fun _ _ => rfl)) (pe_tup (pa_cons pe_str (pa_cons pe_str pa_nil))) (by rfl)))) (fun _ _ _ _ _ => (pv 8)))
  (pss_one (ps_expr (pe_bm PySem.F.plainAttrs_list PySem.F.slot_list_extend PySem.F.type_list_extend mt_extend (pv 4) (pa_cons (pe_lc (own := [("_law_way", 8)]) rfl sc_L_due.nd (pi_list (pv 7)) (blkOk_by (own := [("_law_way", 8)]) (N := ["_law_rule_here", "_law_people", "_law_most", "_law_known", "_law_waiting", "_law_found", "_law_here_here", "_law_ways_here", "_law_way"]) (sc := C8.fnScope s_L_due) (by decide +kernel)) (fun _ _ _ _ _ => (pg_name (i := 8) sc_L_due.nd rfl (.inl rfl))) (fun _ _ _ _ _ => pts_nil) (fun _ _ _ _ _ => (pe_tup (pa_cons (pe_ix ix_seq (pv 8) pe_int (fun _ _ => rfl)) (pa_cons (pe_op op_catA (pe_ix ix_seq (pv 6) pe_int (fun _ _ => rfl)) (pe_callTy call_tupleK (by rfl) T.tuple (by decide +kernel) (pa_cons (pe_ix ix_seq (pv 8) pe_int (fun _ _ => rfl)) pa_nil))) pa_nil))))) pa_nil)))))))) pss_nil))))
  (pss_one (ps_ret (pe_callTy call_tupleK (by rfl) T.tuple (by decide +kernel) (pa_cons (pe_callB (call_sortD hr.units) (by rfl) T.sorted (by decide +kernel) (pa_cons (pe_callTy (call_listNK rfl) (by rfl) T.list (by decide +kernel) (pa_cons (pv 5) pa_nil)) pa_nil)) pa_nil))))))
end Ask
-- AskL1
set_option Elab.async false
set_option linter.all false
set_option maxRecDepth 100000
/-! what the law's reading defs compute -/
namespace Ask
open PySem PySem.Spec PyProof.Rows L2
section
variable {Θ : Th} {F : Frm} {δ δ' : List Sl} {b b1 b2 : Bool} {ta tb te : TE} {d x y : PyData} {ds es : List PyData} {i j : Nat} {T : List Nat}
theorem ev_bf (h : Ev Θ true ta δ d) (f : flatD d = true) : Ev Θ b ta δ d := h.flat f
/-- row[n], flat -/
theorem ev_brI {w : Row} (h : δ[i]? = some (.brw (dRowL w))) : Ev Θ b (tOp (rIx Θ.K) (tVar i) (tC (.int 0))) δ (.int w.p) := (ev_ixc (ev_brw h) (.inl rfl) rfl : Ev Θ true _ _ _).flat rfl
theorem ev_brH {w : Row} (h : δ[i]? = some (.brw (dRowL w))) : Ev Θ b (tOp (rIx Θ.K) (tVar i) (tC (.int 1))) δ (.str w.h.s) := (ev_ixc (ev_brw h) (.inl rfl) rfl : Ev Θ true _ _ _).flat rfl
theorem ev_brN {w : Row} (h : δ[i]? = some (.brw (dRowL w))) : Ev Θ true (tOp (rIx Θ.K) (tVar i) (tC (.int 2))) δ (dNames w.ns) := ev_ixc (ev_brw h) (.inl rfl) rfl
theorem ev_drI {w : Row} (h : δ[i]? = some (.dat (dRowL w))) : Ev Θ b (tOp (rIx Θ.K) (tVar i) (tC (.int 0))) δ (.int w.p) := ev_ixc (ev_var h) (.inl rfl) rfl
theorem ev_drH {w : Row} (h : δ[i]? = some (.dat (dRowL w))) : Ev Θ b (tOp (rIx Θ.K) (tVar i) (tC (.int 1))) δ (.str w.h.s) := ev_ixc (ev_var h) (.inl rfl) rfl
theorem ev_drN {w : Row} (h : δ[i]? = some (.dat (dRowL w))) : Ev Θ b (tOp (rIx Θ.K) (tVar i) (tC (.int 2))) δ (dNames w.ns) := ev_ixc (ev_var h) (.inl rfl) rfl
theorem ev_bI {n : Int} (h : δ[i]? = some (.brw (.int n))) : Ev Θ b (tVar i) δ (.int n) := (ev_brw h).flat rfl
theorem bd_lst {gs : TGs} {n : Nat} (hn : ds.length = n) (h : Bds Θ b gs ds δ δ' T) : Bd Θ b (gLst Θ.K n gs) (.list ds) δ δ' T := ⟨h.1, fun v σ H0 Hb H A st hd Q q => by
  cases hd with
  | @lst a vs _ hs ha => exact ⟨a, vs, rfl, ((bse_le st.h0).trans st.hb).seq hs, by rw [ha.length, hn], h.2 vs σ H0 Hb H A st ha Q q⟩⟩
theorem r_L_names (r : Rule) (l : Line) (s : Nat) (hl : Okl l) (F : Frm) : SDr Θ F (t_L_names Θ) [.brw (dRule r), .brw (dLineL l), .brw (.int (s : Nat)), .un, .un] (dNames (nearest r l s)) anyP := by
  have hl := hl.1
  unfold t_L_names
  refine sdr_seq (sd_set (d := .tuple ((howsOf r).map .str)) (ev_if (et_eqS (b1 := true) (ev_ixc (ev_brw rfl) (.inr rfl) rfl)) (fun h => ?_) (fun h => ?_))) ?_
  · rw [line_iff] at h
    unfold howsOf
    rw [h, if_pos rfl]
    exact ev_rowT (ea_cons ev_str (ea_cons ev_str (ea_cons ev_str ea_nil)))
  · rw [line_iff] at h
    unfold howsOf
    rw [h, if_neg Bool.false_ne_true]
    exact ev_rowT (ea_cons ev_str ea_nil)
  refine sdr_ret (Ev.is (ev_tupleOf (ev_slL (ev_rev (EvL.ev (el_lc (b0 := true) (l := l.take s) (enc := dRowL) (fun w => decide (w.h = .here) || (r.line && (decide (w.h = .out) || decide (w.h = .away)))) (fun w => .int w.p) (T := [4])
    (ei_list (Ev.is (ev_slL (ev_brw rfl) eo_none (eo_some (b := true) (ev_brw rfl))) ?_)) ?_ (fun w hw => ⟨_, bd_name rfl rfl, (et_test (b := false) (ev_inS (b1 := true) (b2 := false) (ev_brH rfl) (ev_var rfl) (.inr rfl))).is (howsOf_mem r w.h), fun _ => ev_brI rfl⟩)))) eo_none (eo_some (b := true) (ev_ixc (ev_brw rfl) (.inr rfl) rfl)))) ?_) trivial
  · rw [cutD_to, List.map_take]
  · rw [List.length_take]; omega
  · rw [cutD_to]
    unfold nearest dNames
    rw [List.map_take, List.map_reverse, List.map_map]
    rfl
theorem r_L_here (l : Line) (hl : Okl l) (F : Frm) : SDr Θ F (t_L_here Θ) [.brw (dLineL l), .un] (.list ((hereOf l).map .int)) anyP := by
  have hl := hl.1
  unfold t_L_here
  refine sdr_ret (EvL.ev (el_is (el_lc (b0 := true) (l := l) (enc := dRowL) isHere (fun w => .int w.p) (T := [1]) (ei_list (ev_brw rfl)) (by omega) (fun w _ => ⟨_, bd_name rfl rfl, (et_eqS (b1 := true) (ev_brH rfl)).is (here_iff _), fun _ => ev_brI rfl⟩)) ?_)) trivial
  unfold hereOf
  rw [List.map_map]
  rfl
theorem r_L_how (l : Line) (p : Int) (hl : Okl l) (F : Frm) : SDr Θ F (t_L_how Θ) [.brw (dLineL l), .brw (.int p), .un] (.str (howS (howOf l p))) anyP := by
  have hl := hl.1
  unfold t_L_how
  have e0 : howOf l p = ((l.filter fun w => decide (w.p = p)).head?).map (·.h) := by unfold howOf; rw [List.head?_filter]
  refine sdr_ret (Ev.is (ev_ixc (EvL.ev (el_cat (EvL.m (el_lc (b0 := true) (l := l) (enc := dRowL) (fun w => decide (w.p = p)) (fun w => .str w.h.s) (T := [2]) (ei_list (ev_brw rfl)) (by omega) (fun w _ => ⟨_, bd_name rfl rfl, et_eqI (b1 := true) (b2 := true) (ev_brI rfl) (ev_bI rfl), fun _ => ev_brH rfl⟩))) (EvL.m (el_lst (ea_cons ev_str ea_nil) (by show 1 ≤ _; decide))) ?_)) (.inl rfl) (d := .str (howS (howOf l p))) ?_) rfl) trivial
  · rw [List.length_map]
    have := List.length_filter_le (fun w : Row => decide (w.p = p)) l
    show _ + 1 ≤ _
    omega
  · rw [e0]
    cases q : l.filter fun w => decide (w.p = p) with
    | nil => exact atI_0
    | cons w rest => exact atI_0
abbrev lcSt (r : Rule) (l : Line) (pre : Line) : List Sl := [.brw (dRule r), .brw (dLineL l), .dat (.list ((hereOf l).map .int)), .own (((pre.filter fun w => isHere w && decide (w.ns.length ≤ r.t) && !w.ns.any fun n => (hereOf l).contains n).map (·.p)).map .int), .un, .un, .un, .un]
theorem none_any (ns : List Int) (p : Int → Bool) : PyData.eqv (.list ((ns.filter p).map .int)) (.list []) = !ns.any p := by
  cases q : ns.filter p with
  | nil =>
    have : ns.any p = false := by
      rw [List.any_eq_false]
      intro n hn hp
      have : n ∈ ns.filter p := List.mem_filter.mpr ⟨hn, hp⟩
      rw [q] at this
      cases this
    rw [this]
    rfl
  | cons a r =>
    have ha : a ∈ ns.filter p := by rw [q]; exact List.mem_cons_self ..
    have : ns.any p = true := List.any_eq_true.mpr ⟨a, (List.mem_filter.mp ha).1, (List.mem_filter.mp ha).2⟩
    rw [this]
    simp [PyData.eqv, PyData.eqvAll]
theorem r_L_claims (r : Rule) (l : Line) (hl : Okl l) (F : Frm) : SDo Θ F (t_L_claims Θ) [.brw (dRule r), .brw (dLineL l), .un, .un, .un, .un, .un, .un] ((claiming r l).map .int) := by
  have hl1 := hl.1
  unfold t_L_claims
  refine sdo_seq (sd_parT (es_dat (ev_callN (b1 := true) (ea_cons (ev_brw rfl) ea_nil) ⟨l, rfl, hl, rfl⟩)) (es_own (el_lst ea_nil (by decide)))) (sdo_seq
    (sd_for (b := true) (l := l) (enc := dRowL) (lcSt r l) (ei_list (ev_brw rfl)) rfl (fun pre w post e => ?_)) (sdo_ret rfl))
  have hlen : pre.length < 1000 := by
    have := congrArg List.length e
    rw [List.length_append, List.length_cons] at this
    omega
  have hw : w ∈ l := by rw [e]; simp
  refine ⟨_, _, _, bd_lst rfl (bds_cons (bd_name (i := 4) rfl rfl) (bds_cons (bd_name (i := 5) rfl rfl) (bds_cons (bd_name (i := 6) rfl rfl) bds_nil))), .inl (sd_if (v := isHere w && (decide (w.ns.length ≤ r.t) && !w.ns.any fun n => (hereOf l).contains n))
    (o := .nx [.brw (dRule r), .brw (dLineL l), .dat (.list ((hereOf l).map .int)), .own ((((pre ++ [w]).filter fun w => isHere w && decide (w.ns.length ≤ r.t) && !w.ns.any fun n => (hereOf l).contains n).map (·.p)).map .int), .brw (.int w.p), .brw (.str w.h.s), .brw (dNames w.ns), .un])
    (et_and ((et_eqS (b1 := true) (ev_brw rfl)).is (here_iff _)) fun _ => et_and ((et_le (b1 := false) (b2 := true) (ev_len (b1 := true) (ev_brw rfl) (.inr rfl)) (ev_ixc (ev_brw rfl) (.inr rfl) rfl)).is ?_) fun _ => (et_eqD (b1 := false) (b2 := false) (EvL.ev (el_lc (b0 := true) (l := w.ns) (enc := .int) (fun n => (hereOf l).contains n) (fun n => .int n) (T := [7]) (ei_tup (ev_brw rfl)) (by have := hl.2 w hw; omega)
      (fun n _ => ⟨_, bd_name rfl rfl, et_test (b := false) (ev_inI (b1 := true) (b2 := false) (ev_brw rfl) (ev_v rfl) (.inl rfl)), fun _ => ev_bI rfl⟩))) (ev_lst ea_nil (by decide)) (lay_shaped (lay_ints _)) rfl).is (none_any _ _))
    (fun h => ?_) (fun h => ?_)), ?_⟩
  · rw [List.length_map]
    refine decide_eq_decide.mpr ?_
    omega
  · refine sd_is (sd_append rfl (d := .int w.p) (ev_bI rfl) ?_) ?_
    · rw [List.length_map, List.length_map]
      exact Nat.lt_of_le_of_lt (List.length_filter_le _ _) (by omega)
    · rw [← Bool.and_assoc] at h
      rw [List.filter_append, List.filter_cons, if_pos h, List.filter_nil, List.map_append, List.map_append]
      rfl
  · refine sd_is sd_next ?_
    rw [← Bool.and_assoc] at h
    rw [List.filter_append, List.filter_cons, if_neg (by rw [h]; exact Bool.false_ne_true), List.filter_nil, List.append_nil]
    rfl
  · exact .same (.same (.same (.same (.drop rfl (.drop rfl (.drop rfl (.same .nil)))))))
theorem eqv_come (e : Evt) : PyData.eqv (dEvt e) (.tuple [.str "come"]) = decide (e = .come) := by
  have h := evt_come e
  cases e with
  | come => decide +kernel
  | door => decide +kernel
  | per w p =>
    rw [show decide (Evt.per w p = Evt.come) = false from decide_eq_false (by simp)]
    simp [PyData.eqv, PyData.eqvAll, Evt.who]
theorem eqv_door (e : Evt) : PyData.eqv (dEvt e) (.tuple [.str "door"]) = decide (e = .door) := by
  cases e with
  | come => decide +kernel
  | door => decide +kernel
  | per w p =>
    rw [show decide (Evt.per w p = Evt.door) = false from decide_eq_false (by simp)]
    simp [PyData.eqv, PyData.eqvAll, Evt.who]
theorem howS_iff {o : Option How} {n : Str} {h : How} (hn : ∀ g : How, decide (g.s = n) = decide (g = h)) (h0 : decide (("none" : Str) = n) = false) : decide (howS o = n) = decide (o = some h) := by
  cases o with
  | none => exact h0
  | some g =>
    show decide (g.s = n) = _
    rw [hn g]
    exact decide_eq_decide.mpr ⟨fun e => by rw [e], fun e => Option.some.inj e⟩
theorem r_L_can (r : Rule) (m : Rm) (e : Evt) (hl : Okl m.l) (F : Frm) : SDr Θ F (t_L_can Θ) [.brw (dRule r), .brw (dRoomL m), .brw (dEvt e), .un, .un, .un, .un] (.bool (canBe r m e)) anyP := by
  unfold t_L_can
  have e12 : (decide (((m.c : Nat) : Int) < 12)) = decide (m.c < 12) := decide_eq_decide.mpr (by omega)
  refine sdr_seq (sd_asgB (b := true) (ev_brw rfl) (bd_tup rfl (bds_cons (bd_name (i := 3) rfl rfl) (bds_cons (bd_name (i := 4) rfl rfl) (bds_cons (bd_name (i := 5) rfl rfl) bds_nil))))) ?_
  have et0 : EvT Θ (tTest (tOp (rEqD Θ.K) (tVar 2) (tTup (tCons (tC (.str "come")) tNil)))) [.brw (dRule r), .brw (dRoomL m), .brw (dEvt e), .brw (dLineL m.l), .brw (.int (m.c : Nat)), .brw (.list (m.sv.map .int)), .un] (decide (e = .come)) :=
    (et_eqD (b1 := true) (b2 := false) (ev_brw rfl) (ev_rowT (ea_cons ev_str ea_nil)) (lay_shaped (lay_evt _)) (lay_shaped (lay_evt .come))).is (eqv_come e)
  have et1 : EvT Θ (tTest (tOp (rEqD Θ.K) (tVar 2) (tTup (tCons (tC (.str "door")) tNil)))) [.brw (dRule r), .brw (dRoomL m), .brw (dEvt e), .brw (dLineL m.l), .brw (.int (m.c : Nat)), .brw (.list (m.sv.map .int)), .un] (decide (e = .door)) :=
    (et_eqD (b1 := true) (b2 := false) (ev_brw rfl) (ev_rowT (ea_cons ev_str ea_nil)) (lay_shaped (lay_evt _)) (lay_shaped (lay_evt .door))).is (eqv_door e)
  cases e with
  | come => exact sdr_seq_rt (sdr_if et0 (fun _ => sdr_ret (Ev.is (ev_lt (b1 := true) (b2 := false) (ev_brw rfl) ev_int) (by rw [e12]; rfl)) trivial) fun h => absurd h (by decide))
  | door => exact sdr_seq (sd_iff et0 (by decide) sd_next) (sdr_seq_rt (sdr_if et1 (fun _ => sdr_ret (Ev.is (ev_neD (b1 := false) (b2 := false) (ev_callN (b1 := true) (ea_cons (ev_brw rfl) ea_nil) ⟨m.l, rfl, hl, rfl⟩) (ev_lst ea_nil (by decide)) (lay_shaped (lay_ints _)) rfl) (congrArg _ (here_any _))) trivial) fun h => absurd h (by decide)))
  | per w p =>
    refine sdr_seq (sd_iff et0 (decide_eq_false (by simp)) sd_next) (sdr_seq (sd_iff et1 (decide_eq_false (by simp)) sd_next) (sdr_seq (sd_set (d := .str (howS (howOf m.l p))) (ev_callN (b1 := true) (ea_cons (ev_brw rfl) (ea_cons (ev_ixc (ev_brw rfl) (.inr rfl) rfl) ea_nil)) ⟨m.l, p, rfl, hl, rfl⟩)) ?_))
    have o1 := howS_iff (o := howOf m.l p) out_iff (by decide +kernel)
    have o2 := howS_iff (o := howOf m.l p) lost_iff (by decide +kernel)
    have o3 := howS_iff (o := howOf m.l p) here_iff (by decide +kernel)
    by_cases hw : w = .back
    · subst hw
      refine sdr_seq_rt (sdr_if (et_eqS (b1 := true) (ev_ixc (ev_brw rfl) (.inr rfl) atI_0)) (fun _ => sdr_ret (Ev.is (ev_orV (b := false) (ev_eqS (b := false) (b1 := false) (b2 := false) (ev_v rfl) ev_str) fun _ => ev_andV (b := false) (ev_eqS (b := false) (b1 := false) (b2 := false) (ev_v rfl) ev_str) fun _ => ev_orV (b := false) (ev_neS (b := false) (b1 := true) (b2 := false) (ev_ixc (ev_brw rfl) (.inr rfl) rfl) ev_str) fun _ => ev_lt (b := false) (b1 := true) (b2 := false) (ev_brw rfl) ev_int) ?_) trivial) fun h => absurd ((wd_back .back).symm.trans h) (by decide +kernel))
      show PyData.bool (_ || (_ && ((!decide (r.back.s = "asks")) || decide ((m.c : Int) < 12)))) = PyData.bool (canBe r m (.per .back p))
      rw [e12, bk_asks, o1, o2]
      have key : ∀ a l k q : Bool, (a = true → l = false) → (a || (l && (!k || q))) = ((a || l) && (!(l && k) || q)) := by decide
      exact congrArg PyData.bool (key _ _ _ _ fun h => decide_eq_false fun h2 => by rw [of_decide_eq_true h] at h2; cases h2)
    · refine sdr_seq (sd_iff (et_eqS (b1 := true) (ev_ixc (ev_brw rfl) (.inr rfl) atI_0)) ((wd_back w).trans (decide_eq_false hw)) sd_next) (sdr_ret (Ev.is (ev_andV (b := false) (ev_eqS (b := false) (b1 := false) (b2 := false) (ev_v rfl) ev_str) fun _ => ev_orV (b := false) (ev_neS (b := false) (b1 := true) (b2 := false) (ev_ixc (ev_brw rfl) (.inr rfl) atI_0) ev_str) fun _ => ev_lt (b := false) (b1 := true) (b2 := false) (ev_brw rfl) ev_int) ?_) trivial)
      show PyData.bool (_ && ((!decide (w.s = "let")) || decide ((m.c : Int) < 12))) = PyData.bool (canBe r m (.per w p))
      rw [e12, wd_let, o3, ← decide_not]
      cases w <;> first | rfl | exact absurd rfl hw
end
end Ask
-- AskL2
set_option Elab.async false
set_option linter.all false
set_option maxRecDepth 100000
/-! what the law's defs compute: events, keys, ways -/
namespace Ask
open PySem PySem.Spec PyProof.Rows L2
section
variable {Θ : Th} {F : Frm} {δ δ' : List Sl} {b b1 b2 : Bool} {ta tb te : TE} {d x y : PyData} {ds es : List PyData} {i j : Nat} {T : List Nat}
def someL (l : Line) (ws : List Wd) : List Evt := l.map (fun w => Evt.per .back w.p) ++ ws.flatMap fun w => l.map fun v => Evt.per w v.p
theorem allEvL_eq (r : Rule) (m : Rm) : allEvL r m = (someL m.l [.leave, .let_, .out, .vanish] ++ [Evt.come, Evt.door]).filter (canBe r m) := by
  unfold allEvL someL
  simp [List.flatMap]
theorem someL_len (l : Line) (ws : List Wd) : (someL l ws).length = l.length + ws.length * l.length := by
  unfold someL
  rw [List.length_append, List.length_map]
  congr 1
  induction ws with
  | nil => simp
  | cons a r ih => rw [List.flatMap_cons, List.length_append, List.length_map, List.length_cons, Nat.succ_mul, ih, Nat.add_comm]
theorem thereL {r : Rule} {m : Rm} {e : Evt} (h : e ∈ evsL r m) : there m.l e ∧ canBe r m e = true := by
  unfold evsL at h
  rw [List.mem_mergeSort, allEvL_eq] at h
  obtain ⟨h, hc⟩ := List.mem_filter.mp h
  refine ⟨?_, hc⟩
  cases e with
  | come => trivial
  | door => trivial
  | per w p =>
    rcases List.mem_append.mp h with h | h
    · unfold someL at h
      rcases List.mem_append.mp h with h | h
      · obtain ⟨v, hv, e⟩ := List.mem_map.mp h
        cases e
        exact ⟨v, hv, rfl⟩
      · obtain ⟨w', _, h⟩ := List.mem_flatMap.mp h
        obtain ⟨v, hv, e⟩ := List.mem_map.mp h
        cases e
        exact ⟨v, hv, rfl⟩
    · simp at h
theorem howOf_mem {l : Line} {p : Int} {h : How} (e : howOf l p = some h) : ∃ w ∈ l, w.p = p ∧ w.h = h := by
  unfold howOf at e
  cases q : l.find? fun w => decide (w.p = p) with
  | none => rw [q] at e; cases e
  | some w =>
    rw [q] at e
    have h1 := List.find?_some (p := fun w : Row => decide (w.p = p)) q
    exact ⟨w, List.mem_of_find?_eq_some q, of_decide_eq_true h1, Option.some.inj e⟩
theorem evs_iff (r : Rule) (m : Rm) (e : Evt) : e ∈ evsL r m ↔ e ∈ evs r m := by
  constructor
  · intro h
    obtain ⟨ht, hc⟩ := thereL h
    unfold evs
    rw [List.mem_mergeSort, allEv_eq]
    refine List.mem_filter.mpr ⟨?_, hc⟩
    cases e with
    | come => simp
    | door => simp
    | per w p =>
      refine List.mem_append_left _ ?_
      unfold someEv
      by_cases hw : w = .back
      · subst hw
        obtain ⟨v, hv, rfl⟩ := ht
        exact List.mem_append_left _ (List.mem_map.mpr ⟨v, hv, rfl⟩)
      · refine List.mem_append_right _ (List.mem_flatMap.mpr ⟨w, by cases w <;> first | exact absurd rfl hw | simp, List.mem_map.mpr ⟨p, ?_, rfl⟩⟩)
        have hh : decide (howOf m.l p = some .here) = true := by
          unfold canBe at hc
          cases w <;> first | exact absurd rfl hw | exact (Bool.and_eq_true_iff.mp hc).1
        obtain ⟨v, hv, rfl, h3⟩ := howOf_mem (of_decide_eq_true hh)
        exact List.mem_map.mpr ⟨v, List.mem_filter.mpr ⟨hv, decide_eq_true h3⟩, rfl⟩
  · intro h
    have ht := there_of h
    have hc := can_of h
    unfold evsL
    rw [List.mem_mergeSort, allEvL_eq]
    refine List.mem_filter.mpr ⟨?_, hc⟩
    cases e with
    | come => simp
    | door => simp
    | per w p =>
      refine List.mem_append_left _ ?_
      unfold someL
      obtain ⟨v, hv, rfl⟩ := ht
      by_cases hw : w = .back
      · subst hw
        exact List.mem_append_left _ (List.mem_map.mpr ⟨v, hv, rfl⟩)
      · exact List.mem_append_right _ (List.mem_flatMap.mpr ⟨w, by cases w <;> first | exact absurd rfl hw | simp, List.mem_map.mpr ⟨v, hv, rfl⟩⟩)
theorem r_L_events (r : Rule) (m : Rm) (hl : Okl m.l) (F : Frm) : SDr Θ F (t_L_events Θ) [.dat (dRule r), .dat (dRoomL m), .un, .un, .un, .un] (.list ((evsL r m).map dEvt)) anyP := by
  have hl1 := hl.1
  unfold t_L_events
  refine sdr_seq (sd_setL (el_lc (b0 := false) (l := m.l) (enc := dRowL) (fun _ => true) (fun w => dEvt (.per .back w.p)) (T := [4]) (ei_list (ev_ixc (ev_v rfl) (.inr rfl) rfl)) (by omega) (fun w _ => ⟨_, bd_name rfl rfl, et_yes, fun _ => ev_rowT (ea_cons ev_str (ea_cons (ev_drI rfl) ea_nil))⟩)))
    (sdr_seq (sd_for (b := false) (l := [Wd.leave, .let_, .out, .vanish]) (enc := fun w => .str w.s) (fun pre => [.dat (dRule r), .dat (dRoomL m), .own ((someL m.l pre).map dEvt), .un, .un, .un]) (ei_tup (ev_rowT (ea_cons ev_str (ea_cons ev_str (ea_cons ev_str (ea_cons ev_str ea_nil)))))) ?_ (fun pre w post e => ?_)) (sdr_ret (Ev.is (EvL.ev (el_sorted (EvL.ev (el_lc (b0 := false) (l := someL m.l [.leave, .let_, .out, .vanish] ++ [Evt.come, Evt.door]) (enc := dEvt) (canBe r m) dEvt (T := [5])
      (ei_list (Ev.is (EvL.ev (el_cat (em_own rfl) (EvL.m (el_lst (ea_cons (d := dEvt .come) (ev_rowT (ea_cons ev_str ea_nil)) (ea_cons (d := dEvt .door) (ev_rowT (ea_cons ev_str ea_nil)) ea_nil)) (by show 2 ≤ _; decide))) ?_)) ?_)) ?_ (fun e _ => ⟨_, bd_name rfl rfl, et_B (b := false) (ev_callN (b1 := false) (ea_cons (ev_v rfl) (ea_cons (ev_v rfl) (ea_cons (ev_v rfl) ea_nil))) ⟨r, m, e, rfl, hl, rfl⟩), fun _ => ev_v rfl⟩))) (evt_sort _))) ?_) trivial))
  · unfold someL
    rw [map_filter_true, List.map_append, List.map_map]
    simp only [List.flatMap_nil, List.map_nil, List.append_nil]
    rfl
  · have hpre : pre.length ≤ 4 := by
      have := congrArg List.length e
      rw [List.length_append, List.length_cons] at this
      simp at this
      omega
    have hsl := someL_len m.l pre
    have hmul : pre.length * m.l.length ≤ 4 * 60 := Nat.mul_le_mul hpre hl1
    refine ⟨_, _, _, bd_name (i := 3) rfl rfl, .inl (sd_extend rfl (el_lc (b0 := false) (l := m.l) (enc := dRowL) (fun _ => true) (fun v => dEvt (.per w v.p)) (T := [4]) (ei_list (ev_ixc (ev_v rfl) (.inr rfl) rfl)) (by omega) (fun p _ => ⟨_, bd_name rfl rfl, et_yes, fun _ => ev_rowT (ea_cons (ev_v rfl) (ea_cons (ev_drI rfl) ea_nil))⟩)) ?_), ?_⟩
    · rw [List.length_map, map_filter_true, List.length_map]
      omega
    · have : (someL m.l (pre ++ [w])).map dEvt = (someL m.l pre).map dEvt ++ m.l.map fun v => dEvt (.per w v.p) := by
        unfold someL
        simp [List.flatMap_append, List.map_append]
      rw [map_filter_true, this]
      exact .same (.same (.same (.drop rfl (.same (.same .nil)))))
  · have := someL_len m.l [.leave, .let_, .out, .vanish]
    simp only [List.length_map, List.length_cons, List.length_nil] at this ⊢
    omega
  · rw [List.map_append]
    rfl
  · have := someL_len m.l [.leave, .let_, .out, .vanish]
    simp only [List.length_append, List.length_cons, List.length_nil] at this ⊢
    omega
  · rw [dsort_map, ← allEvL_eq]
    rfl
theorem r_L_key (m : Rm) (hl : Okl m.l) (F : Frm) : SDr Θ F (t_L_key Θ) [.dat (dRoomL m), .un] (dPair (m.l, m.c)) anyP := by
  have hl1 := hl.1
  unfold t_L_key
  refine sdr_ret (ev_rowT (ea_cons (Ev.is (ev_tupleOf (EvL.ev (el_lc (b0 := false) (l := m.l) (enc := dRowL) (fun _ => true) dRow (T := [1]) (ei_list (ev_ixc (ev_v rfl) (.inr rfl) rfl)) (by omega) (fun w _ => ⟨_, bd_name rfl rfl, et_yes, fun _ => ev_tupleOf (ev_v rfl)⟩)))) ?_) (ea_cons (ev_ixc (ev_v rfl) (.inr rfl) rfl) ea_nil))) trivial
  rw [map_filter_true]
theorem r_L_ways (r : Rule) (x : Pair) (n : Nat) (hl : Okl x.1) (hn : x.1.length < 60) (F : Frm) : SDr Θ F (t_L_ways Θ) [.dat (dRule r), .dat (dPair x), .dat (.int n), .un, .un, .un, .un, .un] (.list ((waysL r x n).map (dWayL r x))) anyP := by
  have hl1 := hl.1
  unfold t_L_ways
  refine sdr_seq (sd_par (es_dat (d := dRoomL (rm0 x)) (ev_rowT (ea_cons (Ev.is (EvL.ev (el_lc (b0 := false) (l := x.1) (enc := dRow) (fun _ => true) dRowL (T := [7]) (ei_tup (ev_ixc (ev_v rfl) (.inr rfl) rfl)) (by omega) (fun w _ => ⟨_, bd_name rfl rfl, et_yes, fun _ => ev_listOf (ev_v rfl) (.inr rfl)⟩))) ?_) (ea_cons (ev_ixc (ev_v rfl) (.inr rfl) rfl) (ea_cons (ev_lst (ds := []) ea_nil (by decide)) ea_nil))))) (es_own (el_lst ea_nil (by decide)))) (sdr_seq
    (sd_for (b := false) (l := evsL r (rm0 x)) (enc := dEvt) (fun pre => [.dat (dRule r), .dat (dPair x), .dat (.int n), .dat (dRoomL (rm0 x)), .own ((pre.filter fun e => decide ((do_ r (rm0 x) e).c ≤ n)).map (dWayL r x)), .un, .un, .un]) (ei_list (ev_call (ea_cons (ev_v rfl) (ea_cons (ev_v rfl) ea_nil)) ⟨r, rm0 x, rfl, hl, rfl⟩)) rfl (fun pre e post he => ?_)) (sdr_retF (ev_v rfl) trivial))
  · rw [map_filter_true]
  have hmem : e ∈ evsL r (rm0 x) := by rw [he]; simp
  obtain ⟨ht, _⟩ := thereL hmem
  have hpre : pre.length < 10000 := by
    have h1 := congrArg List.length he
    rw [List.length_append, List.length_cons] at h1
    unfold evsL at h1
    rw [List.length_mergeSort, allEvL_eq] at h1
    have h2 := List.length_filter_le (canBe r (rm0 x)) (someL (rm0 x).l [.leave, .let_, .out, .vanish] ++ [Evt.come, Evt.door])
    have h3 := someL_len (rm0 x).l [.leave, .let_, .out, .vanish]
    rw [List.length_append] at h2
    have h4 : (rm0 x).l.length < 60 := hn
    simp only [List.length_cons, List.length_nil] at h2 h3
    rw [h1] at h2
    omega
  have hokd : Okl (do_ r (rm0 x) e).l := okl_forget (okl_do1 (m := rm0 x) hl hn ht)
  have et : EvT Θ (tTest (tOp (rI0 fun i j => .bl (decide (i ≤ j))) (tOp (rIx Θ.K) (tVar 6) (tC (.int 1))) (tVar 2))) [.dat (dRule r), .dat (dPair x), .dat (.int n), .dat (dRoomL (rm0 x)), .own ((pre.filter fun e => decide ((do_ r (rm0 x) e).c ≤ n)).map (dWayL r x)), .dat (dEvt e), .dat (dRoomL (do_ r (rm0 x) e)), .un] (decide ((do_ r (rm0 x) e).c ≤ n)) :=
    (et_le (b1 := false) (b2 := false) (ev_ixc (ev_v rfl) (.inr rfl) rfl) (ev_v rfl)).is (decide_eq_decide.mpr (by omega))
  refine ⟨_, _, _, bd_name (i := 5) rfl rfl, .inl (sd_seq (sd_set (d := dRoomL (do_ r (rm0 x) e)) (ev_call (ea_cons (ev_v rfl) (ea_cons (ev_v rfl) (ea_cons (ev_v rfl) ea_nil))) ⟨r, rm0 x, e, rfl, hl, hn, Nat.zero_le _, ht, rfl⟩)) (sd_if (o := .nx [.dat (dRule r), .dat (dPair x), .dat (.int n), .dat (dRoomL (rm0 x)), .own (((pre ++ [e]).filter fun e => decide ((do_ r (rm0 x) e).c ≤ n)).map (dWayL r x)), .dat (dEvt e), .dat (dRoomL (do_ r (rm0 x) e)), .un]) et (fun h => ?_) (fun h => ?_))), .same (.same (.same (.same (.same (.drop rfl (.drop rfl (.same .nil)))))))⟩
  · refine sd_is (sd_append rfl (d := dWayL r x e) (ev_rowT (ea_cons (ev_v rfl) (ea_cons (ev_call (ea_cons (ev_v rfl) ea_nil) ⟨do_ r (rm0 x) e, rfl, hokd, rfl⟩) (ea_cons (ev_ixc (ev_v rfl) (.inr rfl) rfl) ea_nil)))) ?_) ?_
    · rw [List.length_map]
      have := List.length_filter_le (fun e => decide ((do_ r (rm0 x) e).c ≤ n)) pre
      omega
    · rw [List.filter_append, List.filter_cons, if_pos h, List.filter_nil, List.map_append]
      rfl
  · refine sd_is sd_next ?_
    rw [List.filter_append, List.filter_cons, if_neg (by rw [h]; exact Bool.false_ne_true), List.filter_nil, List.append_nil]
    rfl
end
end Ask
-- AskL3
set_option Elab.async false
set_option linter.all false
set_option maxRecDepth 100000
/-! what the law's defs compute: rows changed -/
namespace Ask
open PySem PySem.Spec PyProof.Rows L2
theorem renewed_at (r : Rule) (l : Line) (f : Nat → Bool) (i : Nat) : (renewed r l f)[i]? = (l[i]?).map fun w => ren r l f (w, i) := by
  rw [renewed_zip, List.getElem?_map, List.getElem?_zipIdx]
  cases l[i]? with
  | none => rfl
  | some w => simp
theorem at_snoc (pre : List Nat) (s i : Nat) : at_ (pre ++ [s]) i = (at_ pre i || decide (i = s)) := by
  unfold at_
  simp [List.mem_append]
theorem renewed_snoc {r : Rule} {l : Line} {pre : List Nat} {s : Nat} {w : Row} (hs : l[s]? = some w) (hh : w.h = .here) : renewed r l (at_ (pre ++ [s])) = (renewed r l (at_ pre)).set s { w with ns := nearest r l s } := by
  apply List.ext_getElem?
  intro i
  have hsl := (List.getElem?_eq_some_iff.mp hs).1
  by_cases e : i = s
  · subst e
    rw [List.getElem?_set_self (by rw [renewed_len]; exact hsl), renewed_at, hs]
    show some (ren r l (at_ (pre ++ [i])) (w, i)) = _
    unfold ren
    rw [if_pos (by rw [at_snoc]; simp [hh])]
  · rw [List.getElem?_set_ne (Ne.symm e), renewed_at, renewed_at]
    cases l[i]? with
    | none => rfl
    | some v =>
      show some (ren r l (at_ (pre ++ [s])) (v, i)) = some (ren r l (at_ pre) (v, i))
      unfold ren
      have : at_ (pre ++ [s]) i = at_ pre i := by rw [at_snoc, decide_eq_false e, Bool.or_false]
      rw [show (v, i).2 = i from rfl, this]
theorem renewed_snoc' {r : Rule} {l : Line} {pre : List Nat} {s : Nat} {w : Row} (hs : l[s]? = some w) (hh : w.h ≠ .here) : renewed r l (at_ (pre ++ [s])) = renewed r l (at_ pre) := by
  apply List.ext_getElem?
  intro i
  rw [renewed_at, renewed_at]
  cases q : l[i]? with
  | none => rfl
  | some v =>
    show some (ren r l (at_ (pre ++ [s])) (v, i)) = some (ren r l (at_ pre) (v, i))
    unfold ren
    by_cases e : i = s
    · subst e
      rw [hs] at q
      cases q
      rw [if_neg (by simp [hh]), if_neg (by simp [hh])]
    · have : at_ (pre ++ [s]) i = at_ pre i := by rw [at_snoc, decide_eq_false e, Bool.or_false]
      rw [show (v, i).2 = i from rfl, this]
section
variable {Θ : Th} {F : Frm} {δ δ' : List Sl} {b b1 b2 : Bool} {ta tb te : TE} {tr : TA} {d x y : PyData} {ds es : List PyData} {i j : Nat} {T : List Nat} {E : XK} {l' : List RowD}
theorem ev_ownIx {n : Int} (h : δ[i]? = some (.own ds)) (hd : atI ds n = some d) : Ev Θ b (tOp (rIx Θ.K) (tVar i) (tC (.int n))) δ d := fun σ H0 Hb H A st Q q => by
  obtain ⟨o, ho, p, vs, _, rfl, h1, h2, h3⟩ := st.sl i _ h
  obtain ⟨z, hz, hd'⟩ := atI_of h3 hd
  exact ⟨_, ho, .inl ⟨p, vs, n, z, rfl, rfl, SqL.of h2, hz, q _ _ (Same.refl _) (hd'.mono ((bse_same st.h0).trans (same_ext ((bse_le st.h0).trans st.hb))))⟩⟩
theorem es_callDR {G : List PyData → List RowD → Prop} (h : EvA Θ false tr δ ds) (hG : G ds l') : EvS Θ (tCall (spDR Θ G) [] E tr) δ (.rows false none l') := fun σ H0 Hb H A st Q q => h σ H0 Hb H A st _ fun vs H1 s1 d1 =>
  ⟨ext H0 H H1, ds, l', ext_same (st.h0.trans st.hb) s1, by rw [List.append_nil]; exact d1, hG, fun p as H' s' hn hat => by
    rw [ext_ext s1 s'] at hat
    have hn' : ∀ a ∈ p :: as, H a = none := fun a ha => s1.free (hn a ha)
    exact q (.ref p) H' _ _ (p :: as) (s1.trans s') (grow_delL st.h0 st.hb (s1.trans s') fun a ha => none_of_same st.hb (hn' a ha)) ⟨p, as, rfl, rfl, fun x hx => (by cases hx), delL_in (by simp), fun a ha => delL_in (List.mem_cons_of_mem _ ha), hat⟩ hn'⟩
theorem es_is {s s' : Sl} (h : EvS Θ ta δ s) (e : s = s') : EvS Θ ta δ s' := e ▸ h
theorem row_atI {l : Line} {s : Nat} {w : Row} (h : l[s]? = some w) : atI ((l.map toD).map dRowD) (s : Int) = some (dRowL w) := by
  rw [atI_nat, List.getElem?_map, List.getElem?_map, h]
  rfl
theorem toD_at {l : Line} {s : Nat} {w : Row} (h : l[s]? = some w) : (l.map toD)[s]? = some (toD w) := by rw [List.getElem?_map, h]; rfl
theorem r_L_renew (r : Rule) (l : Line) (ss : List Nat) (hl : Okl l) (hs : ∀ s ∈ ss, s < l.length) (F : Frm) (p : Addr × List Addr) : SDu Θ F (t_L_renew Θ) [.dat (dRule r), .rows true (some p) (l.map toD), .dat (dSpots ss), .un, .un] fun δ' => δ'[1]? = some (.rows true (some p) ((renewed r l (at_ ss)).map toD)) := by
  have hl1 := hl.1
  unfold t_L_renew
  refine sdu_seq (sd_set (d := .list ((List.range l.length).map fun k => dNames (nearest r l k))) (EvL.ev (EvL.bor (i := 1) (l := l.map toD) (m := true) (po := some p) rfl (el_is (el_lc (b0 := false) (l := List.range l.length) (enc := fun (k : Nat) => .int (0 + (k : Int))) (fun _ => true) (fun k => dNames (nearest r l k)) (T := [4])
    (ei_rng1 (b1 := false) (n := (l.length : Int)) (Ev.is (ev_len (b1 := true) (ev_brw rfl) (.inl rfl)) ?_) (by omega) (by omega)) ?_ (fun k _ => ⟨_, bd_name rfl rfl, et_yes, fun _ => ev_callN (b1 := true) (ea_cons (ev_var rfl) (ea_cons (ev_brw rfl) (ea_cons (ev_var rfl) ea_nil))) ⟨r, l, k, ?_, hl, rfl⟩⟩)) (by rw [map_filter_true]))))) ?_
  · rw [List.length_map, List.length_map]
  · rw [List.length_range]; omega
  · show [dRule r, dRowsD (l.map toD), PyData.int (0 + (k : Int))] = _
    rw [rowsD_line, Int.zero_add]
  refine sdu_nx (sd_for (b := false) (l := ss) (enc := fun (i : Nat) => .int (i : Int)) (fun pre => [.dat (dRule r), .rows true (some p) ((renewed r l (at_ pre)).map toD), .dat (dSpots ss), .dat (.list ((List.range l.length).map fun k => dNames (nearest r l k))), .un]) (ei_list (ev_v rfl)) ?_ (fun pre s post e => ?_)) rfl
  · rw [renewed_none]
    rfl
  have hsl : s < l.length := hs s (by rw [e]; simp)
  have hw : l[s]? = some l[s] := List.getElem?_eq_getElem hsl
  obtain ⟨w, ew⟩ : ∃ w, w = l[s] := ⟨_, rfl⟩
  rw [← ew] at hw
  have hr : (renewed r l (at_ pre))[s]? = some (ren r l (at_ pre) (w, s)) := by rw [renewed_at, hw]; rfl
  have hh : (ren r l (at_ pre) (w, s)).h = w.h ∧ (ren r l (at_ pre) (w, s)).p = w.p := by
    unfold ren
    split <;> exact ⟨rfl, rfl⟩
  have et : EvT Θ (tTest (tOp rEq (tOp (rIx Θ.K) (tOp (rIx Θ.K) (tVar 1) (tVar 4)) (tC (.int 1))) (tC (.str "here")))) [.dat (dRule r), .rows true (some p) ((renewed r l (at_ pre)).map toD), .dat (dSpots ss), .dat (.list ((List.range l.length).map fun k => dNames (nearest r l k))), .dat (.int (s : Nat))] (decide (w.h = .here)) := by
    refine EvT.bor (i := 1) (l := (renewed r l (at_ pre)).map toD) (m := true) (po := some p) rfl ((et_eqS (b1 := true) (m := w.h.s) (ev_ixc (x := dRowL (ren r l (at_ pre) (w, s))) (ev_ixi (ev_brw rfl) (ev_v rfl) (.inl rfl) (row_atI hr)) (.inl rfl) ?_)).is (here_iff _))
    show some (PyData.str (ren r l (at_ pre) (w, s)).h.s) = _
    rw [hh.1]
  refine ⟨_, _, _, bd_name (i := 4) rfl rfl, .inl (sd_if (o := .nx [.dat (dRule r), .rows true (some p) ((renewed r l (at_ (pre ++ [s]))).map toD), .dat (dSpots ss), .dat (.list ((List.range l.length).map fun k => dNames (nearest r l k))), .dat (.int (s : Nat))]) et (fun h => ?_) (fun h => ?_)), .same (.same (.same (.same (.drop rfl .nil))))⟩
  · refine sd_is (sd_setRow2 (d := dNames (nearest r l s)) rfl (ev_ixi (ev_v rfl) (ev_v rfl) (.inl rfl) ?_) (ev_v rfl) (toD_at hr)) ?_
    · rw [atI_nat, List.getElem?_map, List.getElem?_range hsl]
      rfl
    · rw [renewed_snoc hw (of_decide_eq_true h), List.map_set]
      congr 1
      show [Sl.dat (dRule r), Sl.rows true (some p) (((renewed r l (at_ pre)).map toD).set s _), _, _, _] = _
      congr 4
      show RowD.mk _ _ _ = RowD.mk _ _ _
      rw [show (toD (ren r l (at_ pre) (w, s))).p = w.p from hh.2, show (toD (ren r l (at_ pre) (w, s))).h = w.h.s by show (ren r l (at_ pre) (w, s)).h.s = _; rw [hh.1]]
  · refine sd_is sd_next ?_
    rw [renewed_snoc' hw (of_decide_eq_false h)]
    rfl
theorem r_L_come (r : Rule) (l : Line) (s : Nat) (pn : Int) (hl : Okl l) (hn : l.length < 60) (hs : s ≤ l.length) (F : Frm) (p : Addr × List Addr) : SDw Θ F (t_L_come Θ) [.dat (dRule r), .rows true (some p) (l.map toD), .dat (.int (s : Nat)), .dat (.int pn), .un] ((renewed r (l.take s ++ ⟨pn, .here, []⟩ :: l.drop s) (fun i => decide (i = s))).map toD) := by
  unfold t_L_come
  have e1 : (l.map toD).take s ++ RowD.mk pn "here" (.tuple []) :: (l.map toD).drop s = (l.take s ++ ⟨pn, .here, []⟩ :: l.drop s).map toD := by
    rw [List.map_append, List.map_cons, List.map_take, List.map_drop]
    rfl
  have hq := eq_come (Θ := Θ) (δ := [.dat (dRule r), .rows true (some p) (l.map toD), .dat (.int (s : Nat)), .dat (.int pn), .un]) (i := 1) (hw := "here") (s := s) (pn := pn) rfl (by rw [List.length_map]; omega) (ev_v (i := 2) rfl) (ev_v (i := 2) rfl) (ev_v (i := 3) rfl)
  rw [e1] at hq
  refine sdw_seq (sd_asgW (m := true) (ew_of rfl hq) rfl fun h => by cases h) (sdw_seq (sd_callRn (ds := [dSpots [s]]) rfl (ev_v rfl) (ea_cons (ev_lst (ea_cons (ev_v rfl) ea_nil) (by show 1 ≤ _; decide)) ea_nil) ⟨r, _, [s], rfl, rfl, okl_ins hl hn s rfl, fun t ht => ?_, rfl⟩) (sdw_ret (i := 4) ?_))
  · rw [List.mem_singleton.mp ht, List.length_append, List.length_cons, List.length_take, List.length_drop]
    omega
  · rw [at_one]
    exact ew_of rfl (eq_var rfl)
end
end Ask
-- AskL4
set_option Elab.async false
set_option linter.all false
set_option maxRecDepth 100000
/-! what the law's defs compute: gone, asked, back -/
namespace Ask
open PySem PySem.Spec PyProof.Rows L2
theorem enum_rowsL (l : Line) : enumD ((l.map toD).map dRowD) = l.zipIdx.map fun x => PyData.tuple [.int (x.2 : Nat), dRowL x.1] := by
  unfold enumD
  rw [List.map_map, List.mapIdx_eq_zipIdx_map, List.zipIdx_map, List.map_map]
  rfl
def unN2 (p : Int) (w : Row) : Row := { w with ns := w.ns.filter fun n => decide (n ≠ p) }
def unAt (p : Int) (l : Line) (f : Nat → Bool) : Line := l.zipIdx.map fun x => if f x.2 then unN2 p x.1 else x.1
theorem unAt_at (p : Int) (l : Line) (f : Nat → Bool) (i : Nat) : (unAt p l f)[i]? = (l[i]?).map fun w => if f i then unN2 p w else w := by
  unfold unAt
  rw [List.getElem?_map, List.getElem?_zipIdx]
  cases l[i]? with
  | none => rfl
  | some w => simp
theorem unAt_len (p : Int) (l : Line) (f : Nat → Bool) : (unAt p l f).length = l.length := by unfold unAt; rw [List.length_map, List.length_zipIdx]
theorem unN2_twice (p : Int) (w : Row) : unN2 p (unN2 p w) = unN2 p w := by
  unfold unN2
  congr 1
  show (w.ns.filter _).filter _ = w.ns.filter _
  rw [List.filter_filter]
  congr 1
  funext n
  simp
theorem unAt_snoc {p : Int} {l : Line} {pre : List Nat} {s : Nat} {w : Row} (hs : (unAt p l (at_ pre))[s]? = some w) : unAt p l (at_ (pre ++ [s])) = (unAt p l (at_ pre)).set s (unN2 p w) := by
  apply List.ext_getElem?
  intro i
  have hsl := (List.getElem?_eq_some_iff.mp hs).1
  by_cases e : i = s
  · subst e
    rw [List.getElem?_set_self hsl, unAt_at]
    rw [unAt_at] at hs
    cases q : l[i]? with
    | none => rw [q] at hs; cases hs
    | some v =>
      rw [q] at hs
      have hs : (if at_ pre i then unN2 p v else v) = w := Option.some.inj hs
      show some (if at_ (pre ++ [i]) i then unN2 p v else v) = _
      rw [if_pos (by rw [at_snoc]; simp), ← hs]
      split
      · rw [unN2_twice]
      · rfl
  · rw [List.getElem?_set_ne (Ne.symm e), unAt_at, unAt_at]
    rw [at_snoc, decide_eq_false e, Bool.or_false]
theorem unAt_none (p : Int) (l : Line) : unAt p l (at_ []) = l := by
  unfold unAt
  have : ∀ x ∈ l.zipIdx, (if at_ [] x.2 then unN2 p x.1 else x.1) = x.1 := fun x _ => by unfold at_; simp
  rw [List.map_congr_left this]
  exact List.zipIdx_map_fst ..
theorem unAt_all (l : Line) (p : Int) : unAt p (left l p) (at_ (hitsOf l p)) = (left l p).map (unname p) := by
  rw [hitsOf_at]
  apply List.ext_getElem?
  intro i
  rw [unAt_at, List.getElem?_map]
  cases q : (left l p)[i]? with
  | none => rfl
  | some w =>
    show some (if hitAt (left l p) p i then unN2 p w else w) = some (unname p w)
    unfold hitAt unname
    rw [q]
    rfl
theorem left_D (l : Line) (p : Int) : (l.map toD).filter (fun w => !decide (w.p = p)) = (left l p).map toD := by
  unfold left
  rw [List.filter_map]
  congr 1
  refine List.filter_congr fun w _ => ?_
  show (!decide (w.p = p)) = decide (w.p ≠ p)
  rw [decide_not]
theorem hits_lt {l : Line} {p : Int} {s : Nat} (h : s ∈ hitsOf l p) : s < (left l p).length := by
  unfold hitsOf at h
  obtain ⟨x, hx, rfl⟩ := List.mem_map.mp h
  have := List.mem_zipIdx_iff_getElem?.mp (List.mem_filter.mp hx).1
  exact (List.getElem?_eq_some_iff.mp this).1
def bareOf (l : Line) : List Nat := (l.zipIdx.filter fun x => x.1.ns.isEmpty).map (·.2)
theorem bare_at (l : Line) : at_ (bareOf l) = bare l := by
  funext i
  unfold at_ bare bareOf
  cases q : l[i]? with
  | none =>
    refine decide_eq_false fun h => ?_
    obtain ⟨x, hx, rfl⟩ := List.mem_map.mp h
    have hx := (List.mem_filter.mp hx).1
    rw [List.mem_zipIdx_iff_getElem?] at hx
    rw [q] at hx
    cases hx
  | some w =>
    have : (i ∈ (l.zipIdx.filter fun x => x.1.ns.isEmpty).map (·.2)) ↔ w.ns.isEmpty = true := by
      constructor
      · intro h
        obtain ⟨x, hx, rfl⟩ := List.mem_map.mp h
        obtain ⟨h1, h2⟩ := List.mem_filter.mp hx
        rw [List.mem_zipIdx_iff_getElem?, q] at h1
        rw [Option.some.inj h1]
        exact h2
      · intro h
        exact List.mem_map.mpr ⟨(w, i), List.mem_filter.mpr ⟨List.mem_zipIdx_iff_getElem?.mpr q, h⟩, rfl⟩
    show decide _ = w.ns.isEmpty
    cases h : w.ns.isEmpty with
    | true => exact decide_eq_true (this.mpr h)
    | false => exact decide_eq_false fun z => by rw [this.mp z] at h; cases h
theorem bare_lt {l : Line} {s : Nat} (h : s ∈ bareOf l) : s < l.length := by
  unfold bareOf at h
  obtain ⟨x, hx, rfl⟩ := List.mem_map.mp h
  have := List.mem_zipIdx_iff_getElem?.mp (List.mem_filter.mp hx).1
  exact (List.getElem?_eq_some_iff.mp this).1
theorem eqv_bare (ns : List Int) : PyData.eqv (dNames ns) (.tuple []) = ns.isEmpty := by
  cases ns with
  | nil => rfl
  | cons a r => rfl
section
variable {Θ : Th} {F : Frm} {δ δ' : List Sl} {b b1 b2 : Bool} {ta tb te : TE} {tr : TA} {d x y : PyData} {ds es : List PyData} {i j : Nat} {T : List Nat} {E : XK} {l' : List RowD}
theorem r_L_gone (r : Rule) (l : Line) (p : Int) (hl : Okl l) (F : Frm) (pa : Addr × List Addr) : SDw Θ F (t_L_gone Θ) [.dat (dRule r), .rows true (some pa) (l.map toD), .dat (.int p), .un, .un, .un, .un, .un] ((without r l p).map toD) := by
  have hl1 := hl.1
  unfold t_L_gone
  have hq := eq_filter (Θ := Θ) (δ := [.dat (dRule r), .rows true (some pa) (l.map toD), .dat (.int p), .un, .un, .un, .un, .un]) (i := 1) (j := 6) (tt := tTest (tOp rNe (tOp (rIx Θ.K) (tVar 6) (tC (.int 0))) (tVar 2))) rfl (fun w => !decide (w.p = p)) rfl rfl (by rw [List.length_map]; omega) (fun w _ => et_neI (b1 := true) (b2 := false) (ev_ixc (ev_brw rfl) (.inl rfl) rfl) (ev_v rfl))
  rw [left_D] at hq
  have hln : (left l p).length ≤ 60 := Nat.le_trans (left_le l p) hl1
  have hns : ∀ w ∈ left l p, w.ns.length ≤ 60 := fun w hw => hl.2 w (List.mem_filter.mp hw).1
  refine sdw_seq (sd_asgW (m := true) (ew_of rfl hq) rfl fun h => by cases h) (sdw_seq (δ1 := [.dat (dRule r), .un, .dat (.int p), .rows true none ((left l p).map toD), .dat (dSpots (hitsOf l p)), .un, .un, .un]) (sd_is (sd_set (EvL.ev (EvL.bor (i := 3) (l := (left l p).map toD) (m := true) (po := none) rfl (el_lc (b0 := true) (l := (left l p).zipIdx) (enc := fun x => .tuple [.int (x.2 : Nat), dRowL x.1]) (fun x => hit p x.1) (fun x => .int (x.2 : Nat)) (T := [5, 6])
    (by have := ei_enumL (Θ := Θ) (ev_brw (δ := [.dat (dRule r), .un, .dat (.int p), .brw (dRowsD ((left l p).map toD)), .un, .un, .un, .un]) (i := 3) rfl); rw [enum_rowsL] at this; exact this) (by rw [List.length_zipIdx]; omega)
    (fun x _ => ⟨_, bd_tup rfl (bds_cons (bd_name (i := 5) rfl rfl) (bds_cons (bd_name (i := 6) rfl rfl) bds_nil)), (et_and (et_eqS (b1 := true) (ev_brH rfl)) fun _ => et_test (b := false) (ev_inI (b1 := false) (b2 := true) (ev_v rfl) (ev_brN rfl) (.inr rfl))).is ?_, fun _ => ev_bI rfl⟩))))) ?_) ?_)
  · rw [here_iff]; rfl
  · unfold dSpots hitsOf
    rw [List.map_map]
    rfl
  refine sdw_seq (sd_for (b := false) (l := hitsOf l p) (enc := fun (i : Nat) => .int (i : Int)) (fun pre => [.dat (dRule r), .un, .dat (.int p), .rows true none ((unAt p (left l p) (at_ pre)).map toD), .dat (dSpots (hitsOf l p)), .un, .un, .un]) (ei_list (ev_v rfl)) (by rw [unAt_none]) (fun pre s post e => ?_)) ?_
  · have hsl : s < (left l p).length := hits_lt (l := l) (p := p) (by rw [e]; simp)
    have hsu : s < (unAt p (left l p) (at_ pre)).length := by rw [unAt_len]; exact hsl
    obtain ⟨w, ew⟩ : ∃ w, w = (unAt p (left l p) (at_ pre))[s] := ⟨_, rfl⟩
    have hw : (unAt p (left l p) (at_ pre))[s]? = some w := by rw [ew]; exact List.getElem?_eq_getElem hsu
    have hwn : w.ns.length ≤ 60 := by
      rw [unAt_at] at hw
      cases q : (left l p)[s]? with
      | none => rw [q] at hw; cases hw
      | some v =>
        rw [q] at hw
        have hw : (if at_ pre s then unN2 p v else v) = w := Option.some.inj hw
        have hv := hns v (List.mem_of_getElem? q)
        rw [← hw]
        split
        · exact Nat.le_trans (List.length_filter_le _ _) hv
        · exact hv
    refine ⟨_, _, _, bd_name (i := 5) rfl rfl, .inl (sd_setRow2 (d := dNames (unN2 p w).ns) (w := toD w) rfl (Ev.bor (i := 3) (l := (unAt p (left l p) (at_ pre)).map toD) (m := true) (po := none) rfl (Ev.is (ev_tupleOf (EvL.ev (el_lc (b0 := true) (l := w.ns) (enc := .int) (fun n => decide (n ≠ p)) (fun n => .int n) (T := [7])
      (ei_tup (ev_ixc (x := dRowL w) (ev_ixi (ev_brw rfl) (ev_v rfl) (.inl rfl) (row_atI hw)) (.inl rfl) rfl)) (by omega) (fun n _ => ⟨_, bd_name rfl rfl, (et_neI (b1 := true) (b2 := false) (ev_brw rfl) (ev_v rfl)).is (by rw [decide_not]), fun _ => ev_bI rfl⟩)))) rfl)) (ev_v rfl) (toD_at hw)), ?_⟩
    rw [unAt_snoc hw, List.map_set]
    exact .same (.same (.same (.same (.same (.drop rfl (.same (.same .nil)))))))
  rw [unAt_all]
  have hok := okl_left hl p
  refine sdw_seq (sd_if (o := .nx [.dat (dRule r), .un, .dat (.int p), .rows true none ((without r l p).map toD), .dat (dSpots (hitsOf l p)), .un, .un, .un]) (v := r.on) ((et_eqS (b1 := false) (ev_ixc (ev_v rfl) (.inr rfl) rfl)).is (on_iff r)) (fun h => ?_) (fun h => ?_)) (sdw_ret (i := 3) (ew_of rfl (eq_var rfl)))
  · refine sd_is (sd_callRn (ds := [dSpots (hitsOf l p)]) rfl (ev_v rfl) (ea_cons (ev_v rfl) ea_nil) ⟨r, _, hitsOf l p, rfl, rfl, hok, fun s hs => by rw [List.length_map]; exact hits_lt hs, rfl⟩) ?_
    unfold without
    rw [h, if_pos rfl, hitsOf_at]
    rfl
  · refine sd_is sd_next ?_
    unfold without
    rw [h, if_neg Bool.false_ne_true]
theorem r_L_asked (r : Rule) (l : Line) (hl : Okl l) (F : Frm) (hM : ∀ a, ¬ F.M a) : SDw Θ F (t_L_asked Θ) [.dat (dRule r), .dat (dLineL l), .un, .un, .un] ((askedAgain r l).map toD) := by
  have hl1 := hl.1
  unfold t_L_asked
  have es := es_lcRows (Θ := Θ) (δ := [.dat (dRule r), .dat (dLineL l), .un, .un, .un]) (b0 := false) (l := l) (enc := dRowL) (fun _ => true) toD (wi := iList Θ.K (tVar 1)) (gt := gName 3) (tt := tYes) (te := tCB (rListOf Θ.K) (tCons (tVar 3) tNil)) (vs := [3]) (T := [3]) (ei_list (ev_v rfl)) (by omega) (fun w _ => ⟨_, bd_name rfl rfl, et_yes, fun _ => el_listOf (ev_v rfl) (.inl rfl)⟩)
  rw [map_filter_true] at es
  refine sdw_seq (sd_setS es (by show 2 < 5; decide) rfl) (sdw_seq (sd_if (o := .nx [.dat (dRule r), .dat (dLineL l), .rows false none ((askedAgain r l).map toD), .un, .un]) (v := r.asks) ((et_eqS (b1 := false) (ev_ixc (ev_v rfl) (.inr rfl) rfl)).is (asks_iff r)) (fun h => ?_) (fun h => ?_)) (sdw_ret (i := 2) (ew_of rfl (eq_var rfl))))
  · refine sd_is (sd_callRn (ds := [dSpots (bareOf l)]) (i := 2) rfl (ev_v rfl) (ea_cons (Ev.is (EvL.ev (EvL.bor (i := 2) (l := l.map toD) (m := false) (po := none) rfl (el_lc (b0 := true) (l := l.zipIdx) (enc := fun x => .tuple [.int (x.2 : Nat), dRowL x.1]) (fun x => x.1.ns.isEmpty) (fun x => .int (x.2 : Nat)) (T := [4, 3])
      (by have := ei_enumL (Θ := Θ) (ev_brw (δ := [.dat (dRule r), .dat (dLineL l), .brw (dRowsD (l.map toD)), .un, .un]) (i := 2) rfl); rw [enum_rowsL] at this; exact this) (by rw [List.length_zipIdx]; omega)
      (fun x _ => ⟨_, bd_tup rfl (bds_cons (bd_name (i := 4) rfl rfl) (bds_cons (bd_name (i := 3) rfl rfl) bds_nil)), (et_eqD (b1 := true) (b2 := false) (ev_brN rfl) (ev_rowT ea_nil) (shaped_ints _) rfl).is (eqv_bare _), fun _ => ev_bI rfl⟩)))) ?_) ea_nil) ⟨r, l, bareOf l, rfl, rfl, hl, fun s hs => bare_lt hs, rfl⟩) ?_
    · unfold dSpots bareOf
      rw [List.map_map]
      rfl
    · unfold askedAgain
      rw [h, if_pos rfl, bare_at]
      rfl
  · refine sd_is sd_next ?_
    unfold askedAgain
    rw [h, if_neg Bool.false_ne_true]
    rfl
theorem r_L_back (r : Rule) (m : Rm) (s : Nat) (hl : Okl m.l) (hs : s < m.l.length) (F : Frm) (pa : Addr × List Addr) : SDb Θ F (t_L_back Θ) [.dat (dRule r), .rows true (some pa) (m.l.map toD), .dat (.int (m.c : Nat)), .dat (.int (s : Nat))] ((bringBack r m s).l.map toD) ((bringBack r m s).c : Nat) := by
  have hl1 := hl.1
  unfold t_L_back
  obtain ⟨w, ew⟩ : ∃ w, w = m.l[s] := ⟨_, rfl⟩
  have hw : m.l[s]? = some w := by rw [ew]; exact List.getElem?_eq_getElem hs
  have hh : howAt m.l s = some w.h := by unfold howAt; rw [hw]; rfl
  have et : EvT Θ (tAnd (tTest (tOp rEq (tOp (rIx Θ.K) (tVar 0) (tC (.int 4))) (tC (.str "asks")))) (tTest (tOp rEq (tOp (rIx Θ.K) (tOp (rIx Θ.K) (tVar 1) (tVar 3)) (tC (.int 1))) (tC (.str "lost"))))) [.dat (dRule r), .rows true (some pa) (m.l.map toD), .dat (.int (m.c : Nat)), .dat (.int (s : Nat))] (decide (r.back = .asks) && decide (w.h = .lost)) :=
    et_and ((et_eqS (b1 := false) (ev_ixc (ev_v rfl) (.inr rfl) rfl)).is (bk_asks r)) fun _ => EvT.bor (i := 1) (l := m.l.map toD) (m := true) (po := some pa) rfl ((et_eqS (b1 := true) (ev_ixc (x := dRowL w) (ev_ixi (ev_brw rfl) (ev_v rfl) (.inl rfl) (row_atI hw)) (.inl rfl) rfl)).is (lost_iff _))
  cases hc : decide (r.back = .asks) && decide (w.h = .lost) with
  | true =>
    rw [Bool.and_eq_true] at hc
    have h1 := of_decide_eq_true hc.1
    have h2 := of_decide_eq_true hc.2
    have eb : bringBack r m s = putIn r { m with l := m.l.take s ++ m.l.drop (s + 1) } (m.l.take s ++ m.l.drop (s + 1)).length := by
      unfold bringBack
      rw [if_pos ⟨h1, by rw [hh, h2]⟩]
    have hq := eq_cut (Θ := Θ) (δ := [.dat (dRule r), .rows true (some pa) (m.l.map toD), .dat (.int (m.c : Nat)), .dat (.int (s : Nat))]) (i := 1) (s := s) (t := s + 1) (tl := tVar 3) (th := tOp (rI0 fun i j => .int (i + j)) (tVar 3) (tC (.int 1))) rfl (by rw [List.length_map]; omega) (by omega) (ev_v rfl) (Ev.is (ev_add (b1 := false) (b2 := false) (ev_v (i := 3) rfl) ev_int) rfl)
    have e1 : (m.l.map toD).take s ++ (m.l.map toD).drop (s + 1) = (m.l.take s ++ m.l.drop (s + 1)).map toD := by rw [List.map_append, List.map_take, List.map_drop]
    rw [e1] at hq
    have hcl := cut_len hs
    refine sdb_seq_rt (sdb_ift et (by rw [decide_eq_true h1, decide_eq_true h2]; rfl) ?_)
    rw [eb]
    refine sdb_ret (i := 1) (ew_call (ds := [.int ((m.l.take s ++ m.l.drop (s + 1)).length : Nat), .int (m.c : Nat)]) rfl (ev_v rfl) hq (ea_cons (Ev.bor (i := 1) (l := m.l.map toD) (m := true) (po := some pa) rfl (Ev.is (ev_sub (b1 := false) (b2 := false) (ev_len (b1 := true) (ev_brw rfl) (.inl rfl)) ev_int) ?_)) (ea_cons (ev_v rfl) ea_nil)) ⟨r, m.l.take s ++ m.l.drop (s + 1), _, (m.c : Int), rfl, rfl, okl_cut hl s, by rw [hcl]; omega, Nat.le_refl _, rfl⟩) (Ev.is (ev_add (b1 := false) (b2 := false) (ev_v rfl) ev_int) ?_)
    · rw [List.length_map, List.length_map, hcl]
      show PyData.int _ = PyData.int _
      congr 1
      omega
    · rfl
  | false =>
    have hne : ¬ (r.back = .asks ∧ howAt m.l s = some .lost) := fun ⟨h1, h2⟩ => by
      rw [hh] at h2
      rw [decide_eq_true h1, decide_eq_true (Option.some.inj h2)] at hc
      cases hc
    have eb : bringBack r m s = (match r.back with
      | .tells => renewFrom r { m with l := asHow m.l s .here } s
      | .asks => { m with l := renewed r (asHow m.l s .here) (fun i => decide (i = s)) }
      | .old => { m with l := asHow m.l s .here }) := by unfold bringBack; rw [if_neg hne]; all_goals (cases r.back <;> rfl)
    have hok := okl_asHow hl s .here
    have e2 : (m.l.map toD).set s { toD w with h := "here" } = (asHow m.l s .here).map toD := by
      unfold asHow
      apply List.ext_getElem?
      intro i
      rw [List.getElem?_map, List.getElem?_modify]
      by_cases e : i = s
      · subst e
        rw [List.getElem?_set_self (by rw [List.length_map]; exact hs), hw]
        show some _ = some (toD (if i = i then setHow .here w else w))
        rw [if_pos rfl]
        rfl
      · rw [List.getElem?_set_ne (Ne.symm e), List.getElem?_map]
        cases m.l[i]? with
        | none => rfl
        | some v =>
          show some (toD v) = some (toD (if s = i then setHow .here v else v))
          rw [if_neg fun h => e h.symm]
    have hcc : (bringBack r m s).c = m.c := by rw [eb]; cases r.back <;> rfl
    rw [hcc]
    refine sdb_seq (sd_iff et hc sd_next) (sdb_seq (δ1 := [.dat (dRule r), .rows true (some pa) ((asHow m.l s .here).map toD), .dat (.int (m.c : Nat)), .dat (.int (s : Nat))]) (sd_is (sd_setRow1 (h := "here") (w := toD w) rfl ev_str (ev_v rfl) (toD_at hw)) ?_) (sdb_seq (δ1 := [.dat (dRule r), .rows true (some pa) ((bringBack r m s).l.map toD), .dat (.int (m.c : Nat)), .dat (.int (s : Nat))]) (sd_if ((et_neS (b1 := false) (ev_ixc (ev_v rfl) (.inr rfl) rfl)).is (by rw [bk_old r])) (fun h => ?_) (fun h => ?_)) (sdb_ret (i := 1) (ew_of rfl (eq_var rfl)) (ev_v rfl))))
    · show Out.nx [Sl.dat (dRule r), Sl.rows true (some pa) ((m.l.map toD).set s { toD w with h := "here" }), Sl.dat (.int (m.c : Nat)), Sl.dat (.int (s : Nat))] = _
      rw [e2]
    · have hlen : (asHow m.l s .here).length = m.l.length := asHow_len ..
      by_cases ht : r.back = .tells
      · refine sd_is (sd_callRn (ds := [dSpots ((List.range (m.l.length - s)).map fun i => s + i)]) rfl (ev_v rfl) (ea_cons (Ev.bor (i := 1) (l := (asHow m.l s .here).map toD) (m := true) (po := some pa) rfl (ev_listRg (b1 := false) (b2 := false) (n := m.l.length) (ev_v rfl) (ev_if (et_eqS (b1 := false) (ev_ixc (ev_v rfl) (.inr rfl) rfl)) (fun _ => Ev.is (ev_len (b1 := true) (ev_brw rfl) (.inl rfl)) (by rw [List.length_map, List.length_map, hlen])) (fun h2 => absurd ((bk_tells r).symm.trans h2) (by rw [ht]; decide))) (by omega) (by omega))) ea_nil) ⟨r, _, _, rfl, rfl, hok, fun t ht => ?_, rfl⟩) ?_
        · obtain ⟨k, hk, rfl⟩ := List.mem_map.mp ht
          have := List.mem_range.mp hk
          rw [hlen]
          omega
        · rw [renewed_congr (g := fun i => decide (s ≤ i)) (fun i hi => by rw [hlen] at hi; exact at_range s m.l.length i hi), eb, ht]
          rfl
      · have hb : r.back = .asks := by
          cases q : r.back with
          | asks => rfl
          | old => rw [q] at h; exact absurd h (by decide)
          | tells => exact absurd q ht
        refine sd_is (sd_callRn (ds := [dSpots ((List.range (s + 1 - s)).map fun i => s + i)]) rfl (ev_v rfl) (ea_cons (Ev.bor (i := 1) (l := (asHow m.l s .here).map toD) (m := true) (po := some pa) rfl (ev_listRg (b1 := false) (b2 := false) (n := s + 1) (ev_v rfl) (ev_if (et_eqS (b1 := false) (ev_ixc (ev_v rfl) (.inr rfl) rfl)) (fun h2 => absurd ((bk_tells r).symm.trans h2) (by rw [hb]; decide)) (fun _ => Ev.is (ev_add (b1 := false) (b2 := false) (ev_v rfl) ev_int) rfl)) (by omega) (by omega))) ea_nil) ⟨r, _, _, rfl, rfl, hok, fun t ht => ?_, rfl⟩) ?_
        · obtain ⟨k, hk, rfl⟩ := List.mem_map.mp ht
          have := List.mem_range.mp hk
          rw [hlen]
          omega
        · have e3 : ((List.range (s + 1 - s)).map fun i => s + i) = [s] := by
            rw [show s + 1 - s = 1 by omega]
            rfl
          rw [e3, at_one, eb, hb]
          rfl
    · refine sd_is sd_next ?_
      have hb : r.back = .old := by
        cases q : r.back with
        | old => rfl
        | asks => rw [q] at h; exact absurd h (by decide)
        | tells => rw [q] at h; exact absurd h (by decide)
      rw [eb, hb]
end
end Ask
-- AskL5
set_option Elab.async false
set_option linter.all false
set_option maxRecDepth 100000
/-! what _law_do computes -/
namespace Ask
open PySem PySem.Spec PyProof.Rows L2
def spotL (l : Line) : Evt → Nat
  | .per _ p => spotOf l p
  | _ => 0
theorem who_eqv (e : Evt) (p : Int) : PyData.eqv (.tuple (e.who.map .int)) (.tuple [.int p]) = decide (e.who = [p]) := by
  have := eqv_ints e.who [p]
  show PyData.eqvAll (e.who.map .int) ([p].map .int) = _
  exact this
theorem spot_head (l : Line) (e : Evt) (ht : there l e) : ((l.zipIdx.filter fun x : Row × Nat => decide (e.who = [x.1.p])).map (fun x : Row × Nat => PyData.int (x.2 : Nat)) ++ [PyData.int 0]).head? = some (PyData.int (spotL l e : Nat)) := by
  cases e with
  | come => rw [List.filter_eq_nil_iff.mpr (fun x _ => by simp [Evt.who])]; rfl
  | door => rw [List.filter_eq_nil_iff.mpr (fun x _ => by simp [Evt.who])]; rfl
  | per w p =>
    have e1 : (fun x : Row × Nat => decide ((Evt.per w p).who = [x.1.p])) = fun x => decide (x.1.p = p) := by
      funext x
      show decide ([p] = [x.1.p]) = _
      refine decide_eq_decide.mpr ⟨fun h => ?_, fun h => by rw [h]⟩
      simpa using h.symm
    rw [e1]
    show _ = some (PyData.int (spotOf l p : Nat))
    have key : ∀ (l : Line) (k : Nat), (∃ v ∈ l, v.p = p) → (((l.zipIdx k).filter fun x : Row × Nat => decide (x.1.p = p)).map (fun x : Row × Nat => PyData.int (x.2 : Nat)) ++ [PyData.int 0]).head? = some (PyData.int ((spotOf l p + k : Nat) : Int)) := by
      intro l
      induction l with
      | nil => intro k h; obtain ⟨v, hv, _⟩ := h; cases hv
      | cons a r ih =>
        intro k h
        rw [List.zipIdx_cons, List.filter_cons]
        unfold spotOf
        rw [List.findIdx_cons]
        by_cases ha : a.p = p
        · rw [show decide ((a, k).1.p = p) = true from decide_eq_true ha, if_pos rfl]
          simp
        · rw [show decide ((a, k).1.p = p) = false from decide_eq_false ha, if_neg Bool.false_ne_true]
          obtain ⟨v, hv, hp⟩ := h
          have hv : v ∈ r := by
            rcases List.mem_cons.mp hv with rfl | hv
            · exact absurd hp ha
            · exact hv
          have := ih (k + 1) ⟨v, hv, hp⟩
          rw [this]
          unfold spotOf
          simp
          omega
    have := key l 0 ht
    simpa using this
theorem asHow_D (l : Line) (s : Nat) (w : Row) (h : How) (hs : l[s]? = some w) (hh : h ≠ .away) : (l.map toD).set s { toD w with h := h.s } = (asHow l s h).map toD := by
  unfold asHow
  apply List.ext_getElem?
  intro i
  have hsl := (List.getElem?_eq_some_iff.mp hs).1
  rw [List.getElem?_map, List.getElem?_modify]
  by_cases e : i = s
  · subst e
    rw [List.getElem?_set_self (by rw [List.length_map]; exact hsl), hs]
    show some _ = some (toD (if i = i then setHow h w else w))
    rw [if_pos rfl]
    unfold setHow
    rw [if_neg hh]
  · rw [List.getElem?_set_ne (Ne.symm e), List.getElem?_map]
    cases l[i]? with
    | none => rfl
    | some v =>
      show some (toD v) = some (toD (if s = i then setHow h v else v))
      rw [if_neg fun h => e h.symm]
theorem asHow_D2 (l : Line) (s : Nat) (w : Row) (hs : l[s]? = some w) : ((l.map toD).set s { toD w with h := "away" }).set s { toD w with h := "away", ns := .tuple [] } = (asHow l s .away).map toD := by
  unfold asHow
  apply List.ext_getElem?
  intro i
  have hsl := (List.getElem?_eq_some_iff.mp hs).1
  rw [List.set_set, List.getElem?_map, List.getElem?_modify]
  by_cases e : i = s
  · subst e
    rw [List.getElem?_set_self (by rw [List.length_map]; exact hsl), hs]
    show some _ = some (toD (if i = i then setHow .away w else w))
    rw [if_pos rfl]
    rfl
  · rw [List.getElem?_set_ne (Ne.symm e), List.getElem?_map]
    cases l[i]? with
    | none => rfl
    | some v =>
      show some (toD v) = some (toD (if s = i then setHow .away v else v))
      rw [if_neg fun h => e h.symm]
section
variable {Θ : Th} {F : Frm} {δ δ' : List Sl} {b b1 b2 : Bool} {ta tb te : TE} {tr : TA} {d x y : PyData} {ds es : List PyData} {i j : Nat} {T : List Nat} {E : XK} {l' : List RowD}
/-- how it stands in _law_do -/
abbrev dSt (r : Rule) (m : Rm) (e : Evt) (m1 : Rm) (k : Nat) (s7 : Sl) : List Sl := [.dat (dRule r), .dat (dRoomL m), .dat (dEvt e), .rows false none (m1.l.map toD), .dat (.int (m1.c : Nat)), .own (m1.sv.map .int), .dat (.int (k : Nat)), s7, .un, .un]
theorem et_word {r : Rule} {m m1 : Rm} {e : Evt} {k : Nat} {s7 : Sl} {n : Str} : EvT Θ (tTest (tOp rEq (tOp (rIx Θ.K) (tVar 2) (tC (.int 0))) (tC (.str n)))) (dSt r m e m1 k s7) (decide (e.s = n)) := et_eqS (b1 := false) (ev_ixc (ev_v rfl) (.inr rfl) (evt_at0 e))
theorem ev_rowsLen {r : Rule} {m m1 : Rm} {e : Evt} {k : Nat} {s7 : Sl} : Ev Θ false (tCB (rLen Θ.K) (tCons (tVar 3) tNil)) (dSt r m e m1 k s7) (.int (m1.l.length : Nat)) := Ev.bor (i := 3) (l := m1.l.map toD) (m := false) (po := none) rfl (Ev.is (ev_len (b1 := true) (ev_brw rfl) (.inl rfl)) (by rw [List.length_map, List.length_map]))
theorem here_nil (l : Line) : PyData.eqv (.list ((hereOf l).map .int)) (.list []) = !l.any isHere := by
  rw [← here_any, Bool.not_not]
theorem fin_do {r : Rule} {m m1 : Rm} {e : Evt} {k : Nat} {s7 : Sl} (hl : Okl m1.l) (F : Frm) (hM : ∀ a, ¬ F.M a) : SDr Θ F (tSeq (tIfS (tTest (tOp (rEqD Θ.K) (tCall (sp_L_here Θ) [] C8.E0 (tCons (tVar 3) tNil)) (tLst tNil))) (tAsg (tLc (iList Θ.K (tVar 3)) (gName 8) (tTest (tOp rNe (tOp (rIx Θ.K) (tVar 8) (tC (.int 1))) (tC (.str "away")))) (tLst (tCons (tOp (rIx Θ.K) (tVar 8) (tC (.int 0))) (tCons (tC (.str "lost")) (tCons (tOp (rIx Θ.K) (tVar 8) (tC (.int 2))) tNil)))) [8]) (gName 3)) tNext)
    (tRet (tTup (tCons (tVar 3) (tCons (tVar 4) (tCons (tVar 5) tNil)))))) (dSt r m e m1 k s7) (dRoomL { m1 with l := forgetting m1.l }) anyP := by
  have hl1 := hl.1
  refine sdr_seq (δ1 := dSt r m e { m1 with l := forgetting m1.l } k s7) (sd_if (EvT.bor (i := 3) (l := m1.l.map toD) (m := false) (po := none) rfl ((et_eqD (b1 := false) (b2 := false) (ev_callN (b1 := true) (ea_cons (ev_brw rfl) ea_nil) ⟨m1.l, by rw [rowsD_line], hl, rfl⟩) (ev_lst ea_nil (by decide)) (lay_shaped (lay_ints _)) rfl).is (here_nil m1.l))) (fun h => ?_) (fun h => ?_)) (sdr_retF (ev_rowT (ea_cons (Ev.is (ev_v rfl) ?_) (ea_cons (ev_v rfl) (ea_cons (ev_v rfl) ea_nil)))) trivial)
  · refine sd_frz (i := 3) rfl (sd_is (sd_setS (es_lcRows (b0 := false) (l := m1.l) (enc := dRowL) (fun w => !decide (w.h = .away)) (fun w => toD { w with h := .lost }) (T := [8]) (ei_list (Ev.is (ev_v rfl) (rowsD_line m1.l))) (by omega) (fun w _ => ⟨_, bd_name rfl rfl, (et_neS (b1 := false) (ev_drH rfl)).is (by rw [away_iff]), fun _ => el_lst (ea_cons (ev_drI rfl) (ea_cons ev_str (ea_cons (ev_drN (w := w) rfl) ea_nil))) (by show 3 ≤ _; decide)⟩)) (by show 3 < 10; decide) rfl) ?_)
    have hf : forgetting m1.l = (m1.l.filter fun w => !decide (w.h = .away)).map fun w => { w with h := .lost } := by
      unfold forgetting
      have h2 : m1.l.any isHere = false := by simpa using h
      rw [h2, if_neg Bool.false_ne_true]
      congr 1
      refine List.filter_congr fun w _ => ?_
      rw [decide_not]
    unfold dSt
    rw [hf, List.map_map]
    rfl
  · refine sd_is sd_next ?_
    have h2 : m1.l.any isHere = true := by simpa using h
    unfold dSt forgetting
    rw [h2, if_pos rfl]
  · exact rowsD_line _
theorem r_L_do (r : Rule) (m : Rm) (e : Evt) (hl : Okl m.l) (hn : m.l.length < 60) (hsv : m.sv.length ≤ 60) (ht : there m.l e) (F : Frm) (hM : ∀ a, ¬ F.M a) : SDr Θ F (t_L_do Θ) [.dat (dRule r), .dat (dRoomL m), .dat (dEvt e), .un, .un, .un, .un, .un, .un, .un] (dRoomL (do_ r m e)) anyP := by
  have hl1 := hl.1
  have hok1 := okl_do1 (r := r) hl hn ht
  unfold t_L_do
  have es := es_lcRows (Θ := Θ) (δ := [.dat (dRule r), .dat (dRoomL m), .dat (dEvt e), .un, .un, .un, .un, .un, .un, .un]) (b0 := false) (l := m.l) (enc := dRowL) (fun _ => true) toD (wi := iList Θ.K (tOp (rIx Θ.K) (tVar 1) (tC (.int 0)))) (gt := gName 8) (tt := tYes) (te := tCB (rListOf Θ.K) (tCons (tVar 8) tNil)) (vs := [8]) (T := [8]) (ei_list (ev_ixc (ev_v rfl) (.inr rfl) rfl)) (by omega) (fun w _ => ⟨_, bd_name rfl rfl, et_yes, fun _ => el_listOf (ev_v rfl) (.inl rfl)⟩)
  rw [map_filter_true] at es
  refine sdr_seq (sd_par3 es (es_dat (ev_ixc (ev_v rfl) (.inr rfl) rfl)) (es_own (el_listOf (ev_ixc (ev_v rfl) (.inr rfl) rfl) (.inl rfl)))) ?_
  refine sdr_seq (δ1 := dSt r m e m (spotL m.l e) .un) (sd_set (d := .int (spotL m.l e : Nat)) (ev_ixc (EvL.ev (el_cat (EvL.m (EvL.bor (i := 3) (l := m.l.map toD) (m := false) (po := none) rfl (el_lc (b0 := true) (l := m.l.zipIdx) (enc := fun x => .tuple [.int (x.2 : Nat), dRowL x.1]) (fun x => decide (e.who = [x.1.p])) (fun x => .int (x.2 : Nat)) (T := [9, 8])
      (by have := ei_enumL (Θ := Θ) (ev_brw (δ := [.dat (dRule r), .dat (dRoomL m), .dat (dEvt e), .brw (dRowsD (m.l.map toD)), .dat (.int (m.c : Nat)), .own (m.sv.map .int), .un, .un, .un, .un]) (i := 3) rfl); rw [enum_rowsL] at this; exact this) (by rw [List.length_zipIdx]; omega)
      (fun x _ => ⟨_, bd_tup rfl (bds_cons (bd_name (i := 9) rfl rfl) (bds_cons (bd_name (i := 8) rfl rfl) bds_nil)), (et_eqD (b1 := false) (b2 := false) (Ev.is (ev_slT (ev_v rfl) (eo_some (b := false) ev_int) eo_none) (e := .tuple (e.who.map .int)) ?_) (ev_rowT (ea_cons (ev_brI rfl) ea_nil)) (lay_shaped (lay_names e.who)) (lay_shaped (lay_names [x.1.p]))).is (who_eqv e x.1.p), fun _ => ev_bI rfl⟩)))) (EvL.m (el_lst (ea_cons ev_int ea_nil) (by show 1 ≤ _; decide))) ?_)) (.inl rfl) ?_)) ?_
  · have := cutD_from (ds := PyData.str e.s :: e.who.map .int) (k := 1)
    rw [show ((1 : Nat) : Int) = 1 from rfl] at this
    rw [this]
    rfl
  · rw [List.length_map]
    have := List.length_filter_le (fun x : Row × Nat => decide (e.who = [x.1.p])) m.l.zipIdx
    rw [List.length_zipIdx] at this
    show _ + 1 ≤ _
    omega
  · have := spot_head m.l e ht
    cases q : (m.l.zipIdx.filter fun x : Row × Nat => decide (e.who = [x.1.p])).map (fun x : Row × Nat => PyData.int (x.2 : Nat)) ++ [PyData.int 0] with
    | nil => rw [q] at this; cases this
    | cons a rest =>
      rw [q] at this
      rw [atI_0]
      exact this
  have wne : ∀ {m1 : Rm} {s7 : Sl} {n : Str} {t : TS}, decide (e.s = n) = false → SD Θ F (tIfS (tTest (tOp rEq (tOp (rIx Θ.K) (tVar 2) (tC (.int 0))) (tC (.str n)))) t tNext) (dSt r m e m1 (spotL m.l e) s7) (.nx (dSt r m e m1 (spotL m.l e) s7)) := fun h => sd_iff et_word h sd_next
  have hm : false = false → ∀ a, ¬ F.M a := fun _ => hM
  cases e with
  | come =>
    refine sdr_seq (δ1 := dSt r m .come (do1 r m .come) 0 .un) (sd_ift et_word (by decide +kernel) (sd_is (sd_parW (m := false) (ew_call (i := 3) (ds := [.int (m.l.length : Nat), .int (m.c : Nat)]) rfl (ev_v rfl) (eq_var rfl) (ea_cons ev_rowsLen (ea_cons (ev_v rfl) ea_nil)) ⟨r, m.l, m.l.length, (m.c : Int), rfl, rfl, hl, hn, Nat.le_refl _, rfl⟩) (es_dat (ev_add (b1 := false) (b2 := false) (ev_v rfl) ev_int)) (hm := hm)) ?_)) ?_
    · rfl
    · exact sdr_seq (wne (by decide +kernel)) (sdr_seq (wne (by decide +kernel)) (sdr_seq (wne (by decide +kernel)) (sdr_seq (wne (by decide +kernel)) (sdr_seq (wne (by decide +kernel)) (sdr_seq (wne (by decide +kernel)) (fin_do hok1 F hM))))))
  | door =>
    have hok := okl_asked (r := r) hl
    have hcl : (claiming r (askedAgain r m.l)).length ≤ 60 := by
      unfold claiming
      rw [List.length_map]
      exact Nat.le_trans (List.length_filter_le _ _) hok.1
    refine sdr_seq (wne (by decide +kernel)) (sdr_seq (wne (by decide +kernel)) (sdr_seq (wne (by decide +kernel)) (sdr_seq (wne (by decide +kernel)) (sdr_seq (wne (by decide +kernel)) (sdr_seq (wne (by decide +kernel)) ?_)))))
    obtain ⟨s7, h7⟩ : ∃ s7 : Sl, s7 = .own ((claiming r (askedAgain r m.l)).map .int) := ⟨_, rfl⟩
    refine sdr_seq (δ1 := dSt r m .door (openDoor r m) 0 s7) (sd_ift et_word (by decide +kernel) (sd_seq (sd_frz (i := 3) rfl (sd_setS (es_callDR (l' := (askedAgain r m.l).map toD) (ea_cons (ev_v rfl) (ea_cons (ev_v rfl) ea_nil)) ⟨r, m.l, by rw [rowsD_line], hl, rfl⟩) (by show 3 < 10; decide) rfl)) (sd_seq (sd_setL (EvL.bor (i := 3) (l := (askedAgain r m.l).map toD) (m := false) (po := none) rfl (el_callN (b1 := true) (es := (claiming r (askedAgain r m.l)).map .int) (ea_cons (ev_var rfl) (ea_cons (ev_brw rfl) ea_nil)) ⟨r, askedAgain r m.l, by rw [rowsD_line], hok, rfl⟩)))
      ?_))) (fin_do hok1 F hM)
    have et : EvT Θ (tTest (tOp rEq (tCB (rLen Θ.K) (tCons (tVar 7) tNil)) (tC (.int 1)))) (dSt r m .door { m with l := askedAgain r m.l } 0 (.own ((claiming r (askedAgain r m.l)).map .int))) (decide (((claiming r (askedAgain r m.l)).length : Int) = 1)) :=
      (et_eqI (b1 := false) (b2 := false) (ev_lenOwn rfl) ev_int).is (by rw [List.length_map])
    rw [h7]
    unfold openDoor
    dsimp only
    generalize hg : claiming r (askedAgain r m.l) = cl at et hcl
    cases cl with
    | nil => exact sd_iff et (by decide) sd_next
    | cons p rest =>
      cases rest with
      | nil =>
        refine sd_ift et rfl (sd_is (sd_parW (m := false) (ew_call (i := 3) (ds := [.int p]) rfl (ev_v rfl) (eq_var rfl) (ea_cons (ev_ownIx rfl atI_0) ea_nil) ⟨r, askedAgain r m.l, p, rfl, rfl, hok, rfl⟩) (es_own (el_cat (em_own (i := 5) rfl) (em_own (i := 7) rfl) ?_)) (hm := hm)) ?_)
        · rw [List.length_map, List.length_map]
          show _ + 1 ≤ _
          omega
        · show Out.nx [_, _, _, _, _, Sl.own (m.sv.map PyData.int ++ [p].map PyData.int), _, _, _, _] = Out.nx [_, _, _, _, _, Sl.own ((m.sv ++ [p]).map PyData.int), _, _, _, _]
          rw [List.map_append]
          rfl
      | cons p2 rest =>
        refine sd_iff et (decide_eq_false ?_) sd_next
        rw [List.length_cons, List.length_cons]
        omega
  | per w p =>
    have hs : spotOf m.l p < m.l.length := spotOf_lt ht
    obtain ⟨v, ev⟩ : ∃ v, v = m.l[spotOf m.l p] := ⟨_, rfl⟩
    have hv : m.l[spotOf m.l p]? = some v := by rw [ev]; exact List.getElem?_eq_getElem hs
    have w0 : decide ((Evt.per w p).s = "come") = false := wd_come w
    have w6 : decide ((Evt.per w p).s = "door") = false := wd_door w
    refine sdr_seq (wne w0) ?_
    cases w with
    | let_ =>
      refine sdr_seq (δ1 := dSt r m (.per .let_ p) (do1 r m (.per .let_ p)) (spotOf m.l p) .un) (sd_ift et_word (show decide (Wd.let_.s = "let") = true by decide +kernel) (sd_seq (δ1 := dSt r m (.per .let_ p) (putIn r m (spotOf m.l p + 1)) (spotOf m.l p) .un) (sd_is (sd_parW (m := false) (ew_call (i := 3) (ds := [.int ((spotOf m.l p + 1 : Nat) : Int), .int (m.c : Nat)]) rfl (ev_v rfl) (eq_var rfl) (ea_cons (Ev.is (ev_add (b1 := false) (b2 := false) (ev_v rfl) ev_int) rfl) (ea_cons (ev_v rfl) ea_nil)) ⟨r, m.l, spotOf m.l p + 1, (m.c : Int), rfl, rfl, hl, hn, by omega, rfl⟩) (es_dat (ev_add (b1 := false) (b2 := false) (ev_v rfl) ev_int)) (hm := hm)) rfl)
        (sd_if ((et_eqS (b1 := false) (ev_ixc (ev_v rfl) (.inr rfl) rfl)).is (told_iff r)) (fun h => ?_) (fun h => ?_)))) ?_
      · have hpl : (putIn r m (spotOf m.l p + 1)).l.length = m.l.length + 1 := putIn_len ..
        refine sd_is (sd_callRn (i := 3) (ds := [dSpots ((List.range ((m.l.length + 1) - (spotOf m.l p + 2))).map fun i => (spotOf m.l p + 2) + i)]) rfl (ev_v rfl) (ea_cons (ev_listRg (b1 := false) (b2 := false) (s := spotOf m.l p + 2) (n := m.l.length + 1) (Ev.is (ev_add (b1 := false) (b2 := false) (ev_v rfl) ev_int) rfl) (Ev.is ev_rowsLen (by rw [hpl])) (by omega) (by omega)) ea_nil) ⟨r, _, _, rfl, rfl, okl_putIn hl hn _, fun t ht => ?_, rfl⟩) ?_
        · obtain ⟨k, hk, rfl⟩ := List.mem_map.mp ht
          have := List.mem_range.mp hk
          rw [hpl]
          omega
        · rw [renewed_congr (g := fun i => decide (spotOf m.l p + 2 ≤ i)) (fun i hi => by rw [hpl] at hi; exact at_range (spotOf m.l p + 2) (m.l.length + 1) i hi)]
          show _ = Out.nx (dSt r m (.per .let_ p) (if r.told = true then renewFrom r (putIn r m (spotOf m.l p + 1)) (spotOf m.l p + 2) else putIn r m (spotOf m.l p + 1)) (spotOf m.l p) .un)
          rw [h, if_pos rfl]
          rfl
      · refine sd_is sd_next ?_
        show _ = Out.nx (dSt r m (.per .let_ p) (if r.told = true then renewFrom r (putIn r m (spotOf m.l p + 1)) (spotOf m.l p + 2) else putIn r m (spotOf m.l p + 1)) (spotOf m.l p) .un)
        rw [h, if_neg Bool.false_ne_true]
      · exact sdr_seq (wne (show decide (Wd.let_.s = "out") = false by decide +kernel)) (sdr_seq (wne (show decide (Wd.let_.s = "vanish") = false by decide +kernel)) (sdr_seq (wne (show decide (Wd.let_.s = "leave") = false by decide +kernel)) (sdr_seq (wne (show decide (Wd.let_.s = "back") = false by decide +kernel)) (sdr_seq (wne w6) (fin_do hok1 F hM)))))
    | out =>
      refine sdr_seq (wne (show decide (Wd.out.s = "let") = false by decide +kernel)) (sdr_seq (δ1 := dSt r m (.per .out p) (do1 r m (.per .out p)) (spotOf m.l p) .un) (sd_ift et_word (show decide (Wd.out.s = "out") = true by decide +kernel) (sd_is (sd_setRow1 (i := 3) (h := "out") (w := toD v) rfl ev_str (ev_v (i := 6) rfl) (toD_at hv)) ?_)) ?_)
      · have := asHow_D m.l (spotOf m.l p) v .out hv (by decide)
        show Out.nx [_, _, _, Sl.rows false none ((m.l.map toD).set (spotOf m.l p) { toD v with h := How.out.s }), _, _, _, _, _, _] = Out.nx [_, _, _, Sl.rows false none ((asHow m.l (spotOf m.l p) .out).map toD), _, _, _, _, _, _]
        rw [this]
        rfl
      · exact sdr_seq (wne (show decide (Wd.out.s = "vanish") = false by decide +kernel)) (sdr_seq (wne (show decide (Wd.out.s = "leave") = false by decide +kernel)) (sdr_seq (wne (show decide (Wd.out.s = "back") = false by decide +kernel)) (sdr_seq (wne w6) (fin_do hok1 F hM))))
    | vanish =>
      refine sdr_seq (wne (show decide (Wd.vanish.s = "let") = false by decide +kernel)) (sdr_seq (wne (show decide (Wd.vanish.s = "out") = false by decide +kernel)) (sdr_seq (δ1 := dSt r m (.per .vanish p) (do1 r m (.per .vanish p)) (spotOf m.l p) .un) (sd_ift et_word (show decide (Wd.vanish.s = "vanish") = true by decide +kernel) (sd_is (sd_setRow12 (i := 3) (h := "away") (w := toD v) rfl (ev_v (i := 6) rfl) (fun _ => ev_v (i := 6) rfl) (toD_at hv)) ?_)) ?_))
      · have := asHow_D2 m.l (spotOf m.l p) v hv
        show Out.nx [_, _, _, Sl.rows false none (((m.l.map toD).set (spotOf m.l p) { toD v with h := "away" }).set (spotOf m.l p) { toD v with h := "away", ns := .tuple [] }), _, _, _, _, _, _] = Out.nx [_, _, _, Sl.rows false none ((asHow m.l (spotOf m.l p) .away).map toD), _, _, _, _, _, _]
        rw [this]
        rfl
      · exact sdr_seq (wne (show decide (Wd.vanish.s = "leave") = false by decide +kernel)) (sdr_seq (wne (show decide (Wd.vanish.s = "back") = false by decide +kernel)) (sdr_seq (wne w6) (fin_do hok1 F hM)))
    | leave =>
      refine sdr_seq (wne (show decide (Wd.leave.s = "let") = false by decide +kernel)) (sdr_seq (wne (show decide (Wd.leave.s = "out") = false by decide +kernel)) (sdr_seq (wne (show decide (Wd.leave.s = "vanish") = false by decide +kernel)) (sdr_seq (δ1 := dSt r m (.per .leave p) (do1 r m (.per .leave p)) (spotOf m.l p) .un) (sd_ift et_word (show decide (Wd.leave.s = "leave") = true by decide +kernel) (sd_is (sd_asgW (m := false) (ew_call (i := 3) (ds := [.int p]) rfl (ev_v rfl) (eq_var rfl) (ea_cons (ev_ixc (ev_v rfl) (.inr rfl) rfl) ea_nil) ⟨r, m.l, p, rfl, rfl, hl, rfl⟩) rfl hm) rfl)) ?_)))
      exact sdr_seq (wne (show decide (Wd.leave.s = "back") = false by decide +kernel)) (sdr_seq (wne w6) (fin_do hok1 F hM))
    | back =>
      refine sdr_seq (wne (show decide (Wd.back.s = "let") = false by decide +kernel)) (sdr_seq (wne (show decide (Wd.back.s = "out") = false by decide +kernel)) (sdr_seq (wne (show decide (Wd.back.s = "vanish") = false by decide +kernel)) (sdr_seq (wne (show decide (Wd.back.s = "leave") = false by decide +kernel)) (sdr_seq (δ1 := dSt r m (.per .back p) (do1 r m (.per .back p)) (spotOf m.l p) .un) (sd_ift et_word (show decide (Wd.back.s = "back") = true by decide +kernel) (sd_is (sd_callRb (i := 3) (m := false) (ds := [.int (m.c : Nat), .int (spotOf m.l p : Nat)]) rfl (ev_v rfl) (eq_var rfl) (ea_cons (ev_v rfl) (ea_cons (ev_v rfl) ea_nil)) ⟨r, m, spotOf m.l p, rfl, rfl, hl, hs, rfl, rfl⟩ rfl rfl rfl hm) ?_)) ?_))))
      · show Out.nx [_, _, _, _, _, Sl.own (m.sv.map PyData.int), _, _, _, _] = Out.nx [_, _, _, _, _, Sl.own ((bringBack r m (spotOf m.l p)).sv.map PyData.int), _, _, _, _]
        rw [bring_sv]
        rfl
      · exact sdr_seq (wne w6) (fin_do hok1 F hM)
end
end Ask
-- AskL6
set_option Elab.async false
set_option linter.all false
set_option maxRecDepth 100000
/-! what _law_due computes -/
namespace Ask
open PySem PySem.Spec PyProof.Rows L2
section
variable {Θ : Th} {F : Frm} {δ δ1 δ' : List Sl} {σ : L2.St} {H0 Hb H H' : Hp} {A : Nat → List Addr} {b b1 b2 : Bool} {ta tb te : TE} {tr : TA} {c : TT} {t u : TS} {d x y : PyData} {ds es : List PyData} {i j : Nat} {T : List Nat} {E : XK} {Z : PyData → Prop}
variable (Θ) in
/-- the body gives what Z says -/
def SDc (F : Frm) (t : TS) (δ : List Sl) (Z : PyData → Prop) : Prop := ∀ σ H0 Hb H A, St Θ F δ σ H0 Hb H A → ∀ D : Ends, (∀ d v σ' H0' Hb' H' A' δ', Z d → St Θ F δ' σ' H0' Hb' H' A' → Dp Θ.K (ext F.H0c F.Hc H') v d → D.rt v H') → t D σ H
theorem sdc_seq (h1 : SD Θ F t δ (.nx δ1)) (h2 : SDc Θ F u δ1 Z) : SDc Θ F (tSeq t u) δ Z := fun σ H0 Hb H A st D fin =>
  h1 σ H0 Hb H A st { D with nx := u D } fun σ' H0' Hb' H' A' st' e0 eb => h2 σ' H0' Hb' H' A' st' D fin
theorem sdc_seq_rt (h1 : SDc Θ F t δ Z) : SDc Θ F (tSeq t u) δ Z := fun σ H0 Hb H A st D fin => h1 σ H0 Hb H A st { D with nx := u D } fin
theorem sdc_of {P : List Sl → Prop} (h : SDr Θ F t δ d P) (hz : Z d) : SDc Θ F t δ Z := fun σ H0 Hb H A st D fin => h σ H0 Hb H A st D fun v σ' a c e g δ' _ st' dv => fin d v σ' a c e g δ' hz st' dv
theorem sdc_ift {v : Bool} (h : EvT Θ c δ v) (hv : v = true) (h1 : SDc Θ F t δ Z) : SDc Θ F (tIfS c t u) δ Z := fun σ H0 Hb H A st D fin => h σ H0 Hb H A st.s _ fun H1 s1 => by
  rw [hv, if_pos rfl]; exact h1 σ _ _ H1 A (st.ext s1) D fin
theorem sdc_while {α : Type} (S : α → List Sl) (m : α → Nat) (I : α → Prop) {a : α} (Y : α → Prop) (ha : I a) (h : ∀ a, I a → ∃ v, EvT Θ c (S a) v ∧ (v = true → SDc Θ F t (S a) Z ∨ ∃ a' δ', SD Θ F t (S a) (.nx δ') ∧ Wk δ' (S a') ∧ I a' ∧ m a' < m a) ∧ (v = false → Y a)) (hu : ∀ a, I a → Y a → SDc Θ F u (S a) Z) : SDc Θ F (tSeq (tWhile c t) u) (S a) Z := fun σ H0 Hb H A st D fin => by
  refine ⟨fun n σ' H' => ∃ a H0' Hb' A', I a ∧ m a = n ∧ St Θ F (S a) σ' H0' Hb' H' A', ⟨m a, a, _, _, _, ha, rfl, st⟩, ?_⟩
  rintro n σ' H' ⟨a, H0', Hb', A', hI, rfl, st'⟩
  obtain ⟨v, hv, ht, hf⟩ := h a hI
  refine hv σ' _ _ _ _ st'.s _ fun H2 s2 => ?_
  cases v with
  | true =>
    rw [if_pos rfl]
    rcases ht rfl with hc | ⟨a', δ', hb, hw, hI', hm⟩
    · exact ⟨fun _ _ => False, fun _ _ z => z.elim, hc σ' _ _ _ _ (st'.ext s2) _ fin⟩
    · refine ⟨fun σ2 H3 => ∃ H0' Hb' A', St Θ F (S a') σ2 H0' Hb' H3 A', fun σ2 H3 ⟨z1, z2, z3, z4⟩ => ⟨m a', hm, a', z1, z2, z3, hI', rfl, z4⟩, ?_⟩
      exact hb σ' _ _ _ _ (st'.ext s2) _ fun σ2 z1 z2 H3 z3 st3 _ _ => ⟨z1, z2, _, st3.weak hw⟩
  | false =>
    rw [if_neg Bool.false_ne_true]
    exact hu a hI (hf rfl) σ' _ _ _ _ (st'.ext s2) D fin
theorem fn_spC {N : List Str} {t : TS} {G : List PyData → PyData → Prop} {I : List PyData → Prop} {n : Nat} (hG : ∀ ds, I ds → ds.length = n) (hn : n ≤ N.length) (h : ∀ ds, I ds → ∀ F : Frm, SDc Θ F t (datS ds N.length) (G ds)) (vs : List V) (H : Hp) (Q : VK) (E : XK) (hsp : spC Θ G I vs H Q E) :
    t { nx := fun _ H' => Q .non H', rt := Q } (L2.start N vs) H := by
  obtain ⟨H0, ds, s, hv, hg, q⟩ := hsp
  refine h ds hg ⟨H, H0, fun _ => False⟩ _ _ _ _ _ (start_St (by rw [hv.length, hG ds hg]; exact hn) s hv) _ ?_
  intro d v σ' H0' Hb' H' A' δ' hz st' dv
  exact q d v H' hz (fun z o e => st'.keep z o (fun m => m) e) dv
/-- x = xs.pop() -/
theorem sd_pop (hi : δ[i]? = some (.own (ds ++ [d]))) (hj : Nat.blt j δ.length = true := by rfl) : SD Θ F (tAsg (tBM0 Θ.K "list" rPop (tVar i)) (gName j)) δ (.nx ((δ.set i (.own ds)).set j (.dat d))) := fun σ H0 Hb H A st D fin => by
  obtain ⟨p, vs, hA, ho, hn, hp, hv⟩ := own_at st hi
  have hlen := hv.length
  rw [List.length_append, List.length_singleton] at hlen
  have hget : (ds ++ [d])[vs.length - 1]? = some d := by
    rw [hlen, Nat.add_sub_cancel, List.getElem?_append_right (Nat.le_refl _), Nat.sub_self]
    rfl
  obtain ⟨v, hv1, hv2⟩ := hv.get hget
  refine ⟨_, ho, .inl ⟨rfl, _, SqL.of hp⟩, p, vs, v, rfl, rfl, hp, hv1, ?_⟩
  have hd : DpAll Θ.K H0 vs.dropLast ds := by
    have := hv.take ds.length
    rw [List.take_left' rfl] at this
    rw [List.dropLast_eq_take, hlen, Nat.add_sub_cancel]
    exact this
  have st1 := st.mutL hi hA hp ho hn hd
  exact fin _ _ _ _ _ (st1.put (i := j) (s := .dat d) (o := some v) (L := []) (by rw [List.length_set]; exact Nat.blt_eq.mp hj) ⟨rfl, v, rfl, hv2⟩ (fun a ha => by cases ha) rfl) (Same.refl _) (Same.refl _)
/-- s + t of tuples -/
theorem ev_catA (ha : Ev Θ false ta δ (.tuple ds)) (hb : Ev Θ false tb δ (.tuple es)) (hl : ds.length + es.length ≤ 100000) : Ev Θ false (tOp (rCatA Θ.K) ta tb) δ (.tuple (ds ++ es)) := fun σ H0 Hb H A st Q q =>
  two st ha hb (R := fun v u H2 => rCatA Θ.K v u H2 Q) fun v u H' s' dv du => by
    have sB : Same (ext (bse false H0 Hb) H H') H' := ext_same (st.h0.trans st.hb) s'
    cases dv with
    | @tup a vs _ hs ha' =>
    cases du with
    | @tup b us _ hs2 hb' =>
    refine ⟨a, b, vs, us, rfl, rfl, Same.seqT sB hs, Same.seqT sB hs2, sz1000 (by rw [ha'.length, hb'.length]; exact hl), fun e => ?_, fun _ e => ?_, fun _ _ p np => ?_⟩
    · subst e
      have : ds = [] := List.eq_nil_of_length_eq_zero (by rw [← ha'.length]; rfl)
      subst this
      exact q _ _ s' (.tup hs2 hb')
    · subst e
      have : es = [] := List.eq_nil_of_length_eq_zero (by rw [← hb'.length]; rfl)
      subst this
      rw [List.append_nil] at q
      exact q _ _ s' (.tup hs ha')
    · obtain ⟨a1, a2⟩ := new_tup s' np (ha'.append hb')
      exact q _ _ a1 a2
end
/-! ### the search by depth -/
theorem waysL_iff {r : Rule} {n : Nat} {x : Node} (g : Good n x) (e : Evt) : e ∈ waysL r x.1 n ↔ e ∈ ways r x.1 n := by
  unfold waysL ways
  rw [List.mem_filter, List.mem_filter, evs_iff]
  refine and_congr_right fun _ => ?_
  have := g.cn
  rw [do_c]
  unfold grow1
  show decide (x.1.2 + _ ≤ n) = true ↔ _
  cases growing r (rm0 x.1) e with
  | true => simp; omega
  | false => simp; omega
theorem sv_len' (r : Rule) (x : Pair) (e : Evt) : (do_ r (rm0 x) e).sv.length ≤ 1 := by
  unfold do_ do1
  cases e with
  | come => exact Nat.zero_le _
  | door =>
    show (openDoor r (rm0 x)).sv.length ≤ 1
    unfold openDoor
    dsimp only
    split
    · exact Nat.le_refl _
    · exact Nat.zero_le _
  | per w p =>
    have : (doPer r (rm0 x) w p).sv = [] := by
      unfold doPer
      cases w with
      | let_ =>
        dsimp only
        split <;> rfl
      | back => exact bring_sv ..
      | _ => rfl
    show (doPer r (rm0 x) w p).sv.length ≤ 1
    rw [this]
    exact Nat.zero_le _
theorem nextN_sv (r : Rule) (x : Node) (e : Evt) : (nextN r x e).2 = x.2 ++ (do_ r (rm0 x.1) e).sv := by
  have h1 := sv_len' r x.1 e
  unfold nextN served
  show (match (do_ r (rm0 x.1) e).sv.head? with
    | none => x.2
    | some p => x.2 ++ [p]) = _
  cases q : (do_ r (rm0 x.1) e).sv with
  | nil => simp
  | cons p rest =>
    rw [q] at h1
    cases rest with
    | nil => rfl
    | cons _ _ => simp at h1
structure DI (r : Rule) (n : Nat) (s : NL) : Prop where
  nd : s.1.Nodup
  re : ∀ y ∈ s.1, Reach r n y
  rw : ∀ y ∈ s.2, Reach r n y
  st : (([], 0), []) ∈ s.1 ∨ (([], 0), []) ∈ s.2
  cl : ∀ y ∈ s.1, ∀ e ∈ waysL r y.1 n, quietE e = true → nextN r y e ∈ s.1 ∨ nextN r y e ∈ s.2
  ln : s.1.length ≤ 300
  lw : s.2.length ≤ 100 * s.1.length + 1
def dm (s : NL) : Nat := 1000 * (300 - s.1.length) + s.2.length
theorem di_start (r : Rule) (n : Nat) : DI r n ([], [(([], 0), [])]) := ⟨.nil, fun y hy => (by cases hy), fun y hy => (by rw [List.mem_singleton.mp hy]; exact .start), .inr (by simp), fun y hy => (by cases hy), Nat.zero_le _, by simp⟩
theorem di_all {r : Rule} {n : Nat} (hn : n ≤ 6) {s : NL} (b : DI r n s) (h : s.2 = []) {x : Node} : x ∈ s.1 ↔ Reach r n x := by
  refine ⟨b.re x, fun hr => ?_⟩
  induction hr with
  | start => exact b.st.resolve_right (by rw [h]; simp)
  | step hx he hq ih => exact (b.cl _ ih _ ((waysL_iff (reach_good hn hx) _).mpr he) hq).resolve_right (by rw [h]; simp)
def kidsL (r : Rule) (n : Nat) (y : Node) : List Node := ((waysL r y.1 n).filter quietE).map (nextN r y)
theorem waysL_len (r : Rule) (n : Nat) (x : Pair) (h : x.1.length ≤ 6) : (waysL r x n).length ≤ 100 := by
  unfold waysL
  refine Nat.le_trans (List.length_filter_le _ _) ?_
  unfold evsL
  rw [List.length_mergeSort, allEvL_eq]
  refine Nat.le_trans (List.length_filter_le _ _) ?_
  rw [List.length_append, someL_len]
  show x.1.length + 4 * x.1.length + 2 ≤ 100
  omega
theorem kids_len (r : Rule) (n : Nat) (y : Node) (h : y.1.1.length ≤ 6) : (kidsL r n y).length ≤ 100 := by
  unfold kidsL
  rw [List.length_map]
  refine Nat.le_trans (List.length_filter_le _ _) ?_
  unfold waysL
  refine Nat.le_trans (List.length_filter_le _ _) ?_
  unfold evsL
  rw [List.length_mergeSort, allEvL_eq]
  refine Nat.le_trans (List.length_filter_le _ _) ?_
  rw [List.length_append, someL_len]
  show y.1.1.length + 4 * y.1.1.length + 2 ≤ 100
  omega
theorem di_old {r : Rule} {n : Nat} {N W : List Node} {y : Node} (b : DI r n (N, W ++ [y])) (hy : y ∈ N) : DI r n (N, W) := by
  refine ⟨b.nd, b.re, fun z hz => b.rw z (List.mem_append_left _ hz), ?_, fun z hz e he hq => ?_, b.ln, ?_⟩
  · rcases b.st with h | h
    · exact .inl h
    · rcases List.mem_append.mp h with h | h
      · exact .inr h
      · rw [List.mem_singleton.mp h]; exact .inl hy
  · rcases b.cl z hz e he hq with h | h
    · exact .inl h
    · rcases List.mem_append.mp h with h | h
      · exact .inr h
      · rw [List.mem_singleton.mp h]; exact .inl hy
  · have := b.lw
    simp only [List.length_append, List.length_singleton] at this
    show W.length ≤ 100 * N.length + 1
    omega
theorem di_new {r : Rule} {n : Nat} (hn : n ≤ 6) {N W : List Node} {y : Node} (b : DI r n (N, W ++ [y])) (hy : y ∉ N) (h3 : N.length < 300) : DI r n (N ++ [y], W ++ kidsL r n y) := by
  have hry : Reach r n y := b.rw y (by simp)
  have g := reach_good hn hry
  refine ⟨?_, fun z hz => ?_, fun z hz => ?_, ?_, fun z hz e he hq => ?_, ?_, ?_⟩
  · show (N ++ [y]).Nodup
    rw [List.nodup_append]
    refine ⟨b.nd, by simp, fun a ha c hc => ?_⟩
    rw [List.mem_singleton.mp hc]
    exact fun e => hy (e ▸ ha)
  · rcases List.mem_append.mp hz with hz | hz
    · exact b.re z hz
    · rw [List.mem_singleton.mp hz]; exact hry
  · rcases List.mem_append.mp hz with hz | hz
    · exact b.rw z (List.mem_append_left _ hz)
    · unfold kidsL at hz
      obtain ⟨e, he, rfl⟩ := List.mem_map.mp hz
      obtain ⟨h1, h2⟩ := List.mem_filter.mp he
      exact .step hry ((waysL_iff g e).mp h1) h2
  · rcases b.st with h | h
    · exact .inl (List.mem_append_left _ h)
    · rcases List.mem_append.mp h with h | h
      · exact .inr (List.mem_append_left _ h)
      · exact .inl (List.mem_append_right _ h)
  · rcases List.mem_append.mp hz with hz | hz
    · rcases b.cl z hz e he hq with h | h
      · exact .inl (List.mem_append_left _ h)
      · rcases List.mem_append.mp h with h | h
        · exact .inr (List.mem_append_left _ h)
        · exact .inl (List.mem_append_right _ h)
    · rw [List.mem_singleton.mp hz] at he ⊢
      exact .inr (List.mem_append_right _ (List.mem_map.mpr ⟨e, List.mem_filter.mpr ⟨he, hq⟩, rfl⟩))
  · show (N ++ [y]).length ≤ 300
    rw [List.length_append, List.length_singleton]
    omega
  · have := b.lw
    have hk := kids_len r n y (Nat.le_trans g.len (Nat.le_trans g.cn hn))
    simp only [List.length_append, List.length_singleton] at this ⊢
    omega
theorem found_snoc {n : Nat} {N : List Node} {y : Node} : foundO n (N ++ [y]) = foundO n N ++ if y.1 = (([], n) : Pair) then [y.2] else [] := by
  unfold foundO
  rw [List.filter_append, List.map_append]
  congr 1
  by_cases h : y.1 = (([], n) : Pair)
  · rw [if_pos h, List.filter_cons, if_pos (decide_eq_true h)]
    rfl
  · rw [if_neg h, List.filter_cons, if_neg (by simp [h])]
    rfl
theorem found_not {n : Nat} {N : List Node} {y : Node} (hy : y ∉ N) (h : y.1 = (([], n) : Pair)) : y.2 ∉ foundO n N := fun hm => by
  unfold foundO at hm
  obtain ⟨z, hz, e⟩ := List.mem_map.mp hm
  obtain ⟨h1, h2⟩ := List.mem_filter.mp hz
  have h2 := of_decide_eq_true h2
  have : z = y := Prod.ext (h2.trans h.symm) e
  exact hy (this ▸ h1)
section
variable {Θ : Th}
abbrev uSt (r : Rule) (n : Nat) (N W : List Node) : List Sl := [.dat (dRule r), .dat (.int n), .dat (.int 300), .dic (N.map dNode), .own (W.map dNode), .dic ((foundO n N).map dNames), .un, .un, .un]
theorem own_shaped {δ : List Sl} {b : Bool} {i : Nat} {ds : List PyData} (h : δ[i]? = some (.own ds)) (hs : SeqAt.shaped (.list ds) = true) : EvT Θ (tTest (tOp (rNeD Θ.K) (tVar i) (tLst tNil))) δ (!PyData.eqv (.list ds) (.list [])) := fun σ H0 Hb H A st Q q => by
  obtain ⟨o, ho, p, vs, _, rfl, h1, h2, h3⟩ := st.sl i _ h
  refine ⟨_, ho, sz1000 (by show 0 ≤ _; decide), fun z nz => ⟨.list ds, .list [], ?_, .lst (SqL.of upd_same) .nil, hs, rfl, ?_⟩⟩
  · have sn : Same H (upd H z (.lst [])) := same_new nz
    exact .lst (sn.seq (SqL.of h2)) (h3.mono ((st.h0.trans st.hb).trans sn))
  · exact ⟨_, rfl, q _ (same_new nz)⟩
theorem r_L_due (r : Rule) (n : Nat) (hr : RuleOk r) (h1 : 1 ≤ n) (h6 : n ≤ 3) (F : Frm) : SDc Θ F (t_L_due Θ) [.dat (dRule r), .dat (.int n), .dat (.int 300), .un, .un, .un, .un, .un, .un] (fun d => d = .none ∨ ∃ os, Few r n 300 ∧ Orders r n os ∧ d = .tuple (os.map dNames)) := by
  unfold t_L_due
  have start : ∀ {δ : List Sl} {b : Bool}, Ev Θ b (tTup (tCons (tTup (tCons (tTup tNil) (tCons (tC (.int 0)) tNil))) (tCons (tTup tNil) tNil))) δ (dNode (([], 0), [])) := ev_rowT (ea_cons (ev_rowT (ea_cons (ev_rowT ea_nil) (ea_cons ev_int ea_nil))) (ea_cons (ev_rowT ea_nil) ea_nil))
  refine sdc_seq (sd_par3 es_dnew (es_own (el_lst (ea_cons start ea_nil) (by show 1 ≤ _; decide))) es_dnew) ?_
  refine sdc_while (α := NL) (fun s => uSt r n s.1 s.2) dm (DI r n) (a := ([], [(([], 0), [])])) (fun s => s.2 = []) (di_start r n) (fun s b => ⟨!s.2.isEmpty, ?_, fun hv => ?_, fun hv => ?_⟩) fun s b hz => ?_
  · refine (own_shaped (b := false) rfl (lay_shaped (lay_nodes _))).is ?_
    cases s.2 with
    | nil => rfl
    | cons x L => simp [PyData.eqv, PyData.eqvAll]
  · obtain ⟨N, W0⟩ := s
    have hne : W0 ≠ [] := fun e => by rw [e] at hv; cases hv
    obtain ⟨W, y, rfl⟩ : ∃ W y, W0 = W ++ [y] := ⟨_, _, (List.dropLast_concat_getLast hne).symm⟩
    have hry : Reach r n y := b.rw y (by simp)
    have g := reach_good (by omega) hry
    have spop : SD Θ F (tAsg (tBM0 Θ.K "list" rPop (tVar 4)) (gName 6)) (uSt r n N (W ++ [y])) (.nx [.dat (dRule r), .dat (.int n), .dat (.int 300), .dic (N.map dNode), .own (W.map dNode), .dic ((foundO n N).map dNames), .dat (dNode y), .un, .un]) :=
      sd_is (sd_pop (ds := W.map dNode) (d := dNode y) (by show some (Sl.own ((W ++ [y]).map dNode)) = _; rw [List.map_append]; rfl)) rfl
    have et := et_notInDic (Θ := Θ) (δ := [.dat (dRule r), .dat (.int n), .dat (.int 300), .dic (N.map dNode), .own (W.map dNode), .dic ((foundO n N).map dNames), .dat (dNode y), .un, .un]) (i := 3) (v := decide (y ∈ N)) rfl (ev_v (i := 6) rfl) (kd_node y) ⟨fun h => mem_nodes.mpr (of_decide_eq_true h), fun h => decide_eq_true (mem_nodes.mp h)⟩
    by_cases hy : y ∈ N
    · refine .inr ⟨(N, W), _, sd_seq spop (sd_iff et (by rw [decide_eq_true hy]; rfl) sd_next), .same (.same (.same (.same (.same (.same (.drop rfl (.same (.same .nil)))))))), di_old b hy, ?_⟩
      unfold dm
      simp
    · have hln := b.ln
      have elen : EvT Θ (tTest (tOp rEq (tCB (rLenN Θ) (tCons (tVar 3) tNil)) (tVar 2))) [.dat (dRule r), .dat (.int n), .dat (.int 300), .dic (N.map dNode), .own (W.map dNode), .dic ((foundO n N).map dNames), .dat (dNode y), .un, .un] (decide ((N.length : Int) = 300)) := (et_eqI (b1 := false) (b2 := false) (ev_lenDic rfl) (ev_v rfl)).is (by rw [List.length_map])
      by_cases h300 : N.length = 300
      · exact .inl (sdc_seq spop (sdc_ift et (by rw [decide_eq_false hy]; rfl) (sdc_seq_rt (sdc_ift elen (decide_eq_true (by omega)) (sdc_of (P := anyP) (sdr_ret ev_non trivial) (.inl rfl))))))
      · have hlt : N.length < 300 := by have : N.length ≤ 300 := hln; omega
        have hkl := kids_len r n y (Nat.le_trans g.len (Nat.le_trans g.cn (by omega)))
        have hlw := b.lw
        simp only [List.length_append, List.length_singleton] at hlw
        have hol : y.2.length ≤ 6 := by have := g.lens; have := g.cn; omega
        refine .inr ⟨(N ++ [y], W ++ kidsL r n y), _, sd_seq spop (sd_ift et (by rw [decide_eq_false hy]; rfl) (sd_seq (sd_iff elen (decide_eq_false (by omega)) sd_next) (sd_seq (sd_setDic rfl (ev_v rfl) (kd_node y) (fun hm => hy (mem_nodes.mp hm)) (by rw [List.length_map]; omega)) (sd_seq
          (sd_if (o := .nx [.dat (dRule r), .dat (.int n), .dat (.int 300), .dic (N.map dNode ++ [dNode y]), .own (W.map dNode), .dic ((foundO n (N ++ [y])).map dNames), .dat (dNode y), .un, .un]) ((et_eqD (b1 := false) (b2 := false) (ev_ixc (ev_v rfl) (.inr rfl) rfl) (ev_rowT (ea_cons (ev_rowT ea_nil) (ea_cons (ev_v rfl) ea_nil))) (lay_shaped (lay_pair _)) (lay_shaped (n := 2) (lay_tup fun d hd => ?_))).is (eqv_end y.1 n)) (fun h => ?_) (fun h => ?_))
          (sd_seq (sd_set (d := .list (((waysL r y.1 n).filter quietE).map (dWayL r y.1))) (EvL.ev (el_lc (b0 := false) (l := waysL r y.1 n) (enc := dWayL r y.1) quietE (dWayL r y.1) (T := [8]) (ei_list (ev_call (ea_cons (ev_v rfl) (ea_cons (ev_ixc (ev_v rfl) (.inr rfl) rfl) (ea_cons (ev_v rfl) ea_nil))) ⟨r, y.1, n, rfl, g.ok, ?_, rfl⟩)) ?_ (fun e he => ⟨_, bd_name rfl rfl, (et_test (b := false) (ev_notInS (ns := ["leave", "vanish"]) (b1 := false) (b2 := false) (ev_ixc (x := dEvt e) (ev_ixc (ev_v rfl) (.inr rfl) rfl) (.inr rfl) (evt_at0 e)) (ev_rowT (ea_cons ev_str (ea_cons ev_str ea_nil))) (.inr rfl))).is (by rw [quiet_word, Bool.not_not]), fun _ => ev_v rfl⟩))))
            (sd_extend rfl (el_is (es := (kidsL r n y).map dNode) (el_lc (b0 := false) (l := (waysL r y.1 n).filter quietE) (enc := dWayL r y.1) (fun _ => true) (fun e => dNode (nextN r y e)) (T := [8]) (ei_list (ev_v rfl)) ?_ (fun e he => ⟨_, bd_name rfl rfl, et_yes, fun _ => ev_rowT (ea_cons (ev_ixc (ev_v rfl) (.inr rfl) rfl) (ea_cons (Ev.is (ev_catA (ev_ixc (ev_v rfl) (.inr rfl) rfl) (ev_tupleOf (ev_ixc (x := dWayL r y.1 e) (ev_v rfl) (.inr rfl) rfl)) ?_) ?_) ea_nil))⟩)) ?_) ?_)))))), (by
            show Wk [_, _, _, Sl.dic (N.map dNode ++ [dNode y]), Sl.own (W.map dNode ++ (kidsL r n y).map dNode), Sl.dic _, Sl.dat _, Sl.dat _, Sl.un] (uSt r n (N ++ [y]) (W ++ kidsL r n y))
            unfold uSt
            rw [List.map_append, List.map_append]
            exact .same (.same (.same (.same (.same (.same (.drop rfl (.drop rfl (.same .nil))))))))), di_new (by omega) b hy hlt, ?_⟩
        · rcases List.mem_cons.mp hd with rfl | hd
          · exact ⟨by decide +kernel, by decide +kernel⟩
          · rcases List.mem_cons.mp hd with rfl | hd
            · exact lay_int
            · cases hd
        · have hp := of_decide_eq_true h
          refine sd_is (sd_setDic (i := 5) rfl (ev_ixc (ev_v rfl) (.inr rfl) rfl) (kd_names y.2) (fun hm => ?_) ?_) ?_
          · obtain ⟨o, ho, e⟩ := List.mem_map.mp hm
            exact found_not hy hp (names_inj _ _ e ▸ ho)
          · rw [List.length_map]
            unfold foundO
            rw [List.length_map]
            have := List.length_filter_le (fun x : Node => decide (x.1 = (([], n) : Pair))) N
            omega
          · rw [found_snoc, if_pos hp, List.map_append]
            rfl
        · refine sd_is sd_next ?_
          rw [found_snoc, if_neg (of_decide_eq_false h), List.append_nil]
          rfl
        · have := g.len
          have := g.cn
          omega
        · exact Nat.le_trans (waysL_len r n y.1 (Nat.le_trans g.len (Nat.le_trans g.cn (by omega)))) (by decide)
        · exact Nat.le_trans (Nat.le_trans (List.length_filter_le _ _) (waysL_len r n y.1 (Nat.le_trans g.len (Nat.le_trans g.cn (by omega))))) (by decide)
        · rw [List.length_map, List.length_map]
          have := sv_len' r y.1 e
          omega
        · rw [nextN_sv]
          show PyData.tuple _ = PyData.tuple ((y.2 ++ (do_ r (rm0 y.1) e).sv).map .int)
          rw [List.map_append]
        · rw [map_filter_true]
          unfold kidsL
          rw [List.map_map]
          rfl
        · rw [List.length_map, List.length_map]
          omega
        · unfold dm
          simp only [List.length_append, List.length_singleton]
          omega
  · simpa using hv
  · have hall := fun x => di_all (x := x) (show n ≤ 6 by omega) b hz
    have hsort := found_sort h1 (by omega) b.re
    refine sdc_of (P := anyP) (d := .tuple ((sortO (foundO n s.1)).map dNames)) (sdr_ret (Ev.is (ev_tupleOf (EvL.ev (el_sorted (EvL.ev (el_listDic rfl)) hsort))) (by rw [dsort_names])) trivial) (.inr ⟨_, ⟨s.1, b.ln, fun x hx => (hall x).mpr hx⟩, found_orders b.nd hall, rfl⟩)
end
end Ask
-- AskLaw2
set_option Elab.async false
set_option linter.all false
set_option maxRecDepth 100000
/-! the law's drawing -/
namespace Ask
open PySem PySem.Spec PyProof.Rows L2
/-- what is drawn from: a dict, its two lists -/
structure StAt (H : Hp) (p c lf : Addr) (cells lefts : List Int) (n : Int) (v : V) : Prop where
  hd : H p = some (.dK [(.inr "cells", .ref c), (.inr "lefts", .ref lf), (.inr "at", .int n), (.inr "room", v)])
  hc : H c = some (.lst (cells.map .int))
  hl : H lf = some (.lst (lefts.map .int))
  ne : c ≠ lf
  len : cells.length = lefts.length
  pos : 0 < cells.length
  few : cells.length ≤ 100
/-- .. with at most n draws behind it -/
def StN (p c lf : Addr) (H : Hp) (n : Nat) : Prop := ∃ (cells lefts : List Int) (m : Nat) (v : V), m ≤ n ∧ StAt H p c lf cells lefts (m : Int) v
/-- all but p and lf stays -/
def Kept (p lf : Addr) (H H' : Hp) : Prop := ∀ z o, z ≠ p → z ≠ lf → H z = some o → H' z = some o
def G_L_mixed (ds : List PyData) (d : PyData) : Prop := ∃ a k : Int, ds = [.int a, .int k] ∧ 0 ≤ k ∧ k < 100000 ∧ d = .int (mixed a k)
def sp_L_mixed (Θ : Th) : Sp := spD Θ G_L_mixed
def sp_L_begin (Θ : Th) : Sp := fun vs H Q _ => ∃ (a : Addr) (ns : List Int), vs = [.ref a] ∧ SqL Θ.K H a (ns.map V.int) ∧ ns.length ≤ 63 ∧ ∀ p c lf H', Same H H' → H p = none → H c = none → H lf = none → StN p c lf H' 0 → Q (.ref p) H'
def sp_L_draw (Θ : Th) : Sp := fun vs H Q _ => ∃ (p c lf : Addr) (n : Nat) (many : Int), vs = [.ref p, .int many] ∧ StN p c lf H n ∧ n < 5000 ∧ 1 ≤ many ∧ many < 1000 ∧ ∀ (i : Int) H', 0 ≤ i → i < many → Kept p lf H H' → (∀ z, H z ≠ none → H' z ≠ none) → StN p c lf H' (n + 1) → Q (.int i) H'
def sp_L_rule (Θ : Th) : Sp := fun vs H Q _ => ∃ (p c lf : Addr) (n : Nat), vs = [.ref p] ∧ StN p c lf H n ∧ n < 4000 ∧ ∀ (r : Rule) (v : V) H', RuleOk r → Dp Θ.K (ext (fun _ => none) H H') v (dRule r) → Kept p lf H H' → (∀ z, H z ≠ none → H' z ≠ none) → StN p c lf H' (n + 7) → Q v H'
variable {P : Program} {w : World} {K : PySem.W.Frag} {mg : Str → Option Value} {base : Heap} {C aP aC : Addr}
abbrev s_L_begin : Stmt := topS 55
theorem sc_L_begin : FnScope ["_law_script", "_law_cells", "_law_cell"] ["_law_script"] (C8.fnScope s_L_begin) := C8.fnScope_by (by decide +kernel)
def t_L_begin (Θ : Th) : TS :=
  (tSeq (tAsg (tIf (tTest (tOp (rNeD Θ.K) (tVar 0) (tLst tNil))) (tCB (rListOf Θ.K) (tCons (tVar 0) tNil)) (tLst (tCons (tC (.int 0)) tNil))) (gName 1))
  (tRet (tDisp (((tC (.str "cells")), (tVar 1)) :: (((tC (.str "lefts")), (tLc (iList Θ.K (tVar 1)) (gName 2) tYes (tIf (tTest (tOp (rI0 fun i j => .bl (decide (j ≤ i))) (tVar 2) (tOp (rI CPow fun i j => .int (i ^ j.toNat)) (tC (.int 10)) (tC (.int 18))))) (tVar 2) (tC (.int 0))) [2])) :: (((tC (.str "at")), (tC (.int 0))) :: (((tC (.str "room")), (tC (.int 0))) :: [])))))))
theorem d_L_begin (T : Txt mg aP aC) {f : Addr} {cdv : Value} {A : Around} {outer : List Env} {s : Shared} {H : Hp} {E : XK} (hr : Room 0 (A.deeper (envOfC "_law_begin" (C8.fnScope s_L_begin) s.heap.objs.size f cdv))) :
    PSs (cxOf C8.CX0 P w K mg base ["_law_script", "_law_cells", "_law_cell"] "_law_begin" (C8.fnScope s_L_begin) f cdv A outer s H E).nox (C8.fnBody s_L_begin) (t_L_begin ⟨P, w, K, C, aP, aC⟩) :=
  (pss_cons (ps_set (i := 1) sc_L_begin.nd rfl (.inl rfl) (pe_ifExp (pt_cmpR (op_neD hr.units) (pv 0) (pe_lst pa_nil) (nomark _)) (pe_callTy call_listK (by rfl) T.list (by decide +kernel) (pa_cons (pv 0) pa_nil)) (pe_lst (pa_cons pe_int pa_nil))))
  (pss_one (ps_ret (pe_disp (pps_cons pe_str (pv 1) (pps_cons pe_str (pe_lc (own := [("_law_cell", 2)]) rfl sc_L_begin.nd (pi_list (pv 1)) (blkOk_by (own := [("_law_cell", 2)]) (N := ["_law_script", "_law_cells", "_law_cell"]) (sc := C8.fnScope s_L_begin) (by decide +kernel)) (fun _ _ _ _ _ => (pg_name (i := 2) sc_L_begin.nd rfl (.inl rfl))) (fun _ _ _ _ _ => pts_nil) (fun _ _ _ _ _ => (pe_ifExp (pt_cmpR op_ge (pv 2) (pe_op op_pow pe_int pe_int) (nomark _)) (pv 2) pe_int))) (pps_cons pe_str pe_int (pps_cons pe_str pe_int pps_nil)))) rfl rfl (by simp) (by decide)))))
abbrev s_L_draw : Stmt := topS 56
theorem sc_L_draw : FnScope ["_law_state", "_law_many", "_law_at", "_law_place", "_law_left", "_law_number"] ["_law_state", "_law_many"] (C8.fnScope s_L_draw) := C8.fnScope_by (by decide +kernel)
def t_L_draw (Θ : Th) : TS :=
  (tSeq (tAsg (tDGet (tVar 0) (tC (.str "at"))) (gName 2))
  (tSeq (sDPut (tVar 0) (tC (.str "at")) (tOp (rI0 fun i j => .int (i + j)) (tVar 2) (tC (.int 1))))
  (tSeq (tAsg (tOp (rI (fun _ j => j ≠ 0) fun i j => .int (i.fmod j)) (tCB rInt1 (tCons (tVar 2) tNil)) (tCB (rLen Θ.K) (tCons (tDGet (tVar 0) (tC (.str "cells"))) tNil))) (gName 3))
  (tSeq (tAsg (tOp (rIx Θ.K) (tDGet (tVar 0) (tC (.str "lefts"))) (tVar 3)) (gName 4))
  (tSeq (tIfS (tTest (tOp (rI0 fun i j => .bl (decide (j < i))) (tVar 4) (tC (.int 0)))) (tSeq (tAsg (tOp (rI CDivN fun i j => .int (i.fdiv j)) (tVar 4) (tVar 1)) (gSub (tDGet (tVar 0) (tC (.str "lefts"))) (tVar 3) rSetL))
  (tRet (tOp (rI (fun _ j => j ≠ 0) fun i j => .int (i.fmod j)) (tCB rInt1 (tCons (tVar 4) tNil)) (tVar 1)))) tNext)
  (tSeq (tAsg (tCall (sp_L_mixed Θ) [] C8.E0 (tCons (tCall (sp_L_mixed Θ) [] C8.E0 (tCons (tOp (rIx Θ.K) (tDGet (tVar 0) (tC (.str "cells"))) (tVar 3)) (tCons (tVar 2) tNil))) (tCons (tOp (rI0 fun i j => .int (i + j)) (tC (.int 40)) (tVar 2)) tNil))) (gName 5))
  (tRet (tOp (rI (fun _ j => j ≠ 0) fun i j => .int (i.fmod j)) (tOp (rI CDivN fun i j => .int (i.fdiv j)) (tCB rInt1 (tCons (tOp (rI0 fun i j => .int (i + j)) (tOp (rI CMul fun i j => .int (i * j)) (tVar 5) (tC (.int 2147483647))) (tCall (sp_L_mixed Θ) [] C8.E0 (tCons (tVar 5) (tCons (tOp (rI0 fun i j => .int (i + j)) (tC (.int 7)) (tVar 2)) tNil)))) tNil)) (tC (.int 64))) (tVar 1)))))))))
theorem d_L_draw (T : Txt mg aP aC) (c_L_mixed : C8.Cal P w K mg base 1 "_law_mixed" (sp_L_mixed ⟨P, w, K, C, aP, aC⟩) []) {f : Addr} {cdv : Value} {A : Around} {outer : List Env} {s : Shared} {H : Hp} {E : XK} (hr : Room 1 (A.deeper (envOfC "_law_draw" (C8.fnScope s_L_draw) s.heap.objs.size f cdv))) :
    PSs (cxOf C8.CX0 P w K mg base ["_law_state", "_law_many", "_law_at", "_law_place", "_law_left", "_law_number"] "_law_draw" (C8.fnScope s_L_draw) f cdv A outer s H E).nox (C8.fnBody s_L_draw) (t_L_draw ⟨P, w, K, C, aP, aC⟩) :=
  (pss_cons (ps_set (i := 2) sc_L_draw.nd rfl (.inl rfl) (pe_dget (Nat.lt_of_le_of_lt (Nat.add_le_add_left (by decide) _) hr.units) (pv 0) pe_str (fun _ _ => rfl)))
  (pss_cons (ps_dput (Nat.lt_of_le_of_lt (Nat.add_le_add_left (by decide) _) hr.units) (pv 0) pe_str (pe_op op_add (pv 2) pe_int) rfl)
  (pss_cons (ps_set (i := 3) sc_L_draw.nd rfl (.inl rfl) (pe_op op_modN (pe_callTy call_int1K (by rfl) T.int (by decide +kernel) (pa_cons (pv 2) pa_nil)) (pe_callB call_lenK (by rfl) T.len (by decide +kernel) (pa_cons (pe_dget (Nat.lt_of_le_of_lt (Nat.add_le_add_left (by decide) _) hr.units) (pv 0) pe_str (fun _ _ => rfl)) pa_nil))))
  (pss_cons (ps_set (i := 4) sc_L_draw.nd rfl (.inl rfl) (pe_ix ix_seq (pe_dget (Nat.lt_of_le_of_lt (Nat.add_le_add_left (by decide) _) hr.units) (pv 0) pe_str (fun _ _ => rfl)) (pv 3) (fun _ _ => rfl)))
  (pss_cons (ps_if (pt_cmpR op_gt (pv 4) pe_int (nomark _)) (pss_cons (ps_asg (pe_op op_fdivN (pv 4) (pv 1)) (pg_sub (pe_dget (Nat.lt_of_le_of_lt (Nat.add_le_add_left (by decide) _) hr.units) (pv 0) pe_str (fun _ _ => rfl)) (pv 3) set_list))
  (pss_one (ps_ret (pe_op op_modN (pe_callTy call_int1K (by rfl) T.int (by decide +kernel) (pa_cons (pv 4) pa_nil)) (pv 1))))) pss_nil)
  (pss_cons (ps_set (i := 5) sc_L_draw.nd rfl (.inl rfl) (C8.pe_c c_L_mixed hr (by decide) (by rfl) (pa_cons (C8.pe_c c_L_mixed hr (by decide) (by rfl) (pa_cons (pe_ix ix_seq (pe_dget (Nat.lt_of_le_of_lt (Nat.add_le_add_left (by decide) _) hr.units) (pv 0) pe_str (fun _ _ => rfl)) (pv 3) (fun _ _ => rfl)) (pa_cons (pv 2) pa_nil))) (pa_cons (pe_op op_add pe_int (pv 2)) pa_nil))))
  (pss_one (ps_ret (pe_op op_modN (pe_op op_fdivN (pe_callTy call_int1K (by rfl) T.int (by decide +kernel) (pa_cons (pe_op op_add (pe_op op_mul (pv 5) pe_int) (C8.pe_c c_L_mixed hr (by decide) (by rfl) (pa_cons (pv 5) (pa_cons (pe_op op_add pe_int (pv 2)) pa_nil)))) pa_nil)) pe_int) (pv 1))))))))))
abbrev s_L_rule : Stmt := topS 69
theorem sc_L_rule : FnScope ["_law_state", "_law_most", "_law_words"] ["_law_state"] (C8.fnScope s_L_rule) := C8.fnScope_by (by decide +kernel)
def t_L_rule (Θ : Th) : TS :=
  (tSeq (tAsg (tOp (rI0 fun i j => .int (i + j)) (tC (.int 1)) (tCall (sp_L_draw Θ) [] C8.E0 (tCons (tVar 0) (tCons (tC (.int 3)) tNil)))) (gName 1))
  (tSeq (tAsg (tLst (tCons (tOp (rIx Θ.K) (tLst (tCons (tC (.str "line")) (tCons (tC (.str "seen")) tNil))) (tCall (sp_L_draw Θ) [] C8.E0 (tCons (tVar 0) (tCons (tC (.int 2)) tNil)))) (tCons (tOp (rIx Θ.K) (tLst (tCons (tC (.str "none")) (tCons (tC (.str "on")) (tCons (tC (.str "on")) tNil)))) (tCall (sp_L_draw Θ) [] C8.E0 (tCons (tVar 0) (tCons (tC (.int 3)) tNil)))) tNil))) (gName 2))
  (tSeq (tAsg (tOp rCat (tVar 2) (tLst (tCons (tOp (rIx Θ.K) (tLst (tCons (tC (.str "asks")) (tCons (tC (.str "old")) (tCons (tC (.str "tells")) tNil)))) (tCall (sp_L_draw Θ) [] C8.E0 (tCons (tVar 0) (tCons (tC (.int 3)) tNil)))) (tCons (tOp (rIx Θ.K) (tLst (tCons (tC (.str "quiet")) (tCons (tC (.str "told")) (tCons (tC (.str "told")) tNil)))) (tCall (sp_L_draw Θ) [] C8.E0 (tCons (tVar 0) (tCons (tC (.int 3)) tNil)))) tNil)))) (gName 2))
  (tRet (tOp (rCatA Θ.K) (tOp (rCatA Θ.K) (tTup (tCons (tVar 1) (tCons (tCall (sp_L_draw Θ) [] C8.E0 (tCons (tVar 0) (tCons (tOp (rI0 fun i j => .int (i + j)) (tVar 1) (tC (.int 1))) tNil))) tNil))) (tCB (rTupOf Θ.K) (tCons (tVar 2) tNil))) (tTup (tCons (tOp (rIx Θ.K) (tLst (tCons (tC (.str "asks")) (tCons (tC (.str "claims")) tNil))) (tCall (sp_L_draw Θ) [] C8.E0 (tCons (tVar 0) (tCons (tC (.int 2)) tNil)))) tNil)))))))
theorem d_L_rule (T : Txt mg aP aC) (c_L_draw : C8.Cal P w K mg base 2 "_law_draw" (sp_L_draw ⟨P, w, K, C, aP, aC⟩) []) {f : Addr} {cdv : Value} {A : Around} {outer : List Env} {s : Shared} {H : Hp} {E : XK} (hr : Room 2 (A.deeper (envOfC "_law_rule" (C8.fnScope s_L_rule) s.heap.objs.size f cdv))) :
    PSs (cxOf C8.CX0 P w K mg base ["_law_state", "_law_most", "_law_words"] "_law_rule" (C8.fnScope s_L_rule) f cdv A outer s H E).nox (C8.fnBody s_L_rule) (t_L_rule ⟨P, w, K, C, aP, aC⟩) :=
  (pss_cons (ps_set (i := 1) sc_L_rule.nd rfl (.inl rfl) (pe_op op_add pe_int (C8.pe_c c_L_draw hr (by decide) (by rfl) (pa_cons (pv 0) (pa_cons pe_int pa_nil)))))
  (pss_cons (ps_set (i := 2) sc_L_rule.nd rfl (.inl rfl) (pe_lst (pa_cons (pe_ix ix_seq (pe_lst (pa_cons pe_str (pa_cons pe_str pa_nil))) (C8.pe_c c_L_draw hr (by decide) (by rfl) (pa_cons (pv 0) (pa_cons pe_int pa_nil))) (fun _ _ => rfl)) (pa_cons (pe_ix ix_seq (pe_lst (pa_cons pe_str (pa_cons pe_str (pa_cons pe_str pa_nil)))) (C8.pe_c c_L_draw hr (by decide) (by rfl) (pa_cons (pv 0) (pa_cons pe_int pa_nil))) (fun _ _ => rfl)) pa_nil))))
  (pss_cons (ps_set (i := 2) sc_L_rule.nd rfl (.inl rfl) (pe_op op_cat (pv 2) (pe_lst (pa_cons (pe_ix ix_seq (pe_lst (pa_cons pe_str (pa_cons pe_str (pa_cons pe_str pa_nil)))) (C8.pe_c c_L_draw hr (by decide) (by rfl) (pa_cons (pv 0) (pa_cons pe_int pa_nil))) (fun _ _ => rfl)) (pa_cons (pe_ix ix_seq (pe_lst (pa_cons pe_str (pa_cons pe_str (pa_cons pe_str pa_nil)))) (C8.pe_c c_L_draw hr (by decide) (by rfl) (pa_cons (pv 0) (pa_cons pe_int pa_nil))) (fun _ _ => rfl)) pa_nil)))))
  (pss_one (ps_ret (pe_op op_catA (pe_op op_catA (pe_tup (pa_cons (pv 1) (pa_cons (C8.pe_c c_L_draw hr (by decide) (by rfl) (pa_cons (pv 0) (pa_cons (pe_op op_add (pv 1) pe_int) pa_nil))) pa_nil))) (pe_callTy call_tupleK (by rfl) T.tuple (by decide +kernel) (pa_cons (pv 2) pa_nil))) (pe_tup (pa_cons (pe_ix ix_seq (pe_lst (pa_cons pe_str (pa_cons pe_str pa_nil))) (C8.pe_c c_L_draw hr (by decide) (by rfl) (pa_cons (pv 0) (pa_cons pe_int pa_nil))) (fun _ _ => rfl)) pa_nil))))))))
end Ask
-- AskDraw
set_option Elab.async false
set_option linter.all false
set_option maxRecDepth 100000
/-! what the law draws -/
namespace Ask
open PySem PySem.Spec PyProof.Rows L2
section
variable {Θ : Th} {F : Frm} {δ δ1 δ' : List Sl} {σ : L2.St} {H0 Hb H H' : Hp} {A : Nat → List Addr} {b b1 b2 : Bool} {ta tb te : TE} {tr : TA} {c : TT} {t u : TS} {d x y : PyData} {ds es : List PyData} {i j : Nat} {T : List Nat} {E : XK}
theorem ev_int1 {n : Int} (ha : Ev Θ b1 ta δ (.int n)) : Ev Θ b (tCB rInt1 (tCons ta tNil)) δ (.int n) := fun σ H0 Hb H A st Q q => ha σ H0 Hb H A st _ fun v H1 s1 d1 => by
  cases d1
  exact .inl ⟨n, rfl, q _ _ s1 (.int _)⟩
theorem ev_modI {m n : Int} (ha : Ev Θ b1 ta δ (.int m)) (hb : Ev Θ b2 tb δ (.int n)) (h : n ≠ 0) : Ev Θ b (tOp (rI (fun _ j => j ≠ 0) fun i j => .int (i.fmod j)) ta tb) δ (.int (m.fmod n)) := ev_I (C := fun _ j => j ≠ 0) (g' := fun i j => .int (i.fmod j)) ha hb h fun _ => .int _
theorem ev_mulI {m n : Int} (ha : Ev Θ b1 ta δ (.int m)) (hb : Ev Θ b2 tb δ (.int n)) (h : CMul m n) : Ev Θ b (tOp (rI CMul fun i j => .int (i * j)) ta tb) δ (.int (m * n)) := ev_I (g' := fun i j => .int (i * j)) ha hb h fun _ => .int _
theorem fmod_rng {a b : Int} (h : 0 < b) : 0 ≤ a.fmod b ∧ a.fmod b < b := ⟨Int.fmod_nonneg_of_pos _ h, Int.fmod_lt_of_pos _ h⟩
theorem r_L_mixed (a k : Int) (h0 : 0 ≤ k) (h1 : k < 100000) (F : Frm) : SDr Θ F (t_L_mixed Θ) [.dat (.int a), .dat (.int k)] (.int (mixed a k)) anyP := by
  unfold t_L_mixed
  have r1 := fmod_rng (a := a) (b := 2147483647) (by decide)
  refine sdr_seq (sd_set (ev_modI (b1 := false) (b2 := false) (ev_int1 (b1 := false) (ev_v rfl)) ev_int (by decide))) (sdr_ret (ev_modI (b1 := false) (b2 := false) (ev_mulI (b1 := false) (b2 := false) (ev_modI (b1 := false) (b2 := false) (ev_add (b1 := false) (b2 := false) (ev_add (b1 := false) (b2 := false) (ev_mulI (b1 := false) (b2 := false) (ev_v rfl) (ev_add (b1 := false) (b2 := false) ev_int (ev_mulI (b1 := false) (b2 := false) (ev_mulI (b1 := false) (b2 := false) ev_int (ev_v rfl) ?_) (ev_v rfl) ?_)) ?_) (ev_mulI (b1 := false) (b2 := false) ev_int (ev_v rfl) ?_)) ev_int) ev_int (by decide)) ev_int ?_) ev_int (by decide)) trivial)
  · exact .inl ⟨by decide, by decide⟩
  · exact .inr ⟨by omega, by omega⟩
  · exact .inl ⟨by omega, by omega⟩
  · exact .inl ⟨by decide, by decide⟩
  · exact .inr ⟨by decide, by decide⟩
theorem mixed_rng (a k : Int) : 0 ≤ mixed a k ∧ mixed a k < 2147483629 := fmod_rng (by decide)
/-! ### the dict's keys -/
theorem n_cl : ¬ ("cells" : Str) = "lefts" := by decide +kernel
theorem n_ca : ¬ ("cells" : Str) = "at" := by decide +kernel
theorem n_cr : ¬ ("cells" : Str) = "room" := by decide +kernel
theorem n_la : ¬ ("lefts" : Str) = "at" := by decide +kernel
theorem n_lr : ¬ ("lefts" : Str) = "room" := by decide +kernel
theorem n_ar : ¬ ("at" : Str) = "room" := by decide +kernel
abbrev stD (c lf : Addr) (n : Int) (v : V) : List (L2.Key × V) := [(.inr "cells", .ref c), (.inr "lefts", .ref lf), (.inr "at", .int n), (.inr "room", v)]
theorem inr_ne {x y : Str} (h : ¬ x = y) : ¬ (Sum.inr x : L2.Key) = Sum.inr y := fun e => h (Sum.inr.inj e)
theorem g_cells {c lf : Addr} {n : Int} {v : V} : valV (stD c lf n v) (Sum.inr "cells" : L2.Key) = some (.ref c) := valV_pos rfl
theorem g_lefts {c lf : Addr} {n : Int} {v : V} : valV (stD c lf n v) (Sum.inr "lefts" : L2.Key) = some (.ref lf) := (valV_neg (inr_ne n_cl)).trans (valV_pos rfl)
theorem g_at {c lf : Addr} {n : Int} {v : V} : valV (stD c lf n v) (Sum.inr "at" : L2.Key) = some (.int n) := (valV_neg (inr_ne n_ca)).trans ((valV_neg (inr_ne n_la)).trans (valV_pos rfl))
theorem p_at {c lf : Addr} {n m : Int} {v : V} : putK (stD c lf n v) (Sum.inr "at" : L2.Key) (.int m) = stD c lf m v := by
  unfold putK
  have e1 := inr_ne n_ca
  have e2 := inr_ne n_la
  have e3 := inr_ne fun e => n_ar e.symm
  simp [e1, e2, e3]
theorem m_all {c lf : Addr} {n : Int} {v : V} : mergeK [] (stD c lf n v) = stD c lf n v := by
  have e1 := inr_ne n_cl
  have e2 := inr_ne n_ca
  have e3 := inr_ne n_cr
  have e4 := inr_ne n_la
  have e5 := inr_ne n_lr
  have e6 := inr_ne n_ar
  simp [mergeK, putK, e1, e2, e3, e4, e5, e6]
theorem ints_getV {ns : List Int} {j : Nat} (h : j < ns.length) : (ns.map V.int)[j]? = some (.int ns[j]) := by rw [List.getElem?_map, List.getElem?_eq_getElem h]; rfl
theorem w_L_draw (vs : List V) (H : Hp) (Q : VK) (E : XK) (h : sp_L_draw Θ vs H Q E) : t_L_draw Θ { nx := fun _ H' => Q .non H', rt := Q } (L2.start ["_law_state", "_law_many", "_law_at", "_law_place", "_law_left", "_law_number"] vs) H := by
  obtain ⟨p, c, lf, n, many, rfl, ⟨cells, lefts, m, v, hm, S⟩, hn, hm1, hm2, q⟩ := h
  have hpc : p ≠ c := fun e => by have := S.hd; rw [e, S.hc] at this; cases this
  have hpl : p ≠ lf := fun e => by have := S.hd; rw [e, S.hl] at this; cases this
  refine ⟨_, rfl, p, .int m, rfl, by have := DGet.k (k := .inr "at") S.hd; rw [g_at] at this; exact this, ?_⟩
  refine ⟨_, rfl, (m : Int), 1, rfl, rfl, _, rfl, p, upd H p (.dK (stD c lf (m + 1) v)), rfl, by have := DPut.k (k := .inr "at") (v := .int ((m : Int) + 1)) S.hd (by show 4 < sizeLine; decide); rw [p_at] at this; exact this, ?_⟩
  obtain ⟨H1, eH1⟩ : ∃ H1, H1 = upd H p (.dK (stD c lf ((m : Int) + 1) v)) := ⟨_, rfl⟩
  rw [← eH1]
  have h1p : H1 p = some (.dK (stD c lf ((m : Int) + 1) v)) := by rw [eH1, upd_same]
  have h1c : H1 c = some (.lst (cells.map .int)) := by rw [eH1, upd_ne (fun e => hpc e.symm)]; exact S.hc
  have h1l : H1 lf = some (.lst (lefts.map .int)) := by rw [eH1, upd_ne (fun e => hpl e.symm)]; exact S.hl
  have gc : ∀ {H2 : Hp}, H2 p = some (.dK (stD c lf ((m : Int) + 1) v)) → DGet H2 p (.str "cells") (some (.ref c)) := fun e => by have := DGet.k (k := .inr "cells") e; rw [g_cells] at this; exact this
  have gl : ∀ {H2 : Hp}, H2 p = some (.dK (stD c lf ((m : Int) + 1) v)) → DGet H2 p (.str "lefts") (some (.ref lf)) := fun e => by have := DGet.k (k := .inr "lefts") e; rw [g_lefts] at this; exact this
  have kept1 : ∀ {H2 : Hp}, (∀ z, z ≠ p → z ≠ lf → H2 z = H1 z) → Kept p lf H H2 := fun h z o h1 h2 e => by rw [h z h1 h2, eH1, upd_ne h1]; exact e
  -- the place
  have hlen : ((cells.map V.int).length : Int) = cells.length := by rw [List.length_map]
  have hpos := S.pos
  have hr := fmod_rng (a := (m : Int)) (b := (cells.length : Int)) (by omega)
  obtain ⟨j, hj⟩ : ∃ j : Nat, (m : Int).fmod (cells.length : Int) = (j : Int) := ⟨_, (Int.toNat_of_nonneg hr.1).symm⟩
  have hjl : j < cells.length := by omega
  have hjl2 : j < lefts.length := by rw [← S.len]; exact hjl
  refine ⟨_, rfl, .inl ⟨(m : Int), rfl, ?_⟩⟩
  refine ⟨_, rfl, p, .ref c, rfl, gc h1p, c, _, rfl, .inl (SqL.of h1c), (m : Int), _, rfl, rfl, by rw [hlen]; omega, ?_⟩
  rw [hlen]
  show gName 3 (.int ((m : Int).fmod (cells.length : Int))) _ H1 _
  rw [hj]
  have hix : ∀ {xs : List V}, j < xs.length → atI xs (j : Int) = xs[j]? := fun h => atI_natV
  refine ⟨_, rfl, p, .ref lf, rfl, gl h1p, _, rfl, .inl ⟨lf, _, (j : Int), .int lefts[j], rfl, rfl, SqL.of h1l, by rw [atI_natV, ints_getV hjl2], ?_⟩⟩
  refine ⟨_, rfl, lefts[j], 0, rfl, rfl, decide (0 < lefts[j]), rfl, ?_⟩
  by_cases hlf : 0 < lefts[j]
  · rw [decide_eq_true hlf]
    show (if true = true then _ else _ : Prop)
    rw [if_pos rfl]
    refine ⟨_, rfl, _, rfl, lefts[j], many, rfl, rfl, ⟨by omega, by omega⟩, ?_⟩
    refine ⟨_, rfl, p, .ref lf, rfl, gl h1p, _, rfl, lf, _, (j : Int), j, rfl, rfl, h1l, ?_, ?_⟩
    · rw [List.length_map]
      unfold ixN
      have h1 : (0 : Int) ≤ (j : Int) := by omega
      have h2 : (j : Int) < (lefts.length : Int) := by omega
      simp [h1, h2]
    refine ⟨_, rfl, .inl ⟨lefts[j], rfl, _, rfl, lefts[j], many, rfl, rfl, by omega, ?_⟩⟩
    have hr2 := fmod_rng (a := lefts[j]) (b := many) (by omega)
    refine q _ _ hr2.1 hr2.2 (kept1 fun z h1 h2 => upd_ne h2) (fun z hz => ?_) ⟨cells, lefts.set j (lefts[j].fdiv many), m + 1, v, by omega, ⟨?_, ?_, ?_, S.ne, by rw [List.length_set]; exact S.len, S.pos, S.few⟩⟩
    · by_cases e : z = lf
      · rw [e, upd_same]; simp
      · rw [upd_ne e, eH1]
        by_cases e2 : z = p
        · rw [e2, upd_same]; simp
        · rw [upd_ne e2]; exact hz
    · rw [upd_ne hpl, h1p]
      rfl
    · rw [upd_ne S.ne]; exact h1c
    · rw [upd_same, List.map_set]
  · rw [decide_eq_false hlf]
    show (if false = true then _ else _ : Prop)
    rw [if_neg Bool.false_ne_true]
    have fin : ∀ (i : Int), 0 ≤ i → i < many → ∀ {H2 : Hp}, Same H1 H2 → Q (.int i) H2 := fun i h1 h2 H2 s2 => q _ _ h1 h2 (fun z o z1 z2 e => s2 _ _ (by rw [eH1, upd_ne z1]; exact e)) (fun z hz => by
      have : H1 z ≠ none := by
        rw [eH1]
        by_cases e2 : z = p
        · rw [e2, upd_same]; simp
        · rw [upd_ne e2]; exact hz
      intro e
      cases q3 : H1 z with
      | none => exact this q3
      | some o => rw [s2 _ _ q3] at e; cases e) ⟨cells, lefts, m + 1, v, by omega, ⟨s2 _ _ h1p, s2 _ _ h1c, s2 _ _ h1l, S.ne, S.len, S.pos, S.few⟩⟩
    refine ⟨_, rfl, p, .ref c, rfl, gc h1p, _, rfl, .inl ⟨c, _, (j : Int), .int cells[j], rfl, rfl, SqL.of h1c, by rw [atI_natV, ints_getV hjl], ?_⟩⟩
    refine ⟨_, rfl, ⟨H1, [.int cells[j], .int m], .int (mixed cells[j] m), Same.refl _, .cons (.int _) (.cons (.int _) .nil), ⟨_, _, rfl, by omega, by omega, rfl⟩, fun v2 H2 s2 d2 => ?_⟩⟩
    cases d2
    refine ⟨_, rfl, 40, (m : Int), rfl, rfl, ⟨H2, [.int (mixed cells[j] m), .int (40 + m)], .int _, Same.refl _, .cons (.int _) (.cons (.int _) .nil), ⟨_, _, rfl, by omega, by omega, rfl⟩, fun v3 H3 s3 d3 => ?_⟩⟩
    cases d3
    have mr := mixed_rng (mixed cells[j] m) (40 + m)
    refine ⟨_, rfl, _, 2147483647, rfl, rfl, .inl ⟨by omega, by omega⟩, ?_⟩
    refine ⟨_, rfl, _, rfl, 7, (m : Int), rfl, rfl, ⟨H3, [.int (mixed (mixed cells[j] m) (40 + m)), .int (7 + m)], .int _, Same.refl _, .cons (.int _) (.cons (.int _) .nil), ⟨_, _, rfl, by omega, by omega, rfl⟩, fun v4 H4 s4 d4 => ?_⟩⟩
    cases d4
    refine ⟨_, _, rfl, rfl, .inl ⟨_, rfl, _, _, rfl, rfl, ⟨by decide, by decide⟩, _, rfl, _, _, rfl, rfl, by omega, ?_⟩⟩
    have hr3 := fmod_rng (a := (mixed (mixed cells[j] m) (40 + m) * 2147483647 + mixed (mixed (mixed cells[j] m) (40 + m)) (7 + m)).fdiv 64) (b := many) (by omega)
    exact fin _ hr3.1 hr3.2 ((s2.trans s3).trans s4)
end
end Ask
-- AskDraw2
set_option Elab.async false
set_option linter.all false
set_option maxRecDepth 100000
/-! what the law draws: its beginning, a rule -/
namespace Ask
open PySem PySem.Spec PyProof.Rows L2
section
variable {Θ : Th} {F : Frm} {δ δ1 δ' : List Sl} {σ : L2.St} {H0 Hb H H' : Hp} {A : Nat → List Addr} {b b1 b2 : Bool} {ta tb te : TE} {tr : TA} {c : TT} {t u : TS} {d x y : PyData} {ds es : List PyData} {i j : Nat} {T : List Nat} {E : XK}
theorem el_if {v : Bool} (h : EvT Θ c δ v) (h1 : v = true → EvL Θ b ta δ ds) (h2 : v = false → EvL Θ b tb δ ds) : EvL Θ b (tIf c ta tb) δ ds := fun σ H0 Hb H A st Q q => h σ H0 Hb H A st _ fun H1 s1 => by
  have fin : ∀ {tx : TE}, EvL Θ b tx δ ds → tx σ H1 Q := fun hx => hx σ _ _ H1 A (st.ext s1) Q fun p vs H2 s2 n2 hp d2 => q p vs H2 (s1.trans s2) (s1.free n2) hp (by
    rw [bse_ext, ext_ext s1 s2] at d2
    exact d2)
  cases v with
  | true => rw [if_pos rfl]; exact fin (h1 rfl)
  | false => rw [if_neg Bool.false_ne_true]; exact fin (h2 rfl)
theorem dp_ints {K : PySem.W.Frag} {H : Hp} : ∀ ns : List Int, DpAll K H (ns.map V.int) (ns.map .int)
  | [] => .nil
  | n :: ns => .cons (.int n) (dp_ints ns)
def big (n : Int) : Int := if (10 : Int) ^ Int.toNat 18 ≤ n then n else 0
theorem w_L_begin (vs : List V) (H : Hp) (Q : VK) (E : XK) (h : sp_L_begin Θ vs H Q E) : t_L_begin Θ { nx := fun _ H' => Q .non H', rt := Q } (L2.start ["_law_script", "_law_cells", "_law_cell"] vs) H := by
  obtain ⟨a, ns, rfl, hs, hl, q⟩ := h
  obtain ⟨cells, ec⟩ : ∃ cells : List Int, cells = if ns.isEmpty then [0] else ns := ⟨_, rfl⟩
  have hcl : 0 < cells.length ∧ cells.length ≤ 100 := by
    rw [ec]
    cases ns with
    | nil => exact ⟨by decide, by decide⟩
    | cons n r => exact ⟨by simp, by simp at hl ⊢; omega⟩
  have st := start_St (Θ := Θ) (N := ["_law_script", "_law_cells", "_law_cell"]) (vs := [.ref a]) (H0 := H) (H := H) (ds := [.list (ns.map .int)]) (by show 1 ≤ 3; decide) (Same.refl _) (.cons (.lst hs (dp_ints ns)) .nil)
  have sd1 : SD Θ ⟨H, H, fun _ => False⟩ (tAsg (tIf (tTest (tOp (rNeD Θ.K) (tVar 0) (tLst tNil))) (tCB (rListOf Θ.K) (tCons (tVar 0) tNil)) (tLst (tCons (tC (.int 0)) tNil))) (gName 1)) [.dat (.list (ns.map .int)), .un, .un] (.nx [.dat (.list (ns.map .int)), .own (cells.map .int), .un]) := by
    refine sd_setL (el_if (et_neD (b1 := false) (b2 := false) (ev_v rfl) (ev_lst ea_nil (by decide)) (lay_shaped (lay_ints _)) rfl) (fun h => ?_) (fun h => ?_))
    · have : cells = ns := by
        rw [ec]
        cases ns with
        | nil => cases h
        | cons n r => rfl
      rw [this]
      exact el_listOf (ev_v rfl) (.inl rfl)
    · have : cells = [0] := by
        rw [ec]
        cases ns with
        | nil => rfl
        | cons n r => exfalso; revert h; simp [PyData.eqv, PyData.eqvAll]
      rw [this]
      exact el_lst (ea_cons ev_int ea_nil) (by show 1 ≤ _; decide)
  unfold t_L_begin
  refine sd1 _ _ _ _ _ st { nx := _, rt := Q } ?_
  intro σ' H0' Hb' H1 A' st' e0 eb
  obtain ⟨c, us, hA, hc, hnc, hpc, hdc⟩ := own_at st' (i := 1) rfl
  have hus := ints_ofD hdc
  subst hus
  have hcH : H c = none := st'.fr 1 _ c rfl (by rw [hA]; simp)
  have sH1 : Same H H1 := fun z o e => st'.keep z o (fun m => m) e
  obtain ⟨H02, Hb2, A2, st2, s02, sb2⟩ := st'.frz1 (i := 1) rfl
  intro p np
  have sp : Same H1 (upd H1 p (.dK [])) := same_new np
  have st3 := st2.ext sp
  refine ⟨_, hc, ?_⟩
  have hev := el_lc (Θ := Θ) (δ := [.dat (.list (ns.map .int)), .dat (.list (cells.map .int)), .un]) (b := false) (b0 := false) (l := cells) (enc := .int) (fun _ => true) (fun n => .int (big n)) (wi := iList Θ.K (tVar 1)) (gt := gName 2) (tt := tYes) (te := tIf (tTest (tOp (rI0 fun i j => .bl (decide (j ≤ i))) (tVar 2) (tOp (rI CPow fun i j => .int (i ^ j.toNat)) (tC (.int 10)) (tC (.int 18))))) (tVar 2) (tC (.int 0))) (vs := [2]) (T := [2]) (ei_list (ev_v rfl)) (by omega) (fun n _ => ⟨_, bd_name rfl rfl, et_yes, fun _ => ev_if (d := .int (big n)) (et_test (b := false) (ev_I0 (b1 := false) (b2 := false) (g' := fun i j => .bool (decide (j ≤ i))) (ev_v rfl) (ev_I (b := false) (b1 := false) (b2 := false) (C := CPow) (g' := fun i j => .int (i ^ j.toNat)) ev_int ev_int ⟨by decide, by decide, by decide⟩ fun _ => .int _) fun _ => .bl _)) (fun h => by
      have h := of_decide_eq_true h
      unfold big
      rw [if_pos h]
      exact ev_v rfl) (fun h => by
      have h := of_decide_eq_false h
      unfold big
      rw [if_neg h]
      exact ev_int)⟩)
  rw [map_filter_true] at hev
  dsimp only [tPairs]
  rw [show ∀ (v : V) (σ : L2.St) (H : Hp) (Q : VK), tC v σ H Q = Q v H from fun _ _ _ _ => rfl]
  refine hev σ' _ _ _ _ st3.s _ fun lf vs2 H2 s2 nlf hlf hd2 => ?_
  have e2 : cells.map (fun n => PyData.int (big n)) = (cells.map big).map .int := by rw [List.map_map]; rfl
  rw [e2] at hd2
  have hv2 := ints_ofD hd2
  subst hv2
  have sAll : Same H1 H2 := sp.trans s2
  have np1 : H1 p = none := np
  have hp2 : H2 p = some (.dK []) := s2 _ _ upd_same
  have hc2 : H2 c = some (.lst (cells.map .int)) := sAll _ _ hpc
  have ncp : c ≠ p := fun e => by rw [e, np1] at hpc; cases hpc
  have nlp : lf ≠ p := fun e => by rw [e, upd_same] at nlf; cases nlf
  have nlc : c ≠ lf := fun e => by rw [← e] at nlf; rw [upd_ne ncp, hpc] at nlf; cases nlf
  refine ⟨hp2, stD c lf 0 (.int 0), rfl, by show 4 ≤ 15; decide, ?_⟩
  rw [m_all]
  have nlf1 : H1 lf = none := by rw [upd_ne nlp] at nlf; exact nlf
  refine q p c lf _ (fun z o e => ?_) (sH1.free np1) hcH (sH1.free nlf1) ⟨cells, cells.map big, 0, .int 0, Nat.le_refl _, ⟨upd_same, by rw [upd_ne ncp]; exact hc2, by rw [upd_ne nlp]; exact hlf, nlc, by rw [List.length_map], hcl.1, hcl.2⟩⟩
  rw [upd_ne (ne_of_none e (sH1.free np1))]
  exact sAll _ _ (sH1 _ _ e)
/-- one draw -/
theorem dr {p c lf : Addr} {n : Nat} {many : Int} {σ : L2.St} (h0 : σ[0]? = some (some (.ref p))) (hS : StN p c lf H n) (hn : n < 5000) (h1 : 1 ≤ many) (h2 : many < 1000) (ht : ∀ (Q : VK), Q (.int many) H → ta σ H Q) {Q : VK}
    (q : ∀ (i : Int) H', 0 ≤ i → i < many → Kept p lf H H' → (∀ z, H z ≠ none → H' z ≠ none) → StN p c lf H' (n + 1) → Q (.int i) H') : tCall (sp_L_draw Θ) [] E (tCons (tVar 0) (tCons ta tNil)) σ H Q :=
  ⟨_, h0, ht _ ⟨p, c, lf, n, many, rfl, hS, hn, h1, h2, q⟩⟩
theorem Kept.trans {p lf : Addr} {H1 H2 H3 : Hp} (a : Kept p lf H1 H2) (c : Kept p lf H2 H3) : Kept p lf H1 H3 := fun z o h1 h2 e => c z o h1 h2 (a z o h1 h2 e)
theorem Kept.of {p lf : Addr} {H1 H2 : Hp} (a : Same H1 H2) : Kept p lf H1 H2 := fun z o _ _ e => a z o e
theorem StN.same {p c lf : Addr} {H1 H2 : Hp} {n : Nat} (h : StN p c lf H1 n) (s : Same H1 H2) : StN p c lf H2 n := by
  obtain ⟨cells, lefts, m, v, hm, S⟩ := h
  exact ⟨cells, lefts, m, v, hm, ⟨s _ _ S.hd, s _ _ S.hc, s _ _ S.hl, S.ne, S.len, S.pos, S.few⟩⟩
theorem StN.p_some {p c lf : Addr} {n : Nat} (h : StN p c lf H n) : H p ≠ none ∧ H lf ≠ none := by
  obtain ⟨cells, lefts, m, v, hm, S⟩ := h
  exact ⟨not_none S.hd, not_none S.hl⟩
/-- words[draw(..)] -/
theorem drPick {p c lf : Addr} {n : Nat} {ss : List Str} {σ : L2.St} {tl : TA} (h0 : σ[0]? = some (some (.ref p))) (hS : StN p c lf H n) (hn : n < 5000) (hl : 1 ≤ ss.length) (h2 : ss.length < 1000) (ht : ∀ (H : Hp) (Q : List V → Hp → Prop), Q (ss.map .str) H → tl σ H Q) {k : Int} (hk : k = ss.length) {Q : VK}
    (q : ∀ (s : Str) H', s ∈ ss → Kept p lf H H' → (∀ z, H z ≠ none → H' z ≠ none) → StN p c lf H' (n + 1) → Q (.str s) H') : tOp (rIx Θ.K) (tLst tl) (tCall (sp_L_draw Θ) [] E (tCons (tVar 0) (tCons (tC (.int k)) tNil))) σ H Q := by
  subst hk
  refine ht H _ ⟨?_, fun l nl => ?_⟩
  · rw [List.length_map]
    exact sz1000 (by omega)
  have s1 : Same H (upd H l (.lst (ss.map .str))) := same_new nl
  obtain ⟨np, nlf⟩ := hS.p_some
  refine dr h0 (hS.same s1) hn (by omega) (by omega) (fun Q q => q) fun i H2 h3 h4 k2 d2 S2 => ?_
  have hl2 : H2 l = some (.lst (ss.map .str)) := k2 l _ (fun e => np (e ▸ nl)) (fun e => nlf (e ▸ nl)) upd_same
  obtain ⟨j, hj⟩ : ∃ j : Nat, i = (j : Int) := ⟨_, (Int.toNat_of_nonneg h3).symm⟩
  subst hj
  have hjl : j < ss.length := by omega
  refine .inl ⟨l, _, (j : Int), .str ss[j], rfl, rfl, SqL.of hl2, by rw [atI_natV, List.getElem?_map, List.getElem?_eq_getElem hjl]; rfl, ?_⟩
  refine q _ _ (List.getElem_mem hjl) ((Kept.of s1).trans k2) (fun z hz => d2 z ?_) S2
  intro e
  cases q3 : H z with
  | none => exact hz q3
  | some o => rw [s1 _ _ q3] at e; cases e
theorem Kept.new {p c lf : Addr} {n : Nat} {H1 H2 : Hp} (k : Kept p lf H1 H2) (S : StN p c lf H n) (s : Same H H1) {l : Addr} {o : HO} (nl : H l = none) (h : H1 l = some o) : H2 l = some o := by
  obtain ⟨np, nlf⟩ := S.p_some
  exact k l o (fun e => np (e ▸ nl)) (fun e => nlf (e ▸ nl)) h
theorem w_L_rule (vs : List V) (H : Hp) (Q : VK) (E : XK) (h : sp_L_rule Θ vs H Q E) : t_L_rule Θ { nx := fun _ H' => Q .non H', rt := Q } (L2.start ["_law_state", "_law_most", "_law_words"] vs) H := by
  obtain ⟨p, c, lf, n, rfl, S, hn, q⟩ := h
  refine dr (p := p) (c := c) (lf := lf) rfl S (by omega) (by decide) (by decide) (fun Q q => q) fun i H1 i0 i3 k1 d1 S1 => ⟨1, i, rfl, rfl, ?_⟩
  refine drPick (p := p) (c := c) (lf := lf) (ss := ["line", "seen"]) (tl := (tCons (tC (.str "line")) (tCons (tC (.str "seen")) tNil))) rfl S1 (by omega) (by decide) (by decide) (fun H Q q => q) rfl fun s1 H2 m1 k2 d2 S2 => ?_
  refine drPick (p := p) (c := c) (lf := lf) (ss := ["none", "on", "on"]) (tl := (tCons (tC (.str "none")) (tCons (tC (.str "on")) (tCons (tC (.str "on")) tNil)))) rfl S2 (by omega) (by decide) (by decide) (fun H Q q => q) rfl fun s2 H3 m2 k3 d3 S3 => ?_
  refine ⟨sz1000 (by show 2 ≤ _; decide), fun l nl => ?_⟩
  obtain ⟨H4, e4⟩ : ∃ H4, H4 = upd H3 l (.lst [.str s1, .str s2]) := ⟨_, rfl⟩
  have s34 : Same H3 H4 := by rw [e4]; exact same_new nl
  have S4 := S3.same s34
  have hl4 : H4 l = some (.lst [.str s1, .str s2]) := by rw [e4, upd_same]
  rw [← e4]
  refine ⟨_, rfl, ?_⟩
  refine drPick (p := p) (c := c) (lf := lf) (ss := ["asks", "old", "tells"]) (tl := (tCons (tC (.str "asks")) (tCons (tC (.str "old")) (tCons (tC (.str "tells")) tNil)))) rfl S4 (by omega) (by decide) (by decide) (fun H Q q => q) rfl fun s3 H5 m3 k5 d5 S5 => ?_
  refine drPick (p := p) (c := c) (lf := lf) (ss := ["quiet", "told", "told"]) (tl := (tCons (tC (.str "quiet")) (tCons (tC (.str "told")) (tCons (tC (.str "told")) tNil)))) rfl S5 (by omega) (by decide) (by decide) (fun H Q q => q) rfl fun s4 H6 m4 k6 d6 S6 => ?_
  have hl6 : H6 l = some (.lst [.str s1, .str s2]) := (k5.trans k6).new S3 s34 nl hl4
  refine ⟨sz1000 (by show 2 ≤ _; decide), fun l2 nl2 => ?_⟩
  have s67 : Same H6 (upd H6 l2 (.lst [.str s3, .str s4])) := same_new nl2
  refine ⟨l, l2, _, _, rfl, rfl, s67 _ _ hl6, upd_same, sz1000 (by show 4 ≤ _; decide), fun l3 nl3 => ?_⟩
  obtain ⟨H8, e8⟩ : ∃ H8, H8 = upd (upd H6 l2 (.lst [.str s3, .str s4])) l3 (.lst [.str s1, .str s2, .str s3, .str s4]) := ⟨_, rfl⟩
  have s78 : Same (upd H6 l2 (.lst [.str s3, .str s4])) H8 := by rw [e8]; exact same_new nl3
  have s68 := s67.trans s78
  have S8 := S6.same s68
  have hl8 : H8 l3 = some (.lst [.str s1, .str s2, .str s3, .str s4]) := by rw [e8, upd_same]
  have nl36 : H6 l3 = none := s67.free nl3
  show gName 2 (.ref l3) _ (upd (upd H6 l2 (.lst [.str s3, .str s4])) l3 (.lst [.str s1, .str s2, .str s3, .str s4])) _
  rw [← e8]
  refine ⟨_, rfl, ?_⟩
  refine dr (p := p) (c := c) (lf := lf) (many := 1 + i + 1) rfl S8 (by omega) (by omega) (by omega) (fun Q q => ⟨_, rfl, _, _, rfl, rfl, q⟩) fun j H9 j0 j3 k9 d9 S9 => ?_
  have hl9 : H9 l3 = some (.lst [.str s1, .str s2, .str s3, .str s4]) := k9.new S6 s68 nl36 hl8
  refine ⟨sz1000 (by show 2 ≤ _; decide), fun t1 nt1 => ?_⟩
  have s9a : Same H9 (upd H9 t1 (.tup [.int (1 + i), .int j])) := same_new nt1
  refine ⟨_, rfl, l3, _, rfl, .inl ⟨SqL.of (s9a _ _ hl9), fun t2 nt2 => ?_⟩⟩
  have sab : Same (upd H9 t1 (.tup [.int (1 + i), .int j])) (upd (upd H9 t1 (.tup [.int (1 + i), .int j])) t2 (.tup [.str s1, .str s2, .str s3, .str s4])) := same_new nt2
  refine ⟨t1, t2, _, _, rfl, rfl, SqT.of (sab _ _ upd_same), SqT.of upd_same, sz1000 (by show 6 ≤ _; decide), fun e => (by cases e), fun _ e => (by cases e), fun _ _ t3 nt3 => ?_⟩
  obtain ⟨Hc, ec⟩ : ∃ Hc, Hc = upd (upd (upd H9 t1 (.tup [.int (1 + i), .int j])) t2 (.tup [.str s1, .str s2, .str s3, .str s4])) t3 (.tup [.int (1 + i), .int j, .str s1, .str s2, .str s3, .str s4]) := ⟨_, rfl⟩
  have sbc : Same (upd (upd H9 t1 (.tup [.int (1 + i), .int j])) t2 (.tup [.str s1, .str s2, .str s3, .str s4])) Hc := by rw [ec]; exact same_new nt3
  have s9c := (s9a.trans sab).trans sbc
  have Sc := S9.same s9c
  have ht3 : Hc t3 = some (.tup [.int (1 + i), .int j, .str s1, .str s2, .str s3, .str s4]) := by rw [ec, upd_same]
  have nt39 : H9 t3 = none := (s9a.trans sab).free nt3
  show (tTup _) _ (upd (upd (upd H9 t1 (.tup [.int (1 + i), .int j])) t2 (.tup [.str s1, .str s2, .str s3, .str s4])) t3 (.tup [.int (1 + i), .int j, .str s1, .str s2, .str s3, .str s4])) _
  rw [← ec]
  refine drPick (p := p) (c := c) (lf := lf) (ss := ["asks", "claims"]) (tl := (tCons (tC (.str "asks")) (tCons (tC (.str "claims")) tNil))) rfl Sc (by omega) (by decide) (by decide) (fun H Q q => q) rfl fun s5 Hd m5 kd dd Sd => ?_
  have ht3d : Hd t3 = some (.tup [.int (1 + i), .int j, .str s1, .str s2, .str s3, .str s4]) := kd.new S9 s9c nt39 ht3
  refine ⟨sz1000 (by show 1 ≤ _; decide), fun t4 nt4 => ?_⟩
  have sde : Same Hd (upd Hd t4 (.tup [.str s5])) := same_new nt4
  refine ⟨t3, t4, _, _, rfl, rfl, SqT.of (sde _ _ ht3d), SqT.of upd_same, sz1000 (by show 7 ≤ _; decide), fun e => (by cases e), fun _ e => (by cases e), fun _ _ t5 nt5 => ?_⟩
  have sef : Same (upd Hd t4 (.tup [.str s5])) (upd (upd Hd t4 (.tup [.str s5])) t5 (.tup [.int (1 + i), .int j, .str s1, .str s2, .str s3, .str s4, .str s5])) := same_new nt5
  obtain ⟨b1, rfl⟩ : ∃ b, s1 = sLine b := by
    rcases List.mem_cons.mp m1 with rfl | m1
    · exact ⟨true, rfl⟩
    · exact ⟨false, List.mem_singleton.mp m1⟩
  obtain ⟨b2, rfl⟩ : ∃ b, s2 = sOn b := by
    rcases List.mem_cons.mp m2 with rfl | m2
    · exact ⟨false, rfl⟩
    · rcases List.mem_cons.mp m2 with rfl | m2
      · exact ⟨true, rfl⟩
      · exact ⟨true, List.mem_singleton.mp m2⟩
  obtain ⟨b3, rfl⟩ : ∃ b : Bk, s3 = b.s := by
    rcases List.mem_cons.mp m3 with rfl | m3
    · exact ⟨.asks, rfl⟩
    · rcases List.mem_cons.mp m3 with rfl | m3
      · exact ⟨.old, rfl⟩
      · exact ⟨.tells, List.mem_singleton.mp m3⟩
  obtain ⟨b4, rfl⟩ : ∃ b, s4 = sTold b := by
    rcases List.mem_cons.mp m4 with rfl | m4
    · exact ⟨false, rfl⟩
    · rcases List.mem_cons.mp m4 with rfl | m4
      · exact ⟨true, rfl⟩
      · exact ⟨true, List.mem_singleton.mp m4⟩
  obtain ⟨b5, rfl⟩ : ∃ b, s5 = sAsks b := by
    rcases List.mem_cons.mp m5 with rfl | m5
    · exact ⟨true, rfl⟩
    · exact ⟨false, List.mem_singleton.mp m5⟩
  have dsame : ∀ {H1 H2 : Hp}, Same H1 H2 → ∀ z, H1 z ≠ none → H2 z ≠ none := fun {H1 H2} s z hz e => by
    cases q3 : H1 z with
    | none => exact hz q3
    | some o => rw [s _ _ q3] at e; cases e
  have dAll : ∀ z, H z ≠ none → (upd (upd Hd t4 (.tup [.str (sAsks b5)])) t5 (.tup [.int (1 + i), .int j, .str (sLine b1), .str (sOn b2), .str b3.s, .str (sTold b4), .str (sAsks b5)])) z ≠ none := fun z hz =>
    dsame (sde.trans sef) z (dd z (dsame s9c z (d9 z (dsame s68 z (d6 z (d5 z (dsame s34 z (d3 z (d2 z (d1 z hz))))))))))
  have kAll : Kept p lf H (upd (upd Hd t4 (.tup [.str (sAsks b5)])) t5 (.tup [.int (1 + i), .int j, .str (sLine b1), .str (sOn b2), .str b3.s, .str (sTold b4), .str (sAsks b5)])) :=
    (((((((((k1.trans k2).trans k3).trans (.of s34)).trans k5).trans k6).trans (.of s68)).trans k9).trans (.of s9c)).trans kd).trans (.of (sde.trans sef))
  have nt5H : H t5 = none := by
    by_cases e : H t5 = none
    · exact e
    · exact absurd (sde.free nt5) (dd t5 (dsame s9c t5 (d9 t5 (dsame s68 t5 (d6 t5 (d5 t5 (dsame s34 t5 (d3 t5 (d2 t5 (d1 t5 e))))))))))
  refine q ⟨(1 + i).toNat, j.toNat, b1, b2, b3, b4, b5⟩ (.ref t5) _ ⟨?_, ?_, ?_⟩ (.tup (SqT.of (by rw [ext_new nt5H, upd_same])) ?_) kAll dAll ?_
  · show 1 ≤ (1 + i).toNat; omega
  · show (1 + i).toNat ≤ 3; omega
  · show j.toNat ≤ (1 + i).toNat; omega
  · have e1 : ((1 + i).toNat : Int) = 1 + i := Int.toNat_of_nonneg (by omega)
    have e2 : (j.toNat : Int) = j := Int.toNat_of_nonneg j0
    show DpAll _ _ [.int (1 + i), .int j, .str (sLine b1), .str (sOn b2), .str b3.s, .str (sTold b4), .str (sAsks b5)] [.int ((1 + i).toNat : Int), .int (j.toNat : Int), _, _, _, _, _]
    rw [e1, e2]
    exact .cons (.int _) (.cons (.int _) (.cons (.str _) (.cons (.str _) (.cons (.str _) (.cons (.str _) (.cons (.str _) .nil))))))
  · have := Sd.same (sde.trans sef)
    exact this
end
end Ask
-- AskNice
set_option Elab.async false
set_option linter.all false
set_option maxRecDepth 100000
/-! people are small numbers; what is told is short -/
namespace Ask
open PySem PySem.Spec PyProof.Rows L2
def PQ (Q : Int → Prop) (l : Line) : Prop := ∀ w ∈ l, Q w.p
section
variable {Q : Int → Prop} {r : Rule} {l : Line} {m : Rm}
theorem pq_renewed (h : PQ Q l) (f : Nat → Bool) : PQ Q (renewed r l f) := fun w hw => by
  rw [renewed_zip] at hw
  obtain ⟨x, hx, rfl⟩ := List.mem_map.mp hw
  have := h _ (List.mem_of_getElem? (List.mem_zipIdx_iff_getElem?.mp hx))
  unfold ren
  split
  · exact this
  · exact this
theorem pq_ins (h : PQ Q l) (s : Nat) {w : Row} (hw : Q w.p) : PQ Q (l.take s ++ w :: l.drop s) := fun v hv => by
  rcases List.mem_append.mp hv with hv | hv
  · exact h v (List.mem_of_mem_take hv)
  · rcases List.mem_cons.mp hv with rfl | hv
    · exact hw
    · exact h v (List.mem_of_mem_drop hv)
theorem pq_cut (h : PQ Q l) (s : Nat) : PQ Q (l.take s ++ l.drop (s + 1)) := fun v hv => by
  rcases List.mem_append.mp hv with hv | hv
  · exact h v (List.mem_of_mem_take hv)
  · exact h v (List.mem_of_mem_drop hv)
theorem pq_putIn (h : PQ Q m.l) (hc : Q (m.c : Int)) (s : Nat) : PQ Q (putIn r m s).l := pq_renewed (pq_ins h s hc) _
theorem pq_asHow (h : PQ Q l) (s : Nat) (k : How) : PQ Q (asHow l s k) := fun w hw => by
  obtain ⟨i, hi⟩ := List.mem_iff_getElem?.mp hw
  unfold asHow at hi
  rw [List.getElem?_modify] at hi
  cases q : l[i]? with
  | none => rw [q] at hi; cases hi
  | some v =>
    rw [q] at hi
    have hi : (if s = i then setHow k v else v) = w := Option.some.inj hi
    have := h v (List.mem_of_getElem? q)
    rw [← hi]
    split
    · exact this
    · exact this
theorem pq_left (h : PQ Q l) (p : Int) : PQ Q ((left l p).map (unname p)) := fun w hw => by
  obtain ⟨v, hv, rfl⟩ := List.mem_map.mp hw
  have := h v (List.mem_filter.mp hv).1
  unfold unname
  split
  · exact this
  · exact this
theorem pq_without (h : PQ Q l) (p : Int) : PQ Q (without r l p) := by
  unfold without
  split
  · exact pq_renewed (pq_left h p) _
  · exact pq_left h p
theorem pq_asked (h : PQ Q l) : PQ Q (askedAgain r l) := by
  unfold askedAgain
  split
  · exact pq_renewed h _
  · exact h
theorem pq_forget (h : PQ Q l) : PQ Q (forgetting l) := by
  unfold forgetting
  split
  · exact h
  · intro w hw
    obtain ⟨v, hv, rfl⟩ := List.mem_map.mp hw
    exact h v (List.mem_filter.mp hv).1
theorem pq_bring (h : PQ Q m.l) (hc : r.back = .asks → Q (m.c : Int)) (s : Nat) : PQ Q (bringBack r m s).l := by
  unfold bringBack
  split
  · rename_i hh
    exact pq_putIn (m := { m with l := m.l.take s ++ m.l.drop (s + 1) }) (pq_cut h s) (hc hh.1) _
  · split
    · exact pq_renewed (pq_asHow h _ _) _
    · exact pq_renewed (pq_asHow h _ _) _
    · exact pq_asHow h _ _
end
/-- numbers below c -/
def LtC (c : Nat) (p : Int) : Prop := 0 ≤ p ∧ p < (c : Int)
theorem LtC.up {c c' : Nat} {p : Int} (h : LtC c p) (k : c ≤ c') : LtC c' p := ⟨h.1, by have := h.2; omega⟩
theorem pq_do1 {r : Rule} {m : Rm} {e : Evt} (h : PQ (LtC m.c) m.l) : PQ (LtC (do1 r m e).c) (do1 r m e).l := by
  have up : m.c ≤ (do1 r m e).c := by rw [do1_c]; exact Nat.le_add_right _ _
  have hu : PQ (LtC (do1 r m e).c) m.l := fun w hw => (h w hw).up up
  have hn : ∀ k : Nat, m.c + 1 ≤ k → LtC k (m.c : Int) := fun k hk => ⟨by omega, by omega⟩
  unfold do1 at hu ⊢
  cases e with
  | come => exact pq_putIn hu (hn _ (Nat.le_refl _)) _
  | door =>
    show PQ (LtC (openDoor r m).c) (openDoor r m).l
    have hu : PQ (LtC (openDoor r m).c) m.l := hu
    revert hu
    unfold openDoor
    dsimp only
    split
    · exact fun hu => pq_without (pq_asked hu) _
    · exact fun hu => pq_asked hu
  | per w p =>
    have hu : PQ (LtC (doPer r m w p).c) m.l := hu
    show PQ (LtC (doPer r m w p).c) (doPer r m w p).l
    revert hu
    unfold doPer
    cases w with
    | back =>
      intro hu
      show PQ (LtC (bringBack r m (spotOf m.l p)).c) (bringBack r m (spotOf m.l p)).l
      have hu : PQ (LtC (bringBack r m (spotOf m.l p)).c) m.l := hu
      by_cases hc : r.back = .asks ∧ howAt m.l (spotOf m.l p) = some .lost
      · have e1 : (bringBack r m (spotOf m.l p)).c = m.c + 1 := by unfold bringBack; rw [if_pos hc]; rfl
        rw [e1] at hu ⊢
        exact pq_bring hu (fun _ => hn _ (Nat.le_refl _)) _
      · revert hu
        unfold bringBack
        rw [if_neg hc]
        intro hu
        cases q : r.back with
        | tells => rw [q] at hu; exact pq_renewed (pq_asHow hu _ _) _
        | asks => rw [q] at hu; exact pq_renewed (pq_asHow hu _ _) _
        | old => rw [q] at hu; exact pq_asHow hu _ _
    | let_ =>
      intro hu
      show PQ (LtC (if r.told = true then _ else _ : Rm).c) (if r.told = true then _ else _ : Rm).l
      have hu : PQ (LtC (if r.told = true then renewFrom r (putIn r m (spotOf m.l p + 1)) (spotOf m.l p + 2) else putIn r m (spotOf m.l p + 1)).c) m.l := hu
      split
      · rename_i ht
        rw [if_pos ht] at hu
        exact pq_renewed (pq_putIn hu (hn _ (Nat.le_refl _)) _) _
      · rename_i ht
        rw [if_neg ht] at hu
        exact pq_putIn hu (hn _ (Nat.le_refl _)) _
    | leave => exact fun hu => pq_without hu _
    | out => exact fun hu => pq_asHow hu _ _
    | vanish => exact fun hu => pq_asHow hu _ _
theorem sv_in {r : Rule} {x : Pair} {e : Evt} (h : PQ (LtC x.2) x.1) : ∀ p ∈ (do_ r (rm0 x) e).sv, LtC x.2 p := by
  intro p hp
  have hp : p ∈ (do1 r (rm0 x) e).sv := hp
  unfold do1 at hp
  cases e with
  | come => cases hp
  | door =>
    have hp : p ∈ (openDoor r (rm0 x)).sv := hp
    unfold openDoor at hp
    dsimp only at hp
    split at hp
    · rename_i q hq
      have hp : p ∈ ([] ++ [q] : List Int) := hp
      have e : p = q := by simpa using hp
      obtain ⟨w, hw, rfl⟩ := claim_in (r := r) (l := askedAgain r x.1) (p := p) (by rw [e]; show q ∈ claiming r (askedAgain r (rm0 x).l); rw [hq]; exact List.mem_singleton.mpr rfl)
      exact pq_asked h w hw
    · cases hp
  | per w q =>
    exfalso
    have : (doPer r (rm0 x) w q).sv = [] := by
      unfold doPer
      cases w with
      | let_ =>
        dsimp only
        split <;> rfl
      | back => exact bring_sv ..
      | _ => rfl
    have hp : p ∈ (doPer r (rm0 x) w q).sv := hp
    rw [this] at hp
    cases hp
theorem reach_nice {r : Rule} {n : Nat} {x : Node} (h : Reach r n x) : PQ (LtC x.1.2) x.1.1 ∧ ∀ p ∈ x.2, LtC x.1.2 p := by
  induction h with
  | start => exact ⟨fun w hw => (by cases hw), fun p hp => (by cases hp)⟩
  | @step x e hx he hq ih =>
    have h1 : PQ (LtC (do1 r (rm0 x.1) e).c) (do1 r (rm0 x.1) e).l := pq_do1 (m := rm0 x.1) ih.1
    have up : x.1.2 ≤ (do_ r (rm0 x.1) e).c := by rw [do_c]; exact Nat.le_add_right _ _
    refine ⟨pq_forget h1, fun p hp => ?_⟩
    rw [nextN_sv] at hp
    rcases List.mem_append.mp hp with hp | hp
    · exact (ih.2 p hp).up up
    · exact (sv_in ih.1 p hp).up up
/-! ### short -/
def Short (n : Nat) (d : PyData) : Prop := d.canLay0 = true ∧ d.intsShort 13 = true ∧ d.weight ≤ n ∧ d.showable = true ∧ d.hasDict = false
theorem short_small {p : Int} (h : LtC 6 p) : Short 3 (.int p) := by
  obtain ⟨h0, h1⟩ := h
  have : p = 0 ∨ p = 1 ∨ p = 2 ∨ p = 3 ∨ p = 4 ∨ p = 5 := by omega
  rcases this with rfl | rfl | rfl | rfl | rfl | rfl <;> exact ⟨by decide +kernel, by decide +kernel, by decide +kernel, by decide +kernel, by decide +kernel⟩
theorem short_all {n : Nat} : ∀ {ds : List PyData}, (∀ d ∈ ds, Short n d) → PyData.canLayAll0 ds = true ∧ PyData.intsShortAll 13 ds = true ∧ PyData.weightAll ds ≤ (n + 1) * ds.length ∧ PyData.showableAll ds = true ∧ PyData.hasDictAll ds = false
  | [], _ => ⟨by simp [PyData.canLayAll0], by simp [PyData.intsShortAll], by simp [PyData.weightAll], by simp [PyData.showableAll], by simp [PyData.hasDictAll]⟩
  | d :: ds, h => by
    obtain ⟨a1, a2, a3, a4, a5⟩ := h d (List.mem_cons_self ..)
    obtain ⟨b1, b2, b3, b4, b5⟩ := short_all fun e he => h e (List.mem_cons_of_mem _ he)
    refine ⟨by simp [PyData.canLayAll0, a1, b1], by simp [PyData.intsShortAll, a2, b2], ?_, by simp [PyData.showableAll, a4, b4], by simp [PyData.hasDictAll, a5, b5]⟩
    simp only [PyData.weightAll, List.length_cons, Nat.mul_add]
    omega
theorem short_tup {n k : Nat} {ds : List PyData} (h : ∀ d ∈ ds, Short n d) (hk : ds.length ≤ k) : Short ((n + 1) * k) (.tuple ds) := by
  obtain ⟨b1, b2, b3, b4, b5⟩ := short_all h
  exact ⟨by simpa [PyData.canLay0] using b1, by simpa [PyData.intsShort] using b2, by simp only [PyData.weight]; exact Nat.le_trans b3 (Nat.mul_le_mul_left _ hk), by simpa [PyData.showable] using b4, by simpa [PyData.hasDict] using b5⟩
theorem short_lst {n k : Nat} {ds : List PyData} (h : ∀ d ∈ ds, Short n d) (hk : ds.length ≤ k) : Short ((n + 1) * k) (.list ds) := by
  obtain ⟨b1, b2, b3, b4, b5⟩ := short_all h
  exact ⟨by simpa [PyData.canLay0] using b1, by simpa [PyData.intsShort] using b2, by simp only [PyData.weight]; exact Nat.le_trans b3 (Nat.mul_le_mul_left _ hk), by simpa [PyData.showable] using b4, by simpa [PyData.hasDict] using b5⟩
/-- what is told, twice -/
theorem told_short {r : Rule} {n : Nat} {os : List (List Int)} (hn : n ≤ 3) (hf : Few r n 300) (ho : Orders r n os) :
    (PyData.list [.tuple (os.map dNames), .tuple (os.map dNames)]).showable = true ∧ (PyData.list [.tuple (os.map dNames), .tuple (os.map dNames)]).hasDict = false ∧ (PyData.list [.tuple (os.map dNames), .tuple (os.map dNames)]).depth ≤ 16 ∧ (PyData.list [.tuple (os.map dNames), .tuple (os.map dNames)]).shown.length ≤ sizeLine := by
  have hlen : os.length ≤ 300 := by
    have h1 : (os.map fun o => ((([], n) : Pair), o)).Nodup := nodup_mapOn ho.1 fun a _ c _ e => (Prod.mk.inj e).2
    have := few_len hf h1 fun y hy => by
      obtain ⟨o, ho', rfl⟩ := List.mem_map.mp hy
      exact (ho.2.2 o).mp ho'
    rwa [List.length_map] at this
  have h1 : ∀ o ∈ os, Short 24 (dNames o) := fun o hm => by
    have hr := (ho.2.2 o).mp hm
    obtain ⟨_, h2⟩ := reach_nice hr
    have g := reach_good (by omega) hr
    have hl : o.length ≤ 6 := by
      have h5 : o.length ≤ n := by have h6 := g.lens; simpa using h6
      omega
    refine short_tup (n := 3) (k := 6) (fun d hd => ?_) (by rw [List.length_map]; exact hl)
    obtain ⟨p, hp, rfl⟩ := List.mem_map.mp hd
    exact short_small ((h2 p hp).up (by show n ≤ 6; omega))
  have h2 : Short 7500 (.tuple (os.map dNames)) := short_tup (n := 24) (k := 300) (fun d hd => by
    obtain ⟨o, hm, rfl⟩ := List.mem_map.mp hd
    exact h1 o hm) (by rw [List.length_map]; exact hlen)
  have h3 : Short 15002 (.list [.tuple (os.map dNames), .tuple (os.map dNames)]) := short_lst (n := 7500) (k := 2) (fun d hd => by
    rcases List.mem_cons.mp hd with rfl | hd
    · exact h2
    · rw [List.mem_singleton.mp hd]; exact h2) (by show 2 ≤ 2; decide)
  have hd : Lay 3 (.list [.tuple (os.map dNames), .tuple (os.map dNames)]) := lay_lst fun d hd => by
    have hx : Lay 2 (.tuple (os.map dNames)) := lay_tup fun d hd => by
      obtain ⟨o, hm, rfl⟩ := List.mem_map.mp hd
      exact lay_names o
    rcases List.mem_cons.mp hd with rfl | hd
    · exact hx
    · rw [List.mem_singleton.mp hd]; exact hx
  refine ⟨h3.2.2.2.1, h3.2.2.2.2, Nat.le_trans hd.2 (by decide), Nat.le_trans (PyProof.Rows.shown_le13 ?_ h3.2.1) (by decide)⟩
  unfold PyData.layable0
  rw [h3.1, decide_eq_true (Nat.le_trans hd.2 (by decide)), decide_eq_true (Nat.le_trans h3.2.2.1 (by decide))]
  rfl
end Ask
-- AskEnd
set_option Elab.async false
set_option linter.all false
set_option maxRecDepth 100000
/-! the law's own def, run where it is asked: there no guard stands (repr wants that), so its promise is shown for that one place -/
namespace Ask
open PySem PySem.Spec PyProof.Rows L2
section
variable {P : Program} {w : World} {K : PySem.W.Frag} {mg : Str → Option Value} {base : Heap}
/-- a def, run at the outermost place -/
theorem run_top {x qual : Str} {st : Stmt} {f : Addr} {fd : FuncData} {N ps : List Str} {k : Nat} {sp : Sp} (F : C8.Fun K x qual st f fd) (S : FnScope N ps (C8.fnScope st))
    (hlen : ∀ vs H Q E, sp vs H Q E → vs.length = ps.length) (room : Room (k + 1) callerA)
    (body : ∀ (cdv : Value) (s : Shared) (H : Hp) (vs : List V) (Q : VK) (E : XK), Room k (callerA.deeper (envOfC qual (C8.fnScope st) s.heap.objs.size f cdv)) → sp vs H Q E →
      ∃ t, PSs (cxOf C8.CX0 P w K mg base N qual (C8.fnScope st) f cdv callerA [] s H E).nox (C8.fnBody st) t ∧ t { nx := fun _ G => Q .non G, rt := Q } (L2.start N vs) H)
    {s : Shared} {H : Hp} {us : List Value} {vs : List V} {Q : VK} {E : XK} (env : Env0 P w K mg base callerA [] s H) (bind : BindsTo s fd ⟨us, []⟩ (ps.zip us)) (rel : Vals vs us) (ask : sp vs H Q E) :
    codeAny (model P w) callerA (.call (.ref f) ⟨us, []⟩) (CR C8.CX0 [] P w H s Q E) s := by
  obtain ⟨oc, od, dV, kV, doc, pm, an, cdv, ct, osl, rfl, look, code⟩ := F.ex
  have same : ∀ b o, base.get? b = some o → s.heap.get? b = some o := fun b o e => (env.bs b o e).1
  have inK : K.In s.heap := env.mod.kin.keeps same
  have free : s.heap.NoLimit := env.mod.nolimit.keeps same
  have names : ∀ z ∈ ps.zip us, (C8.fnScope st).names.lookup z.1 = some .local ∨ ((C8.fnScope st).names.lookup z.1 = some .cell ∧ ((cellsFrom (s.heap.objs.size + 1) (C8.fnScope st).names []).lookup z.1).isSome = true) := by
    rintro ⟨a, v⟩ hz
    exact (S.par a (List.of_mem_zip hz).1).elim .inl fun q => .inr ⟨q, PySem.W.cellsFrom_some _ _ _ (.inl q)⟩
  refine codeAny_call_function room.depth (inK _ _ look) rfl S.co S.gen rfl (PySem.W.codeRec_of inK code) (bind _ _ _ _ (wpAny_newFunctionEnv_cells S.kind names ?_))
  intro e2 he s1 fresh
  subst he
  refine ⟨free.keeps fresh.toInCall.keep, codeAny_func ?_⟩
  obtain ⟨t, reads, goal⟩ := body cdv s H vs Q E (room.deeper _) ask
  have inv := inv_start (CX := C8.CX0) (E := E) S room.hd env (hlen _ _ _ _ ask) rel fresh
  refine wpAny_mono (reads.nox.run [] s1 (L2.start N vs) H _ inv goal) ?_ fun _ _ z => z
  intro fl s2 z
  cases fl with
  | next =>
    obtain ⟨σ2, H2, J, q⟩ := z
    exact ⟨.non, H2, J.os, J.bare, J.base, J.hok, (rfl : RelV .non .none), q⟩
  | ret u =>
    obtain ⟨v, σ2, H2, J, rv, q⟩ := z
    exact ⟨v, H2, J.os, J.bare, J.base, J.hok, rv, q⟩
  | brk => obtain ⟨_, _, _, no⟩ := z; exact no.elim
  | cont => obtain ⟨_, _, _, no⟩ := z; exact no.elim
/-- what the law's def owes at the outermost place -/
def TopOk (P : Program) (w : World) (K : PySem.W.Frag) (mg : Str → Option Value) (base : Heap) (fa : Addr) (fd : FuncData) (x : Str) : Prop :=
  ∀ (s : Shared) (H : Hp) (a : Addr) (ns : List Int), ns.length ≤ 63 → SqL K H a (ns.map V.int) → Env0 P w K mg base callerA [] s H → BindsTo s fd ⟨[.ref a], []⟩ [(x, .ref a)] →
    codeAny (model P w) callerA (.call (.ref fa) ⟨[.ref a], []⟩) (CR C8.CX0 [] P w H s (fun v _ => v = .bl true) fun _ _ _ => False) s
end
theorem top_call {P : Program} {w : World} {K : PySem.W.Frag} {mg mb : Str → Option Value} {fa a : Addr} {fd : FuncData} {x : Str} {s0 : Shared} {us : List Value} {ns : List Int}
    (inK : K.In s0.heap) (nsM : s0.heap.Ns mainGlobals mg) (nsB : s0.heap.Ns builtinsNs mb) (blt : ∀ y : Str, y ≠ "__name__" → mb y = bootBuiltins y) (free : s0.heap.NoLimit) (gens : s0.gens = #[])
    (obj : s0.heap.get? a = some { cls := .type "list", data := .seq us.toArray }) (are : IntsAre us ns) (few : ns.length ≤ 63)
    (F : ∀ base : Heap, K.In base → base.Ns mainGlobals mg → TopOk P w K mg base fa fd x) (bind : ∀ (s : Shared) (u : Value), BindsTo s fd ⟨[u], []⟩ [(x, u)]) :
    codeAny (model P w) callerA (.call (.ref fa) ⟨[.ref a], []⟩) (fun r s' => r = .ok (.ret (.bool true)) ∧ OldK s0.heap s'.heap ∧ s'.os = s0.os ∧ AllBare s'.gens) s0 := by
  have rel := vals_ints are
  have count := are.length
  have lim63 : ns.length ≤ sizeLine := Nat.le_trans few (by decide)
  -- H: nothing, or the script alone
  have go : ∀ H : Hp, (∀ b, H b = none ∨ ∃ o xs, H b = some (.frz o (.lst xs))) → SqL K H a (ns.map V.int) → HOk P w H s0.heap → (∀ b, H b ≠ none → b = a) → (H a ≠ none → K.lookup a = none) →
      codeAny (model P w) callerA (.call (.ref fa) ⟨[.ref a], []⟩)
        (fun r s' => r = .ok (.ret (.bool true)) ∧ OldK s0.heap s'.heap ∧ s'.os = s0.os ∧ AllBare s'.gens) s0 := by
    intro H only seq okH atA notK
    have hid : ∀ {b : Addr} {o : Obj}, s0.heap.get? b = some o → H b = none → (hidT s0.heap H).get? b = some o := fun e n => hidT_get e n
    have dictN : ∀ {b : Addr} {o : Obj} {es : Array DictEntry} {ep : Nat}, s0.heap.get? b = some o → o.data = .dict es ep → H b = none := by
      intro b o es ep e d
      by_cases q : H b = none
      · exact q
      · have := atA b q
        subst this
        rw [obj] at e
        cases e
        exact absurd d (by intro z; cases z)
    have nsH : ∀ {b : Addr} {g : Str → Option Value}, s0.heap.Ns b g → (hidT s0.heap H).Ns b g := by
      rintro b g ⟨o, es, ep, e, d, rest⟩
      exact ⟨o, es, ep, hid e (dictN e d), d, rest⟩
    have inB : K.In (hidT s0.heap H) := by
      intro b o e
      refine hid (inK b o e) ?_
      by_cases q : H b = none
      · exact q
      · have hb := atA b q
        subst hb
        rw [notK q] at e
        cases e
    have modB : Mod K mg (hidT s0.heap H) := by
      refine ⟨inB, nsH nsM, ⟨mb, nsH nsB, blt⟩, ?_⟩
      obtain ⟨mc, l1, l2⟩ := free
      exact ⟨mc, nsH l1, l2⟩
    have env : Env0 P w K mg (hidT s0.heap H) callerA [] s0 H := by
      refine ⟨rfl, modB, fun b o e => of_hidT e, Nat.le_of_eq (hidT_size _ _), trivial, ?_, okH, .of_eq gens⟩
      intro b hb
      exact absurd (show b ∈ ([] : List Addr) from hb) (by simp)
    refine codeAny_mono (F _ inB (nsH nsM) s0 H a ns few seq env (bind s0 (.ref a))) ?_
    intro r s' z
    cases r with
    | error e => exact False.elim z
    | ok fl =>
      cases fl with
      | ret u =>
        obtain ⟨v, H', os, bare, un, okH', rv, isT⟩ := z
        have isT : v = .bl true := isT
        subst isT
        have eu : u = Value.bool true := rv
        subst eu
        refine ⟨rfl, OldK.of_keep ?_, os, bare⟩
        intro b o e
        cases q : H b with
        | none =>
          exact un.keep b o e q (fun z => absurd (show b ∈ ([] : List Addr) from z) (by simp)) (by simp)
        | some u =>
          rcases only b with n | ⟨ob, xs, fz⟩
          · rw [q] at n; cases n
          · obtain ⟨g1, _⟩ := okH b _ fz
            obtain ⟨g2, _⟩ := okH' b _ (un.frzs b ob _ fz)
            rw [e] at g1
            cases g1
            exact g2
      | next => exact False.elim z
      | brk => exact False.elim z
      | cont => exact False.elim z
  by_cases known : K.lookup a = none
  · refine go (fun b => if b = a then some (.frz { cls := .type "list", data := .seq us.toArray } (.lst (ns.map V.int))) else none) ?_ (.inl (.inr ⟨_, if_pos rfl⟩)) ?_ ?_ fun _ => known
    · intro b
      by_cases hb : b = a
      · exact .inr ⟨_, _, if_pos hb⟩
      · exact .inl (if_neg hb)
    · intro b u z
      by_cases hb : b = a
      · subst hb
        have z' : some (HO.frz { cls := .type "list", data := .seq us.toArray } (.lst (ns.map V.int))) = some u := (if_pos rfl).symm.trans z
        cases z'
        exact ⟨obj, by rw [List.length_map]; exact lim63, us, _, rel, obj⟩
      · have z' : (none : Option HO) = some u := (if_neg hb).symm.trans z
        cases z'
    · intro b z
      by_cases hb : b = a
      · exact hb
      · exact absurd (if_neg hb) z
  · obtain ⟨o, ho⟩ : ∃ o, K.lookup a = some o := by
      cases q : K.lookup a with
      | none => exact absurd q known
      | some o => exact ⟨o, rfl⟩
    have e := inK a o ho
    rw [obj] at e
    cases e
    refine go (fun _ => none) (fun _ => .inl rfl) (.inr ⟨_, us.toArray, _, ho, rfl, rfl, rfl, ?_, ?_⟩) ?_ (fun b z => absurd rfl z) fun z => absurd rfl z
    · rw [List.size_toArray, count]; exact lim63
    · simpa using rel
    · intro b u z
      have z' : (none : Option HO) = some u := z
      cases z'
theorem top_walk {l : PySem.W.OpenLaw} {q : Program} {loose : List Str} {XP : (Str → Option Value) → Heap → Prop} {YP : World → Heap → Prop} {d : DefRec} {K : Params → PySem.W.Frag} {x : Str} (most : l.most = some 63) (nodef : d.params.defaults = [])
    (hY : ∀ (w : World) (h : Heap), YP w h → (K w.params).In h)
    (F : ∀ (w : World) (mg : Str → Option Value) (fa : Addr) (h : Heap), (K w.params).In h → h.Ns mainGlobals mg → mg d.name = some (.ref fa) →
      ∃ fd : FuncData, (∀ (s : Shared) (u : Value), BindsTo s fd ⟨[u], []⟩ [(x, u)]) ∧ ∀ base : Heap, (K w.params).In base → base.Ns mainGlobals mg → TopOk l.prog w (K w.params) mg base fa fd x) :
    PySem.W.WalkO q loose XP YP l.row.toRowW d [] (fun f vs => PySem.call f vs) := by
  refine Att.attach_call most nodef ?_
  intro w s₀ s₁ mg mb fa o pm cd doc a vs ns G Y ho hd hcd hmg hobj hints hlen hg
  have inK := hY w _ Y
  obtain ⟨fd, hb, hF⟩ := F w mg fa _ inK G.T.g hmg
  exact top_call inK G.T.g G.T.b G.T.builtins G.T.nolimit hg hobj hints hlen hF hb
end Ask
-- AskFix
set_option Elab.async false
set_option linter.all false
set_option maxRecDepth 100000
/-! the orders of the two fixed rules, counted -/
namespace Ask
open PySem PySem.Spec PyProof.Rows L2
/-- the ways, unsorted -/
def waysU (r : Rule) (x : Pair) (n : Nat) : List Evt := (allEv r (rm0 x)).filter fun e => decide (x.2 < n) || !growing r (rm0 x) e
theorem waysU_iff (r : Rule) (x : Pair) (n : Nat) (e : Evt) : e ∈ waysU r x n ↔ e ∈ ways r x n := by
  unfold waysU ways evs
  rw [List.mem_filter, List.mem_filter, List.mem_mergeSort]
def stepU (r : Rule) (n : Nat) (s : NL) (x : Node) : NL := (waysU r x.1 n).foldl (stepE r x) s
def turnU (r : Rule) (n : Nat) (s : NL) : NL := s.2.foldl (stepU r n) (s.1, [])
theorem gr_us {r : Rule} {n : Nat} : ∀ (xs : List Node) (s : NL), (∀ x ∈ xs, Reach r n x) → s.1.Nodup → (∀ y ∈ s.1, Reach r n y) → Gr r n s (xs.foldl (stepU r n) s) ∧ ∀ x ∈ xs, Closed r n (xs.foldl (stepU r n) s).1 x
  | [], s, _, hn, hr => ⟨⟨hn, hr, [], by simp, by simp⟩, fun e he => by cases he⟩
  | x :: xs, s, hx, hn, hr => by
    obtain ⟨g1, g2⟩ := gr_evs (n := n) (hx x (List.mem_cons_self ..)) (waysU r x.1 n) s (fun _ h => (waysU_iff _ _ _ _).mp h) hn hr
    obtain ⟨g3, g4⟩ := gr_us xs (stepU r n s x) (fun e' h => hx e' (List.mem_cons_of_mem _ h)) g1.nd g1.re
    rw [List.foldl_cons]
    refine ⟨g1.trans g3, fun y h => ?_⟩
    rcases List.mem_cons.mp h with rfl | h
    · exact fun e he hq => g3.sub (g2 e ((waysU_iff _ _ _ _).mpr he) hq)
    · exact g4 y h
theorem bi_turnU {r : Rule} {n : Nat} {s : NL} (b : BI r n s) : BI r n (turnU r n s) := by
  obtain ⟨g1, g2⟩ := gr_us s.2 (s.1, []) (fun x hx => b.re x (b.la x hx)) b.nd b.re
  obtain ⟨M, h1, h2⟩ := g1.mo
  refine ⟨g1.nd, g1.re, fun y hy => ?_, g1.sub b.st, fun y hy hn => ?_⟩
  · unfold turnU at hy ⊢
    rw [h2, List.nil_append] at hy
    rw [h1]
    exact List.mem_append_right _ hy
  · unfold turnU at hy hn ⊢
    rw [h2, List.nil_append] at hn
    have hy0 : y ∈ s.1 := by
      rw [h1] at hy
      exact (List.mem_append.mp hy).resolve_right hn
    by_cases hl : y ∈ s.2
    · exact g2 y hl
    · exact fun e he hq => g1.sub (b.cl y hy0 hl e he hq)
def turnsU (r : Rule) (n : Nat) : Nat → NL
  | 0 => ([(([], 0), [])], [(([], 0), [])])
  | k + 1 => turnU r n (turnsU r n k)
theorem bi_turnsU (r : Rule) (n : Nat) : ∀ k, BI r n (turnsU r n k)
  | 0 => bi_start r n
  | k + 1 => bi_turnU (bi_turnsU r n k)
/-- the search ends behind k layers, and these are the orders -/
def okU (r : Rule) (n k : Nat) (os : List (List Int)) : Bool := (turnsU r n k).2.isEmpty && decide ((turnsU r n k).1.length ≤ 20000) && (foundO n (turnsU r n k).1).all (fun o => os.contains o) && os.all (fun o => (foundO n (turnsU r n k).1).contains o)
theorem ok_all {r : Rule} {n k : Nat} {os : List (List Int)} (h : okU r n k os = true) (hn : os.Nodup) (hp : os.Pairwise fun a b => a ≤ b) : Few r n 20000 ∧ Orders r n os := by
  unfold okU at h
  simp only [Bool.and_eq_true, decide_eq_true_eq] at h
  obtain ⟨⟨⟨h1, h2⟩, h3⟩, h4⟩ := h
  have hz : (turnsU r n k).2 = [] := List.isEmpty_iff.mp h1
  have all := fun x => bi_all (x := x) (bi_turnsU r n k) hz
  have ho := found_orders (bi_turnsU r n k).nd all
  refine ⟨⟨_, h2, fun x hx => (all x).mpr hx⟩, hn, hp, fun o => ?_⟩
  rw [← ho.2.2 o]
  unfold sortO
  rw [List.mem_mergeSort]
  constructor
  · intro hm
    have := List.all_eq_true.mp h4 o hm
    simpa using this
  · intro hm
    have := List.all_eq_true.mp h3 o hm
    simpa using this
def tidyR : Rule := ⟨2, 2, true, true, .asks, true, true⟩
def shyR : Rule := ⟨1, 0, false, false, .tells, false, true⟩
theorem tidy1 : Few tidyR 1 20000 ∧ Orders tidyR 1 [[0]] := ok_all (k := 10) (by decide +kernel) (by decide) (by decide)
theorem tidy2 : Few tidyR 2 20000 ∧ Orders tidyR 2 [[0, 1], [1]] := ok_all (k := 20) (by decide +kernel) (by decide) (by decide)
theorem shy2 : Few shyR 2 20000 ∧ Orders shyR 2 [[0, 1], [1, 0]] := ok_all (k := 20) (by decide +kernel) (by decide) (by decide)
end Ask
-- AskLaw3
set_option Elab.async false
set_option linter.all false
set_option maxRecDepth 100000
/-! the law itself -/
namespace Ask
open PySem PySem.Spec PyProof.Rows L2
variable {P : Program} {w : World} {K : PySem.W.Frag} {mg : Str → Option Value} {base : Heap} {C aP aC : Addr}
def sp_law (Θ : Th) : Sp := fun vs H Q _ => ∃ (a : Addr) (ns : List Int), vs = [.ref a] ∧ SqL Θ.K H a (ns.map V.int) ∧ ns.length ≤ 63 ∧ ∀ H', Q (.bl true) H'
abbrev s_law : Stmt := topS 73
theorem sc_law : FnScope ["_law_script", "_law_state", "_law_turn", "_law_rule_here", "_law_people", "_law_due_here", "_law_told_so", "_law_tidy", "_law_shy"] ["_law_script"] (C8.fnScope s_law) := C8.fnScope_by (by decide +kernel)
def t_law (Θ : Th) : TS :=
  (tSeq (tAsg (tCall (sp_L_begin Θ) [] C8.E0 (tCons (tVar 0) tNil)) (gName 1))
  (tSeq (tFor (iRng1 (tCons (tOp (rI0 fun i j => .int (i + j)) (tC (.int 1)) (tCB rMin2 (tCons (tC (.int 4)) (tCons (tCB (rLen Θ.K) (tCons (tVar 0) tNil)) tNil)))) tNil)) (gName 2) (tSeq (tPar 3 4 (tCons (tCall (sp_L_rule Θ) [] C8.E0 (tCons (tVar 1) tNil)) (tCons (tOp (rI0 fun i j => .int (i + j)) (tC (.int 1)) (tCall (sp_L_draw Θ) [] C8.E0 (tCons (tVar 1) (tCons (tC (.int 3)) tNil)))) tNil)))
  (tSeq (tAsg (tCall (sp_L_due Θ) [] C8.E0 (tCons (tVar 3) (tCons (tVar 4) (tCons (tC (.int 300)) tNil)))) (gName 5))
  (tIfS (tTest (tOp rNotNone (tVar 5) (tC .non))) (tSeq (tAsg (tLst (tCons (tCall (sp_orders_of Θ) [] C8.E0 (tCons (tVar 3) (tCons (tVar 4) tNil))) (tCons (tCall (sp_orders_of Θ) [] C8.E0 (tCons (tVar 3) (tCons (tVar 4) tNil))) tNil))) (gName 6))
  (tIfS (tTest (tOp rNe (tCB (rReprD Θ.K) (tCons (tVar 6) tNil)) (tCB (rReprD Θ.K) (tCons (tLst (tCons (tVar 5) (tCons (tVar 5) tNil))) tNil)))) (tRet (tC (.bl false))) tNext)) tNext))))
  (tSeq (tAsg (tTup (tCons (tC (.int 2)) (tCons (tC (.int 2)) (tCons (tC (.str "line")) (tCons (tC (.str "on")) (tCons (tC (.str "asks")) (tCons (tC (.str "told")) (tCons (tC (.str "asks")) tNil)))))))) (gName 7))
  (tSeq (tIfS (tOr (tTest (tOp (rNeD Θ.K) (tCall (sp_orders_of Θ) [] C8.E0 (tCons (tVar 7) (tCons (tC (.int 1)) tNil))) (tTup (tCons (tTup (tCons (tC (.int 0)) tNil)) tNil)))) (tTest (tOp (rNeD Θ.K) (tCall (sp_orders_of Θ) [] C8.E0 (tCons (tVar 7) (tCons (tC (.int 2)) tNil))) (tTup (tCons (tTup (tCons (tC (.int 0)) (tCons (tC (.int 1)) tNil))) (tCons (tTup (tCons (tC (.int 1)) tNil)) tNil)))))) (tRet (tC (.bl false))) tNext)
  (tSeq (tAsg (tTup (tCons (tC (.int 1)) (tCons (tC (.int 0)) (tCons (tC (.str "seen")) (tCons (tC (.str "none")) (tCons (tC (.str "tells")) (tCons (tC (.str "quiet")) (tCons (tC (.str "asks")) tNil)))))))) (gName 8))
  (tRet (tOp (rEqD Θ.K) (tCall (sp_orders_of Θ) [] C8.E0 (tCons (tVar 8) (tCons (tC (.int 2)) tNil))) (tTup (tCons (tTup (tCons (tC (.int 0)) (tCons (tC (.int 1)) tNil))) (tCons (tTup (tCons (tC (.int 1)) (tCons (tC (.int 0)) tNil))) tNil))))))))))
theorem d_law (T : Txt mg aP aC) (c_L_begin : C8.Cal P w K mg base 1 "_law_begin" (sp_L_begin ⟨P, w, K, C, aP, aC⟩) []) (c_L_draw : C8.Cal P w K mg base 2 "_law_draw" (sp_L_draw ⟨P, w, K, C, aP, aC⟩) []) (c_L_due : C8.Cal P w K mg base 7 "_law_due" (sp_L_due ⟨P, w, K, C, aP, aC⟩) []) (c_L_rule : C8.Cal P w K mg base 3 "_law_rule" (sp_L_rule ⟨P, w, K, C, aP, aC⟩) []) (c_orders_of : C8.Cal P w K mg base 8 "orders_of" (sp_orders_of ⟨P, w, K, C, aP, aC⟩) []) {f : Addr} {cdv : Value} {A : Around} {outer : List Env} {s : Shared} {H : Hp} {E : XK} (hr : Room 8 (A.deeper (envOfC "law" (C8.fnScope s_law) s.heap.objs.size f cdv))) (hg : (A.deeper (envOfC "law" (C8.fnScope s_law) s.heap.objs.size f cdv)).guards = some []) :
    PSs (cxOf C8.CX0 P w K mg base ["_law_script", "_law_state", "_law_turn", "_law_rule_here", "_law_people", "_law_due_here", "_law_told_so", "_law_tidy", "_law_shy"] "law" (C8.fnScope s_law) f cdv A outer s H E).nox (C8.fnBody s_law) (t_law ⟨P, w, K, C, aP, aC⟩) :=
  (pss_cons (ps_set (i := 1) sc_law.nd rfl (.inl rfl) (C8.pe_c c_L_begin hr (by decide) (by rfl) (pa_cons (pv 0) pa_nil)))
  (pss_cons (ps_for PassesOwn.never rfl (pi_range1 (by rfl) T.range (pa_cons (pe_op op_add pe_int (pe_callB (call_min2K rfl) (by rfl) T.min (by decide +kernel) (pa_cons pe_int (pa_cons (pe_callB call_lenK (by rfl) T.len (by decide +kernel) (pa_cons (pv 0) pa_nil)) pa_nil)))) pa_nil)) (pg_name (i := 2) sc_law.nd rfl (.inl rfl)) (pss_cons (ps_par (by rfl) sc_law.nd rfl rfl (by decide) rfl rfl (pa_cons (C8.pe_c c_L_rule hr (by decide) (by rfl) (pa_cons (pv 1) pa_nil)) (pa_cons (pe_op op_add pe_int (C8.pe_c c_L_draw hr (by decide) (by rfl) (pa_cons (pv 1) (pa_cons pe_int pa_nil)))) pa_nil)) (by rfl))
  (pss_cons (ps_set (i := 5) sc_law.nd rfl (.inl rfl) (C8.pe_c c_L_due hr (by decide) (by rfl) (pa_cons (pv 3) (pa_cons (pv 4) (pa_cons pe_int pa_nil)))))
  (pss_one (ps_if (pt_cmpR op_notNone (pv 5) pe_non (nomark _)) (pss_cons (ps_set (i := 6) sc_law.nd rfl (.inl rfl) (pe_lst (pa_cons (C8.pe_c c_orders_of hr (by decide) (by rfl) (pa_cons (pv 3) (pa_cons (pv 4) pa_nil))) (pa_cons (C8.pe_c c_orders_of hr (by decide) (by rfl) (pa_cons (pv 3) (pa_cons (pv 4) pa_nil))) pa_nil))))
  (pss_one (ps_if (pt_cmpR op_ne (pe_callB (call_reprK hg hr.units) (by rfl) T.repr (by decide +kernel) (pa_cons (pv 6) pa_nil)) (pe_callB (call_reprK hg hr.units) (by rfl) T.repr (by decide +kernel) (pa_cons (pe_lst (pa_cons (pv 5) (pa_cons (pv 5) pa_nil))) pa_nil)) (nomark _)) (pss_one (ps_ret pe_bl)) pss_nil))) pss_nil)))))
  (pss_cons (ps_set (i := 7) sc_law.nd rfl (.inl rfl) (pe_tup (pa_cons pe_int (pa_cons pe_int (pa_cons pe_str (pa_cons pe_str (pa_cons pe_str (pa_cons pe_str (pa_cons pe_str pa_nil)))))))))
  (pss_cons (ps_if (PW.pt (pw_or (pt_cmpR (op_neD hr.units) (C8.pe_c c_orders_of hr (by decide) (by rfl) (pa_cons (pv 7) (pa_cons pe_int pa_nil))) (pe_tup (pa_cons (pe_tup (pa_cons pe_int pa_nil)) pa_nil)) (nomark _)) (pw_or1 (pt_cmpR (op_neD hr.units) (C8.pe_c c_orders_of hr (by decide) (by rfl) (pa_cons (pv 7) (pa_cons pe_int pa_nil))) (pe_tup (pa_cons (pe_tup (pa_cons pe_int (pa_cons pe_int pa_nil))) (pa_cons (pe_tup (pa_cons pe_int pa_nil)) pa_nil))) (nomark _))))) (pss_one (ps_ret pe_bl)) pss_nil)
  (pss_cons (ps_set (i := 8) sc_law.nd rfl (.inl rfl) (pe_tup (pa_cons pe_int (pa_cons pe_int (pa_cons pe_str (pa_cons pe_str (pa_cons pe_str (pa_cons pe_str (pa_cons pe_str pa_nil)))))))))
  (pss_one (ps_ret (pe_cmpR (op_eqD hr.units) (C8.pe_c c_orders_of hr (by decide) (by rfl) (pa_cons (pv 8) (pa_cons pe_int pa_nil))) (pe_tup (pa_cons (pe_tup (pa_cons pe_int (pa_cons pe_int pa_nil))) (pa_cons (pe_tup (pa_cons pe_int (pa_cons pe_int pa_nil))) pa_nil))) (nomark _)))))))))
end Ask
-- AskLaw4
set_option Elab.async false
set_option linter.all false
set_option maxRecDepth 100000
/-! the law holds -/
namespace Ask
open PySem PySem.Spec PyProof.Rows L2
section
variable {Θ : Th}
/-- a call of orders_of, by data -/
theorem call_orders {E : XK} {B H : Hp} {vr : V} {r : Rule} {n : Nat} {os : List (List Int)} (s : Same B H) (d : Dp Θ.K B vr (dRule r)) (ok : RuleOk r) (h1 : 1 ≤ n) (h6 : n ≤ 6) (hf : Few r n 20000) (ho : Orders r n os) {Q : VK}
    (q : ∀ v H', Same H H' → Dp Θ.K (ext B H H') v (.tuple (os.map dNames)) → Q v H') : sp_orders_of Θ ([vr, .int (n : Nat)] ++ []) H Q E :=
  ⟨B, [dRule r, .int (n : Nat)], .tuple (os.map dNames), s, .cons d (.cons (.int _) .nil), ⟨r, n, os, ok, h1, h6, hf, ho, rfl, rfl⟩, q⟩
theorem few_up {r : Rule} {n a c : Nat} (h : Few r n a) (k : a ≤ c) : Few r n c := by
  obtain ⟨N, h1, h2⟩ := h
  exact ⟨N, Nat.le_trans h1 k, h2⟩
theorem eqv_orders : ∀ a c : List (List Int), a = c → PyData.eqv (.tuple (a.map dNames)) (.tuple (c.map dNames)) = true := by
  intro a c e
  subst e
  show PyData.eqvAll (a.map dNames) (a.map dNames) = true
  induction a with
  | nil => rfl
  | cons x xs ih =>
    show (PyData.eqv (dNames x) (dNames x) && PyData.eqvAll (xs.map dNames) (xs.map dNames)) = true
    rw [ih, show PyData.eqv (dNames x) (dNames x) = PyData.eqvAll (x.map .int) (x.map .int) from rfl, eqv_ints]
    simp
theorem shaped_os (os : List (List Int)) : SeqAt.shaped (.tuple (os.map dNames)) = true := lay_shaped (n := 2) (lay_tup fun d hd => by
  obtain ⟨o, hm, rfl⟩ := List.mem_map.mp hd
  exact lay_names o)
abbrev tBody (Θ : Th) : TS :=
  tSeq (tPar 3 4 (tCons (tCall (sp_L_rule Θ) [] C8.E0 (tCons (tVar 1) tNil)) (tCons (tOp (rI0 fun i j => .int (i + j)) (tC (.int 1)) (tCall (sp_L_draw Θ) [] C8.E0 (tCons (tVar 1) (tCons (tC (.int 3)) tNil)))) tNil)))
  (tSeq (tAsg (tCall (sp_L_due Θ) [] C8.E0 (tCons (tVar 3) (tCons (tVar 4) (tCons (tC (.int 300)) tNil)))) (gName 5))
  (tIfS (tTest (tOp rNotNone (tVar 5) (tC .non))) (tSeq (tAsg (tLst (tCons (tCall (sp_orders_of Θ) [] C8.E0 (tCons (tVar 3) (tCons (tVar 4) tNil))) (tCons (tCall (sp_orders_of Θ) [] C8.E0 (tCons (tVar 3) (tCons (tVar 4) tNil))) tNil))) (gName 6))
  (tIfS (tTest (tOp rNe (tCB (rReprD Θ.K) (tCons (tVar 6) tNil)) (tCB (rReprD Θ.K) (tCons (tLst (tCons (tVar 5) (tCons (tVar 5) tNil))) tNil)))) (tRet (tC (.bl false))) tNext)) tNext))
/-- one turn -/
theorem w_body {p c lf : Addr} {n : Nat} {σ : L2.St} {H : Hp} {D : Ends} (hσ : σ.length = 9) (h1 : σ[1]? = some (some (.ref p))) (S : StN p c lf H n) (hn : n < 3000)
    (q : ∀ σ' H', σ'.length = 9 → σ'[1]? = some (some (.ref p)) → StN p c lf H' (n + 8) → D.nx σ' H') : tBody Θ D σ H := by
  refine ⟨_, h1, p, c, lf, n, rfl, S, by omega, fun r vr H1 rok hdr k1 d1 S1 => ?_⟩
  refine ⟨_, h1, p, c, lf, n + 7, 3, rfl, S1, by omega, by decide, by decide, fun i H2 i0 i3 k2 d2 S2 => ?_⟩
  refine ⟨1, i, rfl, rfl, vr, _, rfl, ?_⟩
  obtain ⟨np, nlf⟩ := S.p_some
  obtain ⟨B, eB⟩ : ∃ B, B = ext (fun _ => none) H H1 := ⟨_, rfl⟩
  rw [← eB] at hdr
  have sB : Same B H2 := fun z o e => by
    rw [eB] at e
    by_cases hz : H z = none
    · rw [ext_new hz] at e
      exact k2 z o (fun e' => np (e' ▸ hz)) (fun e' => nlf (e' ▸ hz)) e
    · rw [ext_old hz] at e; cases e
  obtain ⟨m, em⟩ : ∃ m : Nat, 1 + i = (m : Int) := ⟨_, (Int.toNat_of_nonneg (by omega)).symm⟩
  have m1 : 1 ≤ m := by omega
  have m3 : m ≤ 3 := by omega
  show (tSeq _ _) D ((σ.set 3 (some vr)).set 4 (some (.int (1 + i)))) H2
  rw [em]
  have g3 : ((σ.set 3 (some vr)).set 4 (some (V.int (m : Int))))[3]? = some (some vr) := by
    rw [List.getElem?_set_ne (by decide), List.getElem?_set_self (by omega)]
  have g4 : ((σ.set 3 (some vr)).set 4 (some (V.int (m : Int))))[4]? = some (some (.int (m : Int))) := List.getElem?_set_self (by rw [List.length_set]; omega)
  have g1 : ((σ.set 3 (some vr)).set 4 (some (V.int (m : Int))))[1]? = some (some (.ref p)) := by
    rw [List.getElem?_set_ne (by decide), List.getElem?_set_ne (by decide)]; exact h1
  obtain ⟨σ2, e2⟩ : ∃ σ2, σ2 = (σ.set 3 (some vr)).set 4 (some (V.int (m : Int))) := ⟨_, rfl⟩
  have l2 : σ2.length = 9 := by rw [e2, List.length_set, List.length_set]; exact hσ
  rw [← e2] at g1 g3 g4 ⊢
  refine ⟨vr, g3, _, g4, B, [dRule r, .int (m : Nat), .int 300], sB, .cons hdr (.cons (.int _) (.cons (.int _) .nil)), ⟨r, m, rok, m1, m3, rfl⟩, fun d v H3 hG s3 dv => ?_⟩
  have hG := hG r m rfl
  have S3 := S2.same s3
  have l5 : (σ2.set 5 (some v)).length = 9 := by rw [List.length_set]; exact l2
  have f1 : (σ2.set 5 (some v))[1]? = some (some (.ref p)) := by rw [List.getElem?_set_ne (by decide)]; exact g1
  have f3 : (σ2.set 5 (some v))[3]? = some (some vr) := by rw [List.getElem?_set_ne (by decide)]; exact g3
  have f4 : (σ2.set 5 (some v))[4]? = some (some (.int (m : Int))) := by rw [List.getElem?_set_ne (by decide)]; exact g4
  have f5 : (σ2.set 5 (some v))[5]? = some (some v) := List.getElem?_set_self (by omega)
  refine ⟨v, f5, rfl, !decide (v = .non), rfl, ?_⟩
  rcases hG with rfl | ⟨os, few, ord, rfl⟩
  · cases dv
    exact q _ _ l5 f1 S3
  · obtain ⟨t, et⟩ : ∃ t, v = .ref t := by cases dv with | tup hs ha => exact ⟨_, rfl⟩
    have ne : (!decide (v = V.non)) = true := by rw [et]; rfl
    rw [ne]
    show (if true = true then _ else _ : Prop)
    rw [if_pos rfl]
    have sB3 : Same (ext B H2 H3) H3 := ext_same sB s3
    have few2 := few_up few (show 300 ≤ 20000 by decide)
    refine ⟨vr, f3, _, f4, call_orders sB3 (hdr.mono (same_ext sB)) rok m1 (by omega) few2 ord fun v1 H4 s4 dv1 => ?_⟩
    have sB4 : Same (ext (ext B H2 H3) H3 H4) H4 := ext_same sB3 s4
    refine ⟨vr, f3, _, f4, call_orders sB4 ((hdr.mono (same_ext sB)).mono (same_ext sB3)) rok m1 (by omega) few2 ord fun v2 H5 s5 dv2 => ?_⟩
    have sB5 : Same (ext (ext (ext B H2 H3) H3 H4) H4 H5) H5 := ext_same sB4 s5
    refine ⟨sz1000 (by show 2 ≤ _; decide), fun l6 n6 => ?_⟩
    have s6 : Same H5 (upd H5 l6 (.lst [v1, v2])) := same_new n6
    obtain ⟨H6, e6⟩ : ∃ H6, H6 = upd H5 l6 (.lst [v1, v2]) := ⟨_, rfl⟩
    have h6l : H6 l6 = some (.lst [v1, v2]) := by rw [e6, upd_same]
    rw [← e6] at s6
    rw [← e6]
    have sA : Same H3 H6 := (s4.trans s5).trans s6
    have S6 := S3.same sA
    obtain ⟨σ3, e3⟩ : ∃ σ3, σ3 = (σ2.set 5 (some v)).set 6 (some (.ref l6)) := ⟨_, rfl⟩
    have k1' : σ3[1]? = some (some (.ref p)) := by rw [e3, List.getElem?_set_ne (by decide)]; exact f1
    have k5 : σ3[5]? = some (some v) := by rw [e3, List.getElem?_set_ne (by decide)]; exact f5
    have k6 : σ3[6]? = some (some (.ref l6)) := by rw [e3]; exact List.getElem?_set_self (by omega)
    have k9 : σ3.length = 9 := by rw [e3, List.length_set]; exact l5
    show gName 6 (.ref l6) (σ2.set 5 (some v)) H6 _
    unfold gName
    rw [← e3]
    obtain ⟨t1, t2, t3, t4⟩ := told_short m3 few ord
    have D1 : Dp Θ.K H6 v1 (.tuple (os.map dNames)) := (dv1.mono sB4).mono (s5.trans s6)
    have D2 : Dp Θ.K H6 v2 (.tuple (os.map dNames)) := (dv2.mono sB5).mono s6
    have DD : Dp Θ.K H6 v (.tuple (os.map dNames)) := (dv.mono sB3).mono sA
    refine ⟨_, k6, l6, .list [.tuple (os.map dNames), .tuple (os.map dNames)], rfl, .lst (SqL.of h6l) (.cons D1 (.cons D2 .nil)), t1, t2, t3, t4, ?_⟩
    refine ⟨v, k5, v, k5, sz1000 (by show 2 ≤ _; decide), fun l7 n7 => ?_⟩
    have s7 : Same H6 (upd H6 l7 (.lst [v, v])) := same_new n7
    refine ⟨l7, .list [.tuple (os.map dNames), .tuple (os.map dNames)], rfl, .lst (SqL.of upd_same) (.cons (DD.mono s7) (.cons (DD.mono s7) .nil)), t1, t2, t3, t4, rfl, _, rfl, ?_⟩
    rw [show (!decide (V.str (PyData.list [.tuple (os.map dNames), .tuple (os.map dNames)]).shown = V.str (PyData.list [.tuple (os.map dNames), .tuple (os.map dNames)]).shown)) = false by simp]
    show (if false = true then _ else _ : Prop)
    rw [if_neg Bool.false_ne_true]
    exact q _ _ k9 k1' (S6.same s7)
theorem dp_rule {K : PySem.W.Frag} {B H : Hp} {l : Addr} {k t : Int} {b1 b2 b4 b5 : Str} {b3 : Str} (h : H l = some (.tup [.int k, .int t, .str b1, .str b2, .str b3, .str b4, .str b5])) : Dp K H (.ref l) (.tuple [.int k, .int t, .str b1, .str b2, .str b3, .str b4, .str b5]) :=
  .tup (SqT.of h) (.cons (.int _) (.cons (.int _) (.cons (.str _) (.cons (.str _) (.cons (.str _) (.cons (.str _) (.cons (.str _) .nil)))))))
theorem dp_names {K : PySem.W.Frag} {H : Hp} {l : Addr} {ns : List Int} (h : H l = some (.tup (ns.map .int))) : Dp K H (.ref l) (dNames ns) := .tup (SqT.of h) (dp_ints ns)
theorem w_law (vs : List V) (H : Hp) (Q : VK) (E : XK) (h : sp_law Θ vs H Q E) : t_law Θ { nx := fun _ H' => Q .non H', rt := Q } (L2.start ["_law_script", "_law_state", "_law_turn", "_law_rule_here", "_law_people", "_law_due_here", "_law_told_so", "_law_tidy", "_law_shy"] vs) H := by
  obtain ⟨a, ns, rfl, hs, hl, q⟩ := h
  unfold t_law
  refine ⟨_, rfl, a, ns, rfl, hs, hl, fun p c lf H1 s1 np nc nlf S => ?_⟩
  refine ⟨_, rfl, a, ns.map .int, rfl, .inl (s1.seq hs), 4, ((ns.map V.int).length : Int), rfl, 1, _, rfl, rfl, _, rfl, ?_⟩
  have hlen : ((ns.map V.int).length : Int) = ns.length := by rw [List.length_map]
  rw [hlen]
  obtain ⟨m, em⟩ : ∃ m : Nat, (1 + if (ns.length : Int) < 4 then (ns.length : Int) else 4) = (m : Int) := ⟨_, (Int.toNat_of_nonneg (by split <;> omega)).symm⟩
  have hm : m ≤ 5 := by
    have : (1 + if (ns.length : Int) < 4 then (ns.length : Int) else 4) ≤ 5 := by split <;> omega
    omega
  rw [em]
  refine ⟨by omega, by omega, ?_⟩
  obtain ⟨σ0, e0⟩ : ∃ σ0, σ0 = (L2.start ["_law_script", "_law_state", "_law_turn", "_law_rule_here", "_law_people", "_law_due_here", "_law_told_so", "_law_tidy", "_law_shy"] [V.ref a]).set 1 (some (.ref p)) := ⟨_, rfl⟩
  have l0 : σ0.length = 9 := by rw [e0]; rfl
  have g0 : σ0[1]? = some (some (.ref p)) := by rw [e0]; rfl
  rw [← e0]
  refine ⟨fun i k σ' Hi => k = m - i ∧ i ≤ m ∧ σ'.length = 9 ∧ σ'[1]? = some (some (.ref p)) ∧ StN p c lf Hi (8 * i), ⟨m, by simp, Nat.zero_le _, l0, g0, S⟩, ?_⟩
  rintro i k σ' Hi ⟨rfl, hi, l1, g1, Si⟩
  by_cases hlt : i < m
  · refine .inr ⟨by show i < ((m : Nat) : Int).toNat; omega, fun σ2 H2 => σ2.length = 9 ∧ σ2[1]? = some (some (.ref p)) ∧ StN p c lf H2 (8 * (i + 1)), fun σ2 H2 ⟨z1, z2, z3⟩ => ⟨m - (i + 1), by omega, rfl, hlt, z1, z2, z3⟩, ?_⟩
    rintro x H2 ⟨rfl, rfl⟩
    exact w_body (by rw [List.length_set]; exact l1) (by rw [List.getElem?_set_ne (by decide)]; exact g1) Si (by omega) fun σ3 H3 z1 z2 z3 => ⟨z1, z2, z3⟩
  · have ei : i = m := by omega
    subst ei
    refine .inl ⟨by show ((i : Nat) : Int).toNat ≤ i; omega, ?_⟩
    -- the tidy rule
    refine ⟨sz1000 (by show 7 ≤ _; decide), fun t7 n7 => ?_⟩
    obtain ⟨H2, e2⟩ : ∃ H2, H2 = upd Hi t7 (.tup [.int 2, .int 2, .str "line", .str "on", .str "asks", .str "told", .str "asks"]) := ⟨_, rfl⟩
    have h2 : H2 t7 = some (.tup [.int 2, .int 2, .str "line", .str "on", .str "asks", .str "told", .str "asks"]) := by rw [e2, upd_same]
    show gName 7 (.ref t7) σ' (upd Hi t7 (.tup [.int 2, .int 2, .str "line", .str "on", .str "asks", .str "told", .str "asks"])) _
    rw [← e2]
    obtain ⟨σ2, es2⟩ : ∃ σ2, σ2 = σ'.set 7 (some (.ref t7)) := ⟨_, rfl⟩
    have k7 : σ2[7]? = some (some (.ref t7)) := by rw [es2]; exact List.getElem?_set_self (by omega)
    have k9 : σ2.length = 9 := by rw [es2, List.length_set]; exact l1
    unfold gName
    rw [← es2]
    have dT : Dp Θ.K H2 (.ref t7) (dRule tidyR) := dp_rule (B := H2) h2
    refine ⟨_, k7, call_orders (E := C8.E0) (n := 1) (Same.refl H2) dT ⟨by decide, by decide, by decide⟩ (by decide) (by decide) tidy1.1 tidy1.2 fun v1 H3 s3 d1 => ?_⟩
    have d1' : Dp Θ.K H3 v1 (.tuple (([[0]] : List (List Int)).map dNames)) := d1.mono (ext_same (Same.refl _) s3)
    refine ⟨sz1000 (by show 1 ≤ _; decide), fun x1 nx1 => ⟨sz1000 (by show 1 ≤ _; decide), fun x2 nx2 => ?_⟩⟩
    have sx1 : Same H3 (upd H3 x1 (.tup [.int 0])) := same_new nx1
    have sx2 : Same (upd H3 x1 (.tup [.int 0])) (upd (upd H3 x1 (.tup [.int 0])) x2 (.tup [.ref x1])) := same_new nx2
    have w1 : Dp Θ.K (upd (upd H3 x1 (.tup [.int 0])) x2 (.tup [.ref x1])) (.ref x2) (.tuple (([[0]] : List (List Int)).map dNames)) :=
      .tup (SqT.of upd_same) (.cons (dp_names (ns := [0]) (sx2 _ _ upd_same)) .nil)
    refine ⟨_, _, d1'.mono (sx1.trans sx2), w1, shaped_os _, shaped_os _, _, rfl, ?_⟩
    rw [eqv_orders _ _ rfl]
    show (if false = true then _ else _ : Prop)
    rw [if_neg Bool.false_ne_true]
    have s23 := (s3.trans sx1).trans sx2
    refine ⟨_, k7, call_orders (E := C8.E0) (n := 2) (Same.refl _) (dT.mono s23) ⟨by decide, by decide, by decide⟩ (by decide) (by decide) tidy2.1 tidy2.2 fun v2 H4 s4 d2 => ?_⟩
    have d2' : Dp Θ.K H4 v2 (.tuple (([[0, 1], [1]] : List (List Int)).map dNames)) := d2.mono (ext_same (Same.refl _) s4)
    refine ⟨sz1000 (by show 2 ≤ _; decide), fun y1 ny1 => ⟨sz1000 (by show 1 ≤ _; decide), fun y2 ny2 => ⟨sz1000 (by show 2 ≤ _; decide), fun y3 ny3 => ?_⟩⟩⟩
    have sy1 : Same H4 (upd H4 y1 (.tup [.int 0, .int 1])) := same_new ny1
    have sy2 : Same (upd H4 y1 (.tup [.int 0, .int 1])) (upd (upd H4 y1 (.tup [.int 0, .int 1])) y2 (.tup [.int 1])) := same_new ny2
    have sy3 : Same (upd (upd H4 y1 (.tup [.int 0, .int 1])) y2 (.tup [.int 1])) (upd (upd (upd H4 y1 (.tup [.int 0, .int 1])) y2 (.tup [.int 1])) y3 (.tup [.ref y1, .ref y2])) := same_new ny3
    have w2 : Dp Θ.K (upd (upd (upd H4 y1 (.tup [.int 0, .int 1])) y2 (.tup [.int 1])) y3 (.tup [.ref y1, .ref y2])) (.ref y3) (.tuple (([[0, 1], [1]] : List (List Int)).map dNames)) :=
      .tup (SqT.of upd_same) (.cons (dp_names (ns := [0, 1]) (sy3 _ _ (sy2 _ _ upd_same))) (.cons (dp_names (ns := [1]) (sy3 _ _ upd_same)) .nil))
    refine ⟨_, _, d2'.mono ((sy1.trans sy2).trans sy3), w2, shaped_os _, shaped_os _, _, rfl, ?_⟩
    rw [eqv_orders _ _ rfl]
    show (if false = true then _ else _ : Prop)
    rw [if_neg Bool.false_ne_true]
    -- the shy rule
    refine ⟨sz1000 (by show 7 ≤ _; decide), fun t8 n8 => ?_⟩
    obtain ⟨H5, e5⟩ : ∃ H5, H5 = upd (upd (upd (upd H4 y1 (.tup [.int 0, .int 1])) y2 (.tup [.int 1])) y3 (.tup [.ref y1, .ref y2])) t8 (.tup [.int 1, .int 0, .str "seen", .str "none", .str "tells", .str "quiet", .str "asks"]) := ⟨_, rfl⟩
    have h5 : H5 t8 = some (.tup [.int 1, .int 0, .str "seen", .str "none", .str "tells", .str "quiet", .str "asks"]) := by rw [e5, upd_same]
    show gName 8 (.ref t8) σ2 (upd (upd (upd (upd H4 y1 (.tup [.int 0, .int 1])) y2 (.tup [.int 1])) y3 (.tup [.ref y1, .ref y2])) t8 (.tup [.int 1, .int 0, .str "seen", .str "none", .str "tells", .str "quiet", .str "asks"])) _
    rw [← e5]
    have dS : Dp Θ.K H5 (.ref t8) (dRule shyR) := dp_rule (B := H5) h5
    refine ⟨_, List.getElem?_set_self (by omega), call_orders (E := C8.E0) (n := 2) (Same.refl H5) dS ⟨by decide, by decide, by decide⟩ (by decide) (by decide) shy2.1 shy2.2 fun v3 H6 s6 d3 => ?_⟩
    have d3' : Dp Θ.K H6 v3 (.tuple (([[0, 1], [1, 0]] : List (List Int)).map dNames)) := d3.mono (ext_same (Same.refl _) s6)
    refine ⟨sz1000 (by show 2 ≤ _; decide), fun z1 nz1 => ⟨sz1000 (by show 2 ≤ _; decide), fun z2 nz2 => ⟨sz1000 (by show 2 ≤ _; decide), fun z3 nz3 => ?_⟩⟩⟩
    have sz1 : Same H6 (upd H6 z1 (.tup [.int 0, .int 1])) := same_new nz1
    have sz2 : Same (upd H6 z1 (.tup [.int 0, .int 1])) (upd (upd H6 z1 (.tup [.int 0, .int 1])) z2 (.tup [.int 1, .int 0])) := same_new nz2
    have sz3 : Same (upd (upd H6 z1 (.tup [.int 0, .int 1])) z2 (.tup [.int 1, .int 0])) (upd (upd (upd H6 z1 (.tup [.int 0, .int 1])) z2 (.tup [.int 1, .int 0])) z3 (.tup [.ref z1, .ref z2])) := same_new nz3
    have w3 : Dp Θ.K (upd (upd (upd H6 z1 (.tup [.int 0, .int 1])) z2 (.tup [.int 1, .int 0])) z3 (.tup [.ref z1, .ref z2])) (.ref z3) (.tuple (([[0, 1], [1, 0]] : List (List Int)).map dNames)) :=
      .tup (SqT.of upd_same) (.cons (dp_names (ns := [0, 1]) (sz3 _ _ (sz2 _ _ upd_same))) (.cons (dp_names (ns := [1, 0]) (sz3 _ _ upd_same)) .nil))
    refine ⟨_, _, d3'.mono ((sz1.trans sz2).trans sz3), w3, shaped_os _, shaped_os _, ?_⟩
    rw [eqv_orders _ _ rfl]
    exact q _
end
end Ask
-- AskOkL
set_option Elab.async false
set_option linter.all false
set_option maxRecDepth 100000
/-! the law's defs keep their promises -/
namespace Ask
open PySem PySem.Spec PyProof.Rows L2
section
variable {Θ : Th} {vs : List V} {H : Hp} {Q : VK} {E : XK} {n : Nat}
theorem len_spN {G : List PyData → PyData → Prop} (hG : ∀ ds d, G ds d → ds.length = n) (h : spN Θ G vs H Q E) : vs.length = n := by
  obtain ⟨H0, ds, d, _, hv, g, _⟩ := h
  rw [hv.length, hG ds d g]
theorem len_spNL {G : List PyData → List PyData → Prop} (hG : ∀ ds d, G ds d → ds.length = n) (h : spNL Θ G vs H Q E) : vs.length = n := by
  obtain ⟨H0, ds, d, _, hv, g, _⟩ := h
  rw [hv.length, hG ds d g]
theorem len_spDR {G : List PyData → List RowD → Prop} (hG : ∀ ds d, G ds d → ds.length = n) (h : spDR Θ G vs H Q E) : vs.length = n := by
  obtain ⟨H0, ds, d, _, hv, g, _⟩ := h
  rw [hv.length, hG ds d g]
theorem len_spC {G : List PyData → PyData → Prop} {I : List PyData → Prop} (hG : ∀ ds, I ds → ds.length = n) (h : spC Θ G I vs H Q E) : vs.length = n := by
  obtain ⟨H0, ds, _, hv, g, _⟩ := h
  rw [hv.length, hG ds g]
theorem len_spRn {G : List RowD → List PyData → List RowD → Prop} (hG : ∀ l ds d, G l ds d → ds.length = n) (h : spRn Θ G vs H Q E) : vs.length = n + 1 := by
  obtain ⟨p, as, vr, us, H0, ds, l, l', rfl, _, _, _, hv, g, _⟩ := h
  have := hv.length
  rw [hG l ds l' g, List.length_cons] at this
  rw [List.length_cons, List.length_cons, this]
theorem len_spRw {G : List RowD → List PyData → List RowD → Prop} (hG : ∀ l ds d, G l ds d → ds.length = n) (h : spRw Θ G vs H Q E) : vs.length = n + 1 := by
  obtain ⟨p, as, vr, us, H0, ds, l, l', rfl, _, _, _, hv, g, _⟩ := h
  have := hv.length
  rw [hG l ds l' g, List.length_cons] at this
  rw [List.length_cons, List.length_cons, this]
theorem len_spRb {G : List RowD → List PyData → List RowD → Int → Prop} (hG : ∀ l ds d c, G l ds d c → ds.length = n) (h : spRb Θ G vs H Q E) : vs.length = n + 1 := by
  obtain ⟨p, as, vr, us, H0, ds, l, l', c, rfl, _, _, _, hv, g, _⟩ := h
  have := hv.length
  rw [hG l ds l' c g, List.length_cons] at this
  rw [List.length_cons, List.length_cons, this]
theorem len_L_begin (h : sp_L_begin Θ vs H Q E) : vs.length = 1 := by
  obtain ⟨a, ns, rfl, _⟩ := h
  rfl
theorem len_L_draw (h : sp_L_draw Θ vs H Q E) : vs.length = 2 := by
  obtain ⟨p, c, lf, n, many, rfl, _⟩ := h
  rfl
theorem len_L_rule (h : sp_L_rule Θ vs H Q E) : vs.length = 1 := by
  obtain ⟨p, c, lf, n, rfl, _⟩ := h
  rfl
theorem len_law (h : sp_law Θ vs H Q E) : vs.length = 1 := by
  obtain ⟨a, ns, rfl, _⟩ := h
  rfl
theorem fn_spDM {N : List Str} {t : TS} {G : List PyData → PyData → Prop} (hG : ∀ ds d, G ds d → ds.length = n) (hn : n ≤ N.length) (h : ∀ ds d, G ds d → ∀ F : Frm, (∀ a, ¬ F.M a) → SDr Θ F t (datS ds N.length) d anyP) (vs : List V) (H : Hp) (Q : VK) (E : XK) (hsp : spD Θ G vs H Q E) :
    t { nx := fun _ H' => Q .non H', rt := Q } (L2.start N vs) H := by
  obtain ⟨H0, ds, d, s, hv, hg, q⟩ := hsp
  refine h ds d hg ⟨H, H0, fun _ => False⟩ (fun _ h => h) _ _ _ _ _ (start_St (by rw [hv.length, hG ds d hg]; exact hn) s hv) _ ?_
  intro v σ' H0' Hb' H' A' δ' _ st' dv
  exact q v H' (fun z o e => st'.keep z o (fun m => m) e) dv
theorem rule_inj {r r' : Rule} (h : dRule r = dRule r') : r = r' := by
  have h := PyData.tuple.inj h
  injection h with h1 h
  injection h with h2 h
  injection h with h3 h
  injection h with h4 h
  injection h with h5 h
  injection h with h6 h
  injection h with h7 _
  obtain ⟨k, t, a, b, c, d, e⟩ := r
  obtain ⟨k', t', a', b', c', d', e'⟩ := r'
  have i1 : ∀ x y : Bool, sLine x = sLine y → x = y := by intro x y; cases x <;> cases y <;> decide +kernel
  have i2 : ∀ x y : Bool, sOn x = sOn y → x = y := by intro x y; cases x <;> cases y <;> decide +kernel
  have i3 : ∀ x y : Bk, x.s = y.s → x = y := by intro x y; cases x <;> cases y <;> decide +kernel
  have i4 : ∀ x y : Bool, sTold x = sTold y → x = y := by intro x y; cases x <;> cases y <;> decide +kernel
  have i5 : ∀ x y : Bool, sAsks x = sAsks y → x = y := by intro x y; cases x <;> cases y <;> decide +kernel
  have e1 : k = k' := by have h8 : (k : Int) = (k' : Int) := PyData.int.inj h1; omega
  have e2 : t = t' := by have h8 : (t : Int) = (t' : Int) := PyData.int.inj h2; omega
  have e3 : a = a' := i1 _ _ (PyData.str.inj h3)
  have e4 : b = b' := i2 _ _ (PyData.str.inj h4)
  have e5 : c = c' := i3 _ _ (PyData.str.inj h5)
  have e6 : d = d' := i4 _ _ (PyData.str.inj h6)
  have e7 : e = e' := i5 _ _ (PyData.str.inj h7)
  rw [e1, e2, e3, e4, e5, e6, e7]
theorem due_is {r : Rule} {n : Nat} (rok : RuleOk r) (h1 : 1 ≤ n) (h3 : n ≤ 3) (F : Frm) : SDc Θ F (t_L_due Θ) [.dat (dRule r), .dat (.int n), .dat (.int 300), .un, .un, .un, .un, .un, .un] (G_L_due [dRule r, .int (n : Nat), .int 300]) := fun σ H0 Hb H A st D fin =>
  r_L_due r n rok h1 h3 F σ H0 Hb H A st D fun d v σ' a c e g δ' hz st' dv => fin d v σ' a c e g δ' (fun r' n' e' => by
    injection e' with e1 e2
    injection e2 with e2 _
    have hn : n = n' := by have := PyData.int.inj e2; omega
    subst hn
    have hr : r = r' := rule_inj e1
    subst hr
    exact hz) st' dv
end
variable {P : Program} {w : World} {K : PySem.W.Frag} {mg : Str → Option Value} {base : Heap} {C aP aC : Addr}
theorem ok_L_mixed (T : Txt mg aP aC) {f : Addr} {fd : FuncData} (D : C8.Def K mg "_law_mixed" s_L_mixed f fd) (b : Binds K fd ["_law_cell", "_law_k"] []) : C8.Cal P w K mg base 1 "_law_mixed" (sp_L_mixed ⟨P, w, K, C, aP, aC⟩) [] :=
  C8.cal0 D b .nil sc_L_mixed (fun vs H Q E h => len_spD (n := 2) (fun ds d g => by obtain ⟨a, k, rfl, h0, h1, rfl⟩ := g; rfl) h) fun cdv A outer s H vs Q E hr h => ⟨t_L_mixed ⟨P, w, K, C, aP, aC⟩, d_L_mixed T hr, fn_spD (N := ["_law_cell", "_law_k"]) (n := 2) (fun ds d g => by obtain ⟨a, k, rfl, h0, h1, rfl⟩ := g; rfl) (by decide) (fun ds d g F => by obtain ⟨a, k, rfl, h0, h1, rfl⟩ := g; exact r_L_mixed a k h0 h1 F) vs H Q E h⟩
theorem ok_L_begin (T : Txt mg aP aC) {f : Addr} {fd : FuncData} (D : C8.Def K mg "_law_begin" s_L_begin f fd) (b : Binds K fd ["_law_script"] []) : C8.Cal P w K mg base 1 "_law_begin" (sp_L_begin ⟨P, w, K, C, aP, aC⟩) [] :=
  C8.cal0 D b .nil sc_L_begin (fun vs H Q E h => len_L_begin h) fun cdv A outer s H vs Q E hr h => ⟨t_L_begin ⟨P, w, K, C, aP, aC⟩, d_L_begin T hr, w_L_begin vs H Q E h⟩
theorem ok_L_draw (T : Txt mg aP aC) (c_L_mixed : C8.Cal P w K mg base 1 "_law_mixed" (sp_L_mixed ⟨P, w, K, C, aP, aC⟩) []) {f : Addr} {fd : FuncData} (D : C8.Def K mg "_law_draw" s_L_draw f fd) (b : Binds K fd ["_law_state", "_law_many"] []) : C8.Cal P w K mg base 2 "_law_draw" (sp_L_draw ⟨P, w, K, C, aP, aC⟩) [] :=
  C8.cal0 D b .nil sc_L_draw (fun vs H Q E h => len_L_draw h) fun cdv A outer s H vs Q E hr h => ⟨t_L_draw ⟨P, w, K, C, aP, aC⟩, d_L_draw T c_L_mixed hr, w_L_draw vs H Q E h⟩
theorem ok_L_names (T : Txt mg aP aC) {f : Addr} {fd : FuncData} (D : C8.Def K mg "_law_names" s_L_names f fd) (b : Binds K fd ["_law_rule_here", "_law_line", "_law_spot"] []) : C8.Cal P w K mg base 1 "_law_names" (sp_L_names ⟨P, w, K, C, aP, aC⟩) [] :=
  C8.cal0 D b .nil sc_L_names (fun vs H Q E h => len_spN (n := 3) (fun ds d g => by obtain ⟨r, l, s, rfl, hl, rfl⟩ := g; rfl) h) fun cdv A outer s H vs Q E hr h => ⟨t_L_names ⟨P, w, K, C, aP, aC⟩, d_L_names T hr, fn_spN (N := ["_law_rule_here", "_law_line", "_law_spot", "_law_hows", "_law_row"]) (n := 3) (fun ds d g => by obtain ⟨r, l, s, rfl, hl, rfl⟩ := g; rfl) (by decide) (fun ds d g F => by obtain ⟨r, l, s, rfl, hl, rfl⟩ := g; exact r_L_names r l s hl F) vs H Q E h⟩
theorem ok_L_renew (T : Txt mg aP aC) (c_L_names : C8.Cal P w K mg base 1 "_law_names" (sp_L_names ⟨P, w, K, C, aP, aC⟩) []) {f : Addr} {fd : FuncData} (D : C8.Def K mg "_law_renew" s_L_renew f fd) (b : Binds K fd ["_law_rule_here", "_law_line", "_law_spots"] []) : C8.Cal P w K mg base 2 "_law_renew" (sp_L_renew ⟨P, w, K, C, aP, aC⟩) [] :=
  C8.cal0 D b .nil sc_L_renew (fun vs H Q E h => len_spRn (n := 2) (fun l ds d g => by obtain ⟨r, ln, ss, rfl, rfl, hl, hs, rfl⟩ := g; rfl) h) fun cdv A outer s H vs Q E hr h => ⟨t_L_renew ⟨P, w, K, C, aP, aC⟩, d_L_renew T c_L_names hr, fn_spRn (N := ["_law_rule_here", "_law_line", "_law_spots", "_law_fresh", "_law_spot"]) (n := 2) (fun l ds d g => by obtain ⟨r, ln, ss, rfl, rfl, hl, hs, rfl⟩ := g; rfl) (by decide) (fun l ds d g F pa => by obtain ⟨r, ln, ss, rfl, rfl, hl, hs, rfl⟩ := g; exact r_L_renew r ln ss hl hs F pa) vs H Q E h⟩
theorem ok_L_gone (T : Txt mg aP aC) (c_L_renew : C8.Cal P w K mg base 2 "_law_renew" (sp_L_renew ⟨P, w, K, C, aP, aC⟩) []) {f : Addr} {fd : FuncData} (D : C8.Def K mg "_law_gone" s_L_gone f fd) (b : Binds K fd ["_law_rule_here", "_law_line", "_law_person"] []) : C8.Cal P w K mg base 3 "_law_gone" (sp_L_gone ⟨P, w, K, C, aP, aC⟩) [] :=
  C8.cal0 D b .nil sc_L_gone (fun vs H Q E h => len_spRw (n := 2) (fun l ds d g => by obtain ⟨r, ln, p, rfl, rfl, hl, rfl⟩ := g; rfl) h) fun cdv A outer s H vs Q E hr h => ⟨t_L_gone ⟨P, w, K, C, aP, aC⟩, d_L_gone T c_L_renew hr, fn_spRw (N := ["_law_rule_here", "_law_line", "_law_person", "_law_rows", "_law_hit", "_law_spot", "_law_row", "_law_name"]) (n := 2) (fun l ds d g => by obtain ⟨r, ln, p, rfl, rfl, hl, rfl⟩ := g; rfl) (by decide) (fun l ds d g F pa => by obtain ⟨r, ln, p, rfl, rfl, hl, rfl⟩ := g; exact r_L_gone r ln p hl F pa) vs H Q E h⟩
theorem ok_L_here (T : Txt mg aP aC) {f : Addr} {fd : FuncData} (D : C8.Def K mg "_law_here" s_L_here f fd) (b : Binds K fd ["_law_line"] []) : C8.Cal P w K mg base 1 "_law_here" (sp_L_here ⟨P, w, K, C, aP, aC⟩) [] :=
  C8.cal0 D b .nil sc_L_here (fun vs H Q E h => len_spN (n := 1) (fun ds d g => by obtain ⟨l, rfl, hl, rfl⟩ := g; rfl) h) fun cdv A outer s H vs Q E hr h => ⟨t_L_here ⟨P, w, K, C, aP, aC⟩, d_L_here T hr, fn_spN (N := ["_law_line", "_law_row"]) (n := 1) (fun ds d g => by obtain ⟨l, rfl, hl, rfl⟩ := g; rfl) (by decide) (fun ds d g F => by obtain ⟨l, rfl, hl, rfl⟩ := g; exact r_L_here l hl F) vs H Q E h⟩
theorem ok_L_asked (T : Txt mg aP aC) (c_L_renew : C8.Cal P w K mg base 2 "_law_renew" (sp_L_renew ⟨P, w, K, C, aP, aC⟩) []) {f : Addr} {fd : FuncData} (D : C8.Def K mg "_law_asked" s_L_asked f fd) (b : Binds K fd ["_law_rule_here", "_law_line"] []) : C8.Cal P w K mg base 3 "_law_asked" (sp_L_asked ⟨P, w, K, C, aP, aC⟩) [] :=
  C8.cal0 D b .nil sc_L_asked (fun vs H Q E h => len_spDR (n := 2) (fun ds d g => by obtain ⟨r, l, rfl, hl, rfl⟩ := g; rfl) h) fun cdv A outer s H vs Q E hr h => ⟨t_L_asked ⟨P, w, K, C, aP, aC⟩, d_L_asked T c_L_renew hr, fn_spDR (N := ["_law_rule_here", "_law_line", "_law_rows", "_law_row", "_law_spot"]) (n := 2) (fun ds d g => by obtain ⟨r, l, rfl, hl, rfl⟩ := g; rfl) (by decide) (fun ds d g F hM => by obtain ⟨r, l, rfl, hl, rfl⟩ := g; exact r_L_asked r l hl F hM) vs H Q E h⟩
theorem ok_L_claims (T : Txt mg aP aC) (c_L_here : C8.Cal P w K mg base 1 "_law_here" (sp_L_here ⟨P, w, K, C, aP, aC⟩) []) {f : Addr} {fd : FuncData} (D : C8.Def K mg "_law_claims" s_L_claims f fd) (b : Binds K fd ["_law_rule_here", "_law_rows"] []) : C8.Cal P w K mg base 2 "_law_claims" (sp_L_claims ⟨P, w, K, C, aP, aC⟩) [] :=
  C8.cal0 D b .nil sc_L_claims (fun vs H Q E h => len_spNL (n := 2) (fun ds d g => by obtain ⟨r, l, rfl, hl, rfl⟩ := g; rfl) h) fun cdv A outer s H vs Q E hr h => ⟨t_L_claims ⟨P, w, K, C, aP, aC⟩, d_L_claims T c_L_here hr, fn_spNL (N := ["_law_rule_here", "_law_rows", "_law_here_here", "_law_got", "_law_person", "_law_how_here", "_law_names_here", "_law_name"]) (n := 2) (fun ds d g => by obtain ⟨r, l, rfl, hl, rfl⟩ := g; rfl) (by decide) (fun ds d g F => by obtain ⟨r, l, rfl, hl, rfl⟩ := g; exact r_L_claims r l hl F) vs H Q E h⟩
theorem ok_L_come (T : Txt mg aP aC) (c_L_renew : C8.Cal P w K mg base 2 "_law_renew" (sp_L_renew ⟨P, w, K, C, aP, aC⟩) []) {f : Addr} {fd : FuncData} (D : C8.Def K mg "_law_come" s_L_come f fd) (b : Binds K fd ["_law_rule_here", "_law_line", "_law_spot", "_law_person"] []) : C8.Cal P w K mg base 3 "_law_come" (sp_L_come ⟨P, w, K, C, aP, aC⟩) [] :=
  C8.cal0 D b .nil sc_L_come (fun vs H Q E h => len_spRw (n := 3) (fun l ds d g => by obtain ⟨r, ln, s, pn, rfl, rfl, hl, hn, hs, rfl⟩ := g; rfl) h) fun cdv A outer s H vs Q E hr h => ⟨t_L_come ⟨P, w, K, C, aP, aC⟩, d_L_come T c_L_renew hr, fn_spRw (N := ["_law_rule_here", "_law_line", "_law_spot", "_law_person", "_law_rows"]) (n := 3) (fun l ds d g => by obtain ⟨r, ln, s, pn, rfl, rfl, hl, hn, hs, rfl⟩ := g; rfl) (by decide) (fun l ds d g F pa => by obtain ⟨r, ln, s, pn, rfl, rfl, hl, hn, hs, rfl⟩ := g; exact r_L_come r ln s pn hl hn hs F pa) vs H Q E h⟩
theorem ok_L_how (T : Txt mg aP aC) {f : Addr} {fd : FuncData} (D : C8.Def K mg "_law_how" s_L_how f fd) (b : Binds K fd ["_law_line", "_law_person"] []) : C8.Cal P w K mg base 1 "_law_how" (sp_L_how ⟨P, w, K, C, aP, aC⟩) [] :=
  C8.cal0 D b .nil sc_L_how (fun vs H Q E h => len_spN (n := 2) (fun ds d g => by obtain ⟨l, p, rfl, hl, rfl⟩ := g; rfl) h) fun cdv A outer s H vs Q E hr h => ⟨t_L_how ⟨P, w, K, C, aP, aC⟩, d_L_how T hr, fn_spN (N := ["_law_line", "_law_person", "_law_row"]) (n := 2) (fun ds d g => by obtain ⟨l, p, rfl, hl, rfl⟩ := g; rfl) (by decide) (fun ds d g F => by obtain ⟨l, p, rfl, hl, rfl⟩ := g; exact r_L_how l p hl F) vs H Q E h⟩
theorem ok_L_can (T : Txt mg aP aC) (c_L_here : C8.Cal P w K mg base 1 "_law_here" (sp_L_here ⟨P, w, K, C, aP, aC⟩) []) (c_L_how : C8.Cal P w K mg base 1 "_law_how" (sp_L_how ⟨P, w, K, C, aP, aC⟩) []) {f : Addr} {fd : FuncData} (D : C8.Def K mg "_law_can" s_L_can f fd) (b : Binds K fd ["_law_rule_here", "_law_room", "_law_event"] []) : C8.Cal P w K mg base 2 "_law_can" (sp_L_can ⟨P, w, K, C, aP, aC⟩) [] :=
  C8.cal0 D b .nil sc_L_can (fun vs H Q E h => len_spN (n := 3) (fun ds d g => by obtain ⟨r, m, e, rfl, hl, rfl⟩ := g; rfl) h) fun cdv A outer s H vs Q E hr h => ⟨t_L_can ⟨P, w, K, C, aP, aC⟩, d_L_can T c_L_here c_L_how hr, fn_spN (N := ["_law_rule_here", "_law_room", "_law_event", "_law_line", "_law_came", "_law_served", "_law_how_here"]) (n := 3) (fun ds d g => by obtain ⟨r, m, e, rfl, hl, rfl⟩ := g; rfl) (by decide) (fun ds d g F => by obtain ⟨r, m, e, rfl, hl, rfl⟩ := g; exact r_L_can r m e hl F) vs H Q E h⟩
theorem ok_L_back (T : Txt mg aP aC) (c_L_come : C8.Cal P w K mg base 3 "_law_come" (sp_L_come ⟨P, w, K, C, aP, aC⟩) []) (c_L_renew : C8.Cal P w K mg base 2 "_law_renew" (sp_L_renew ⟨P, w, K, C, aP, aC⟩) []) {f : Addr} {fd : FuncData} (D : C8.Def K mg "_law_back" s_L_back f fd) (b : Binds K fd ["_law_rule_here", "_law_line", "_law_came", "_law_spot"] []) : C8.Cal P w K mg base 4 "_law_back" (sp_L_back ⟨P, w, K, C, aP, aC⟩) [] :=
  C8.cal0 D b .nil sc_L_back (fun vs H Q E h => len_spRb (n := 3) (fun l ds d c g => by obtain ⟨r, m, s, rfl, rfl, hl, hs, rfl, rfl⟩ := g; rfl) h) fun cdv A outer s H vs Q E hr h => ⟨t_L_back ⟨P, w, K, C, aP, aC⟩, d_L_back T c_L_come c_L_renew hr, fn_spRb (N := ["_law_rule_here", "_law_line", "_law_came", "_law_spot"]) (n := 3) (fun l ds d c g => by obtain ⟨r, m, s, rfl, rfl, hl, hs, rfl, rfl⟩ := g; rfl) (by decide) (fun l ds d c g F pa => by obtain ⟨r, m, s, rfl, rfl, hl, hs, rfl, rfl⟩ := g; exact r_L_back r m s hl hs F pa) vs H Q E h⟩
theorem ok_L_do (T : Txt mg aP aC) (c_L_asked : C8.Cal P w K mg base 3 "_law_asked" (sp_L_asked ⟨P, w, K, C, aP, aC⟩) []) (c_L_back : C8.Cal P w K mg base 4 "_law_back" (sp_L_back ⟨P, w, K, C, aP, aC⟩) []) (c_L_claims : C8.Cal P w K mg base 2 "_law_claims" (sp_L_claims ⟨P, w, K, C, aP, aC⟩) []) (c_L_come : C8.Cal P w K mg base 3 "_law_come" (sp_L_come ⟨P, w, K, C, aP, aC⟩) []) (c_L_gone : C8.Cal P w K mg base 3 "_law_gone" (sp_L_gone ⟨P, w, K, C, aP, aC⟩) []) (c_L_here : C8.Cal P w K mg base 1 "_law_here" (sp_L_here ⟨P, w, K, C, aP, aC⟩) []) (c_L_renew : C8.Cal P w K mg base 2 "_law_renew" (sp_L_renew ⟨P, w, K, C, aP, aC⟩) []) {f : Addr} {fd : FuncData} (D : C8.Def K mg "_law_do" s_L_do f fd) (b : Binds K fd ["_law_rule_here", "_law_room", "_law_event"] []) : C8.Cal P w K mg base 5 "_law_do" (sp_L_do ⟨P, w, K, C, aP, aC⟩) [] :=
  C8.cal0 D b .nil sc_L_do (fun vs H Q E h => len_spD (n := 3) (fun ds d g => by obtain ⟨r, m, e, rfl, hl, hn, hsv, ht, rfl⟩ := g; rfl) h) fun cdv A outer s H vs Q E hr h => ⟨t_L_do ⟨P, w, K, C, aP, aC⟩, d_L_do T c_L_asked c_L_back c_L_claims c_L_come c_L_gone c_L_here c_L_renew hr, fn_spDM (N := ["_law_rule_here", "_law_room", "_law_event", "_law_line", "_law_came", "_law_served", "_law_spot", "_law_some", "_law_row", "_law_k"]) (n := 3) (fun ds d g => by obtain ⟨r, m, e, rfl, hl, hn, hsv, ht, rfl⟩ := g; rfl) (by decide) (fun ds d g F hM => by obtain ⟨r, m, e, rfl, hl, hn, hsv, ht, rfl⟩ := g; exact r_L_do r m e hl hn hsv ht F hM) vs H Q E h⟩
theorem ok_L_events (T : Txt mg aP aC) (c_L_can : C8.Cal P w K mg base 2 "_law_can" (sp_L_can ⟨P, w, K, C, aP, aC⟩) []) {f : Addr} {fd : FuncData} (D : C8.Def K mg "_law_events" s_L_events f fd) (b : Binds K fd ["_law_rule_here", "_law_room"] []) : C8.Cal P w K mg base 3 "_law_events" (sp_L_events ⟨P, w, K, C, aP, aC⟩) [] :=
  C8.cal0 D b .nil sc_L_events (fun vs H Q E h => len_spD (n := 2) (fun ds d g => by obtain ⟨r, m, rfl, hl, rfl⟩ := g; rfl) h) fun cdv A outer s H vs Q E hr h => ⟨t_L_events ⟨P, w, K, C, aP, aC⟩, d_L_events T c_L_can hr, fn_spD (N := ["_law_rule_here", "_law_room", "_law_some", "_law_word", "_law_row", "_law_event"]) (n := 2) (fun ds d g => by obtain ⟨r, m, rfl, hl, rfl⟩ := g; rfl) (by decide) (fun ds d g F => by obtain ⟨r, m, rfl, hl, rfl⟩ := g; exact r_L_events r m hl F) vs H Q E h⟩
theorem ok_L_rule (T : Txt mg aP aC) (c_L_draw : C8.Cal P w K mg base 2 "_law_draw" (sp_L_draw ⟨P, w, K, C, aP, aC⟩) []) {f : Addr} {fd : FuncData} (D : C8.Def K mg "_law_rule" s_L_rule f fd) (b : Binds K fd ["_law_state"] []) : C8.Cal P w K mg base 3 "_law_rule" (sp_L_rule ⟨P, w, K, C, aP, aC⟩) [] :=
  C8.cal0 D b .nil sc_L_rule (fun vs H Q E h => len_L_rule h) fun cdv A outer s H vs Q E hr h => ⟨t_L_rule ⟨P, w, K, C, aP, aC⟩, d_L_rule T c_L_draw hr, w_L_rule vs H Q E h⟩
theorem ok_L_key (T : Txt mg aP aC) {f : Addr} {fd : FuncData} (D : C8.Def K mg "_law_key" s_L_key f fd) (b : Binds K fd ["_law_room"] []) : C8.Cal P w K mg base 1 "_law_key" (sp_L_key ⟨P, w, K, C, aP, aC⟩) [] :=
  C8.cal0 D b .nil sc_L_key (fun vs H Q E h => len_spD (n := 1) (fun ds d g => by obtain ⟨m, rfl, hl, rfl⟩ := g; rfl) h) fun cdv A outer s H vs Q E hr h => ⟨t_L_key ⟨P, w, K, C, aP, aC⟩, d_L_key T hr, fn_spD (N := ["_law_room", "_law_row"]) (n := 1) (fun ds d g => by obtain ⟨m, rfl, hl, rfl⟩ := g; rfl) (by decide) (fun ds d g F => by obtain ⟨m, rfl, hl, rfl⟩ := g; exact r_L_key m hl F) vs H Q E h⟩
theorem ok_L_ways (T : Txt mg aP aC) (c_L_do : C8.Cal P w K mg base 5 "_law_do" (sp_L_do ⟨P, w, K, C, aP, aC⟩) []) (c_L_events : C8.Cal P w K mg base 3 "_law_events" (sp_L_events ⟨P, w, K, C, aP, aC⟩) []) (c_L_key : C8.Cal P w K mg base 1 "_law_key" (sp_L_key ⟨P, w, K, C, aP, aC⟩) []) {f : Addr} {fd : FuncData} (D : C8.Def K mg "_law_ways" s_L_ways f fd) (b : Binds K fd ["_law_rule_here", "_law_key_here", "_law_people"] []) : C8.Cal P w K mg base 6 "_law_ways" (sp_L_ways ⟨P, w, K, C, aP, aC⟩) [] :=
  C8.cal0 D b .nil sc_L_ways (fun vs H Q E h => len_spD (n := 3) (fun ds d g => by obtain ⟨r, x, n, rfl, hl, hn, rfl⟩ := g; rfl) h) fun cdv A outer s H vs Q E hr h => ⟨t_L_ways ⟨P, w, K, C, aP, aC⟩, d_L_ways T c_L_do c_L_events c_L_key hr, fn_spD (N := ["_law_rule_here", "_law_key_here", "_law_people", "_law_room", "_law_found", "_law_event", "_law_later", "_law_row"]) (n := 3) (fun ds d g => by obtain ⟨r, x, n, rfl, hl, hn, rfl⟩ := g; rfl) (by decide) (fun ds d g F => by obtain ⟨r, x, n, rfl, hl, hn, rfl⟩ := g; exact r_L_ways r x n hl hn F) vs H Q E h⟩
theorem ok_L_due (T : Txt mg aP aC) (c_L_ways : C8.Cal P w K mg base 6 "_law_ways" (sp_L_ways ⟨P, w, K, C, aP, aC⟩) []) {f : Addr} {fd : FuncData} (D : C8.Def K mg "_law_due" s_L_due f fd) (b : Binds K fd ["_law_rule_here", "_law_people", "_law_most"] []) : C8.Cal P w K mg base 7 "_law_due" (sp_L_due ⟨P, w, K, C, aP, aC⟩) [] :=
  C8.cal0 D b .nil sc_L_due (fun vs H Q E h => len_spC (n := 3) (fun ds g => by obtain ⟨r, n, rok, h1, h3, rfl⟩ := g; rfl) h) fun cdv A outer s H vs Q E hr h => ⟨t_L_due ⟨P, w, K, C, aP, aC⟩, d_L_due T c_L_ways hr, fn_spC (N := ["_law_rule_here", "_law_people", "_law_most", "_law_known", "_law_waiting", "_law_found", "_law_here_here", "_law_ways_here", "_law_way"]) (n := 3) (fun ds g => by obtain ⟨r, n, rok, h1, h3, rfl⟩ := g; rfl) (by decide) (fun ds g F => by obtain ⟨r, n, rok, h1, h3, rfl⟩ := g; exact due_is rok h1 h3 F) vs H Q E h⟩
end Ask
-- AskAll
set_option Elab.async false
set_option linter.all false
set_option maxRecDepth 100000
/-! what the top has written, the head -/
namespace Ask
open PySem PySem.Spec PyProof.Rows L2
/-- a tuple of texts that the top has written -/
theorem dp_words {K : PySem.W.Frag} {H : Hp} {a : Addr} {o : Obj} {its : Array Value} {n : Nat} {ws : List Str} (l : K.lookup a = some o) (c : o.cls = .type "tuple") (d : o.data = .seq its n) (z : its.size ≤ sizeLine) (r : Vals (ws.map V.str) its.toList) :
    Dp K H (.ref a) (.tuple (ws.map .str)) := by
  refine .tup (.inr ⟨o, its, n, l, c, d, z, r⟩) ?_
  clear r
  induction ws with
  | nil => exact .nil
  | cons x t ih => exact .cons (.str x) ih
set_option maxHeartbeats 0 in
theorem all_mk {P : Program} {w : World} {K : PySem.W.Frag} {h : Heap} {mg : Str → Option Value} {fa : Addr} {C aP aC f_is_integer f_is_between f_is_one_of f_need_rule f_nearest_ahead f_renewed f_spot_of f_as_how f_without f_forgetting f_asked_again f_claiming f_init f_how_is f_are_here f_can_be f_put_in f_renew_from f_bring_back f_open_door f_do_personal f_do f_all_events f_room_at f_is_growing f_ways_on f_need_people f_orders_of f_L_mixed f_L_begin f_L_draw f_L_names f_L_renew f_L_gone f_L_here f_L_asked f_L_claims f_L_come f_L_how f_L_can f_L_back f_L_do f_L_events f_L_rule f_L_key f_L_ways f_L_due f_law x0 x1 x2 x3 x4 : Addr}
    {od_is_integer an_is_integer od_is_between an_is_between od_is_one_of an_is_one_of od_need_rule an_need_rule od_nearest_ahead an_nearest_ahead od_renewed an_renewed od_spot_of an_spot_of od_as_how an_as_how od_without an_without od_forgetting an_forgetting od_asked_again an_asked_again od_claiming an_claiming od_init an_init od_how_is an_how_is od_are_here an_are_here od_can_be an_can_be od_put_in an_put_in od_renew_from an_renew_from od_bring_back an_bring_back od_open_door an_open_door od_do_personal an_do_personal od_do an_do od_all_events an_all_events od_room_at an_room_at od_is_growing an_is_growing od_ways_on an_ways_on od_need_people an_need_people od_orders_of an_orders_of od_L_mixed an_L_mixed od_L_begin an_L_begin od_L_draw an_L_draw od_L_names an_L_names od_L_renew an_L_renew od_L_gone an_L_gone od_L_here an_L_here od_L_asked an_L_asked od_L_claims an_L_claims od_L_come an_L_come od_L_how an_L_how od_L_can an_L_can od_L_back an_L_back od_L_do an_L_do od_L_events an_L_events od_L_rule an_L_rule od_L_key an_L_key od_L_ways an_L_ways od_L_due an_L_due od_law an_law od_tP od_tC od_tC0 od_tC1 od_tC2 od_tC3 od_tC4 : Option Addr} {sl_is_integer sl_is_between sl_is_one_of sl_need_rule sl_nearest_ahead sl_renewed sl_spot_of sl_as_how sl_without sl_forgetting sl_asked_again sl_claiming sl_init sl_how_is sl_are_here sl_can_be sl_put_in sl_renew_from sl_bring_back sl_open_door sl_do_personal sl_do sl_all_events sl_room_at sl_is_growing sl_ways_on sl_need_people sl_orders_of sl_L_mixed sl_L_begin sl_L_draw sl_L_names sl_L_renew sl_L_gone sl_L_here sl_L_asked sl_L_claims sl_L_come sl_L_how sl_L_can sl_L_back sl_L_do sl_L_events sl_L_rule sl_L_key sl_L_ways sl_L_due sl_law sl_tP sl_tC sl_tC0 sl_tC1 sl_tC2 sl_tC3 sl_tC4 : Array (Option Value)}
    {oc_is_integer kV_is_integer dc_is_integer pm_is_integer cd_is_integer ct_is_integer oc_is_between kV_is_between dc_is_between pm_is_between cd_is_between ct_is_between oc_is_one_of kV_is_one_of dc_is_one_of pm_is_one_of cd_is_one_of ct_is_one_of oc_need_rule kV_need_rule dc_need_rule pm_need_rule cd_need_rule ct_need_rule oc_nearest_ahead kV_nearest_ahead dc_nearest_ahead pm_nearest_ahead cd_nearest_ahead ct_nearest_ahead oc_renewed kV_renewed dc_renewed pm_renewed cd_renewed ct_renewed oc_spot_of kV_spot_of dc_spot_of pm_spot_of cd_spot_of ct_spot_of oc_as_how kV_as_how dc_as_how pm_as_how cd_as_how ct_as_how oc_without kV_without dc_without pm_without cd_without ct_without oc_forgetting kV_forgetting dc_forgetting pm_forgetting cd_forgetting ct_forgetting oc_asked_again kV_asked_again dc_asked_again pm_asked_again cd_asked_again ct_asked_again oc_claiming kV_claiming dc_claiming pm_claiming cd_claiming ct_claiming oc_init kV_init dc_init pm_init cd_init ct_init oc_how_is kV_how_is dc_how_is pm_how_is cd_how_is ct_how_is oc_are_here kV_are_here dc_are_here pm_are_here cd_are_here ct_are_here oc_can_be kV_can_be dc_can_be pm_can_be cd_can_be ct_can_be oc_put_in kV_put_in dc_put_in pm_put_in cd_put_in ct_put_in oc_renew_from kV_renew_from dc_renew_from pm_renew_from cd_renew_from ct_renew_from oc_bring_back kV_bring_back dc_bring_back pm_bring_back cd_bring_back ct_bring_back oc_open_door kV_open_door dc_open_door pm_open_door cd_open_door ct_open_door oc_do_personal kV_do_personal dc_do_personal pm_do_personal cd_do_personal ct_do_personal oc_do kV_do dc_do pm_do cd_do ct_do oc_all_events kV_all_events dc_all_events pm_all_events cd_all_events ct_all_events oc_room_at kV_room_at dc_room_at pm_room_at cd_room_at ct_room_at oc_is_growing kV_is_growing dc_is_growing pm_is_growing cd_is_growing ct_is_growing oc_ways_on kV_ways_on dc_ways_on pm_ways_on cd_ways_on ct_ways_on oc_need_people kV_need_people dc_need_people pm_need_people cd_need_people ct_need_people oc_orders_of kV_orders_of dc_orders_of pm_orders_of cd_orders_of ct_orders_of oc_L_mixed kV_L_mixed dc_L_mixed pm_L_mixed cd_L_mixed ct_L_mixed oc_L_begin kV_L_begin dc_L_begin pm_L_begin cd_L_begin ct_L_begin oc_L_draw kV_L_draw dc_L_draw pm_L_draw cd_L_draw ct_L_draw oc_L_names kV_L_names dc_L_names pm_L_names cd_L_names ct_L_names oc_L_renew kV_L_renew dc_L_renew pm_L_renew cd_L_renew ct_L_renew oc_L_gone kV_L_gone dc_L_gone pm_L_gone cd_L_gone ct_L_gone oc_L_here kV_L_here dc_L_here pm_L_here cd_L_here ct_L_here oc_L_asked kV_L_asked dc_L_asked pm_L_asked cd_L_asked ct_L_asked oc_L_claims kV_L_claims dc_L_claims pm_L_claims cd_L_claims ct_L_claims oc_L_come kV_L_come dc_L_come pm_L_come cd_L_come ct_L_come oc_L_how kV_L_how dc_L_how pm_L_how cd_L_how ct_L_how oc_L_can kV_L_can dc_L_can pm_L_can cd_L_can ct_L_can oc_L_back kV_L_back dc_L_back pm_L_back cd_L_back ct_L_back oc_L_do kV_L_do dc_L_do pm_L_do cd_L_do ct_L_do oc_L_events kV_L_events dc_L_events pm_L_events cd_L_events ct_L_events oc_L_rule kV_L_rule dc_L_rule pm_L_rule cd_L_rule ct_L_rule oc_L_key kV_L_key dc_L_key pm_L_key cd_L_key ct_L_key oc_L_ways kV_L_ways dc_L_ways pm_L_ways cd_L_ways ct_L_ways oc_L_due kV_L_due dc_L_due pm_L_due cd_L_due ct_L_due oc_law kV_law dc_law pm_law cd_law ct_law : Value} {n_tP n_tC n_tC0 n_tC1 n_tC2 n_tC3 n_tC4 : Nat} {t_HERE t_OUT t_LOST t_AWAY t_COME t_LET t_VANISH t_LEAVE t_BACK t_DOOR t_LINE t_ON t_ASKS t_OLD t_TELLS t_TOLD t_MOST_NAMES t_MOST_PEOPLE t_MOST_PAIRS t_MOST_ROOM t_tP_0 t_tP_1 t_tP_2 t_tP_3 t_tP_4 t_tC0_0 t_tC0_1 t_tC1_0 t_tC1_1 t_tC2_0 t_tC2_1 t_tC2_2 t_tC3_0 t_tC3_1 t_tC4_0 t_tC4_1 : Tok}
    (X : K.In h) (G : h.Ns mainGlobals mg) (hfa : mg "law" = some (.ref fa))
    (aR : PySem.W.nsIn K mainGlobals "Room" = some (some (.ref C)))
    (a_is_integer : PySem.W.nsIn K mainGlobals "is_integer" = some (some (.ref f_is_integer)))
    (l_is_integer : K.lookup f_is_integer = some ⟨oc_is_integer, od_is_integer, .func (PySem.W.fnOf "is_integer" "is_integer" (C8.fnArgs s_is_integer) (C8.fnBody s_is_integer) (C8.fnScope s_is_integer) .none kV_is_integer dc_is_integer pm_is_integer an_is_integer cd_is_integer ct_is_integer), sl_is_integer⟩)
    (o_is_integer : PySem.W.codeIn K cd_is_integer "is_integer" = true)
    (k_is_integer : PySem.W.keepIn K (.ref f_is_integer) = true)
    (a_is_between : PySem.W.nsIn K mainGlobals "is_between" = some (some (.ref f_is_between)))
    (l_is_between : K.lookup f_is_between = some ⟨oc_is_between, od_is_between, .func (PySem.W.fnOf "is_between" "is_between" (C8.fnArgs s_is_between) (C8.fnBody s_is_between) (C8.fnScope s_is_between) .none kV_is_between dc_is_between pm_is_between an_is_between cd_is_between ct_is_between), sl_is_between⟩)
    (o_is_between : PySem.W.codeIn K cd_is_between "is_between" = true)
    (k_is_between : PySem.W.keepIn K (.ref f_is_between) = true)
    (a_is_one_of : PySem.W.nsIn K mainGlobals "is_one_of" = some (some (.ref f_is_one_of)))
    (l_is_one_of : K.lookup f_is_one_of = some ⟨oc_is_one_of, od_is_one_of, .func (PySem.W.fnOf "is_one_of" "is_one_of" (C8.fnArgs s_is_one_of) (C8.fnBody s_is_one_of) (C8.fnScope s_is_one_of) .none kV_is_one_of dc_is_one_of pm_is_one_of an_is_one_of cd_is_one_of ct_is_one_of), sl_is_one_of⟩)
    (o_is_one_of : PySem.W.codeIn K cd_is_one_of "is_one_of" = true)
    (k_is_one_of : PySem.W.keepIn K (.ref f_is_one_of) = true)
    (a_need_rule : PySem.W.nsIn K mainGlobals "need_rule" = some (some (.ref f_need_rule)))
    (l_need_rule : K.lookup f_need_rule = some ⟨oc_need_rule, od_need_rule, .func (PySem.W.fnOf "need_rule" "need_rule" (C8.fnArgs s_need_rule) (C8.fnBody s_need_rule) (C8.fnScope s_need_rule) .none kV_need_rule dc_need_rule pm_need_rule an_need_rule cd_need_rule ct_need_rule), sl_need_rule⟩)
    (o_need_rule : PySem.W.codeIn K cd_need_rule "need_rule" = true)
    (k_need_rule : PySem.W.keepIn K (.ref f_need_rule) = true)
    (a_nearest_ahead : PySem.W.nsIn K mainGlobals "nearest_ahead" = some (some (.ref f_nearest_ahead)))
    (l_nearest_ahead : K.lookup f_nearest_ahead = some ⟨oc_nearest_ahead, od_nearest_ahead, .func (PySem.W.fnOf "nearest_ahead" "nearest_ahead" (C8.fnArgs s_nearest_ahead) (C8.fnBody s_nearest_ahead) (C8.fnScope s_nearest_ahead) .none kV_nearest_ahead dc_nearest_ahead pm_nearest_ahead an_nearest_ahead cd_nearest_ahead ct_nearest_ahead), sl_nearest_ahead⟩)
    (o_nearest_ahead : PySem.W.codeIn K cd_nearest_ahead "nearest_ahead" = true)
    (k_nearest_ahead : PySem.W.keepIn K (.ref f_nearest_ahead) = true)
    (a_renewed : PySem.W.nsIn K mainGlobals "renewed" = some (some (.ref f_renewed)))
    (l_renewed : K.lookup f_renewed = some ⟨oc_renewed, od_renewed, .func (PySem.W.fnOf "renewed" "renewed" (C8.fnArgs s_renewed) (C8.fnBody s_renewed) (C8.fnScope s_renewed) .none kV_renewed dc_renewed pm_renewed an_renewed cd_renewed ct_renewed), sl_renewed⟩)
    (o_renewed : PySem.W.codeIn K cd_renewed "renewed" = true)
    (k_renewed : PySem.W.keepIn K (.ref f_renewed) = true)
    (a_spot_of : PySem.W.nsIn K mainGlobals "spot_of" = some (some (.ref f_spot_of)))
    (l_spot_of : K.lookup f_spot_of = some ⟨oc_spot_of, od_spot_of, .func (PySem.W.fnOf "spot_of" "spot_of" (C8.fnArgs s_spot_of) (C8.fnBody s_spot_of) (C8.fnScope s_spot_of) .none kV_spot_of dc_spot_of pm_spot_of an_spot_of cd_spot_of ct_spot_of), sl_spot_of⟩)
    (o_spot_of : PySem.W.codeIn K cd_spot_of "spot_of" = true)
    (k_spot_of : PySem.W.keepIn K (.ref f_spot_of) = true)
    (a_as_how : PySem.W.nsIn K mainGlobals "as_how" = some (some (.ref f_as_how)))
    (l_as_how : K.lookup f_as_how = some ⟨oc_as_how, od_as_how, .func (PySem.W.fnOf "as_how" "as_how" (C8.fnArgs s_as_how) (C8.fnBody s_as_how) (C8.fnScope s_as_how) .none kV_as_how dc_as_how pm_as_how an_as_how cd_as_how ct_as_how), sl_as_how⟩)
    (o_as_how : PySem.W.codeIn K cd_as_how "as_how" = true)
    (k_as_how : PySem.W.keepIn K (.ref f_as_how) = true)
    (a_without : PySem.W.nsIn K mainGlobals "without" = some (some (.ref f_without)))
    (l_without : K.lookup f_without = some ⟨oc_without, od_without, .func (PySem.W.fnOf "without" "without" (C8.fnArgs s_without) (C8.fnBody s_without) (C8.fnScope s_without) .none kV_without dc_without pm_without an_without cd_without ct_without), sl_without⟩)
    (o_without : PySem.W.codeIn K cd_without "without" = true)
    (k_without : PySem.W.keepIn K (.ref f_without) = true)
    (a_forgetting : PySem.W.nsIn K mainGlobals "forgetting" = some (some (.ref f_forgetting)))
    (l_forgetting : K.lookup f_forgetting = some ⟨oc_forgetting, od_forgetting, .func (PySem.W.fnOf "forgetting" "forgetting" (C8.fnArgs s_forgetting) (C8.fnBody s_forgetting) (C8.fnScope s_forgetting) .none kV_forgetting dc_forgetting pm_forgetting an_forgetting cd_forgetting ct_forgetting), sl_forgetting⟩)
    (o_forgetting : PySem.W.codeIn K cd_forgetting "forgetting" = true)
    (k_forgetting : PySem.W.keepIn K (.ref f_forgetting) = true)
    (a_asked_again : PySem.W.nsIn K mainGlobals "asked_again" = some (some (.ref f_asked_again)))
    (l_asked_again : K.lookup f_asked_again = some ⟨oc_asked_again, od_asked_again, .func (PySem.W.fnOf "asked_again" "asked_again" (C8.fnArgs s_asked_again) (C8.fnBody s_asked_again) (C8.fnScope s_asked_again) .none kV_asked_again dc_asked_again pm_asked_again an_asked_again cd_asked_again ct_asked_again), sl_asked_again⟩)
    (o_asked_again : PySem.W.codeIn K cd_asked_again "asked_again" = true)
    (k_asked_again : PySem.W.keepIn K (.ref f_asked_again) = true)
    (a_claiming : PySem.W.nsIn K mainGlobals "claiming" = some (some (.ref f_claiming)))
    (l_claiming : K.lookup f_claiming = some ⟨oc_claiming, od_claiming, .func (PySem.W.fnOf "claiming" "claiming" (C8.fnArgs s_claiming) (C8.fnBody s_claiming) (C8.fnScope s_claiming) .none kV_claiming dc_claiming pm_claiming an_claiming cd_claiming ct_claiming), sl_claiming⟩)
    (o_claiming : PySem.W.codeIn K cd_claiming "claiming" = true)
    (k_claiming : PySem.W.keepIn K (.ref f_claiming) = true)
    (a_init : PySem.W.findIn K (.ref C) "__init__" = some (some (.ref f_init)))
    (i_init : PySem.W.isFn K (.ref f_init) = true)
    (l_init : K.lookup f_init = some ⟨oc_init, od_init, .func (PySem.W.fnOf "__init__" "Room.__init__" (C8.fnArgs s_init) (C8.fnBody s_init) (C8.fnScope s_init) .none kV_init dc_init pm_init an_init cd_init ct_init), sl_init⟩)
    (o_init : PySem.W.codeIn K cd_init "Room.__init__" = true)
    (a_how_is : PySem.W.findIn K (.ref C) "how_is" = some (some (.ref f_how_is)))
    (i_how_is : PySem.W.isFn K (.ref f_how_is) = true)
    (l_how_is : K.lookup f_how_is = some ⟨oc_how_is, od_how_is, .func (PySem.W.fnOf "how_is" "Room.how_is" (C8.fnArgs s_how_is) (C8.fnBody s_how_is) (C8.fnScope s_how_is) .none kV_how_is dc_how_is pm_how_is an_how_is cd_how_is ct_how_is), sl_how_is⟩)
    (o_how_is : PySem.W.codeIn K cd_how_is "Room.how_is" = true)
    (k_how_is : PySem.W.keepIn K (.ref f_how_is) = true)
    (a_are_here : PySem.W.findIn K (.ref C) "are_here" = some (some (.ref f_are_here)))
    (i_are_here : PySem.W.isFn K (.ref f_are_here) = true)
    (l_are_here : K.lookup f_are_here = some ⟨oc_are_here, od_are_here, .func (PySem.W.fnOf "are_here" "Room.are_here" (C8.fnArgs s_are_here) (C8.fnBody s_are_here) (C8.fnScope s_are_here) .none kV_are_here dc_are_here pm_are_here an_are_here cd_are_here ct_are_here), sl_are_here⟩)
    (o_are_here : PySem.W.codeIn K cd_are_here "Room.are_here" = true)
    (k_are_here : PySem.W.keepIn K (.ref f_are_here) = true)
    (a_can_be : PySem.W.findIn K (.ref C) "can_be" = some (some (.ref f_can_be)))
    (i_can_be : PySem.W.isFn K (.ref f_can_be) = true)
    (l_can_be : K.lookup f_can_be = some ⟨oc_can_be, od_can_be, .func (PySem.W.fnOf "can_be" "Room.can_be" (C8.fnArgs s_can_be) (C8.fnBody s_can_be) (C8.fnScope s_can_be) .none kV_can_be dc_can_be pm_can_be an_can_be cd_can_be ct_can_be), sl_can_be⟩)
    (o_can_be : PySem.W.codeIn K cd_can_be "Room.can_be" = true)
    (k_can_be : PySem.W.keepIn K (.ref f_can_be) = true)
    (a_put_in : PySem.W.findIn K (.ref C) "put_in" = some (some (.ref f_put_in)))
    (i_put_in : PySem.W.isFn K (.ref f_put_in) = true)
    (l_put_in : K.lookup f_put_in = some ⟨oc_put_in, od_put_in, .func (PySem.W.fnOf "put_in" "Room.put_in" (C8.fnArgs s_put_in) (C8.fnBody s_put_in) (C8.fnScope s_put_in) .none kV_put_in dc_put_in pm_put_in an_put_in cd_put_in ct_put_in), sl_put_in⟩)
    (o_put_in : PySem.W.codeIn K cd_put_in "Room.put_in" = true)
    (k_put_in : PySem.W.keepIn K (.ref f_put_in) = true)
    (a_renew_from : PySem.W.findIn K (.ref C) "renew_from" = some (some (.ref f_renew_from)))
    (i_renew_from : PySem.W.isFn K (.ref f_renew_from) = true)
    (l_renew_from : K.lookup f_renew_from = some ⟨oc_renew_from, od_renew_from, .func (PySem.W.fnOf "renew_from" "Room.renew_from" (C8.fnArgs s_renew_from) (C8.fnBody s_renew_from) (C8.fnScope s_renew_from) .none kV_renew_from dc_renew_from pm_renew_from an_renew_from cd_renew_from ct_renew_from), sl_renew_from⟩)
    (o_renew_from : PySem.W.codeIn K cd_renew_from "Room.renew_from" = true)
    (k_renew_from : PySem.W.keepIn K (.ref f_renew_from) = true)
    (a_bring_back : PySem.W.findIn K (.ref C) "bring_back" = some (some (.ref f_bring_back)))
    (i_bring_back : PySem.W.isFn K (.ref f_bring_back) = true)
    (l_bring_back : K.lookup f_bring_back = some ⟨oc_bring_back, od_bring_back, .func (PySem.W.fnOf "bring_back" "Room.bring_back" (C8.fnArgs s_bring_back) (C8.fnBody s_bring_back) (C8.fnScope s_bring_back) .none kV_bring_back dc_bring_back pm_bring_back an_bring_back cd_bring_back ct_bring_back), sl_bring_back⟩)
    (o_bring_back : PySem.W.codeIn K cd_bring_back "Room.bring_back" = true)
    (k_bring_back : PySem.W.keepIn K (.ref f_bring_back) = true)
    (a_open_door : PySem.W.findIn K (.ref C) "open_door" = some (some (.ref f_open_door)))
    (i_open_door : PySem.W.isFn K (.ref f_open_door) = true)
    (l_open_door : K.lookup f_open_door = some ⟨oc_open_door, od_open_door, .func (PySem.W.fnOf "open_door" "Room.open_door" (C8.fnArgs s_open_door) (C8.fnBody s_open_door) (C8.fnScope s_open_door) .none kV_open_door dc_open_door pm_open_door an_open_door cd_open_door ct_open_door), sl_open_door⟩)
    (o_open_door : PySem.W.codeIn K cd_open_door "Room.open_door" = true)
    (k_open_door : PySem.W.keepIn K (.ref f_open_door) = true)
    (a_do_personal : PySem.W.findIn K (.ref C) "do_personal" = some (some (.ref f_do_personal)))
    (i_do_personal : PySem.W.isFn K (.ref f_do_personal) = true)
    (l_do_personal : K.lookup f_do_personal = some ⟨oc_do_personal, od_do_personal, .func (PySem.W.fnOf "do_personal" "Room.do_personal" (C8.fnArgs s_do_personal) (C8.fnBody s_do_personal) (C8.fnScope s_do_personal) .none kV_do_personal dc_do_personal pm_do_personal an_do_personal cd_do_personal ct_do_personal), sl_do_personal⟩)
    (o_do_personal : PySem.W.codeIn K cd_do_personal "Room.do_personal" = true)
    (k_do_personal : PySem.W.keepIn K (.ref f_do_personal) = true)
    (a_do : PySem.W.findIn K (.ref C) "do" = some (some (.ref f_do)))
    (i_do : PySem.W.isFn K (.ref f_do) = true)
    (l_do : K.lookup f_do = some ⟨oc_do, od_do, .func (PySem.W.fnOf "do" "Room.do" (C8.fnArgs s_do) (C8.fnBody s_do) (C8.fnScope s_do) .none kV_do dc_do pm_do an_do cd_do ct_do), sl_do⟩)
    (o_do : PySem.W.codeIn K cd_do "Room.do" = true)
    (k_do : PySem.W.keepIn K (.ref f_do) = true)
    (a_all_events : PySem.W.nsIn K mainGlobals "all_events" = some (some (.ref f_all_events)))
    (l_all_events : K.lookup f_all_events = some ⟨oc_all_events, od_all_events, .func (PySem.W.fnOf "all_events" "all_events" (C8.fnArgs s_all_events) (C8.fnBody s_all_events) (C8.fnScope s_all_events) .none kV_all_events dc_all_events pm_all_events an_all_events cd_all_events ct_all_events), sl_all_events⟩)
    (o_all_events : PySem.W.codeIn K cd_all_events "all_events" = true)
    (k_all_events : PySem.W.keepIn K (.ref f_all_events) = true)
    (a_room_at : PySem.W.nsIn K mainGlobals "room_at" = some (some (.ref f_room_at)))
    (l_room_at : K.lookup f_room_at = some ⟨oc_room_at, od_room_at, .func (PySem.W.fnOf "room_at" "room_at" (C8.fnArgs s_room_at) (C8.fnBody s_room_at) (C8.fnScope s_room_at) .none kV_room_at dc_room_at pm_room_at an_room_at cd_room_at ct_room_at), sl_room_at⟩)
    (o_room_at : PySem.W.codeIn K cd_room_at "room_at" = true)
    (k_room_at : PySem.W.keepIn K (.ref f_room_at) = true)
    (a_is_growing : PySem.W.nsIn K mainGlobals "is_growing" = some (some (.ref f_is_growing)))
    (l_is_growing : K.lookup f_is_growing = some ⟨oc_is_growing, od_is_growing, .func (PySem.W.fnOf "is_growing" "is_growing" (C8.fnArgs s_is_growing) (C8.fnBody s_is_growing) (C8.fnScope s_is_growing) .none kV_is_growing dc_is_growing pm_is_growing an_is_growing cd_is_growing ct_is_growing), sl_is_growing⟩)
    (o_is_growing : PySem.W.codeIn K cd_is_growing "is_growing" = true)
    (k_is_growing : PySem.W.keepIn K (.ref f_is_growing) = true)
    (a_ways_on : PySem.W.nsIn K mainGlobals "ways_on" = some (some (.ref f_ways_on)))
    (l_ways_on : K.lookup f_ways_on = some ⟨oc_ways_on, od_ways_on, .func (PySem.W.fnOf "ways_on" "ways_on" (C8.fnArgs s_ways_on) (C8.fnBody s_ways_on) (C8.fnScope s_ways_on) .none kV_ways_on dc_ways_on pm_ways_on an_ways_on cd_ways_on ct_ways_on), sl_ways_on⟩)
    (o_ways_on : PySem.W.codeIn K cd_ways_on "ways_on" = true)
    (k_ways_on : PySem.W.keepIn K (.ref f_ways_on) = true)
    (a_need_people : PySem.W.nsIn K mainGlobals "need_people" = some (some (.ref f_need_people)))
    (l_need_people : K.lookup f_need_people = some ⟨oc_need_people, od_need_people, .func (PySem.W.fnOf "need_people" "need_people" (C8.fnArgs s_need_people) (C8.fnBody s_need_people) (C8.fnScope s_need_people) .none kV_need_people dc_need_people pm_need_people an_need_people cd_need_people ct_need_people), sl_need_people⟩)
    (o_need_people : PySem.W.codeIn K cd_need_people "need_people" = true)
    (k_need_people : PySem.W.keepIn K (.ref f_need_people) = true)
    (a_orders_of : PySem.W.nsIn K mainGlobals "orders_of" = some (some (.ref f_orders_of)))
    (l_orders_of : K.lookup f_orders_of = some ⟨oc_orders_of, od_orders_of, .func (PySem.W.fnOf "orders_of" "orders_of" (C8.fnArgs s_orders_of) (C8.fnBody s_orders_of) (C8.fnScope s_orders_of) .none kV_orders_of dc_orders_of pm_orders_of an_orders_of cd_orders_of ct_orders_of), sl_orders_of⟩)
    (o_orders_of : PySem.W.codeIn K cd_orders_of "orders_of" = true)
    (k_orders_of : PySem.W.keepIn K (.ref f_orders_of) = true)
    (a_L_mixed : PySem.W.nsIn K mainGlobals "_law_mixed" = some (some (.ref f_L_mixed)))
    (l_L_mixed : K.lookup f_L_mixed = some ⟨oc_L_mixed, od_L_mixed, .func (PySem.W.fnOf "_law_mixed" "_law_mixed" (C8.fnArgs s_L_mixed) (C8.fnBody s_L_mixed) (C8.fnScope s_L_mixed) .none kV_L_mixed dc_L_mixed pm_L_mixed an_L_mixed cd_L_mixed ct_L_mixed), sl_L_mixed⟩)
    (o_L_mixed : PySem.W.codeIn K cd_L_mixed "_law_mixed" = true)
    (k_L_mixed : PySem.W.keepIn K (.ref f_L_mixed) = true)
    (a_L_begin : PySem.W.nsIn K mainGlobals "_law_begin" = some (some (.ref f_L_begin)))
    (l_L_begin : K.lookup f_L_begin = some ⟨oc_L_begin, od_L_begin, .func (PySem.W.fnOf "_law_begin" "_law_begin" (C8.fnArgs s_L_begin) (C8.fnBody s_L_begin) (C8.fnScope s_L_begin) .none kV_L_begin dc_L_begin pm_L_begin an_L_begin cd_L_begin ct_L_begin), sl_L_begin⟩)
    (o_L_begin : PySem.W.codeIn K cd_L_begin "_law_begin" = true)
    (k_L_begin : PySem.W.keepIn K (.ref f_L_begin) = true)
    (a_L_draw : PySem.W.nsIn K mainGlobals "_law_draw" = some (some (.ref f_L_draw)))
    (l_L_draw : K.lookup f_L_draw = some ⟨oc_L_draw, od_L_draw, .func (PySem.W.fnOf "_law_draw" "_law_draw" (C8.fnArgs s_L_draw) (C8.fnBody s_L_draw) (C8.fnScope s_L_draw) .none kV_L_draw dc_L_draw pm_L_draw an_L_draw cd_L_draw ct_L_draw), sl_L_draw⟩)
    (o_L_draw : PySem.W.codeIn K cd_L_draw "_law_draw" = true)
    (k_L_draw : PySem.W.keepIn K (.ref f_L_draw) = true)
    (a_L_names : PySem.W.nsIn K mainGlobals "_law_names" = some (some (.ref f_L_names)))
    (l_L_names : K.lookup f_L_names = some ⟨oc_L_names, od_L_names, .func (PySem.W.fnOf "_law_names" "_law_names" (C8.fnArgs s_L_names) (C8.fnBody s_L_names) (C8.fnScope s_L_names) .none kV_L_names dc_L_names pm_L_names an_L_names cd_L_names ct_L_names), sl_L_names⟩)
    (o_L_names : PySem.W.codeIn K cd_L_names "_law_names" = true)
    (k_L_names : PySem.W.keepIn K (.ref f_L_names) = true)
    (a_L_renew : PySem.W.nsIn K mainGlobals "_law_renew" = some (some (.ref f_L_renew)))
    (l_L_renew : K.lookup f_L_renew = some ⟨oc_L_renew, od_L_renew, .func (PySem.W.fnOf "_law_renew" "_law_renew" (C8.fnArgs s_L_renew) (C8.fnBody s_L_renew) (C8.fnScope s_L_renew) .none kV_L_renew dc_L_renew pm_L_renew an_L_renew cd_L_renew ct_L_renew), sl_L_renew⟩)
    (o_L_renew : PySem.W.codeIn K cd_L_renew "_law_renew" = true)
    (k_L_renew : PySem.W.keepIn K (.ref f_L_renew) = true)
    (a_L_gone : PySem.W.nsIn K mainGlobals "_law_gone" = some (some (.ref f_L_gone)))
    (l_L_gone : K.lookup f_L_gone = some ⟨oc_L_gone, od_L_gone, .func (PySem.W.fnOf "_law_gone" "_law_gone" (C8.fnArgs s_L_gone) (C8.fnBody s_L_gone) (C8.fnScope s_L_gone) .none kV_L_gone dc_L_gone pm_L_gone an_L_gone cd_L_gone ct_L_gone), sl_L_gone⟩)
    (o_L_gone : PySem.W.codeIn K cd_L_gone "_law_gone" = true)
    (k_L_gone : PySem.W.keepIn K (.ref f_L_gone) = true)
    (a_L_here : PySem.W.nsIn K mainGlobals "_law_here" = some (some (.ref f_L_here)))
    (l_L_here : K.lookup f_L_here = some ⟨oc_L_here, od_L_here, .func (PySem.W.fnOf "_law_here" "_law_here" (C8.fnArgs s_L_here) (C8.fnBody s_L_here) (C8.fnScope s_L_here) .none kV_L_here dc_L_here pm_L_here an_L_here cd_L_here ct_L_here), sl_L_here⟩)
    (o_L_here : PySem.W.codeIn K cd_L_here "_law_here" = true)
    (k_L_here : PySem.W.keepIn K (.ref f_L_here) = true)
    (a_L_asked : PySem.W.nsIn K mainGlobals "_law_asked" = some (some (.ref f_L_asked)))
    (l_L_asked : K.lookup f_L_asked = some ⟨oc_L_asked, od_L_asked, .func (PySem.W.fnOf "_law_asked" "_law_asked" (C8.fnArgs s_L_asked) (C8.fnBody s_L_asked) (C8.fnScope s_L_asked) .none kV_L_asked dc_L_asked pm_L_asked an_L_asked cd_L_asked ct_L_asked), sl_L_asked⟩)
    (o_L_asked : PySem.W.codeIn K cd_L_asked "_law_asked" = true)
    (k_L_asked : PySem.W.keepIn K (.ref f_L_asked) = true)
    (a_L_claims : PySem.W.nsIn K mainGlobals "_law_claims" = some (some (.ref f_L_claims)))
    (l_L_claims : K.lookup f_L_claims = some ⟨oc_L_claims, od_L_claims, .func (PySem.W.fnOf "_law_claims" "_law_claims" (C8.fnArgs s_L_claims) (C8.fnBody s_L_claims) (C8.fnScope s_L_claims) .none kV_L_claims dc_L_claims pm_L_claims an_L_claims cd_L_claims ct_L_claims), sl_L_claims⟩)
    (o_L_claims : PySem.W.codeIn K cd_L_claims "_law_claims" = true)
    (k_L_claims : PySem.W.keepIn K (.ref f_L_claims) = true)
    (a_L_come : PySem.W.nsIn K mainGlobals "_law_come" = some (some (.ref f_L_come)))
    (l_L_come : K.lookup f_L_come = some ⟨oc_L_come, od_L_come, .func (PySem.W.fnOf "_law_come" "_law_come" (C8.fnArgs s_L_come) (C8.fnBody s_L_come) (C8.fnScope s_L_come) .none kV_L_come dc_L_come pm_L_come an_L_come cd_L_come ct_L_come), sl_L_come⟩)
    (o_L_come : PySem.W.codeIn K cd_L_come "_law_come" = true)
    (k_L_come : PySem.W.keepIn K (.ref f_L_come) = true)
    (a_L_how : PySem.W.nsIn K mainGlobals "_law_how" = some (some (.ref f_L_how)))
    (l_L_how : K.lookup f_L_how = some ⟨oc_L_how, od_L_how, .func (PySem.W.fnOf "_law_how" "_law_how" (C8.fnArgs s_L_how) (C8.fnBody s_L_how) (C8.fnScope s_L_how) .none kV_L_how dc_L_how pm_L_how an_L_how cd_L_how ct_L_how), sl_L_how⟩)
    (o_L_how : PySem.W.codeIn K cd_L_how "_law_how" = true)
    (k_L_how : PySem.W.keepIn K (.ref f_L_how) = true)
    (a_L_can : PySem.W.nsIn K mainGlobals "_law_can" = some (some (.ref f_L_can)))
    (l_L_can : K.lookup f_L_can = some ⟨oc_L_can, od_L_can, .func (PySem.W.fnOf "_law_can" "_law_can" (C8.fnArgs s_L_can) (C8.fnBody s_L_can) (C8.fnScope s_L_can) .none kV_L_can dc_L_can pm_L_can an_L_can cd_L_can ct_L_can), sl_L_can⟩)
    (o_L_can : PySem.W.codeIn K cd_L_can "_law_can" = true)
    (k_L_can : PySem.W.keepIn K (.ref f_L_can) = true)
    (a_L_back : PySem.W.nsIn K mainGlobals "_law_back" = some (some (.ref f_L_back)))
    (l_L_back : K.lookup f_L_back = some ⟨oc_L_back, od_L_back, .func (PySem.W.fnOf "_law_back" "_law_back" (C8.fnArgs s_L_back) (C8.fnBody s_L_back) (C8.fnScope s_L_back) .none kV_L_back dc_L_back pm_L_back an_L_back cd_L_back ct_L_back), sl_L_back⟩)
    (o_L_back : PySem.W.codeIn K cd_L_back "_law_back" = true)
    (k_L_back : PySem.W.keepIn K (.ref f_L_back) = true)
    (a_L_do : PySem.W.nsIn K mainGlobals "_law_do" = some (some (.ref f_L_do)))
    (l_L_do : K.lookup f_L_do = some ⟨oc_L_do, od_L_do, .func (PySem.W.fnOf "_law_do" "_law_do" (C8.fnArgs s_L_do) (C8.fnBody s_L_do) (C8.fnScope s_L_do) .none kV_L_do dc_L_do pm_L_do an_L_do cd_L_do ct_L_do), sl_L_do⟩)
    (o_L_do : PySem.W.codeIn K cd_L_do "_law_do" = true)
    (k_L_do : PySem.W.keepIn K (.ref f_L_do) = true)
    (a_L_events : PySem.W.nsIn K mainGlobals "_law_events" = some (some (.ref f_L_events)))
    (l_L_events : K.lookup f_L_events = some ⟨oc_L_events, od_L_events, .func (PySem.W.fnOf "_law_events" "_law_events" (C8.fnArgs s_L_events) (C8.fnBody s_L_events) (C8.fnScope s_L_events) .none kV_L_events dc_L_events pm_L_events an_L_events cd_L_events ct_L_events), sl_L_events⟩)
    (o_L_events : PySem.W.codeIn K cd_L_events "_law_events" = true)
    (k_L_events : PySem.W.keepIn K (.ref f_L_events) = true)
    (a_L_rule : PySem.W.nsIn K mainGlobals "_law_rule" = some (some (.ref f_L_rule)))
    (l_L_rule : K.lookup f_L_rule = some ⟨oc_L_rule, od_L_rule, .func (PySem.W.fnOf "_law_rule" "_law_rule" (C8.fnArgs s_L_rule) (C8.fnBody s_L_rule) (C8.fnScope s_L_rule) .none kV_L_rule dc_L_rule pm_L_rule an_L_rule cd_L_rule ct_L_rule), sl_L_rule⟩)
    (o_L_rule : PySem.W.codeIn K cd_L_rule "_law_rule" = true)
    (k_L_rule : PySem.W.keepIn K (.ref f_L_rule) = true)
    (a_L_key : PySem.W.nsIn K mainGlobals "_law_key" = some (some (.ref f_L_key)))
    (l_L_key : K.lookup f_L_key = some ⟨oc_L_key, od_L_key, .func (PySem.W.fnOf "_law_key" "_law_key" (C8.fnArgs s_L_key) (C8.fnBody s_L_key) (C8.fnScope s_L_key) .none kV_L_key dc_L_key pm_L_key an_L_key cd_L_key ct_L_key), sl_L_key⟩)
    (o_L_key : PySem.W.codeIn K cd_L_key "_law_key" = true)
    (k_L_key : PySem.W.keepIn K (.ref f_L_key) = true)
    (a_L_ways : PySem.W.nsIn K mainGlobals "_law_ways" = some (some (.ref f_L_ways)))
    (l_L_ways : K.lookup f_L_ways = some ⟨oc_L_ways, od_L_ways, .func (PySem.W.fnOf "_law_ways" "_law_ways" (C8.fnArgs s_L_ways) (C8.fnBody s_L_ways) (C8.fnScope s_L_ways) .none kV_L_ways dc_L_ways pm_L_ways an_L_ways cd_L_ways ct_L_ways), sl_L_ways⟩)
    (o_L_ways : PySem.W.codeIn K cd_L_ways "_law_ways" = true)
    (k_L_ways : PySem.W.keepIn K (.ref f_L_ways) = true)
    (a_L_due : PySem.W.nsIn K mainGlobals "_law_due" = some (some (.ref f_L_due)))
    (l_L_due : K.lookup f_L_due = some ⟨oc_L_due, od_L_due, .func (PySem.W.fnOf "_law_due" "_law_due" (C8.fnArgs s_L_due) (C8.fnBody s_L_due) (C8.fnScope s_L_due) .none kV_L_due dc_L_due pm_L_due an_L_due cd_L_due ct_L_due), sl_L_due⟩)
    (o_L_due : PySem.W.codeIn K cd_L_due "_law_due" = true)
    (k_L_due : PySem.W.keepIn K (.ref f_L_due) = true)
    (a_law : PySem.W.nsIn K mainGlobals "law" = some (some (.ref f_law)))
    (l_law : K.lookup f_law = some ⟨oc_law, od_law, .func (PySem.W.fnOf "law" "law" (C8.fnArgs s_law) (C8.fnBody s_law) (C8.fnScope s_law) .none kV_law dc_law pm_law an_law cd_law ct_law), sl_law⟩)
    (o_law : PySem.W.codeIn K cd_law "law" = true)
    (k_law : PySem.W.keepIn K (.ref f_law) = true)
    (pg : PySem.W.plainGet K C Str.empty = true)
    (hd : PySem.W.hasDictIn K C = true)
    (po : PySem.W.plainOver K C = true)
    (sa : PySem.W.findIn K (.ref C) "__setattr__" = some (some (.builtin "object.__setattr__")))
    (mk : PySem.W.makesIn K C = true)
    (kc : PySem.W.keepIn K (.ref C) = true)
    (m1 : PySem.W.findIn K (.ref C) "own_rule" = some none)
    (m2 : PySem.W.findIn K (.ref C) "line_now" = some none)
    (m3 : PySem.W.findIn K (.ref C) "came_so_far" = some none)
    (m4 : PySem.W.findIn K (.ref C) "served_so_far" = some none)
    (n_HERE : PySem.W.nsIn K mainGlobals "HERE" = some (some (.str "here" t_HERE)))
    (n_OUT : PySem.W.nsIn K mainGlobals "OUT" = some (some (.str "out" t_OUT)))
    (n_LOST : PySem.W.nsIn K mainGlobals "LOST" = some (some (.str "lost" t_LOST)))
    (n_AWAY : PySem.W.nsIn K mainGlobals "AWAY" = some (some (.str "away" t_AWAY)))
    (n_COME : PySem.W.nsIn K mainGlobals "COME" = some (some (.str "come" t_COME)))
    (n_LET : PySem.W.nsIn K mainGlobals "LET" = some (some (.str "let" t_LET)))
    (n_VANISH : PySem.W.nsIn K mainGlobals "VANISH" = some (some (.str "vanish" t_VANISH)))
    (n_LEAVE : PySem.W.nsIn K mainGlobals "LEAVE" = some (some (.str "leave" t_LEAVE)))
    (n_BACK : PySem.W.nsIn K mainGlobals "BACK" = some (some (.str "back" t_BACK)))
    (n_DOOR : PySem.W.nsIn K mainGlobals "DOOR" = some (some (.str "door" t_DOOR)))
    (n_LINE : PySem.W.nsIn K mainGlobals "LINE" = some (some (.str "line" t_LINE)))
    (n_ON : PySem.W.nsIn K mainGlobals "ON" = some (some (.str "on" t_ON)))
    (n_ASKS : PySem.W.nsIn K mainGlobals "ASKS" = some (some (.str "asks" t_ASKS)))
    (n_OLD : PySem.W.nsIn K mainGlobals "OLD" = some (some (.str "old" t_OLD)))
    (n_TELLS : PySem.W.nsIn K mainGlobals "TELLS" = some (some (.str "tells" t_TELLS)))
    (n_TOLD : PySem.W.nsIn K mainGlobals "TOLD" = some (some (.str "told" t_TOLD)))
    (n_MOST_NAMES : PySem.W.nsIn K mainGlobals "MOST_NAMES" = some (some (.int 3 t_MOST_NAMES)))
    (n_MOST_PEOPLE : PySem.W.nsIn K mainGlobals "MOST_PEOPLE" = some (some (.int 12 t_MOST_PEOPLE)))
    (n_MOST_PAIRS : PySem.W.nsIn K mainGlobals "MOST_PAIRS" = some (some (.int 20000 t_MOST_PAIRS)))
    (n_MOST_ROOM : PySem.W.nsIn K mainGlobals "MOST_ROOM" = some (some (.int 6 t_MOST_ROOM)))
    (z_tuple : PySem.W.nsIn K mainGlobals "tuple" = some none)
    (z_list : PySem.W.nsIn K mainGlobals "list" = some none)
    (z_len : PySem.W.nsIn K mainGlobals "len" = some none)
    (z_any : PySem.W.nsIn K mainGlobals "any" = some none)
    (z_sorted : PySem.W.nsIn K mainGlobals "sorted" = some none)
    (z_isinstance : PySem.W.nsIn K mainGlobals "isinstance" = some none)
    (z_int : PySem.W.nsIn K mainGlobals "int" = some none)
    (z_str : PySem.W.nsIn K mainGlobals "str" = some none)
    (z_bool : PySem.W.nsIn K mainGlobals "bool" = some none)
    (z_min : PySem.W.nsIn K mainGlobals "min" = some none)
    (z_max : PySem.W.nsIn K mainGlobals "max" = some none)
    (z_range : PySem.W.nsIn K mainGlobals "range" = some none)
    (z_enumerate : PySem.W.nsIn K mainGlobals "enumerate" = some none)
    (z_repr : PySem.W.nsIn K mainGlobals "repr" = some none)
    (n_PERSONAL : PySem.W.nsIn K mainGlobals "PERSONAL" = some (some (.ref aP)))
    (l_tP : K.lookup aP = some ⟨.type "tuple", od_tP, .seq #[.str "back" t_tP_0, .str "leave" t_tP_1, .str "let" t_tP_2, .str "out" t_tP_3, .str "vanish" t_tP_4] n_tP, sl_tP⟩)
    (n_CHOICES : PySem.W.nsIn K mainGlobals "CHOICES" = some (some (.ref aC)))
    (l_tC : K.lookup aC = some ⟨.type "tuple", od_tC, .seq #[.ref x0, .ref x1, .ref x2, .ref x3, .ref x4] n_tC, sl_tC⟩)
    (l_tC0 : K.lookup x0 = some ⟨.type "tuple", od_tC0, .seq #[.str "line" t_tC0_0, .str "seen" t_tC0_1] n_tC0, sl_tC0⟩)
    (l_tC1 : K.lookup x1 = some ⟨.type "tuple", od_tC1, .seq #[.str "none" t_tC1_0, .str "on" t_tC1_1] n_tC1, sl_tC1⟩)
    (l_tC2 : K.lookup x2 = some ⟨.type "tuple", od_tC2, .seq #[.str "asks" t_tC2_0, .str "old" t_tC2_1, .str "tells" t_tC2_2] n_tC2, sl_tC2⟩)
    (l_tC3 : K.lookup x3 = some ⟨.type "tuple", od_tC3, .seq #[.str "quiet" t_tC3_0, .str "told" t_tC3_1] n_tC3, sl_tC3⟩)
    (l_tC4 : K.lookup x4 = some ⟨.type "tuple", od_tC4, .seq #[.str "asks" t_tC4_0, .str "claims" t_tC4_1] n_tC4, sl_tC4⟩)
    : ∃ fd : FuncData, (∀ (s : Shared) (v : Value), BindsTo s fd ⟨[v], []⟩ [("_law_script", v)]) ∧ ∀ base : Heap, K.In base → base.Ns mainGlobals mg → TopOk P w K mg base fa fd "_law_script" := by
  have e := hfa.symm.trans (PySem.W.mg_of X G a_law)
  cases e
  have T : Txt mg aP aC :=
    { HERE := ⟨_, PySem.W.mg_of X G n_HERE, ⟨_, rfl⟩⟩
      OUT := ⟨_, PySem.W.mg_of X G n_OUT, ⟨_, rfl⟩⟩
      LOST := ⟨_, PySem.W.mg_of X G n_LOST, ⟨_, rfl⟩⟩
      AWAY := ⟨_, PySem.W.mg_of X G n_AWAY, ⟨_, rfl⟩⟩
      COME := ⟨_, PySem.W.mg_of X G n_COME, ⟨_, rfl⟩⟩
      LET := ⟨_, PySem.W.mg_of X G n_LET, ⟨_, rfl⟩⟩
      VANISH := ⟨_, PySem.W.mg_of X G n_VANISH, ⟨_, rfl⟩⟩
      LEAVE := ⟨_, PySem.W.mg_of X G n_LEAVE, ⟨_, rfl⟩⟩
      BACK := ⟨_, PySem.W.mg_of X G n_BACK, ⟨_, rfl⟩⟩
      DOOR := ⟨_, PySem.W.mg_of X G n_DOOR, ⟨_, rfl⟩⟩
      LINE := ⟨_, PySem.W.mg_of X G n_LINE, ⟨_, rfl⟩⟩
      ON := ⟨_, PySem.W.mg_of X G n_ON, ⟨_, rfl⟩⟩
      ASKS := ⟨_, PySem.W.mg_of X G n_ASKS, ⟨_, rfl⟩⟩
      OLD := ⟨_, PySem.W.mg_of X G n_OLD, ⟨_, rfl⟩⟩
      TELLS := ⟨_, PySem.W.mg_of X G n_TELLS, ⟨_, rfl⟩⟩
      TOLD := ⟨_, PySem.W.mg_of X G n_TOLD, ⟨_, rfl⟩⟩
      MOST_NAMES := ⟨_, PySem.W.mg_of X G n_MOST_NAMES, ⟨_, rfl⟩⟩
      MOST_PEOPLE := ⟨_, PySem.W.mg_of X G n_MOST_PEOPLE, ⟨_, rfl⟩⟩
      MOST_PAIRS := ⟨_, PySem.W.mg_of X G n_MOST_PAIRS, ⟨_, rfl⟩⟩
      MOST_ROOM := ⟨_, PySem.W.mg_of X G n_MOST_ROOM, ⟨_, rfl⟩⟩
      PERSONAL := ⟨_, PySem.W.mg_of X G n_PERSONAL, rfl⟩
      CHOICES := ⟨_, PySem.W.mg_of X G n_CHOICES, rfl⟩
      tuple := PySem.W.mg_none_of X G z_tuple
      list := PySem.W.mg_none_of X G z_list
      len := PySem.W.mg_none_of X G z_len
      any := PySem.W.mg_none_of X G z_any
      sorted := PySem.W.mg_none_of X G z_sorted
      isinstance := PySem.W.mg_none_of X G z_isinstance
      int := PySem.W.mg_none_of X G z_int
      str := PySem.W.mg_none_of X G z_str
      bool := PySem.W.mg_none_of X G z_bool
      min := PySem.W.mg_none_of X G z_min
      max := PySem.W.mg_none_of X G z_max
      range := PySem.W.mg_none_of X G z_range
      enumerate := PySem.W.mg_none_of X G z_enumerate
      repr := PySem.W.mg_none_of X G z_repr }
  have hc : Cls K C := ⟨pg, hd, po, sa⟩
  have KF : ClsF K C := ⟨hc, m1, m2, m3, m4⟩
  have hm : mg "Room" = some (.ref C) := PySem.W.mg_of X G aR
  have hP : ∀ H, Dp K H (.ref aP) dPers := fun H => dp_words (ws := ["back", "leave", "let", "out", "vanish"]) l_tP rfl rfl (by show 5 ≤ sizeLine; decide) (.cons ⟨_, rfl⟩ (.cons ⟨_, rfl⟩ (.cons ⟨_, rfl⟩ (.cons ⟨_, rfl⟩ (.cons ⟨_, rfl⟩ .nil)))))
  have h0 : ∀ H, Dp K H (.ref x0) (.tuple ([("line" : Str), ("seen" : Str)].map .str)) := fun H => dp_words l_tC0 rfl rfl (by show 2 ≤ sizeLine; decide) (.cons ⟨_, rfl⟩ (.cons ⟨_, rfl⟩ .nil))
  have h1 : ∀ H, Dp K H (.ref x1) (.tuple ([("none" : Str), ("on" : Str)].map .str)) := fun H => dp_words l_tC1 rfl rfl (by show 2 ≤ sizeLine; decide) (.cons ⟨_, rfl⟩ (.cons ⟨_, rfl⟩ .nil))
  have h2 : ∀ H, Dp K H (.ref x2) (.tuple ([("asks" : Str), ("old" : Str), ("tells" : Str)].map .str)) := fun H => dp_words l_tC2 rfl rfl (by show 3 ≤ sizeLine; decide) (.cons ⟨_, rfl⟩ (.cons ⟨_, rfl⟩ (.cons ⟨_, rfl⟩ .nil)))
  have h3 : ∀ H, Dp K H (.ref x3) (.tuple ([("quiet" : Str), ("told" : Str)].map .str)) := fun H => dp_words l_tC3 rfl rfl (by show 2 ≤ sizeLine; decide) (.cons ⟨_, rfl⟩ (.cons ⟨_, rfl⟩ .nil))
  have h4 : ∀ H, Dp K H (.ref x4) (.tuple ([("asks" : Str), ("claims" : Str)].map .str)) := fun H => dp_words l_tC4 rfl rfl (by show 2 ≤ sizeLine; decide) (.cons ⟨_, rfl⟩ (.cons ⟨_, rfl⟩ .nil))
  have hC : ∀ H, Dp K H (.ref aC) dCh := fun H => .tup (xs := [.ref x0, .ref x1, .ref x2, .ref x3, .ref x4]) (.inr ⟨_, _, _, l_tC, rfl, rfl, by show 5 ≤ sizeLine; decide, (.cons rfl (.cons rfl (.cons rfl (.cons rfl (.cons rfl .nil)))))⟩) (.cons (h0 H) (.cons (h1 H) (.cons (h2 H) (.cons (h3 H) (.cons (h4 H) .nil)))))
  have F_is_integer : C8.Fun K "is_integer" "is_integer" s_is_integer f_is_integer _ := ⟨_, _, _, _, _, _, _, _, _, _, rfl, l_is_integer, o_is_integer⟩
  have b_is_integer := F_is_integer.binds rfl (ps := ["thing"]) fun _ _ _ _ _ _ us hl => match us, hl with | [_], _ => rfl
  have F_is_between : C8.Fun K "is_between" "is_between" s_is_between f_is_between _ := ⟨_, _, _, _, _, _, _, _, _, _, rfl, l_is_between, o_is_between⟩
  have b_is_between := F_is_between.binds rfl (ps := ["thing", "least", "most"]) fun _ _ _ _ _ _ us hl => match us, hl with | [_, _, _], _ => rfl
  have F_is_one_of : C8.Fun K "is_one_of" "is_one_of" s_is_one_of f_is_one_of _ := ⟨_, _, _, _, _, _, _, _, _, _, rfl, l_is_one_of, o_is_one_of⟩
  have b_is_one_of := F_is_one_of.binds rfl (ps := ["some", "thing"]) fun _ _ _ _ _ _ us hl => match us, hl with | [_, _], _ => rfl
  have F_need_rule : C8.Fun K "need_rule" "need_rule" s_need_rule f_need_rule _ := ⟨_, _, _, _, _, _, _, _, _, _, rfl, l_need_rule, o_need_rule⟩
  have b_need_rule := F_need_rule.binds rfl (ps := ["thing"]) fun _ _ _ _ _ _ us hl => match us, hl with | [_], _ => rfl
  have F_nearest_ahead : C8.Fun K "nearest_ahead" "nearest_ahead" s_nearest_ahead f_nearest_ahead _ := ⟨_, _, _, _, _, _, _, _, _, _, rfl, l_nearest_ahead, o_nearest_ahead⟩
  have b_nearest_ahead := F_nearest_ahead.binds rfl (ps := ["rule", "line", "spot"]) fun _ _ _ _ _ _ us hl => match us, hl with | [_, _, _], _ => rfl
  have F_renewed : C8.Fun K "renewed" "renewed" s_renewed f_renewed _ := ⟨_, _, _, _, _, _, _, _, _, _, rfl, l_renewed, o_renewed⟩
  have b_renewed := F_renewed.binds rfl (ps := ["rule", "line", "spots"]) fun _ _ _ _ _ _ us hl => match us, hl with | [_, _, _], _ => rfl
  have F_spot_of : C8.Fun K "spot_of" "spot_of" s_spot_of f_spot_of _ := ⟨_, _, _, _, _, _, _, _, _, _, rfl, l_spot_of, o_spot_of⟩
  have b_spot_of := F_spot_of.binds rfl (ps := ["line", "person"]) fun _ _ _ _ _ _ us hl => match us, hl with | [_, _], _ => rfl
  have F_as_how : C8.Fun K "as_how" "as_how" s_as_how f_as_how _ := ⟨_, _, _, _, _, _, _, _, _, _, rfl, l_as_how, o_as_how⟩
  have b_as_how := F_as_how.binds rfl (ps := ["line", "spot", "how"]) fun _ _ _ _ _ _ us hl => match us, hl with | [_, _, _], _ => rfl
  have F_without : C8.Fun K "without" "without" s_without f_without _ := ⟨_, _, _, _, _, _, _, _, _, _, rfl, l_without, o_without⟩
  have b_without := F_without.binds rfl (ps := ["rule", "line", "person"]) fun _ _ _ _ _ _ us hl => match us, hl with | [_, _, _], _ => rfl
  have F_forgetting : C8.Fun K "forgetting" "forgetting" s_forgetting f_forgetting _ := ⟨_, _, _, _, _, _, _, _, _, _, rfl, l_forgetting, o_forgetting⟩
  have b_forgetting := F_forgetting.binds rfl (ps := ["line"]) fun _ _ _ _ _ _ us hl => match us, hl with | [_], _ => rfl
  have F_asked_again : C8.Fun K "asked_again" "asked_again" s_asked_again f_asked_again _ := ⟨_, _, _, _, _, _, _, _, _, _, rfl, l_asked_again, o_asked_again⟩
  have b_asked_again := F_asked_again.binds rfl (ps := ["rule", "line"]) fun _ _ _ _ _ _ us hl => match us, hl with | [_, _], _ => rfl
  have F_claiming : C8.Fun K "claiming" "claiming" s_claiming f_claiming _ := ⟨_, _, _, _, _, _, _, _, _, _, rfl, l_claiming, o_claiming⟩
  have b_claiming := F_claiming.binds rfl (ps := ["rule", "line"]) fun _ _ _ _ _ _ us hl => match us, hl with | [_, _], _ => rfl
  have F_init : C8.Fun K "__init__" "Room.__init__" s_init f_init _ := ⟨_, _, _, _, _, _, _, _, _, _, rfl, l_init, o_init⟩
  have b_init := F_init.binds rfl (ps := ["self", "rule"]) fun _ _ _ _ _ _ us hl => match us, hl with | [_, _], _ => rfl
  have F_how_is : C8.Fun K "how_is" "Room.how_is" s_how_is f_how_is _ := ⟨_, _, _, _, _, _, _, _, _, _, rfl, l_how_is, o_how_is⟩
  have b_how_is := F_how_is.binds rfl (ps := ["self", "person"]) fun _ _ _ _ _ _ us hl => match us, hl with | [_, _], _ => rfl
  have F_are_here : C8.Fun K "are_here" "Room.are_here" s_are_here f_are_here _ := ⟨_, _, _, _, _, _, _, _, _, _, rfl, l_are_here, o_are_here⟩
  have b_are_here := F_are_here.binds rfl (ps := ["self"]) fun _ _ _ _ _ _ us hl => match us, hl with | [_], _ => rfl
  have F_can_be : C8.Fun K "can_be" "Room.can_be" s_can_be f_can_be _ := ⟨_, _, _, _, _, _, _, _, _, _, rfl, l_can_be, o_can_be⟩
  have b_can_be := F_can_be.binds rfl (ps := ["self", "event"]) fun _ _ _ _ _ _ us hl => match us, hl with | [_, _], _ => rfl
  have F_put_in : C8.Fun K "put_in" "Room.put_in" s_put_in f_put_in _ := ⟨_, _, _, _, _, _, _, _, _, _, rfl, l_put_in, o_put_in⟩
  have b_put_in := F_put_in.binds rfl (ps := ["self", "spot"]) fun _ _ _ _ _ _ us hl => match us, hl with | [_, _], _ => rfl
  have F_renew_from : C8.Fun K "renew_from" "Room.renew_from" s_renew_from f_renew_from _ := ⟨_, _, _, _, _, _, _, _, _, _, rfl, l_renew_from, o_renew_from⟩
  have b_renew_from := F_renew_from.binds rfl (ps := ["self", "spot"]) fun _ _ _ _ _ _ us hl => match us, hl with | [_, _], _ => rfl
  have F_bring_back : C8.Fun K "bring_back" "Room.bring_back" s_bring_back f_bring_back _ := ⟨_, _, _, _, _, _, _, _, _, _, rfl, l_bring_back, o_bring_back⟩
  have b_bring_back := F_bring_back.binds rfl (ps := ["self", "spot"]) fun _ _ _ _ _ _ us hl => match us, hl with | [_, _], _ => rfl
  have F_open_door : C8.Fun K "open_door" "Room.open_door" s_open_door f_open_door _ := ⟨_, _, _, _, _, _, _, _, _, _, rfl, l_open_door, o_open_door⟩
  have b_open_door := F_open_door.binds rfl (ps := ["self"]) fun _ _ _ _ _ _ us hl => match us, hl with | [_], _ => rfl
  have F_do_personal : C8.Fun K "do_personal" "Room.do_personal" s_do_personal f_do_personal _ := ⟨_, _, _, _, _, _, _, _, _, _, rfl, l_do_personal, o_do_personal⟩
  have b_do_personal := F_do_personal.binds rfl (ps := ["self", "word", "person"]) fun _ _ _ _ _ _ us hl => match us, hl with | [_, _, _], _ => rfl
  have F_do : C8.Fun K "do" "Room.do" s_do f_do _ := ⟨_, _, _, _, _, _, _, _, _, _, rfl, l_do, o_do⟩
  have b_do := F_do.binds rfl (ps := ["self", "event"]) fun _ _ _ _ _ _ us hl => match us, hl with | [_, _], _ => rfl
  have F_all_events : C8.Fun K "all_events" "all_events" s_all_events f_all_events _ := ⟨_, _, _, _, _, _, _, _, _, _, rfl, l_all_events, o_all_events⟩
  have b_all_events := F_all_events.binds rfl (ps := ["room"]) fun _ _ _ _ _ _ us hl => match us, hl with | [_], _ => rfl
  have F_room_at : C8.Fun K "room_at" "room_at" s_room_at f_room_at _ := ⟨_, _, _, _, _, _, _, _, _, _, rfl, l_room_at, o_room_at⟩
  have b_room_at := F_room_at.binds rfl (ps := ["rule", "pair"]) fun _ _ _ _ _ _ us hl => match us, hl with | [_, _], _ => rfl
  have F_is_growing : C8.Fun K "is_growing" "is_growing" s_is_growing f_is_growing _ := ⟨_, _, _, _, _, _, _, _, _, _, rfl, l_is_growing, o_is_growing⟩
  have b_is_growing := F_is_growing.binds rfl (ps := ["room", "event"]) fun _ _ _ _ _ _ us hl => match us, hl with | [_, _], _ => rfl
  have F_ways_on : C8.Fun K "ways_on" "ways_on" s_ways_on f_ways_on _ := ⟨_, _, _, _, _, _, _, _, _, _, rfl, l_ways_on, o_ways_on⟩
  have b_ways_on := F_ways_on.binds rfl (ps := ["rule", "pair", "people"]) fun _ _ _ _ _ _ us hl => match us, hl with | [_, _, _], _ => rfl
  have F_need_people : C8.Fun K "need_people" "need_people" s_need_people f_need_people _ := ⟨_, _, _, _, _, _, _, _, _, _, rfl, l_need_people, o_need_people⟩
  have b_need_people := F_need_people.binds rfl (ps := ["thing", "came"]) fun _ _ _ _ _ _ us hl => match us, hl with | [_, _], _ => rfl
  have F_orders_of : C8.Fun K "orders_of" "orders_of" s_orders_of f_orders_of _ := ⟨_, _, _, _, _, _, _, _, _, _, rfl, l_orders_of, o_orders_of⟩
  have b_orders_of := F_orders_of.binds rfl (ps := ["rule", "people"]) fun _ _ _ _ _ _ us hl => match us, hl with | [_, _], _ => rfl
  have F_L_mixed : C8.Fun K "_law_mixed" "_law_mixed" s_L_mixed f_L_mixed _ := ⟨_, _, _, _, _, _, _, _, _, _, rfl, l_L_mixed, o_L_mixed⟩
  have b_L_mixed := F_L_mixed.binds rfl (ps := ["_law_cell", "_law_k"]) fun _ _ _ _ _ _ us hl => match us, hl with | [_, _], _ => rfl
  have F_L_begin : C8.Fun K "_law_begin" "_law_begin" s_L_begin f_L_begin _ := ⟨_, _, _, _, _, _, _, _, _, _, rfl, l_L_begin, o_L_begin⟩
  have b_L_begin := F_L_begin.binds rfl (ps := ["_law_script"]) fun _ _ _ _ _ _ us hl => match us, hl with | [_], _ => rfl
  have F_L_draw : C8.Fun K "_law_draw" "_law_draw" s_L_draw f_L_draw _ := ⟨_, _, _, _, _, _, _, _, _, _, rfl, l_L_draw, o_L_draw⟩
  have b_L_draw := F_L_draw.binds rfl (ps := ["_law_state", "_law_many"]) fun _ _ _ _ _ _ us hl => match us, hl with | [_, _], _ => rfl
  have F_L_names : C8.Fun K "_law_names" "_law_names" s_L_names f_L_names _ := ⟨_, _, _, _, _, _, _, _, _, _, rfl, l_L_names, o_L_names⟩
  have b_L_names := F_L_names.binds rfl (ps := ["_law_rule_here", "_law_line", "_law_spot"]) fun _ _ _ _ _ _ us hl => match us, hl with | [_, _, _], _ => rfl
  have F_L_renew : C8.Fun K "_law_renew" "_law_renew" s_L_renew f_L_renew _ := ⟨_, _, _, _, _, _, _, _, _, _, rfl, l_L_renew, o_L_renew⟩
  have b_L_renew := F_L_renew.binds rfl (ps := ["_law_rule_here", "_law_line", "_law_spots"]) fun _ _ _ _ _ _ us hl => match us, hl with | [_, _, _], _ => rfl
  have F_L_gone : C8.Fun K "_law_gone" "_law_gone" s_L_gone f_L_gone _ := ⟨_, _, _, _, _, _, _, _, _, _, rfl, l_L_gone, o_L_gone⟩
  have b_L_gone := F_L_gone.binds rfl (ps := ["_law_rule_here", "_law_line", "_law_person"]) fun _ _ _ _ _ _ us hl => match us, hl with | [_, _, _], _ => rfl
  have F_L_here : C8.Fun K "_law_here" "_law_here" s_L_here f_L_here _ := ⟨_, _, _, _, _, _, _, _, _, _, rfl, l_L_here, o_L_here⟩
  have b_L_here := F_L_here.binds rfl (ps := ["_law_line"]) fun _ _ _ _ _ _ us hl => match us, hl with | [_], _ => rfl
  have F_L_asked : C8.Fun K "_law_asked" "_law_asked" s_L_asked f_L_asked _ := ⟨_, _, _, _, _, _, _, _, _, _, rfl, l_L_asked, o_L_asked⟩
  have b_L_asked := F_L_asked.binds rfl (ps := ["_law_rule_here", "_law_line"]) fun _ _ _ _ _ _ us hl => match us, hl with | [_, _], _ => rfl
  have F_L_claims : C8.Fun K "_law_claims" "_law_claims" s_L_claims f_L_claims _ := ⟨_, _, _, _, _, _, _, _, _, _, rfl, l_L_claims, o_L_claims⟩
  have b_L_claims := F_L_claims.binds rfl (ps := ["_law_rule_here", "_law_rows"]) fun _ _ _ _ _ _ us hl => match us, hl with | [_, _], _ => rfl
  have F_L_come : C8.Fun K "_law_come" "_law_come" s_L_come f_L_come _ := ⟨_, _, _, _, _, _, _, _, _, _, rfl, l_L_come, o_L_come⟩
  have b_L_come := F_L_come.binds rfl (ps := ["_law_rule_here", "_law_line", "_law_spot", "_law_person"]) fun _ _ _ _ _ _ us hl => match us, hl with | [_, _, _, _], _ => rfl
  have F_L_how : C8.Fun K "_law_how" "_law_how" s_L_how f_L_how _ := ⟨_, _, _, _, _, _, _, _, _, _, rfl, l_L_how, o_L_how⟩
  have b_L_how := F_L_how.binds rfl (ps := ["_law_line", "_law_person"]) fun _ _ _ _ _ _ us hl => match us, hl with | [_, _], _ => rfl
  have F_L_can : C8.Fun K "_law_can" "_law_can" s_L_can f_L_can _ := ⟨_, _, _, _, _, _, _, _, _, _, rfl, l_L_can, o_L_can⟩
  have b_L_can := F_L_can.binds rfl (ps := ["_law_rule_here", "_law_room", "_law_event"]) fun _ _ _ _ _ _ us hl => match us, hl with | [_, _, _], _ => rfl
  have F_L_back : C8.Fun K "_law_back" "_law_back" s_L_back f_L_back _ := ⟨_, _, _, _, _, _, _, _, _, _, rfl, l_L_back, o_L_back⟩
  have b_L_back := F_L_back.binds rfl (ps := ["_law_rule_here", "_law_line", "_law_came", "_law_spot"]) fun _ _ _ _ _ _ us hl => match us, hl with | [_, _, _, _], _ => rfl
  have F_L_do : C8.Fun K "_law_do" "_law_do" s_L_do f_L_do _ := ⟨_, _, _, _, _, _, _, _, _, _, rfl, l_L_do, o_L_do⟩
  have b_L_do := F_L_do.binds rfl (ps := ["_law_rule_here", "_law_room", "_law_event"]) fun _ _ _ _ _ _ us hl => match us, hl with | [_, _, _], _ => rfl
  have F_L_events : C8.Fun K "_law_events" "_law_events" s_L_events f_L_events _ := ⟨_, _, _, _, _, _, _, _, _, _, rfl, l_L_events, o_L_events⟩
  have b_L_events := F_L_events.binds rfl (ps := ["_law_rule_here", "_law_room"]) fun _ _ _ _ _ _ us hl => match us, hl with | [_, _], _ => rfl
  have F_L_rule : C8.Fun K "_law_rule" "_law_rule" s_L_rule f_L_rule _ := ⟨_, _, _, _, _, _, _, _, _, _, rfl, l_L_rule, o_L_rule⟩
  have b_L_rule := F_L_rule.binds rfl (ps := ["_law_state"]) fun _ _ _ _ _ _ us hl => match us, hl with | [_], _ => rfl
  have F_L_key : C8.Fun K "_law_key" "_law_key" s_L_key f_L_key _ := ⟨_, _, _, _, _, _, _, _, _, _, rfl, l_L_key, o_L_key⟩
  have b_L_key := F_L_key.binds rfl (ps := ["_law_room"]) fun _ _ _ _ _ _ us hl => match us, hl with | [_], _ => rfl
  have F_L_ways : C8.Fun K "_law_ways" "_law_ways" s_L_ways f_L_ways _ := ⟨_, _, _, _, _, _, _, _, _, _, rfl, l_L_ways, o_L_ways⟩
  have b_L_ways := F_L_ways.binds rfl (ps := ["_law_rule_here", "_law_key_here", "_law_people"]) fun _ _ _ _ _ _ us hl => match us, hl with | [_, _, _], _ => rfl
  have F_L_due : C8.Fun K "_law_due" "_law_due" s_L_due f_L_due _ := ⟨_, _, _, _, _, _, _, _, _, _, rfl, l_L_due, o_L_due⟩
  have b_L_due := F_L_due.binds rfl (ps := ["_law_rule_here", "_law_people", "_law_most"]) fun _ _ _ _ _ _ us hl => match us, hl with | [_, _, _], _ => rfl
  have F_law : C8.Fun K "law" "law" s_law fa _ := ⟨_, _, _, _, _, _, _, _, _, _, rfl, l_law, o_law⟩
  refine ⟨PySem.W.fnOf "law" "law" (C8.fnArgs s_law) (C8.fnBody s_law) (C8.fnScope s_law) .none kV_law dc_law pm_law an_law cd_law ct_law, fun s v => .of_eq rfl, fun base _ _ => ?_⟩
  have c_is_integer : C8.Cal P w K mg base 1 "is_integer" (sp_is_integer ⟨P, w, K, C, aP, aC⟩) [] := ok_is_integer T ⟨F_is_integer, PySem.W.mg_of X G a_is_integer, k_is_integer⟩ b_is_integer
  have c_is_between : C8.Cal P w K mg base 2 "is_between" (sp_is_between ⟨P, w, K, C, aP, aC⟩) [] := ok_is_between T c_is_integer ⟨F_is_between, PySem.W.mg_of X G a_is_between, k_is_between⟩ b_is_between
  have c_is_one_of : C8.Cal P w K mg base 1 "is_one_of" (sp_is_one_of ⟨P, w, K, C, aP, aC⟩) [] := ok_is_one_of T ⟨F_is_one_of, PySem.W.mg_of X G a_is_one_of, k_is_one_of⟩ b_is_one_of
  have c_need_rule : C8.Cal P w K mg base 3 "need_rule" (sp_need_rule ⟨P, w, K, C, aP, aC⟩) [] := ok_need_rule T c_is_between c_is_one_of hC ⟨F_need_rule, PySem.W.mg_of X G a_need_rule, k_need_rule⟩ b_need_rule
  have c_nearest_ahead : C8.Cal P w K mg base 1 "nearest_ahead" (sp_nearest_ahead ⟨P, w, K, C, aP, aC⟩) [] := ok_nearest_ahead T ⟨F_nearest_ahead, PySem.W.mg_of X G a_nearest_ahead, k_nearest_ahead⟩ b_nearest_ahead
  have c_renewed : C8.Cal P w K mg base 2 "renewed" (sp_renewed ⟨P, w, K, C, aP, aC⟩) [] := ok_renewed T c_nearest_ahead ⟨F_renewed, PySem.W.mg_of X G a_renewed, k_renewed⟩ b_renewed
  have c_spot_of : C8.Cal P w K mg base 1 "spot_of" (sp_spot_of ⟨P, w, K, C, aP, aC⟩) [] := ok_spot_of T ⟨F_spot_of, PySem.W.mg_of X G a_spot_of, k_spot_of⟩ b_spot_of
  have c_as_how : C8.Cal P w K mg base 1 "as_how" (sp_as_how ⟨P, w, K, C, aP, aC⟩) [] := ok_as_how T ⟨F_as_how, PySem.W.mg_of X G a_as_how, k_as_how⟩ b_as_how
  have c_without : C8.Cal P w K mg base 3 "without" (sp_without ⟨P, w, K, C, aP, aC⟩) [] := ok_without T c_renewed ⟨F_without, PySem.W.mg_of X G a_without, k_without⟩ b_without
  have c_forgetting : C8.Cal P w K mg base 1 "forgetting" (sp_forgetting ⟨P, w, K, C, aP, aC⟩) [] := ok_forgetting T ⟨F_forgetting, PySem.W.mg_of X G a_forgetting, k_forgetting⟩ b_forgetting
  have c_asked_again : C8.Cal P w K mg base 3 "asked_again" (sp_asked_again ⟨P, w, K, C, aP, aC⟩) [] := ok_asked_again T c_renewed ⟨F_asked_again, PySem.W.mg_of X G a_asked_again, k_asked_again⟩ b_asked_again
  have c_claiming : C8.Cal P w K mg base 1 "claiming" (sp_claiming ⟨P, w, K, C, aP, aC⟩) [] := ok_claiming T ⟨F_claiming, PySem.W.mg_of X G a_claiming, k_claiming⟩ b_claiming
  have c_init : C8.Mak P w K mg base 1 "Room" C (sp_init ⟨P, w, K, C, aP, aC⟩) [] := ok_init T KF F_init ⟨mk, a_init, i_init, kc⟩ hm b_init
  have c_how_is : C8.Met P w K mg base 1 C "how_is" (sp_how_is ⟨P, w, K, C, aP, aC⟩) [] := ok_how_is T KF F_how_is ⟨a_how_is, i_how_is, k_how_is⟩ hc b_how_is
  have c_are_here : C8.Met P w K mg base 1 C "are_here" (sp_are_here ⟨P, w, K, C, aP, aC⟩) [] := ok_are_here T KF F_are_here ⟨a_are_here, i_are_here, k_are_here⟩ hc b_are_here
  have c_can_be : C8.Met P w K mg base 2 C "can_be" (sp_can_be ⟨P, w, K, C, aP, aC⟩) [] := ok_can_be T c_are_here c_how_is KF F_can_be ⟨a_can_be, i_can_be, k_can_be⟩ hc b_can_be
  have c_put_in : C8.Met P w K mg base 3 C "put_in" (sp_put_in ⟨P, w, K, C, aP, aC⟩) [] := ok_put_in T c_renewed KF F_put_in ⟨a_put_in, i_put_in, k_put_in⟩ hc b_put_in
  have c_renew_from : C8.Met P w K mg base 3 C "renew_from" (sp_renew_from ⟨P, w, K, C, aP, aC⟩) [] := ok_renew_from T c_renewed KF F_renew_from ⟨a_renew_from, i_renew_from, k_renew_from⟩ hc b_renew_from
  have c_bring_back : C8.Met P w K mg base 4 C "bring_back" (sp_bring_back ⟨P, w, K, C, aP, aC⟩) [] := ok_bring_back T c_as_how c_renewed c_put_in c_renew_from KF F_bring_back ⟨a_bring_back, i_bring_back, k_bring_back⟩ hc b_bring_back
  have c_open_door : C8.Met P w K mg base 4 C "open_door" (sp_open_door ⟨P, w, K, C, aP, aC⟩) [] := ok_open_door T c_asked_again c_claiming c_without KF F_open_door ⟨a_open_door, i_open_door, k_open_door⟩ hc b_open_door
  have c_do_personal : C8.Met P w K mg base 5 C "do_personal" (sp_do_personal ⟨P, w, K, C, aP, aC⟩) [] := ok_do_personal T c_as_how c_spot_of c_without c_bring_back c_put_in c_renew_from KF F_do_personal ⟨a_do_personal, i_do_personal, k_do_personal⟩ hc b_do_personal
  have c_do : C8.Met P w K mg base 6 C "do" (sp_do ⟨P, w, K, C, aP, aC⟩) [] := ok_do T c_forgetting c_do_personal c_open_door c_put_in KF F_do ⟨a_do, i_do, k_do⟩ hc b_do
  have c_all_events : C8.Cal P w K mg base 3 "all_events" (sp_all_events ⟨P, w, K, C, aP, aC⟩) [] := ok_all_events T c_are_here c_can_be KF hP ⟨F_all_events, PySem.W.mg_of X G a_all_events, k_all_events⟩ b_all_events
  have c_room_at : C8.Cal P w K mg base 3 "room_at" (sp_room_at ⟨P, w, K, C, aP, aC⟩) [] := ok_room_at T c_init KF ⟨F_room_at, PySem.W.mg_of X G a_room_at, k_room_at⟩ b_room_at
  have c_is_growing : C8.Cal P w K mg base 2 "is_growing" (sp_is_growing ⟨P, w, K, C, aP, aC⟩) [] := ok_is_growing T c_how_is KF ⟨F_is_growing, PySem.W.mg_of X G a_is_growing, k_is_growing⟩ b_is_growing
  have c_ways_on : C8.Cal P w K mg base 7 "ways_on" (sp_ways_on ⟨P, w, K, C, aP, aC⟩) [] := ok_ways_on T c_all_events c_is_growing c_room_at c_do KF ⟨F_ways_on, PySem.W.mg_of X G a_ways_on, k_ways_on⟩ b_ways_on
  have c_need_people : C8.Cal P w K mg base 3 "need_people" (sp_need_people ⟨P, w, K, C, aP, aC⟩) [] := ok_need_people T c_is_between ⟨F_need_people, PySem.W.mg_of X G a_need_people, k_need_people⟩ b_need_people
  have c_orders_of : C8.Cal P w K mg base 8 "orders_of" (sp_orders_of ⟨P, w, K, C, aP, aC⟩) [] := ok_orders_of T c_need_people c_need_rule c_ways_on ⟨F_orders_of, PySem.W.mg_of X G a_orders_of, k_orders_of⟩ b_orders_of
  have c_L_mixed : C8.Cal P w K mg base 1 "_law_mixed" (sp_L_mixed ⟨P, w, K, C, aP, aC⟩) [] := ok_L_mixed T ⟨F_L_mixed, PySem.W.mg_of X G a_L_mixed, k_L_mixed⟩ b_L_mixed
  have c_L_begin : C8.Cal P w K mg base 1 "_law_begin" (sp_L_begin ⟨P, w, K, C, aP, aC⟩) [] := ok_L_begin T ⟨F_L_begin, PySem.W.mg_of X G a_L_begin, k_L_begin⟩ b_L_begin
  have c_L_draw : C8.Cal P w K mg base 2 "_law_draw" (sp_L_draw ⟨P, w, K, C, aP, aC⟩) [] := ok_L_draw T c_L_mixed ⟨F_L_draw, PySem.W.mg_of X G a_L_draw, k_L_draw⟩ b_L_draw
  have c_L_names : C8.Cal P w K mg base 1 "_law_names" (sp_L_names ⟨P, w, K, C, aP, aC⟩) [] := ok_L_names T ⟨F_L_names, PySem.W.mg_of X G a_L_names, k_L_names⟩ b_L_names
  have c_L_renew : C8.Cal P w K mg base 2 "_law_renew" (sp_L_renew ⟨P, w, K, C, aP, aC⟩) [] := ok_L_renew T c_L_names ⟨F_L_renew, PySem.W.mg_of X G a_L_renew, k_L_renew⟩ b_L_renew
  have c_L_gone : C8.Cal P w K mg base 3 "_law_gone" (sp_L_gone ⟨P, w, K, C, aP, aC⟩) [] := ok_L_gone T c_L_renew ⟨F_L_gone, PySem.W.mg_of X G a_L_gone, k_L_gone⟩ b_L_gone
  have c_L_here : C8.Cal P w K mg base 1 "_law_here" (sp_L_here ⟨P, w, K, C, aP, aC⟩) [] := ok_L_here T ⟨F_L_here, PySem.W.mg_of X G a_L_here, k_L_here⟩ b_L_here
  have c_L_asked : C8.Cal P w K mg base 3 "_law_asked" (sp_L_asked ⟨P, w, K, C, aP, aC⟩) [] := ok_L_asked T c_L_renew ⟨F_L_asked, PySem.W.mg_of X G a_L_asked, k_L_asked⟩ b_L_asked
  have c_L_claims : C8.Cal P w K mg base 2 "_law_claims" (sp_L_claims ⟨P, w, K, C, aP, aC⟩) [] := ok_L_claims T c_L_here ⟨F_L_claims, PySem.W.mg_of X G a_L_claims, k_L_claims⟩ b_L_claims
  have c_L_come : C8.Cal P w K mg base 3 "_law_come" (sp_L_come ⟨P, w, K, C, aP, aC⟩) [] := ok_L_come T c_L_renew ⟨F_L_come, PySem.W.mg_of X G a_L_come, k_L_come⟩ b_L_come
  have c_L_how : C8.Cal P w K mg base 1 "_law_how" (sp_L_how ⟨P, w, K, C, aP, aC⟩) [] := ok_L_how T ⟨F_L_how, PySem.W.mg_of X G a_L_how, k_L_how⟩ b_L_how
  have c_L_can : C8.Cal P w K mg base 2 "_law_can" (sp_L_can ⟨P, w, K, C, aP, aC⟩) [] := ok_L_can T c_L_here c_L_how ⟨F_L_can, PySem.W.mg_of X G a_L_can, k_L_can⟩ b_L_can
  have c_L_back : C8.Cal P w K mg base 4 "_law_back" (sp_L_back ⟨P, w, K, C, aP, aC⟩) [] := ok_L_back T c_L_come c_L_renew ⟨F_L_back, PySem.W.mg_of X G a_L_back, k_L_back⟩ b_L_back
  have c_L_do : C8.Cal P w K mg base 5 "_law_do" (sp_L_do ⟨P, w, K, C, aP, aC⟩) [] := ok_L_do T c_L_asked c_L_back c_L_claims c_L_come c_L_gone c_L_here c_L_renew ⟨F_L_do, PySem.W.mg_of X G a_L_do, k_L_do⟩ b_L_do
  have c_L_events : C8.Cal P w K mg base 3 "_law_events" (sp_L_events ⟨P, w, K, C, aP, aC⟩) [] := ok_L_events T c_L_can ⟨F_L_events, PySem.W.mg_of X G a_L_events, k_L_events⟩ b_L_events
  have c_L_rule : C8.Cal P w K mg base 3 "_law_rule" (sp_L_rule ⟨P, w, K, C, aP, aC⟩) [] := ok_L_rule T c_L_draw ⟨F_L_rule, PySem.W.mg_of X G a_L_rule, k_L_rule⟩ b_L_rule
  have c_L_key : C8.Cal P w K mg base 1 "_law_key" (sp_L_key ⟨P, w, K, C, aP, aC⟩) [] := ok_L_key T ⟨F_L_key, PySem.W.mg_of X G a_L_key, k_L_key⟩ b_L_key
  have c_L_ways : C8.Cal P w K mg base 6 "_law_ways" (sp_L_ways ⟨P, w, K, C, aP, aC⟩) [] := ok_L_ways T c_L_do c_L_events c_L_key ⟨F_L_ways, PySem.W.mg_of X G a_L_ways, k_L_ways⟩ b_L_ways
  have c_L_due : C8.Cal P w K mg base 7 "_law_due" (sp_L_due ⟨P, w, K, C, aP, aC⟩) [] := ok_L_due T c_L_ways ⟨F_L_due, PySem.W.mg_of X G a_L_due, k_L_due⟩ b_L_due
  intro s H a ns few seq env bind
  exact run_top (vs := [.ref a]) (us := [.ref a]) F_law sc_law (fun vs H Q E z => by
    obtain ⟨a, ns, rfl, _⟩ := z
    rfl) ⟨rfl, by decide, by decide⟩ (fun cdv s H vs Q E hr z => ⟨_, d_law T c_L_begin c_L_draw c_L_due c_L_rule c_orders_of hr rfl, w_law vs H Q E z⟩) env bind (.cons rfl .nil) ⟨a, ns, rfl, seq, few, fun _ => rfl⟩
end Ask
-- AskFin
set_option Elab.async false
set_option linter.all false
set_option maxRecDepth 100000
/-! the statement -/
open PySem PySem.W PyProof.Rows in
set_option maxRecDepth 100000 in
set_option maxHeartbeats 0 in
theorem PySem.Challenge.cw_asklast_k15_whole_orders_holds : PySem.Challenge.rw_asklast_k15_whole_orders.Holds := by
  w_on; o_law; k_head; (case hw => w_witness2)
  k_fill
  refine Ask.top_walk (x := "_law_script") (l := PySem.Challenge.rw_asklast_k15_whole_orders) rfl rfl (fun w h Y => PySem.W.kIn_of Y) ?F
  case F =>
    intro w mg fa h KX G hmg
    refine' Ask.all_mk KX G hmg ?aR ?a_is_integer ?l_is_integer ?o_is_integer ?k_is_integer ?a_is_between ?l_is_between ?o_is_between ?k_is_between ?a_is_one_of ?l_is_one_of ?o_is_one_of ?k_is_one_of ?a_need_rule ?l_need_rule ?o_need_rule ?k_need_rule ?a_nearest_ahead ?l_nearest_ahead ?o_nearest_ahead ?k_nearest_ahead ?a_renewed ?l_renewed ?o_renewed ?k_renewed ?a_spot_of ?l_spot_of ?o_spot_of ?k_spot_of ?a_as_how ?l_as_how ?o_as_how ?k_as_how ?a_without ?l_without ?o_without ?k_without ?a_forgetting ?l_forgetting ?o_forgetting ?k_forgetting ?a_asked_again ?l_asked_again ?o_asked_again ?k_asked_again ?a_claiming ?l_claiming ?o_claiming ?k_claiming ?a_init ?i_init ?l_init ?o_init ?a_how_is ?i_how_is ?l_how_is ?o_how_is ?k_how_is ?a_are_here ?i_are_here ?l_are_here ?o_are_here ?k_are_here ?a_can_be ?i_can_be ?l_can_be ?o_can_be ?k_can_be ?a_put_in ?i_put_in ?l_put_in ?o_put_in ?k_put_in ?a_renew_from ?i_renew_from ?l_renew_from ?o_renew_from ?k_renew_from ?a_bring_back ?i_bring_back ?l_bring_back ?o_bring_back ?k_bring_back ?a_open_door ?i_open_door ?l_open_door ?o_open_door ?k_open_door ?a_do_personal ?i_do_personal ?l_do_personal ?o_do_personal ?k_do_personal ?a_do ?i_do ?l_do ?o_do ?k_do ?a_all_events ?l_all_events ?o_all_events ?k_all_events ?a_room_at ?l_room_at ?o_room_at ?k_room_at ?a_is_growing ?l_is_growing ?o_is_growing ?k_is_growing ?a_ways_on ?l_ways_on ?o_ways_on ?k_ways_on ?a_need_people ?l_need_people ?o_need_people ?k_need_people ?a_orders_of ?l_orders_of ?o_orders_of ?k_orders_of ?a_L_mixed ?l_L_mixed ?o_L_mixed ?k_L_mixed ?a_L_begin ?l_L_begin ?o_L_begin ?k_L_begin ?a_L_draw ?l_L_draw ?o_L_draw ?k_L_draw ?a_L_names ?l_L_names ?o_L_names ?k_L_names ?a_L_renew ?l_L_renew ?o_L_renew ?k_L_renew ?a_L_gone ?l_L_gone ?o_L_gone ?k_L_gone ?a_L_here ?l_L_here ?o_L_here ?k_L_here ?a_L_asked ?l_L_asked ?o_L_asked ?k_L_asked ?a_L_claims ?l_L_claims ?o_L_claims ?k_L_claims ?a_L_come ?l_L_come ?o_L_come ?k_L_come ?a_L_how ?l_L_how ?o_L_how ?k_L_how ?a_L_can ?l_L_can ?o_L_can ?k_L_can ?a_L_back ?l_L_back ?o_L_back ?k_L_back ?a_L_do ?l_L_do ?o_L_do ?k_L_do ?a_L_events ?l_L_events ?o_L_events ?k_L_events ?a_L_rule ?l_L_rule ?o_L_rule ?k_L_rule ?a_L_key ?l_L_key ?o_L_key ?k_L_key ?a_L_ways ?l_L_ways ?o_L_ways ?k_L_ways ?a_L_due ?l_L_due ?o_L_due ?k_L_due ?a_law ?l_law ?o_law ?k_law ?pg ?hd ?po ?sa ?mk ?kc ?m1 ?m2 ?m3 ?m4 ?n_HERE ?n_OUT ?n_LOST ?n_AWAY ?n_COME ?n_LET ?n_VANISH ?n_LEAVE ?n_BACK ?n_DOOR ?n_LINE ?n_ON ?n_ASKS ?n_OLD ?n_TELLS ?n_TOLD ?n_MOST_NAMES ?n_MOST_PEOPLE ?n_MOST_PAIRS ?n_MOST_ROOM ?z_tuple ?z_list ?z_len ?z_any ?z_sorted ?z_isinstance ?z_int ?z_str ?z_bool ?z_min ?z_max ?z_range ?z_enumerate ?z_repr ?n_PERSONAL ?l_tP ?n_CHOICES ?l_tC ?l_tC0 ?l_tC1 ?l_tC2 ?l_tC3 ?l_tC4
    (case aR => k_is)
    (case a_is_integer => k_is)
    (case l_is_integer => k_is)
    (case o_is_integer => k_is)
    (case k_is_integer => k_is)
    (case a_is_between => k_is)
    (case l_is_between => k_is)
    (case o_is_between => k_is)
    (case k_is_between => k_is)
    (case a_is_one_of => k_is)
    (case l_is_one_of => k_is)
    (case o_is_one_of => k_is)
    (case k_is_one_of => k_is)
    (case a_need_rule => k_is)
    (case l_need_rule => k_is)
    (case o_need_rule => k_is)
    (case k_need_rule => k_is)
    (case a_nearest_ahead => k_is)
    (case l_nearest_ahead => k_is)
    (case o_nearest_ahead => k_is)
    (case k_nearest_ahead => k_is)
    (case a_renewed => k_is)
    (case l_renewed => k_is)
    (case o_renewed => k_is)
    (case k_renewed => k_is)
    (case a_spot_of => k_is)
    (case l_spot_of => k_is)
    (case o_spot_of => k_is)
    (case k_spot_of => k_is)
    (case a_as_how => k_is)
    (case l_as_how => k_is)
    (case o_as_how => k_is)
    (case k_as_how => k_is)
    (case a_without => k_is)
    (case l_without => k_is)
    (case o_without => k_is)
    (case k_without => k_is)
    (case a_forgetting => k_is)
    (case l_forgetting => k_is)
    (case o_forgetting => k_is)
    (case k_forgetting => k_is)
    (case a_asked_again => k_is)
    (case l_asked_again => k_is)
    (case o_asked_again => k_is)
    (case k_asked_again => k_is)
    (case a_claiming => k_is)
    (case l_claiming => k_is)
    (case o_claiming => k_is)
    (case k_claiming => k_is)
    (case a_init => k_is)
    (case i_init => k_is)
    (case l_init => k_is)
    (case o_init => k_is)
    (case a_how_is => k_is)
    (case i_how_is => k_is)
    (case l_how_is => k_is)
    (case o_how_is => k_is)
    (case k_how_is => k_is)
    (case a_are_here => k_is)
    (case i_are_here => k_is)
    (case l_are_here => k_is)
    (case o_are_here => k_is)
    (case k_are_here => k_is)
    (case a_can_be => k_is)
    (case i_can_be => k_is)
    (case l_can_be => k_is)
    (case o_can_be => k_is)
    (case k_can_be => k_is)
    (case a_put_in => k_is)
    (case i_put_in => k_is)
    (case l_put_in => k_is)
    (case o_put_in => k_is)
    (case k_put_in => k_is)
    (case a_renew_from => k_is)
    (case i_renew_from => k_is)
    (case l_renew_from => k_is)
    (case o_renew_from => k_is)
    (case k_renew_from => k_is)
    (case a_bring_back => k_is)
    (case i_bring_back => k_is)
    (case l_bring_back => k_is)
    (case o_bring_back => k_is)
    (case k_bring_back => k_is)
    (case a_open_door => k_is)
    (case i_open_door => k_is)
    (case l_open_door => k_is)
    (case o_open_door => k_is)
    (case k_open_door => k_is)
    (case a_do_personal => k_is)
    (case i_do_personal => k_is)
    (case l_do_personal => k_is)
    (case o_do_personal => k_is)
    (case k_do_personal => k_is)
    (case a_do => k_is)
    (case i_do => k_is)
    (case l_do => k_is)
    (case o_do => k_is)
    (case k_do => k_is)
    (case a_all_events => k_is)
    (case l_all_events => k_is)
    (case o_all_events => k_is)
    (case k_all_events => k_is)
    (case a_room_at => k_is)
    (case l_room_at => k_is)
    (case o_room_at => k_is)
    (case k_room_at => k_is)
    (case a_is_growing => k_is)
    (case l_is_growing => k_is)
    (case o_is_growing => k_is)
    (case k_is_growing => k_is)
    (case a_ways_on => k_is)
    (case l_ways_on => k_is)
    (case o_ways_on => k_is)
    (case k_ways_on => k_is)
    (case a_need_people => k_is)
    (case l_need_people => k_is)
    (case o_need_people => k_is)
    (case k_need_people => k_is)
    (case a_orders_of => k_is)
    (case l_orders_of => k_is)
    (case o_orders_of => k_is)
    (case k_orders_of => k_is)
    (case a_L_mixed => k_is)
    (case l_L_mixed => k_is)
    (case o_L_mixed => k_is)
    (case k_L_mixed => k_is)
    (case a_L_begin => k_is)
    (case l_L_begin => k_is)
    (case o_L_begin => k_is)
    (case k_L_begin => k_is)
    (case a_L_draw => k_is)
    (case l_L_draw => k_is)
    (case o_L_draw => k_is)
    (case k_L_draw => k_is)
    (case a_L_names => k_is)
    (case l_L_names => k_is)
    (case o_L_names => k_is)
    (case k_L_names => k_is)
    (case a_L_renew => k_is)
    (case l_L_renew => k_is)
    (case o_L_renew => k_is)
    (case k_L_renew => k_is)
    (case a_L_gone => k_is)
    (case l_L_gone => k_is)
    (case o_L_gone => k_is)
    (case k_L_gone => k_is)
    (case a_L_here => k_is)
    (case l_L_here => k_is)
    (case o_L_here => k_is)
    (case k_L_here => k_is)
    (case a_L_asked => k_is)
    (case l_L_asked => k_is)
    (case o_L_asked => k_is)
    (case k_L_asked => k_is)
    (case a_L_claims => k_is)
    (case l_L_claims => k_is)
    (case o_L_claims => k_is)
    (case k_L_claims => k_is)
    (case a_L_come => k_is)
    (case l_L_come => k_is)
    (case o_L_come => k_is)
    (case k_L_come => k_is)
    (case a_L_how => k_is)
    (case l_L_how => k_is)
    (case o_L_how => k_is)
    (case k_L_how => k_is)
    (case a_L_can => k_is)
    (case l_L_can => k_is)
    (case o_L_can => k_is)
    (case k_L_can => k_is)
    (case a_L_back => k_is)
    (case l_L_back => k_is)
    (case o_L_back => k_is)
    (case k_L_back => k_is)
    (case a_L_do => k_is)
    (case l_L_do => k_is)
    (case o_L_do => k_is)
    (case k_L_do => k_is)
    (case a_L_events => k_is)
    (case l_L_events => k_is)
    (case o_L_events => k_is)
    (case k_L_events => k_is)
    (case a_L_rule => k_is)
    (case l_L_rule => k_is)
    (case o_L_rule => k_is)
    (case k_L_rule => k_is)
    (case a_L_key => k_is)
    (case l_L_key => k_is)
    (case o_L_key => k_is)
    (case k_L_key => k_is)
    (case a_L_ways => k_is)
    (case l_L_ways => k_is)
    (case o_L_ways => k_is)
    (case k_L_ways => k_is)
    (case a_L_due => k_is)
    (case l_L_due => k_is)
    (case o_L_due => k_is)
    (case k_L_due => k_is)
    (case a_law => k_is)
    (case l_law => k_is)
    (case o_law => k_is)
    (case k_law => k_is)
    (case pg => k_is)
    (case hd => k_is)
    (case po => k_is)
    (case sa => k_is)
    (case mk => k_is)
    (case kc => k_is)
    (case m1 => k_is)
    (case m2 => k_is)
    (case m3 => k_is)
    (case m4 => k_is)
    (case n_HERE => k_is)
    (case n_OUT => k_is)
    (case n_LOST => k_is)
    (case n_AWAY => k_is)
    (case n_COME => k_is)
    (case n_LET => k_is)
    (case n_VANISH => k_is)
    (case n_LEAVE => k_is)
    (case n_BACK => k_is)
    (case n_DOOR => k_is)
    (case n_LINE => k_is)
    (case n_ON => k_is)
    (case n_ASKS => k_is)
    (case n_OLD => k_is)
    (case n_TELLS => k_is)
    (case n_TOLD => k_is)
    (case n_MOST_NAMES => k_is)
    (case n_MOST_PEOPLE => k_is)
    (case n_MOST_PAIRS => k_is)
    (case n_MOST_ROOM => k_is)
    (case z_tuple => k_is)
    (case z_list => k_is)
    (case z_len => k_is)
    (case z_any => k_is)
    (case z_sorted => k_is)
    (case z_isinstance => k_is)
    (case z_int => k_is)
    (case z_str => k_is)
    (case z_bool => k_is)
    (case z_min => k_is)
    (case z_max => k_is)
    (case z_range => k_is)
    (case z_enumerate => k_is)
    (case z_repr => k_is)
    (case n_PERSONAL => k_is)
    (case l_tP => k_is)
    (case n_CHOICES => k_is)
    (case l_tC => k_is)
    (case l_tC0 => k_is)
    (case l_tC1 => k_is)
    (case l_tC2 => k_is)
    (case l_tC3 => k_is)
    (case l_tC4 => k_is)
#print axioms PySem.Challenge.cw_asklast_k15_whole_orders_holds
