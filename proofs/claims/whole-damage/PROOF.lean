import PyProof.Rows.All
import Wide.All
import OpenK.AllK
import Wide.FinOn
import HandS.ForMost
import HandS.TupAny
import HandS.Deep
import HandS.Defaults
import HandS.DictComp
import HandS.Conv
import HandS.RevTup
import HandS.Rev
import HandS.SetKeys
import KE.KDictList
import HandS.RaiseMore
import KE.KStateDown
import HandS.Head0
import HandS.Head1
import HandS.Head2
import HandS.HeadEnd
import HandS.HeadHook1
import HandS.HeadHook2
import HandS.Ends
import PySem.Challenge.RW_chartspec_k62_whole_damage_is_enough
set_option Elab.async false
set_option linter.all false
set_option maxRecDepth 100000
set_option maxHeartbeats 4000000
namespace Cs
open PySem PySem.Spec PyProof.Rows L2
/-- the program and the world that the data stand in -/
class Wd where
  P : Program
  w : World
/-! ### keys that may be None -/
abbrev NKey := Option Key
def nIs : NKey → Value → Bool
  | none, .none => true
  | none, _ => false
  | some k, v => keyIs k v
def nHash (w : World) : NKey → Int
  | none => 0xFCA86420
  | some k => keyH w k
def nV : NKey → V
  | none => .non
  | some k => kV k
theorem nIs_shape {k : NKey} {v : Value} (h : nIs k v = true) : (k = none ∧ v = .none) ∨ ∃ j, k = some j ∧ keyIs j v = true := by
  cases k with
  | none =>
    cases v with
    | none => exact .inl ⟨rfl, rfl⟩
    | _ => cases h
  | some j => exact .inr ⟨j, rfl, h⟩
theorem nRel {k : NKey} {u : Value} (r : RelV (nV k) u) : nIs k u = true := by
  cases k with
  | none => cases r; rfl
  | some j =>
    cases j with
    | inl i => obtain ⟨t, rfl⟩ := (show ∃ t, u = Value.int i t from r); exact keyIs_int i t
    | inr x => obtain ⟨t, rfl⟩ := (show ∃ t, u = Value.str x t from r); exact keyIs_str x t
theorem nV_inj {a b : NKey} (e : nV a = nV b) : a = b := by
  cases a with
  | none => cases b with
    | none => rfl
    | some j => cases j <;> cases e
  | some i => cases b with
    | none => cases i <;> cases e
    | some j => exact congrArg some (kV_inj e)
theorem hash_none {prog : Program} {w : World} {A : Around} {E : Value → Shared → Prop} {s : Shared} {Q : Int → Shared → Prop} (h : Q 0xFCA86420 { s with toks := s.toks + 1 }) : wpAny (model prog w) A (pyHash .none) Q E s := by
  unfold pyHash
  have hv : [Value.none].any Value.onHeap = false := rfl
  refine wpAny_bind ?_
  rw [cRoomFor, if_neg (by rw [hv]; exact Bool.false_ne_true)]
  refine wpAny_pure ?_
  refine wpAny_bind (wpAny_specialOf (typeIs_none s) F.slot_NoneType_hash.lookup ?_)
  show wpAny _ _ (if (some (Value.builtin "NoneType.__hash__") == some Value.none) = true then _ else _) Q E s
  rw [if_neg (by rw [beq_builtin_none]; exact Bool.false_ne_true)]
  refine wpAny_bind (wpAny_specialOf (typeIs_none s) F.slot_NoneType_hash.lookup ?_)
  show wpAny _ _ (callSpecialIfBoundUnlessNone? .none "__hash__" _ >>= _) Q E s
  refine wpAny_bind (wpAny_callSpecialIfBoundUnlessNone?_slot (typeIs_none s) F.slot_NoneType_hash
    (wpAny_call_entry F.slot_NoneType_hash (typeIs_none s) F.entry_NoneType_hash
      (show wpAny _ _ (do ret (← mkInt 0xFCA86420)) _ _ s from wpAny_ret_mkInt ?_) (F.args_NoneType_hash_1 _)))
  show wpAny _ _ (if (decide (-(2 : Int) ^ 63 ≤ (0xFCA86420 : Int)) && decide ((0xFCA86420 : Int) < 2 ^ 63)) = true then _ else _) Q E _
  rw [if_pos (by decide)]
  exact wpAny_pure h
theorem eqb_none_some {prog : Program} {w : World} {A : Around} {E : Value → Shared → Prop} {s : Shared} {j : Key} {v : Value} {Q : Bool → Shared → Prop} (hv : keyIs j v = true) (h : Q false s) : wpAny (model prog w) A (eqBool .none v) Q E s := by
  rcases keyIs_shape hv with ⟨i, t, rfl, rfl⟩ | ⟨x, t, rfl, rfl⟩
  · exact SeqAt.EqAt.none_int i t _ _ _ _ h
  · exact SeqAt.EqAt.none_str x t _ _ _ _ h
theorem eqb_some_none {prog : Program} {w : World} {A : Around} {E : Value → Shared → Prop} {s : Shared} {j : Key} {v : Value} {Q : Bool → Shared → Prop} (hv : keyIs j v = true) (h : Q false s) : wpAny (model prog w) A (eqBool v .none) Q E s := by
  rcases keyIs_shape hv with ⟨i, t, rfl, rfl⟩ | ⟨x, t, rfl, rfl⟩
  · exact SeqAt.EqAt.int_none i t _ _ _ _ h
  · exact SeqAt.EqAt.str_none x t _ _ _ _ h
def nKind (prog : Program) (w : World) : PySem.KeyKind prog w NKey where
  is := nIs
  hash := nHash w
  inj := fun v a b ha hb => by
    rcases nIs_shape ha with ⟨rfl, rfl⟩ | ⟨i, rfl, hi⟩
    · rcases nIs_shape hb with ⟨rfl, _⟩ | ⟨j, rfl, hj⟩
      · rfl
      · rcases keyIs_shape hj with ⟨_, _, _, e⟩ | ⟨_, _, _, e⟩ <;> cases e
    · rcases nIs_shape hb with ⟨rfl, rfl⟩ | ⟨j, rfl, hj⟩
      · rcases keyIs_shape hi with ⟨_, _, _, e⟩ | ⟨_, _, _, e⟩ <;> cases e
      · exact congrArg some ((mixKind prog w).inj v i j hi hj)
  byValue := fun k v h => by
    rcases nIs_shape h with ⟨rfl, rfl⟩ | ⟨j, rfl, hj⟩
    · rfl
    · exact (mixKind prog w).byValue j v hj
  pyHash := fun hv h => by
    rcases nIs_shape hv with ⟨rfl, rfl⟩ | ⟨j, rfl, hj⟩
    · exact hash_none h
    · exact (mixKind prog w).pyHash hj h
  eqBool := fun {A E s a b u v Q} hu hv h => by
    rcases nIs_shape hu with ⟨rfl, rfl⟩ | ⟨i, rfl, hi⟩
    · rcases nIs_shape hv with ⟨rfl, rfl⟩ | ⟨j, rfl, hj⟩
      · exact SeqAt.EqAt.same _ _ _ _ _ (by simpa using h)
      · exact eqb_none_some hj (by simpa using h)
    · rcases nIs_shape hv with ⟨rfl, rfl⟩ | ⟨j, rfl, hj⟩
      · exact eqb_some_none hi (by simpa using h)
      · refine (mixKind prog w).eqBool hi hj ?_
        have e : decide ((some i : NKey) = some j) = decide (i = j) := by
          by_cases q : i = j
          · subst q; simp
          · have : ¬ (some i : NKey) = some j := fun z => q (Option.some.inj z)
            rw [decide_eq_false q, decide_eq_false this]
        rw [← e]
        exact h
  «strs» := fun k x t v h => by
    rcases nIs_shape h with ⟨rfl, e⟩ | ⟨j, rfl, hj⟩
    · cases e
    · exact (mixKind prog w).strs j x t v hj

/-! ### identities as keys -/
structure Nid where
  plot : Option Int
  role : Str
  key : Str
  deriving DecidableEq
def optV : Option Int → V
  | none => .non
  | some i => .int i
def nidV (n : Nid) : List V := [optV n.plot, .str n.role, .str n.key]
def plotK (n : Option Int) : NKey := n.map Sum.inl
def nidK (n : Nid) : List NKey := [plotK n.plot, some (.inr n.role), some (.inr n.key)]
theorem plotK_V (n : Option Int) : nV (plotK n) = optV n := by cases n <;> rfl
theorem nidV_eq (n : Nid) : nidV n = (nidK n).map nV := by
  unfold nidV nidK
  rw [List.map_cons, plotK_V]
  rfl
theorem nidK_inj {a b : Nid} (h : nidK a = nidK b) : a = b := by
  obtain ⟨p, r, k⟩ := a
  obtain ⟨p', r', k'⟩ := b
  unfold nidK plotK at h
  simp only [List.cons.injEq, Option.some.injEq, Sum.inr.injEq, and_true] at h
  obtain ⟨h1, rfl, rfl⟩ := h
  have : p = p' := by
    cases p <;> cases p' <;> simp at h1 <;> simp [h1]
  rw [this]
def optD {α : Type} (f : α → PyData) : Option α → PyData
  | none => .none
  | some r => f r
def nidD (n : Nid) : PyData := .tuple [optD .int n.plot, .str n.role, .str n.key]
theorem items_nk {P : Program} {w : World} : ∀ {ks : List NKey} {us : List Value}, Vals (ks.map nV) us → ItemsAre (nKind P w) ks us
  | [], _, h => by cases h; exact .nil
  | k :: ks, _, h => by
    cases h with
    | cons r t => exact .cons (nRel r) (items_nk t)
section
variable {P : Program} {w : World} {H : Hp} {h : Heap} {a : Addr}
theorem nid_key {n : Nid} (ok : HOk P w H h) (e : H a = some (.tup (nidV n))) : (tupleKind (nKind P w)).is h (nidK n) a := by
  rw [nidV_eq] at e
  obtain ⟨_, its, r, o, h1, h2, n', h3⟩ := (show ObjOk P w H h a (.tup ((nidK n).map nV)) from ok a _ e)
  exact ⟨o, its.toArray, n', h1, h2, h3, by simpa using items_nk r⟩
end
/-! ### a dict of identities -/
/-- identity, the key's tuple, value -/
abbrev Ent := Nid × Addr × V
def EntR : Ent → List NKey × Addr × Value → Prop := fun p q => q.1 = nidK p.1 ∧ q.2.1 = p.2.1 ∧ RelV p.2.2 q.2.2
def TDat (P : Program) (w : World) (a : Addr) (kvs : List Ent) (h : Heap) : Prop := kvs.length ≤ sizeLine ∧ (a == sysModules) = false ∧ ∃ xs : List (List NKey × Addr × Value), Paired EntR kvs xs ∧
  ∃ o es ep, h.get? a = some o ∧ o.ExactDict ∧ o.data = .dict es ep ∧ es.toList = xs.map (entryOfKey (tupleKind (nKind P w))) ∧ (xs.map (·.1)).Nodup
def nT (P : Program) (w : World) (a : Addr) (kvs : List Ent) : HO := .ext (TDat P w a kvs)
theorem TDat.ok {P : Program} {w : World} {H : Hp} {h : Heap} {a : Addr} {kvs : List Ent} (t : TDat P w a kvs h) : ObjOk P w H h a (nT P w a kvs) := by
  refine ⟨t, ?_, ?_⟩
  · obtain ⟨_, _, xs, _, o, es, ep, e, _⟩ := t
    exact ⟨o, e⟩
  · rintro h1 h2 ⟨z, y, xs, r, o, es, ep, e, c⟩ k
    exact ⟨z, y, xs, r, o, es, ep, k _ e, c⟩
theorem TDat.of {P : Program} {w : World} {H : Hp} {h : Heap} {a : Addr} {kvs : List Ent} (ok : HOk P w H h) (e : Rd H a (nT P w a kvs)) : TDat P w a kvs h := by
  have x : ObjOk P w H h a (nT P w a kvs) := e.ok ok
  exact x.1
/-- the keys stand -/
def Keys (H : Hp) (kvs : List Ent) : Prop := ∀ e ∈ kvs, H e.2.1 = some (.tup (nidV e.1))
theorem TDat.dictOf {P : Program} {w : World} {H : Hp} {h : Heap} {a : Addr} {kvs : List Ent} (t : TDat P w a kvs h) (ok : HOk P w H h) (ks : Keys H kvs) : ∃ xs, Paired EntR kvs xs ∧ h.DictOfH (tupleKind (nKind P w)) a xs := by
  obtain ⟨z, y, xs, r, o, es, ep, e, c1, c2, c3, c4⟩ := t
  refine ⟨xs, r, o, es, ep, e, c1, c2, c3, fun x hx => ?_, c4⟩
  have all : ∀ {l : List Ent} {m : List (List NKey × Addr × Value)}, Paired EntR l m → (∀ e ∈ l, H e.2.1 = some (.tup (nidV e.1))) → ∀ x ∈ m, (tupleKind (nKind P w)).is h x.1 x.2.1 := by
    intro l m q
    induction q with
    | nil => intro _ x hx; exact nomatch hx
    | @cons p q ps qs hq t ih =>
      intro hk x hx
      rcases List.mem_cons.mp hx with e | hx
      · subst e
        obtain ⟨e1, e2, _⟩ := hq
        rw [e1, e2]
        exact nid_key ok (hk p List.mem_cons_self)
      · exact ih (fun e he => hk e (List.mem_cons_of_mem _ he)) x hx
  exact all r ks x hx
def look (kvs : List Ent) (n : Nid) : Option V := (kvs.find? fun e => decide (e.1 = n)).map (·.2.2)
def put (kvs : List Ent) (n : Nid) (q : Addr) (v : V) : List Ent := if (look kvs n).isSome then kvs.map (fun e => if e.1 = n then (e.1, e.2.1, v) else e) else kvs ++ [(n, q, v)]
theorem nidK_iff {a b : Nid} : nidK a = nidK b ↔ a = b := ⟨nidK_inj, fun h => by rw [h]⟩
theorem look_R {kvs : List Ent} {xs : List (List NKey × Addr × Value)} (r : Paired EntR kvs xs) (n : Nid) : RelO (look kvs n) ((atKey xs (nidK n)).map (·.2)) := by
  induction r with
  | nil => exact True.intro
  | @cons p q ps qs h t ih =>
    obtain ⟨h1, h2, h3⟩ := h
    by_cases e : p.1 = n
    · have e' : q.1 = nidK n := by rw [h1, e]
      have b : atKey (q :: qs) (nidK n) = some q.2 := by simp [atKey, List.find?_cons, e']
      have b2 : look (p :: ps) n = some p.2.2 := by simp [look, List.find?_cons, e]
      rw [b, b2]
      exact h3
    · have e' : ¬ q.1 = nidK n := fun z => e (nidK_inj (h1.symm.trans z))
      have b : atKey (q :: qs) (nidK n) = atKey qs (nidK n) := by simp [atKey, List.find?_cons, e']
      have b2 : look (p :: ps) n = look ps n := by simp [look, List.find?_cons, e]
      rw [b, b2]
      exact ih
theorem put_R {kvs : List Ent} {xs : List (List NKey × Addr × Value)} (r : Paired EntR kvs xs) (n : Nid) (b : Addr) {y : V} {u : Value} (ry : RelV y u) : Paired EntR (put kvs n b y) (storedH xs (nidK n) b u) := by
  have e : (look kvs n).isSome = (atKey xs (nidK n)).isSome := by
    rw [(look_R r n).isSome_eq, Option.isSome_map]
  unfold put storedH
  rw [e]
  by_cases q : (atKey xs (nidK n)).isSome = true
  · rw [if_pos q, if_pos q]
    clear e q
    induction r with
    | nil => exact .nil
    | @cons p q ps qs h t ih =>
      rw [List.map_cons, List.map_cons]
      refine .cons ?_ ih
      obtain ⟨h1, h2, h3⟩ := h
      unfold putAt
      by_cases e : p.1 = n
      · rw [if_pos e, if_pos (by rw [h1, e])]
        exact ⟨h1, h2, ry⟩
      · rw [if_neg e, if_neg (fun z => e (nidK_inj (h1.symm.trans z)))]
        exact ⟨h1, h2, h3⟩
  · rw [if_neg q, if_neg q]
    exact Paired.snoc r ⟨rfl, rfl, ry⟩
theorem put_len (kvs : List Ent) (n : Nid) (q : Addr) (v : V) : (put kvs n q v).length ≤ kvs.length + 1 := by
  unfold put
  split
  · simp
  · simp
section
variable {X : Cx} {pins : List (Addr × Obj)} {σ : L2.St} {H : Hp} {s : Shared} {a b : Addr} {kvs : List Ent} {n : Nid} {A : Around} {E : Value → Shared → Prop}
theorem t_room (hu : A.units + 1 < cLine) : (tupleKind (nKind X.prog X.w)).room A.in1 := by
  show A.units + 1 < cLine
  exact hu
theorem t_in {Q : Value → Shared → Prop} (hu : A.units + 1 < cLine) (I : Inv X pins σ H s) (e : Rd H a (nT X.prog X.w a kvs)) (ks : Keys H kvs) (hb : H b = some (.tup (nidV n))) (h : ∀ s', Inv X pins σ H s' → Q (.bool (look kvs n).isSome) s') :
    wpAny (model X.prog X.w) A (compareOp .In (.ref b) (.ref a)) Q E s := by
  have t := TDat.of I.hok e
  obtain ⟨xs, rel, dd⟩ := t.dictOf I.hok ks
  refine wpAny_in_heap (t_room hu) (nid_key I.hok hb) t.2.1 dd ?_
  have q := (look_R rel n).isSome_eq
  rw [Option.isSome_map] at q
  rw [← q]
  exact h _ (I.tok _)
theorem t_notIn {Q : Value → Shared → Prop} (hu : A.units + 1 < cLine) (I : Inv X pins σ H s) (e : Rd H a (nT X.prog X.w a kvs)) (ks : Keys H kvs) (hb : H b = some (.tup (nidV n))) (h : ∀ s', Inv X pins σ H s' → Q (.bool (!(look kvs n).isSome)) s') :
    wpAny (model X.prog X.w) A (compareOp .NotIn (.ref b) (.ref a)) Q E s := by
  have t := TDat.of I.hok e
  obtain ⟨xs, rel, dd⟩ := t.dictOf I.hok ks
  refine wpAny_notIn_heap (t_room hu) (nid_key I.hok hb) t.2.1 dd ?_
  have q := (look_R rel n).isSome_eq
  rw [Option.isSome_map] at q
  rw [← q]
  exact h _ (I.tok _)
theorem t_get1 {Q : Value → Shared → Prop} (hu : A.units + 1 < cLine) (I : Inv X pins σ H s) (e : Rd H a (nT X.prog X.w a kvs)) (ks : Keys H kvs) (hb : H b = some (.tup (nidV n))) (h : ∀ w' s', Inv X pins σ H s' → RelV ((look kvs n).getD .non) w' → Q w' s') :
    wpAny (model X.prog X.w) A (call (.builtin "dict.get") [.ref a, .ref b]) Q E s := by
  have t := TDat.of I.hok e
  obtain ⟨xs, rel, dd⟩ := t.dictOf I.hok ks
  refine call_meetsIn PySem.F.slot_dict_get dd.typeIs PySem.F.entry_dict_get (PySem.F.args_dict_get_2 _ _) (meetsH_dict_get (tupleKind (nKind X.prog X.w)) a b t.2.1) ⟨t_room hu, nidK n, xs, nid_key I.hok hb, dd, h _ _ (I.tok _) ?_⟩
  exact (look_R rel n).getD rfl
theorem t_get2 {Q : Value → Shared → Prop} {d : V} {r : Value} (hu : A.units + 1 < cLine) (I : Inv X pins σ H s) (e : Rd H a (nT X.prog X.w a kvs)) (ks : Keys H kvs) (hb : H b = some (.tup (nidV n))) (rd : RelV d r) (h : ∀ w' s', Inv X pins σ H s' → RelV ((look kvs n).getD d) w' → Q w' s') :
    wpAny (model X.prog X.w) A (call (.builtin "dict.get") [.ref a, .ref b, r]) Q E s := by
  have t := TDat.of I.hok e
  obtain ⟨xs, rel, dd⟩ := t.dictOf I.hok ks
  refine call_meetsIn PySem.F.slot_dict_get dd.typeIs PySem.F.entry_dict_get (PySem.F.args_dict_get_3 _ _ _) (meetsH_dict_get_default (tupleKind (nKind X.prog X.w)) a b t.2.1 r) ⟨t_room hu, nidK n, xs, nid_key I.hok hb, dd, h _ _ (I.tok _) ?_⟩
  exact (look_R rel n).getD rd
theorem t_write {v : V} {h' : Heap} {t' : Nat} {xs : List (List NKey × Addr × Value)} (I : Inv X pins σ H s) (e : H a = some (nT X.prog X.w a kvs)) (hl : kvs.length < sizeLine) (hn : (a == sysModules) = false) (rel : Paired EntR (put kvs n b v) xs) (dd : h'.DictOfH (tupleKind (nKind X.prog X.w)) a xs) (hs : Heap.SameBut a s.heap h') :
    Inv X pins σ (upd H a (nT X.prog X.w a (put kvs n b v))) { s with heap := h', toks := t' } := by
  obtain ⟨q, es, ep, hq, h2, h3, h4, _, h5⟩ := dd
  refine d_write I (by rw [e]; exact True.intro) hs ⟨q, hq⟩ (TDat.ok ⟨?_, hn, xs, rel, q, es, ep, hq, h2, h3, h4, h5⟩)
  have := put_len kvs n b v
  omega
theorem t_set {Q : Unit → Shared → Prop} {v : V} {r : Value} (hu : A.units + 1 < cLine) (I : Inv X pins σ H s) (e : H a = some (nT X.prog X.w a kvs)) (ks : Keys H kvs) (hb : H b = some (.tup (nidV n))) (hl : kvs.length < sizeLine) (rv : RelV v r)
    (h : ∀ s', Inv X pins σ (upd H a (nT X.prog X.w a (put kvs n b v))) s' → Q () s') : wpAny (model X.prog X.w) A (setItem (.ref a) (.ref b) r) Q E s := by
  have t := TDat.of I.hok (.inl e)
  obtain ⟨xs, rel, dd⟩ := t.dictOf I.hok ks
  have hz : xs.length ≤ sizeLine := by rw [← Paired.length rel]; exact t.1
  exact wpAny_setItem_heap (hsz := hz) (t_room hu) (nid_key I.hok hb) dd fun h' dd' hs => h _ (t_write I e hl t.2.1 (put_R rel n b rv) dd' hs)
end
end Cs
namespace Cs
open PySem PySem.Spec PyProof.Rows L2
theorem nT_empty {P : Program} {w : World} {H : Hp} (h : Heap) (hb : sysModules < h.objs.size) : ObjOk P w H (h.push { cls := .type "dict", data := .dict #[] }) h.objs.size (nT P w h.objs.size []) :=
  TDat.ok ⟨Nat.zero_le _, beq_eq_false_iff_ne.mpr (Ne.symm (Nat.ne_of_lt hb)), [], .nil, _, #[], 0, Heap.get?_push_size _ rfl, ⟨rfl, rfl, rfl⟩, rfl, rfl, List.nodup_nil⟩
theorem t_dictSet {X : Cx} {pins : List (Addr × Obj)} {σ : L2.St} {H : Hp} {s : Shared} {a b : Addr} {kvs : List Ent} {n : Nid} {A : Around} {E : Value → Shared → Prop} {Q : Unit → Shared → Prop} {v : V} {r : Value} (hu : A.units + 1 < cLine) (I : Inv X pins σ H s) (e : H a = some (nT X.prog X.w a kvs)) (ks : Keys H kvs) (hb : H b = some (.tup (nidV n))) (hl : kvs.length < sizeLine) (rv : RelV v r)
    (h : ∀ s', Inv X pins σ (upd H a (nT X.prog X.w a (put kvs n b v))) s' → Q () s') : wpAny (model X.prog X.w) A (dictSet a (.ref b) r) Q E s := by
  have t := TDat.of I.hok (.inl e)
  obtain ⟨xs, rel, dd⟩ := t.dictOf I.hok ks
  have hz : xs.length ≤ sizeLine := by rw [← Paired.length rel]; exact t.1
  have hR : (tupleKind (nKind X.prog X.w)).room A := by
    show A.units < cLine
    omega
  exact wpAny_dictSet_heap (hsz := hz) hR (nid_key I.hok hb) dd fun h' dd' hs => h _ (t_write I e hl t.2.1 (put_R rel n b rv) dd' hs)
section
variable {X : Cx}
/-- a dict comprehension whose keys are identities: D the new dict -/
def tDcN (P : Program) (w : World) (wi : TI) (g : TG) (tt : TT) (tk tv : TE) (vs : List Nat) : TE := fun σ H Q => wi σ H fun J H1 => ∀ D, H1 D = none → ∃ W : Nat → Nat → Hp → Prop, (∃ m, W 0 m (upd H1 D (nT P w D []))) ∧ ∀ i m H, W i m H →
  (J.stop i H ∧ Q (.ref D) H) ∨ (J.go i H ∧ ∃ Nx : Hp → Prop, (∀ H', Nx H' → ∃ m', m' < m ∧ W (i + 1) m' H') ∧ ∀ x H', J.yld i H x H' → g x (wipe σ vs) H' fun σ2 H2 => wipe σ2 vs = wipe σ vs ∧ tt σ2 H2 fun b H3 =>
    if b = true then tk σ2 H3 fun y H4 => tv σ2 H4 fun z H5 => ∃ kvs n q, y = .ref q ∧ H5 q = some (.tup (nidV n)) ∧ H5 D = some (nT P w D kvs) ∧ Keys H5 kvs ∧ kvs.length < sizeLine ∧ Nx (upd H5 D (nT P w D (put kvs n q z))) else Nx H3)
theorem dcN_core {pins : List (Addr × Obj)} {s : Shared} {σ : L2.St} {H : Hp} {Q : VK} {kx vx tg iter : Expr} {ifs : List Expr} {scope : Scope} {own : List (Str × Nat)} {pos pos' : Pos} {wi : TI} {g : TG} {tt : TT} {tk tv : TE} {use : Option (Value → Sem Unit)} {Qf : Value → Shared → Prop}
    (hu : X.A.units + 1 < cLine) (hc : X.calm = true) (hN : X.N.Nodup) (I : Inv X pins σ H s) (hi : PI X tg iter wi) (ok : BlkOk X.N X.env.scope scope own)
    (hg : ∀ (s : Shared) (H : Hp) (C : Addr) (cl : List (Str × Addr)) (fp : List Addr), PG (X.blk s H scope (compEnvC scope cl C X.env) fp) tg g) (ht : ∀ (s : Shared) (H : Hp) (C : Addr) (cl : List (Str × Addr)) (fp : List Addr), PTs (X.blk s H scope (compEnvC scope cl C X.env) fp) ifs tt)
    (hk : ∀ (s : Shared) (H : Hp) (C : Addr) (cl : List (Str × Addr)) (fp : List Addr), PE (X.blk s H scope (compEnvC scope cl C X.env) fp) kx tk)
    (he : ∀ (s : Shared) (H : Hp) (C : Addr) (cl : List (Str × Addr)) (fp : List Addr), PE (X.blk s H scope (compEnvC scope cl C X.env) fp) vx tv) (hs : ∀ x, foldedSetIterable iter X.env x = pure x)
    (h : tDcN X.prog X.w wi g tt tk tv (own.map (·.2)) σ H Q)
    (hRR : ∀ D C s' m H', Inv X pins σ H' s' → Q (.ref D) H' → s'.heap.Ns C m → FpOk X pins H' C → compPost (model X.prog X.w) X.A X.xe use Qf (.ref D) C (.ok .next) s') :
    wpAny (model X.prog X.w) X.A (comprehension (.DictComp kx vx [⟨tg, iter, ifs, 0⟩] scope pos) scope X.env pos' newDict false (eval iter X.env) use) Qf X.xe s := by
  have hfree : ∀ y ∈ scope.names, y.2 = .free → ∃ c, X.env.cells.lookup y.1 = some c := fun y hy e => by
    rcases ok.free y hy e with k | k
    · exact I.ok.has _ (.inl k)
    · exact I.ok.has _ (.inr k)
  refine wpAny_comprehension_free (use := use) rfl hs (closure_ok hfree) ok.kind (fun y hy e => by rw [ok.uniq y hy, e])
    (thn (hi.run pins s σ H _ I h) fun xv s1 hx => thn hx fun itv s2 h2 => ?_)
  obtain ⟨it, fp, tn, J, H2, e, I2, T, st2, f2, q⟩ := h2
  subst e
  refine wpAny_newObj_type (newEnv_comp ?_)
  generalize hD : s2.heap.objs.size = D
  have hDn : H2 D = none := I2.hok.fresh (Nat.le_of_eq hD)
  obtain ⟨W, ⟨m0, w0⟩, turn⟩ := q D hDn
  -- the new list
  generalize hs3 : ({ s2 with heap := s2.heap.push { cls := .type "dict", data := .dict #[] } } : Shared) = s3
  have I3 : Inv X pins σ (upd H2 D (nT X.prog X.w D [])) s3 := by
    rw [← hs3]
    refine I2.laid (t' := s2.toks) (fun b o e => Heap.get?_push_of_some _ e) (Nat.le_of_eq hD) ?_
    rw [← hD]
    exact nT_empty s2.heap I2.big
  have h3 : s3.heap = s2.heap.push { cls := .type "dict", data := .dict #[] } := by rw [← hs3]
  have sz : ∀ b ∈ fp, b < s2.heap.objs.size := fun b hb => by
    obtain ⟨o, e, _⟩ := T.obj _ _ st2 b hb
    exact Heap.lt_size e
  have f3 : ∀ b ∈ fp, FpOk X pins (upd H2 D (nT X.prog X.w D [])) b ∧ b < s3.heap.objs.size := fun b hb => by
    have hlt := sz b hb
    refine ⟨⟨?_, (f2 b hb).2⟩, by rw [h3, Heap.size_push]; exact Nat.lt_succ_of_lt hlt⟩
    rw [upd_ne (by rw [← hD]; exact Nat.ne_of_lt hlt)]
    exact (f2 b hb).1
  have st3 : tn 0 s3.heap := T.keep _ _ _ st2 fun b _ o e => by rw [h3]; exact Heap.get?_push_of_some _ e
  have I4 := block_start I3 ok hN f3
  have pg := hg s3 (upd H2 D (nT X.prog X.w D [])) s3.heap.objs.size (cellsFrom (s3.heap.objs.size + 1) scope.names (cloFrom X.env.cells scope.names [])) fp
  have pt := ht s3 (upd H2 D (nT X.prog X.w D [])) s3.heap.objs.size (cellsFrom (s3.heap.objs.size + 1) scope.names (cloFrom X.env.cells scope.names [])) fp
  have pk := hk s3 (upd H2 D (nT X.prog X.w D [])) s3.heap.objs.size (cellsFrom (s3.heap.objs.size + 1) scope.names (cloFrom X.env.cells scope.names [])) fp
  have pe := he s3 (upd H2 D (nT X.prog X.w D [])) s3.heap.objs.size (cellsFrom (s3.heap.objs.size + 1) scope.names (cloFrom X.env.cells scope.names [])) fp
  show codeAny _ _ (.compStart (.DictComp kx vx [⟨tg, iter, ifs, 0⟩] scope pos) 0 (.ref it) (.ref D) (compEnvC scope (cellsFrom (s3.heap.objs.size + 1) scope.names (cloFrom X.env.cells scope.names [])) s3.heap.objs.size X.env)) (compPost (model X.prog X.w) X.A X.xe use Qf (.ref D) s3.heap.objs.size) { s3 with heap := pushCells (s3.heap.push { cls := .type "dict", data := .dict #[] }) scope.names }
  have nfp : ∀ b ∈ fp, (upd H2 D (nT X.prog X.w D [])) b = none := fun b hb => (f3 b hb).1.1
  generalize hce : compEnvC scope (cellsFrom (s3.heap.objs.size + 1) scope.names (cloFrom X.env.cells scope.names [])) s3.heap.objs.size X.env = ce at I4 pg pt pk pe ⊢
  have cL : ce.locals = s3.heap.objs.size := by subst hce; rfl
  generalize hH3 : upd H2 D (nT X.prog X.w D []) = H3 at I3 I4 pg pt pk pe w0 nfp f3
  generalize hs4 : ({ s3 with heap := pushCells (s3.heap.push { cls := .type "dict", data := .dict #[] }) scope.names } : Shared) = s4 at I4 ⊢
  have st4 : tn 0 s4.heap := T.keep _ _ _ st3 fun b _ o e => by rw [← hs4]; exact pushCells_keeps _ _ _ _ (Heap.get?_push_of_some _ e)
  have stat : ∀ {σ' : L2.St} {H' : Hp} {s' : Shared}, Inv (X.blk s3 H3 scope ce fp) [] σ' H' s' → (∀ b ∈ fp, H' b = none) → ∀ b ∈ fp, FpOk (X.blk s3 H3 scope ce fp) [] H' b := fun {σ' H' s'} I' hn b hb =>
    ⟨hn b hb, (I'.ok.exf b hb).1, I'.ok.exfs b hb, .inl hb, fun x c e => (I'.ok.exf b hb).2 x c e, fun p hp => absurd (show p ∈ ([] : List (Addr × Obj)) ++ [] from hp) (by simp)⟩
  have loop : codeAny (model X.prog X.w) X.A (.compLoop (.DictComp kx vx [⟨tg, iter, ifs, 0⟩] scope pos) 0 (.ref it) (.ref D) ce) (compPost (model X.prog X.w) X.A X.xe use Qf (.ref D) s3.heap.objs.size) s4 := by
    refine compLoop_anyD (fun n s' => ∃ i H', Inv (X.blk s3 H3 scope ce fp) [] (wipe σ (own.map (·.2))) H' s' ∧ tn i s'.heap ∧ (∀ b ∈ fp, H' b = none) ∧ W i n H') ?_ m0 ⟨0, H3, I4, st4, nfp, w0⟩
    rintro n s5 ⟨i, H5, I5, st5, n5, w5⟩
    rcases turn i n H5 w5 with ⟨stop, qq⟩ | ⟨go, Nx, hNx, step⟩
    · have td := T.done (X.blk s3 H3 scope ce fp) rfl rfl rfl hc i [] s5 _ H5 (fun _ _ => False) I5 (stat I5 n5) st5 stop
      refine thnF td fun r s6 ⟨hr, I6⟩ => ?_
      subst hr
      -- back in the def's context
      have I7 : Inv X pins σ H5 s6 := I3.call' (ch := fp) I6.os I6.base I6.hok I6.bare fun b hb => ⟨(f3 b hb).1.2.2.2.1, (f3 b hb).1.2.1, (f3 b hb).1.2.2.2.2.1, (f3 b hb).1.2.2.2.2.2⟩
      have nC : H5 s3.heap.objs.size = none := by
        have z : H5 ce.locals = none := I6.free
        rw [cL] at z
        exact z
      obtain ⟨m, hn, _⟩ := I6.loc
      have hn : s6.heap.Ns ce.locals m := hn
      rw [cL] at hn
      exact hRR D s3.heap.objs.size s6 m H5 I7 qq hn (I3.fpOk (Nat.le_refl _) nC)
    · have ti := T.item (X.blk s3 H3 scope ce fp) rfl rfl rfl hc i [] s5 _ H5 (fun _ _ => False) I5 (stat I5 n5) st5 go
      refine thnF ti fun r s6 ⟨u, hr, h6⟩ => ?_
      subst hr
      refine thnF h6 fun _ s7 ⟨x, H7, I7, r7, y7, st7, n7⟩ => ?_
      have I7' := I7.pinned (stat I7 n7) (T.obj _ _ st7)
      refine thnF (pg.run _ s7 _ H7 x u _ I7' r7 (step x H7 y7)) fun _ s8 ⟨σ8, H8, I8, hw8, q8⟩ => ?_
      refine thnF (pt.run _ s8 σ8 H8 _ I8 q8) fun b s9 ⟨H9, I9, q9⟩ => ?_
      -- the turn's end
      have fin : ∀ {s' : Shared} {H' : Hp}, Inv (X.blk s3 H3 scope ce fp) ([] ++ pinsAt fp s7.heap) σ8 H' s' → Nx H' → ∃ m, m < n ∧ ∃ i H', Inv (X.blk s3 H3 scope ce fp) [] (wipe σ (own.map (·.2))) H' s' ∧ tn i s'.heap ∧ (∀ b ∈ fp, H' b = none) ∧ W i m H' := fun {s' H'} I' nx => by
        obtain ⟨m', hm, w'⟩ := hNx H' nx
        have pin' : ∀ b ∈ fp, ∀ o, s7.heap.get? b = some o → s'.heap.get? b = some o ∧ H' b = none := fun b hb o e =>
          let z := I'.pin (b, o) (List.mem_append_right _ (List.mem_append_right _ (mem_pinsAt hb e)))
          ⟨z.1, z.2.1⟩
        have hl : (wipe σ (own.map (·.2))).length = σ8.length := by rw [← hw8, wipe_length]
        refine ⟨m', hm, i + 1, H', (I'.unpinned (pins := [])).weak hl (fun j v e => ?_), T.keep _ _ _ st7 fun b hb o e => (pin' b hb o e).1, fun b hb => ?_, w'⟩
        · rw [← hw8] at e
          exact (wipe_some e).1
        · obtain ⟨o, e, _⟩ := T.obj _ _ st7 b hb
          exact (pin' b hb o e).2
      cases b with
      | false =>
        simp only [Bool.false_eq_true, if_false] at q9 ⊢
        exact fin I9 q9
      | true =>
        simp only [if_true] at q9 ⊢
        refine thnF (pk.run _ s9 σ8 H9 _ I9 q9) fun z s10 ⟨yk, H10, I10, r10, q10⟩ => ?_
        refine thnF (pe.run _ s10 σ8 H10 _ I10 q10) fun z2 s11 ⟨yv, H11, I11, r11, kvs, n, q, ek, hq, hD11, hk11, hz11, nx⟩ => ?_
        subst ek
        obtain rfl : z = Value.ref q := r10
        exact t_dictSet (X := X.blk s3 H3 scope ce fp) hu I11 hD11 hk11 hq hz11 r11 fun s12 I12 => fin I12 nx
  exact codeAny_compStart_dict loop (T.self X.A 0 _ _ _ st4 loop)
/-- as a value -/
theorem pe_dcN {kx vx tg iter : Expr} {ifs : List Expr} {scope : Scope} {own : List (Str × Nat)} {pos : Pos} {wi : TI} {g : TG} {tt : TT} {tk tv : TE} (hu : X.A.units + 1 < cLine) (hc : X.calm = true) (hN : X.N.Nodup) (hi : PI X tg iter wi) (ok : BlkOk X.N X.env.scope scope own)
    (hg : ∀ (s : Shared) (H : Hp) (C : Addr) (cl : List (Str × Addr)) (fp : List Addr), PG (X.blk s H scope (compEnvC scope cl C X.env) fp) tg g) (ht : ∀ (s : Shared) (H : Hp) (C : Addr) (cl : List (Str × Addr)) (fp : List Addr), PTs (X.blk s H scope (compEnvC scope cl C X.env) fp) ifs tt)
    (hk : ∀ (s : Shared) (H : Hp) (C : Addr) (cl : List (Str × Addr)) (fp : List Addr), PE (X.blk s H scope (compEnvC scope cl C X.env) fp) kx tk)
    (he : ∀ (s : Shared) (H : Hp) (C : Addr) (cl : List (Str × Addr)) (fp : List Addr), PE (X.blk s H scope (compEnvC scope cl C X.env) fp) vx tv) (hs : ∀ x, foldedSetIterable iter X.env x = pure x := by intro _; rfl) :
    PE X (.DictComp kx vx [⟨tg, iter, ifs, 0⟩] scope pos) (tDcN X.prog X.w wi g tt tk tv (own.map (·.2))) := by
  refine ⟨fun pins s σ H Q I h => ?_⟩
  rw [arm_eval_DictComp]
  refine dcN_core hu hc hN I hi ok hg ht hk he hs h fun D C s' m H' I' q hn f => ⟨m, hn, fun h'' sb => ?_⟩
  obtain ⟨f0, f1, f2, f3, f4, f5⟩ := f
  exact ⟨.ref D, H', I'.turned (t' := s'.toks) (fun b o hb e => (sb.2 b hb).trans e) f0 f1 f3 f4 f5, rfl, q⟩
theorem ps_setDcN {i : Nat} {y : Str} {py : Pos} {kx vx tg iter : Expr} {ifs : List Expr} {scope : Scope} {own : List (Str × Nat)} {pos spos : Pos} {wi : TI} {g : TG} {tt : TT} {tk tv : TE} (hu : X.A.units + 1 < cLine) (hc : X.calm = true) (hN : X.N.Nodup) (hy : X.N[i]? = some y) (hyl : X.env.scope.names.lookup y = some .local)
    (hsw : swapsWith (.DictComp kx vx [⟨tg, iter, ifs, 0⟩] scope pos) (some (.Name y py)) spos.line X.env = pure true) (hi : PI X tg iter wi) (ok : BlkOk X.N X.env.scope scope own)
    (hg : ∀ (s : Shared) (H : Hp) (C : Addr) (cl : List (Str × Addr)) (fp : List Addr), PG (X.blk s H scope (compEnvC scope cl C X.env) fp) tg g) (ht : ∀ (s : Shared) (H : Hp) (C : Addr) (cl : List (Str × Addr)) (fp : List Addr), PTs (X.blk s H scope (compEnvC scope cl C X.env) fp) ifs tt)
    (hk : ∀ (s : Shared) (H : Hp) (C : Addr) (cl : List (Str × Addr)) (fp : List Addr), PE (X.blk s H scope (compEnvC scope cl C X.env) fp) kx tk)
    (he : ∀ (s : Shared) (H : Hp) (C : Addr) (cl : List (Str × Addr)) (fp : List Addr), PE (X.blk s H scope (compEnvC scope cl C X.env) fp) vx tv) (hs : ∀ x, foldedSetIterable iter X.env x = pure x := by intro _; rfl) :
    PS X (.Assign [.Name y py] (.DictComp kx vx [⟨tg, iter, ifs, 0⟩] scope pos) spos) (tAsg (tDcN X.prog X.w wi g tt tk tv (own.map (·.2))) (gName i)) := by
  refine ⟨fun pins s σ H D I h => ?_⟩
  rw [exec_Assign_Name_used _ _ _ _ hsw]
  refine wpAny_bind (wpAny_standAt (wpAny_bind ?_))
  show wpAny _ X.A (do let _ ← comprehension (.DictComp kx vx [⟨tg, iter, ifs, 0⟩] scope pos) scope X.env (firstIterPos [⟨tg, iter, ifs, 0⟩] pos) newDict false (eval iter X.env) (some (assign (.Name y py) X.env))) _ _ s
  have h : tDcN X.prog X.w wi g tt tk tv (own.map (·.2)) σ H (fun x H1 => gName i x σ H1 D.nx) := h
  refine wpAny_bind (thn (dcN_core (Qf := fun _ s' => SP X pins D .next s') hu hc hN I hi ok hg ht hk he hs h fun L C s' m H' I' q hn f => ?_) fun _ s' hq => wpAny_pure (wpAny_pure hq))
  show wpAny _ _ (assign (.Name y py) X.env (.ref L)) _ _ _
  refine wpAny_assign_Name (store_ok2 (v := V.ref L) I' hN hy (.inl hyl) rfl (fun s2 I2 ⟨a, sb, ha⟩ => ?_) (.inr hyl))
  obtain ⟨f0, f1, f2, f3, f4, f5⟩ := f
  have haC : C ≠ a := by
    rcases ha with z | z
    · rw [z]; exact f1
    · exact fun e => f4 y a z e.symm
  refine ⟨m, hn.sameBut sb haC, fun h3 sb3 => ?_⟩
  exact ⟨_, H', I2.turned (t' := s2.toks) (fun b o hb e => (sb3.2 b hb).trans e) f0 f1 f3 f4 f5, q⟩
theorem swD_true {kx vx : Expr} {gs : List Comprehension} {scope : Scope} {pos py : Pos} {y : Str} {l : Nat} {env : Env} (hk : env.scope.kind = .function) (hy : env.scope.names.lookup y = some .local) (hl : (py.line == pos.line) = true)
    (ha : (scope.names.any fun (n, k) => n == y && (k == .local || k == .cell)) = false) : swapsWith (.DictComp kx vx gs scope pos) (some (.Name y py)) l env = pure true := by
  have ky : env.kindOf y = some .local := hy
  have hb : env.blockKind = .function := by unfold Env.blockKind; rw [hk]; rfl
  unfold swapsWith
  simp only [hb, ky, ha, Expr.pos, hl]
  rfl
end
/-! ### a thing that is not written any more -/
def tFrzS (t : TS) : TS := fun D σ H => t ⟨fun σ' H' => ∃ d u, H' d = some u ∧ Mut (some u) ∧ ∀ od, D.nx σ' (upd H' d (.frz od u)), D.rt, D.bk, D.ct⟩ σ H
theorem ps_frz {X : Cx} {st : Stmt} {t : TS} (h : PS X st t) : PS X st (tFrzS t) := by
  refine ⟨fun pins s σ H D I hw => ?_⟩
  refine thn (h.run pins s σ _ _ I hw) fun f s1 q => ?_
  cases f with
  | next =>
    obtain ⟨σ', H', I2, d, u, hd, mu, q⟩ := q
    obtain ⟨od, I3⟩ := I2.lock hd mu
    exact ⟨σ', _, I3, q od⟩
  | brk => exact q
  | cont => exact q
  | ret v => exact q
def tFrz (t : TE) : TE := fun σ H Q => t σ H fun v H' => ∃ d u, H' d = some u ∧ Mut (some u) ∧ ∀ od, Q v (upd H' d (.frz od u))
theorem pe_frz {X : Cx} {e : Expr} {t : TE} (h : PE X e t) : PE X e (tFrz t) := by
  refine ⟨fun pins s σ H Q I hw => ?_⟩
  refine thn (h.run pins s σ _ _ I hw) fun v s1 ⟨x, H1, I2, r, d, u, hd, mu, q⟩ => ?_
  obtain ⟨od, I3⟩ := I2.lock hd mu
  exact ⟨x, _, I3, r, q od⟩
/-! ### reading it -/
def rInN (P : Program) (w : World) (neg : Bool) : R2 := fun x y H Q => ∃ b a n kvs, x = .ref b ∧ y = .ref a ∧ H b = some (.tup (nidV n)) ∧ Rd H a (nT P w a kvs) ∧ Keys H kvs ∧ Q (.bl (if neg then !(look kvs n).isSome else (look kvs n).isSome)) H
section
variable {X : Cx}
theorem op_inN (hu : X.A.units + 1 < cLine) : OpR X (compareOp .In) (rInN X.prog X.w false) := by
  intro pins s σ H x y v u Q I rx ry h
  obtain ⟨b, a, n, kvs, rfl, rfl, hb, ha, hk, q⟩ := h
  cases rx
  cases ry
  exact t_in hu I ha hk hb fun s' I' => ⟨.bl (look kvs n).isSome, H, I', rfl, by simpa using q⟩
theorem op_notInN (hu : X.A.units + 1 < cLine) : OpR X (compareOp .NotIn) (rInN X.prog X.w true) := by
  intro pins s σ H x y v u Q I rx ry h
  obtain ⟨b, a, n, kvs, rfl, rfl, hb, ha, hk, q⟩ := h
  cases rx
  cases ry
  exact t_notIn hu I ha hk hb fun s' I' => ⟨.bl (!(look kvs n).isSome), H, I', rfl, by simpa using q⟩
theorem isT_at {pins : List (Addr × Obj)} {σ : L2.St} {H : Hp} {s : Shared} {a : Addr} {kvs : List Ent} (I : Inv X pins σ H s) (e : Rd H a (nT X.prog X.w a kvs)) :
    s.TypeIs (.ref a) "dict" ∧ (∀ b, Value.ref a = .ref b → ∃ ob, s.heap.get? b = some ob ∧ ob.dict = none) := by
  obtain ⟨_, _, xs, _, o, es, ep, ho, hc, _⟩ := TDat.of I.hok e
  refine ⟨⟨o, ho, hc.1⟩, fun b q => ?_⟩
  cases q
  exact ⟨o, ho, hc.2.1⟩
def tNGet1 (P : Program) (w : World) (td ty : TE) : TE := fun σ H Q => td σ H fun x H1 => ∃ a kv0, x = .ref a ∧ Rd H1 a (nT P w a kv0) ∧ ty σ H1 fun y H2 => ∃ b n kvs, y = .ref b ∧ H2 b = some (.tup (nidV n)) ∧ Rd H2 a (nT P w a kvs) ∧ Keys H2 kvs ∧ Q ((look kvs n).getD .non) H2
def tNGet2 (P : Program) (w : World) (td ty tx : TE) : TE := fun σ H Q => td σ H fun x H1 => ∃ a kv0, x = .ref a ∧ Rd H1 a (nT P w a kv0) ∧ ty σ H1 fun y H2 => tx σ H2 fun z H3 => ∃ b n kvs, y = .ref b ∧ H3 b = some (.tup (nidV n)) ∧ Rd H3 a (nT P w a kvs) ∧ Keys H3 kvs ∧ Q ((look kvs n).getD z) H3
variable {o e f : Expr} {apos cpos : Pos} {td ty tx : TE}
theorem pe_nget1 (hu : X.A.units + 2 < cLine) (ho : PE X o td) (he : PE X e ty) (m : M1 X o "get" apos e cpos) : PE X (.Call (.Attribute o "get" apos) [e] [] cpos) (tNGet1 X.prog X.w td ty) := by
  refine ⟨fun pins s σ H Q I h => ?_⟩
  refine wpAny_Call_method m.base m.few m.line PySem.F.plainAttrs_dict PySem.F.slot_dict_get PySem.F.type_dict_get (thn (ho.run pins s σ H _ I h) fun u s1 ⟨x, H1, I1, rx, a, kv0, ex, d, q1⟩ => ?_)
  subst ex
  obtain rfl : u = Value.ref a := rx
  obtain ⟨t1, t2⟩ := isT_at I1 d
  refine ⟨t1, t2, ?_⟩
  rw [m.trees]
  refine Calls.callWith_builtin rfl (Calls.evalArgs_plain (Calls.spliced_cons (thn (he.run pins s1 σ H1 _ I1 q1) fun iv s2 ⟨y, H2, I2, ry, b, n, kvs, ey, hb, ha, hk, q2⟩ => Calls.spliced_nil ?_)))
  subst ey
  obtain rfl : iv = Value.ref b := ry
  exact t_get1 (by omega) I2 ha hk hb fun w' s3 I3 rw' => ⟨_, H2, I3, rw', q2⟩
theorem pe_nget2 (hu : X.A.units + 2 < cLine) (ho : PE X o td) (he : PE X e ty) (hf : PE X f tx) (m : M2 X o "get" apos e f cpos) : PE X (.Call (.Attribute o "get" apos) [e, f] [] cpos) (tNGet2 X.prog X.w td ty tx) := by
  refine ⟨fun pins s σ H Q I h => ?_⟩
  refine wpAny_Call_method m.base m.few m.line PySem.F.plainAttrs_dict PySem.F.slot_dict_get PySem.F.type_dict_get (thn (ho.run pins s σ H _ I h) fun u s1 ⟨x, H1, I1, rx, a, kv0, ex, d, q1⟩ => ?_)
  subst ex
  obtain rfl : u = Value.ref a := rx
  obtain ⟨t1, t2⟩ := isT_at I1 d
  refine ⟨t1, t2, ?_⟩
  rw [m.trees]
  refine Calls.callWith_builtin rfl (Calls.evalArgs_plain (Calls.spliced_cons (thn (he.run pins s1 σ H1 _ I1 q1) fun iv s2 ⟨y, H2, I2, ry, q2⟩ =>
    Calls.spliced_cons (thn (hf.run pins s2 σ H2 _ I2 q2) fun fv s3 ⟨z, H3, I3, rz, b, n, kvs, ey, hb, ha, hk, q3⟩ => Calls.spliced_nil ?_))))
  subst ey
  obtain rfl : iv = Value.ref b := ry
  exact t_get2 (by omega) I3 ha hk hb rz fun w' s4 I4 rw' => ⟨_, H3, I4, rw', q3⟩
end
/-! ### walking its keys -/
theorem frzN {X : Cx} {pins : List (Addr × Obj)} {σ : L2.St} {H : Hp} {s : Shared} {d : Addr} {o : Obj} {kvs : List Ent} (I : Inv X pins σ H s) (h : H d = some (.frz o (nT X.prog X.w d kvs))) (ks : Keys H kvs) :
    (d == sysModules) = false ∧ s.heap.get? d = some o ∧ o.ExactDict ∧ ∃ (es : Array DictEntry) (ep : Nat), o.data = .dict es ep ∧ es.size = kvs.length ∧
      ∀ (i : Nat) (e : Ent), kvs[i]? = some e → ∃ (en : DictEntry), es[i]? = some en ∧ en.key = .ref e.2.1 ∧ H e.2.1 = some (.tup (nidV e.1)) := by
  obtain ⟨hd, tdat, _, _⟩ := I.hok d _ h
  obtain ⟨z, hs, xs, pr, o', es, ep, ho, hx, hdt, he, _⟩ := tdat
  rw [hd] at ho
  cases ho
  refine ⟨hs, hd, hx, es, ep, hdt, ?_, fun i e hi => ?_⟩
  · have l1 : es.size = xs.length := size_of_entries he
    have l2 : kvs.length = xs.length := Paired.length pr
    omega
  · obtain ⟨b, hb, e1, e2, _⟩ := paired_get pr hi
    have q := entry_at he i
    rw [hb] at q
    refine ⟨_, q, ?_, ks e (List.mem_of_getElem? hi)⟩
    rw [← e2]
    rfl
def Itn (P : Program) (w : World) (d : Addr) (o : Obj) (kvs : List Ent) : It :=
  ⟨fun i H => H d = some (.frz o (nT P w d kvs)) ∧ Keys H kvs ∧ i < kvs.length, fun i H x H' => H' = H ∧ ∃ e : Ent, kvs[i]? = some e ∧ x = .ref e.2.1, fun i H => H d = some (.frz o (nT P w d kvs)) ∧ Keys H kvs ∧ kvs.length ≤ i⟩
def iKeysN (P : Program) (w : World) (td : TE) : TI := fun σ H R => td σ H fun x H1 => ∃ d o kvs, x = .ref d ∧ H1 d = some (.frz o (nT P w d kvs)) ∧ Keys H1 kvs ∧ R (Itn P w d o kvs) H1
section
variable {P : Program} {w : World} {K : PySem.W.Frag} {tg : Expr} {d : Addr} {o : Obj} {es : Array DictEntry} {ep : Nat}
theorem turn_keysN {kvs : List Ent} (it : Addr) (hod : o.data = .dict es ep) : Turn P w K tg (Itn P w d o kvs) [it] it (fun i h => h.IsKeyIter it d i kvs.length ep) where
  mem := by simp
  obj := fun i h st b hb => by
    have e : b = it := by simpa using hb
    subst e
    obtain ⟨oi, e, c, dd⟩ := st
    exact ⟨oi, e, fun v z => by rw [dd] at z; cases z⟩
  keep := fun i h h' st k => st.at fun oi e => k it (by simp) oi e
  item := by
    intro X hP hw hK hc i pins s σ H E I hf st hg
    subst hP hw hK
    obtain ⟨hd, hk, hi⟩ := hg
    obtain ⟨f0, f1, f2, f3, f4, f5⟩ := hf it (by simp)
    obtain ⟨hs, hgd, hx, es', ep', hdt, hsz, ent⟩ := frzN I hd hk
    obtain ⟨rfl, rfl⟩ := dict_ep hod hdt
    have hkv : kvs[i]? = some kvs[i] := List.getElem?_eq_getElem hi
    obtain ⟨en, hen, hkey, hq⟩ := ent i _ hkv
    refine next_key_item st hgd hdt hsz hen fun h' st' sb => ?_
    have I1 : Inv X pins σ H { s with heap := h' } := I.turned (t' := s.toks) (fun b ob hb e => (sb.2 b hb).trans e) f0 f1 f3 f4 f5
    obtain ⟨oi, e, c, dd⟩ := id st'
    exact ⟨en.key, rfl, go_of (s := { s with heap := h' }) e c dd (by decide) ⟨.ref _, H, I1, hkey, ⟨rfl, _, hkv, rfl⟩, st', fun b hb => (hf b hb).1⟩⟩
  done := by
    intro X hP hw hK hc i pins s σ H E I hf st hg
    subst hP hw hK
    obtain ⟨hd, hk, hi⟩ := hg
    obtain ⟨f0, f1, f2, f3, f4, f5⟩ := hf it (by simp)
    obtain ⟨hs, hgd, hx, es', ep', hdt, hsz, ent⟩ := frzN I hd hk
    obtain ⟨rfl, rfl⟩ := dict_ep hod hdt
    exact next_key_end (I.ok.hd hc) st hgd hdt hsz hi fun h' eb => ⟨rfl, I.turned (t' := s.toks) (fun b ob hb e => eb b ob hb e) f0 f1 f3 f4 f5⟩
  self := fun A i s Q E st h => wpAny_pyIter_keyiter st h
theorem pi_keysN {X : Cx} {e : Expr} {td : TE} (he : PE X e td) : PI X tg e (iKeysN X.prog X.w td) := by
  refine ⟨fun pins s σ H R I h => ?_⟩
  refine thn (he.run pins s σ H _ I h) fun u s1 ⟨x, H1, I1, rx, d, o, kvs, ex, hd, hk, q⟩ => ?_
  subst ex
  obtain rfl : u = Value.ref d := rx
  obtain ⟨hs, hgd, hx, es, ep, hdt, hsz, ent⟩ := frzN I1 hd hk
  refine iter_keys hs hgd hx hdt (pi_one (tk := s1.toks) I1 _ (turn_keysN _ hdt) ⟨_, Heap.get?_push_size _ rfl, rfl, ?_⟩ q)
  rw [hsz] <;> rfl
end
/-! ### list(d) -/
theorem call_listN {X : Cx} (hc : X.calm = true) : CallR X (.type "list") (fun xs H Q => ∃ d od kvs, xs = [V.ref d] ∧ H d = some (.frz od (nT X.prog X.w d kvs)) ∧ Keys H kvs ∧ ∀ p, H p = none → Q (.ref p) (upd H p (.lst (kvs.map fun e => V.ref e.2.1)))) := by
  intro pins s σ H xs us Q I r h
  obtain ⟨d, od, kvs, rfl, hd, hk, q⟩ := h
  obtain ⟨u, rfl, rx⟩ := r.one
  cases rx
  have hlen : kvs.length ≤ sizeLine := (I.hok d _ hd).2.1.1
  obtain ⟨hs, hgd, hx, es, ep, hdt, hsz, ent⟩ := frzN I hd hk
  refine PySem.W.kdl_call (kdl_raw hs hx hdt) (I.ok.hd hc) hgd (by omega) fun h' tk acc' c' kp e it => ?_
  have ea : acc'.toList = (kvs.map fun e => e.2.1).map Value.ref := by
    have hl : acc'.toList.length = kvs.length := by rw [Array.length_toList, it.1]; exact hsz
    apply List.ext_getElem?
    intro j
    rw [List.getElem?_map, List.getElem?_map]
    cases hj : acc'.toList[j]? with
    | none =>
      have h1 := List.getElem?_eq_none_iff.mp hj
      rw [List.getElem?_eq_none (by omega)]
      all_goals rfl
    | some v =>
      obtain ⟨en, hen, hv⟩ := it.2 j v (by rw [← Array.getElem?_toList]; exact hj)
      have hlt : j < kvs.length := by
        rcases List.getElem?_eq_some_iff.mp hj with ⟨z, _⟩
        omega
      obtain ⟨en', hen', hkey, _⟩ := ent j _ (List.getElem?_eq_getElem hlt)
      rw [hen] at hen'
      cases hen'
      rw [List.getElem?_eq_getElem hlt, hv, hkey]
      rfl
  have rv : Vals ((kvs.map fun e => e.2.1).map V.ref) acc'.toList := by rw [ea]; exact vals_refs _
  have em : (kvs.map fun e => V.ref e.2.1) = (kvs.map fun e => e.2.1).map V.ref := by rw [List.map_map]; rfl
  rw [em] at q
  have hz : ((kvs.map fun e => e.2.1).map V.ref).length ≤ sizeLine := by rw [List.length_map, List.length_map]; exact hlen
  refine ⟨.ref s.heap.objs.size, _, I.laid (t' := tk) (o := .lst ((kvs.map fun e => e.2.1).map V.ref)) kp (Nat.le_refl _) ?_, rfl, q _ (I.hok.fresh (Nat.le_refl _))⟩
  exact ⟨hz, acc'.toList, c', rv, by rw [Array.toArray_toList]; exact e⟩
end Cs
namespace Cs
open PySem PySem.Spec PyProof.Rows L2

/-! ### data in the abstract heap -/
mutual
def R [Wd] (H : Hp) : V → PyData → Prop
  | v, .none => v = .non
  | v, .bool b => v = .bl b
  | v, .int i => v = .int i
  | v, .str s => v = .str s
  | v, .tuple ds => ∃ a xs, v = .ref a ∧ H a = some (.tup xs) ∧ RAll H xs ds
  | v, .list ds => ∃ a xs, v = .ref a ∧ H a = some (.lst xs) ∧ RAll H xs ds
  | v, .dict kvs => ∃ a od es, v = .ref a ∧ H a = some (.frz od (nT Wd.P Wd.w a es)) ∧ Keys H es ∧ RKv H es kvs
def RAll [Wd] (H : Hp) : List V → List PyData → Prop
  | xs, [] => xs = []
  | xs, d :: ds => ∃ x r, xs = x :: r ∧ R H x d ∧ RAll H r ds
def RKv [Wd] (H : Hp) : List Ent → List (PyData × PyData) → Prop
  | es, [] => es = []
  | es, (k, d) :: r => ∃ n q x s, es = (n, q, x) :: s ∧ k = nidD n ∧ R H x d ∧ RKv H s r
end
theorem Keys.mono {H H' : Hp} (e : Same H H') {es : List Ent} (h : Keys H es) : Keys H' es := fun x hx => e _ _ (h x hx)

theorem same_upd {H : Hp} {p : Addr} {o : HO} (h : H p = none) : Same H (upd H p o) := fun b x e => by
  rw [upd_ne (ne_of_none e h)]
  exact e
mutual
theorem R.mono [Wd] {H H' : Hp} (e : Same H H') : ∀ {d : PyData} {v : V}, R H v d → R H' v d
  | .none, _, h => by unfold R at *; exact h
  | .bool _, _, h => by unfold R at *; exact h
  | .int _, _, h => by unfold R at *; exact h
  | .str _, _, h => by unfold R at *; exact h
  | .tuple ds, _, h => by
    unfold R at *
    obtain ⟨a, xs, rfl, h1, h2⟩ := h
    exact ⟨a, xs, rfl, e _ _ h1, RAll.mono e h2⟩
  | .list ds, _, h => by
    unfold R at *
    obtain ⟨a, xs, rfl, h1, h2⟩ := h
    exact ⟨a, xs, rfl, e _ _ h1, RAll.mono e h2⟩
  | .dict kvs, _, h => by
    unfold R at *
    obtain ⟨a, od, es, rfl, h1, h2, h3⟩ := h
    exact ⟨a, od, es, rfl, e _ _ h1, h2.mono e, RKv.mono e h3⟩
theorem RAll.mono [Wd] {H H' : Hp} (e : Same H H') : ∀ {ds : List PyData} {xs : List V}, RAll H xs ds → RAll H' xs ds
  | [], _, h => by unfold RAll at *; exact h
  | d :: ds, _, h => by
    unfold RAll at *
    obtain ⟨x, r, rfl, h1, h2⟩ := h
    exact ⟨x, r, rfl, R.mono e h1, RAll.mono e h2⟩
theorem RKv.mono [Wd] {H H' : Hp} (e : Same H H') : ∀ {ds : List (PyData × PyData)} {xs : List Ent}, RKv H xs ds → RKv H' xs ds
  | [], _, h => by unfold RKv at *; exact h
  | (k, d) :: ds, _, h => by
    unfold RKv at *
    obtain ⟨n, q, x, s, rfl, h0, h1, h2⟩ := h
    exact ⟨n, q, x, s, rfl, h0, R.mono e h1, RKv.mono e h2⟩
end
/-! data without lists: it stays where the tuples stay -/
mutual
def noL : PyData → Bool
  | .list _ => false
  | .dict _ => false
  | .tuple ds => noLs ds
  | _ => true
def noLs : List PyData → Bool
  | [] => true
  | d :: ds => noL d && noLs ds
end
mutual
def noD : PyData → Bool
  | .dict _ => false
  | .list ds => noDs ds
  | .tuple ds => noDs ds
  | _ => true
def noDs : List PyData → Bool
  | [] => true
  | d :: ds => noD d && noDs ds
end
def Grow (H H' : Hp) : Prop := ∀ b xs, H b = some (.tup xs) → H' b = some (.tup xs)
theorem Grow.refl (H : Hp) : Grow H H := fun _ _ h => h
theorem Grow.trans {H H1 H2 : Hp} (a : Grow H H1) (b : Grow H1 H2) : Grow H H2 := fun c xs h => b c xs (a c xs h)
theorem Grow.of {H H' : Hp} (e : Same H H') : Grow H H' := fun b xs h => e b _ h
mutual
theorem R.grow [Wd] {H H' : Hp} (e : Grow H H') : ∀ {d : PyData} {v : V}, noL d = true → R H v d → R H' v d
  | .none, _, _, h => by unfold R at *; exact h
  | .bool _, _, _, h => by unfold R at *; exact h
  | .int _, _, _, h => by unfold R at *; exact h
  | .str _, _, _, h => by unfold R at *; exact h
  | .tuple ds, _, n, h => by
    unfold R at *
    unfold noL at n
    obtain ⟨a, xs, rfl, h1, h2⟩ := h
    exact ⟨a, xs, rfl, e _ _ h1, RAll.grow e n h2⟩
  | .list ds, _, n, _ => by unfold noL at n; cases n
  | .dict _, _, n, _ => by unfold noL at n; cases n
theorem RAll.grow [Wd] {H H' : Hp} (e : Grow H H') : ∀ {ds : List PyData} {xs : List V}, noLs ds = true → RAll H xs ds → RAll H' xs ds
  | [], _, _, h => by unfold RAll at *; exact h
  | d :: ds, _, n, h => by
    unfold RAll at *
    unfold noLs at n
    obtain ⟨n1, n2⟩ := Bool.and_eq_true_iff.mp n
    obtain ⟨x, r, rfl, h1, h2⟩ := h
    exact ⟨x, r, rfl, R.grow e n1 h1, RAll.grow e n2 h2⟩
end
/-! reading it -/
theorem R.non [Wd] {H : Hp} {v : V} (h : R H v .none) : v = .non := by unfold R at h; exact h
theorem R.bl [Wd] {H : Hp} {v : V} {b : Bool} (h : R H v (.bool b)) : v = .bl b := by unfold R at h; exact h
theorem R.int [Wd] {H : Hp} {v : V} {b : Int} (h : R H v (.int b)) : v = .int b := by unfold R at h; exact h
theorem R.str [Wd] {H : Hp} {v : V} {b : Str} (h : R H v (.str b)) : v = .str b := by unfold R at h; exact h
theorem R.tup [Wd] {H : Hp} {v : V} {ds : List PyData} (h : R H v (.tuple ds)) : ∃ a xs, v = .ref a ∧ H a = some (.tup xs) ∧ RAll H xs ds := by unfold R at h; exact h
theorem R.lst [Wd] {H : Hp} {v : V} {ds : List PyData} (h : R H v (.list ds)) : ∃ a xs, v = .ref a ∧ H a = some (.lst xs) ∧ RAll H xs ds := by unfold R at h; exact h
theorem RAll.nil [Wd] {H : Hp} {xs : List V} (h : RAll H xs []) : xs = [] := by unfold RAll at h; exact h
theorem RAll.cons [Wd] {H : Hp} {xs : List V} {d : PyData} {ds : List PyData} (h : RAll H xs (d :: ds)) : ∃ x r, xs = x :: r ∧ R H x d ∧ RAll H r ds := by unfold RAll at h; exact h
theorem r_non [Wd] {H : Hp} : R H .non .none := by unfold R; rfl
theorem r_bl [Wd] {H : Hp} {b : Bool} : R H (.bl b) (.bool b) := by unfold R; rfl
theorem r_int [Wd] {H : Hp} {b : Int} : R H (.int b) (.int b) := by unfold R; rfl
theorem r_str [Wd] {H : Hp} {b : Str} : R H (.str b) (.str b) := by unfold R; rfl
theorem r_tup [Wd] {H : Hp} {a : Addr} {xs : List V} {ds : List PyData} (h : H a = some (.tup xs)) (r : RAll H xs ds) : R H (.ref a) (.tuple ds) := by unfold R; exact ⟨a, xs, rfl, h, r⟩
theorem r_lst [Wd] {H : Hp} {a : Addr} {xs : List V} {ds : List PyData} (h : H a = some (.lst xs)) (r : RAll H xs ds) : R H (.ref a) (.list ds) := by unfold R; exact ⟨a, xs, rfl, h, r⟩
theorem ra_nil [Wd] {H : Hp} : RAll H [] [] := by unfold RAll; rfl
theorem ra_cons [Wd] {H : Hp} {x : V} {r : List V} {d : PyData} {ds : List PyData} (h : R H x d) (t : RAll H r ds) : RAll H (x :: r) (d :: ds) := by unfold RAll; exact ⟨x, r, rfl, h, t⟩
theorem RAll.length [Wd] {H : Hp} : ∀ {ds : List PyData} {xs : List V}, RAll H xs ds → xs.length = ds.length
  | [], _, h => by rw [h.nil]; rfl
  | d :: ds, _, h => by
    obtain ⟨x, r, rfl, _, h2⟩ := h.cons
    simp [RAll.length h2]
theorem RAll.get [Wd] {H : Hp} : ∀ {ds : List PyData} {xs : List V} {i : Nat} {d : PyData}, RAll H xs ds → ds[i]? = some d → ∃ x, xs[i]? = some x ∧ R H x d
  | [], _, _, _, _, e => by simp at e
  | d0 :: ds, _, 0, d, h, e => by
    obtain ⟨x, r, rfl, h1, h2⟩ := h.cons
    simp at e
    subst e
    exact ⟨x, rfl, h1⟩
  | d0 :: ds, _, i + 1, d, h, e => by
    obtain ⟨x, r, rfl, h1, h2⟩ := h.cons
    simp at e
    obtain ⟨y, e1, e2⟩ := RAll.get h2 e
    exact ⟨y, by simpa using e1, e2⟩
theorem RAll.app [Wd] {H : Hp} : ∀ {ds es : List PyData} {xs ys : List V}, RAll H xs ds → RAll H ys es → RAll H (xs ++ ys) (ds ++ es)
  | [], _, _, _, h, k => by rw [h.nil]; exact k
  | d :: ds, _, _, _, h, k => by
    obtain ⟨x, r, rfl, h1, h2⟩ := h.cons
    exact ra_cons h1 (RAll.app h2 k)
theorem RAll.take [Wd] {H : Hp} : ∀ {ds : List PyData} {xs : List V} (n : Nat), RAll H xs ds → RAll H (xs.take n) (ds.take n)
  | _, _, 0, _ => by simp; exact ra_nil
  | [], _, n + 1, h => by rw [h.nil]; simp; exact ra_nil
  | d :: ds, _, n + 1, h => by
    obtain ⟨x, r, rfl, h1, h2⟩ := h.cons
    simp
    exact ra_cons h1 (RAll.take n h2)
theorem RAll.drop [Wd] {H : Hp} : ∀ {ds : List PyData} {xs : List V} (n : Nat), RAll H xs ds → RAll H (xs.drop n) (ds.drop n)
  | _, _, 0, h => by simpa using h
  | [], _, n + 1, h => by rw [h.nil]; simp; exact ra_nil
  | d :: ds, _, n + 1, h => by
    obtain ⟨x, r, rfl, h1, h2⟩ := h.cons
    simpa using RAll.drop n h2
theorem RAll.snoc [Wd] {H : Hp} {ds : List PyData} {xs : List V} {x : V} {d : PyData} (h : RAll H xs ds) (k : R H x d) : RAll H (xs ++ [x]) (ds ++ [d]) := h.app (ra_cons k ra_nil)
theorem R.dict [Wd] {H : Hp} {v : V} {kvs : List (PyData × PyData)} (h : R H v (.dict kvs)) : ∃ a od es, v = .ref a ∧ H a = some (.frz od (nT Wd.P Wd.w a es)) ∧ Keys H es ∧ RKv H es kvs := by unfold R at h; exact h
theorem r_dict [Wd] {H : Hp} {a : Addr} {od : Obj} {es : List Ent} {kvs : List (PyData × PyData)} (h : H a = some (.frz od (nT Wd.P Wd.w a es))) (k : Keys H es) (r : RKv H es kvs) : R H (.ref a) (.dict kvs) := by unfold R; exact ⟨a, od, es, rfl, h, k, r⟩
theorem RKv.nil [Wd] {H : Hp} {es : List Ent} (h : RKv H es []) : es = [] := by unfold RKv at h; exact h
theorem RKv.cons [Wd] {H : Hp} {es : List Ent} {k d : PyData} {r : List (PyData × PyData)} (h : RKv H es ((k, d) :: r)) : ∃ n q x s, es = (n, q, x) :: s ∧ k = nidD n ∧ R H x d ∧ RKv H s r := by unfold RKv at h; exact h
theorem rk_nil [Wd] {H : Hp} : RKv H [] [] := by unfold RKv; rfl
theorem rk_cons [Wd] {H : Hp} {n : Nid} {q : Addr} {x : V} {s : List Ent} {d : PyData} {r : List (PyData × PyData)} (h : R H x d) (t : RKv H s r) : RKv H ((n, q, x) :: s) ((nidD n, d) :: r) := by unfold RKv; exact ⟨n, q, x, s, rfl, rfl, h, t⟩
theorem nid_R [Wd] {H : Hp} {v : V} {n : Nid} (r : R H v (nidD n)) : ∃ a, v = .ref a ∧ H a = some (.tup (nidV n)) := by
  obtain ⟨a, xs, rfl, h1, h2⟩ := r.tup
  obtain ⟨x, r1, rfl, e1, h2⟩ := h2.cons
  obtain ⟨y, r2, rfl, e2, h2⟩ := h2.cons
  obtain ⟨z, r3, rfl, e3, h2⟩ := h2.cons
  refine ⟨a, rfl, ?_⟩
  rw [h1, h2.nil, e2.str, e3.str]
  have : x = optV n.plot := by
    cases hp : n.plot with
    | none => rw [hp] at e1; exact e1.non
    | some i => rw [hp] at e1; exact e1.int
  rw [this]
  rfl
theorem r_nid [Wd] {H : Hp} {a : Addr} {n : Nid} (h : H a = some (.tup (nidV n))) : R H (.ref a) (nidD n) := by
  refine r_tup h (ra_cons ?_ (ra_cons r_str (ra_cons r_str ra_nil)))
  cases n.plot with
  | none => exact r_non
  | some i => exact r_int
/-! the library's relation -/
mutual
theorem R.dp [Wd] {K : PySem.W.Frag} {H : Hp} : ∀ {d : PyData} {v : V}, noD d = true → R H v d → Dp K H v d
  | .none, _, _, h => by rw [h.non]; exact .non
  | .bool b, _, _, h => by rw [h.bl]; exact .bl b
  | .int b, _, _, h => by rw [h.int]; exact .int b
  | .str b, _, _, h => by rw [h.str]; exact .str b
  | .tuple ds, _, n, h => by
    unfold noD at n
    obtain ⟨a, xs, rfl, h1, h2⟩ := h.tup
    exact .tup (SqT.of h1) (RAll.dp n h2)
  | .list ds, _, n, h => by
    unfold noD at n
    obtain ⟨a, xs, rfl, h1, h2⟩ := h.lst
    exact .lst (SqL.of h1) (RAll.dp n h2)
  | .dict _, _, n, h => by unfold noD at n; cases n
theorem RAll.dp [Wd] {K : PySem.W.Frag} {H : Hp} : ∀ {ds : List PyData} {xs : List V}, noDs ds = true → RAll H xs ds → DpAll K H xs ds
  | [], _, _, h => by rw [h.nil]; exact .nil
  | d :: ds, _, n, h => by
    unfold noDs at n
    obtain ⟨n1, n2⟩ := Bool.and_eq_true_iff.mp n
    obtain ⟨x, r, rfl, h1, h2⟩ := h.cons
    exact .cons (R.dp n1 h1) (RAll.dp n2 h2)
end

/-! ### slots of data -/
abbrev Sl := List (Option PyData)
structure RS [Wd] (H : Hp) (σ : L2.St) (sd : Sl) : Prop where
  len : σ.length = sd.length
  get : ∀ (i : Nat) (d : PyData), sd[i]? = some (some d) → ∃ v, σ[i]? = some (some v) ∧ R H v d
theorem RS.mono [Wd] {H H' : Hp} {σ : L2.St} {sd : Sl} (e : Same H H') (h : RS H σ sd) : RS H' σ sd :=
  ⟨h.len, fun i d q => let ⟨v, a, b⟩ := h.get i d q; ⟨v, a, b.mono e⟩⟩
theorem RS.set [Wd] {H : Hp} {σ : L2.St} {sd : Sl} (h : RS H σ sd) (i : Nat) {v : V} {d : PyData} (r : R H v d) : RS H (σ.set i (some v)) (sd.set i (some d)) := by
  refine ⟨by simp [h.len], fun j e q => ?_⟩
  by_cases hij : i = j
  · subst hij
    rw [List.getElem?_set] at q
    by_cases hl : i < sd.length
    · simp [hl] at q
      subst q
      exact ⟨v, by rw [List.getElem?_set]; simp [h.len, hl], r⟩
    · simp [hl] at q
  · rw [List.getElem?_set_ne hij] at q
    obtain ⟨w, a, b⟩ := h.get j e q
    exact ⟨w, by rw [List.getElem?_set_ne hij]; exact a, b⟩
inductive Out where
  | nx (s : Sl)
  | rt (d : PyData)

/-! ### readings -/
def tD [Wd] (f : Sl → Option PyData) : TE := fun σ H Q => ∃ sd d, RS H σ sd ∧ f sd = some d ∧ ∀ H' v, Same H H' → R H' v d → Q v H'
def tDT [Wd] (f : Sl → Option Bool) : TT := fun σ H Q => ∃ sd b, RS H σ sd ∧ f sd = some b ∧ ∀ H', Same H H' → Q b H'
def tDA [Wd] (f : Sl → Option (List PyData)) : TA := fun σ H Q => ∃ sd ds, RS H σ sd ∧ f sd = some ds ∧ ∀ H' vs, Same H H' → RAll H' vs ds → Q vs H'
/-- what an outcome asks -/
def OQ [Wd] (D : Ends) (H : Hp) : Out → Prop
  | .nx sd' => ∀ σ' H', Same H H' → RS H' σ' sd' → D.nx σ' H'
  | .rt d => ∀ H' v, Same H H' → R H' v d → D.rt v H'
theorem OQ.same [Wd] {D : Ends} {H H1 : Hp} (e : Same H H1) : ∀ {o : Out}, OQ D H o → OQ D H1 o
  | .nx _, q => fun σ' H' s r => q σ' H' (e.trans s) r
  | .rt _, q => fun H' v s r => q H' v (e.trans s) r
def tDS [Wd] (F : Sl → Option Out) : TS := fun D σ H => ∃ sd o, RS H σ sd ∧ F sd = some o ∧ OQ D H o

theorem PE.sub {X : Cx} {e : Expr} {t t' : TE} (h : PE X e t) (i : ∀ σ H Q, t' σ H Q → t σ H Q) : PE X e t' := ⟨fun pins s σ H Q I q => h.run pins s σ H Q I (i _ _ _ q)⟩
theorem PT.sub {X : Cx} {e : Expr} {t t' : TT} (h : PT X e t) (i : ∀ σ H Q, t' σ H Q → t σ H Q) : PT X e t' := ⟨fun pins s σ H Q I q => h.run pins s σ H Q I (i _ _ _ q)⟩
theorem PW.sub {X : Cx} {e : Expr} {t t' : TT} (h : PW X e t) (i : ∀ σ H Q, t' σ H Q → t σ H Q) : PW X e t' := ⟨fun w pins s σ H Q I q => h.run w pins s σ H Q I (i _ _ _ q)⟩
theorem PA.sub {X : Cx} {e : List Expr} {t t' : TA} (h : PA X e t) (i : ∀ σ H Q, t' σ H Q → t σ H Q) : PA X e t' := ⟨fun p pins s σ H Q I q => h.run p pins s σ H Q I (i _ _ _ q)⟩
theorem PS.sub {X : Cx} {e : Stmt} {t t' : TS} (h : PS X e t) (i : ∀ D σ H, t' D σ H → t D σ H) : PS X e t' := ⟨fun pins s σ H D I q => h.run pins s σ H D I (i _ _ _ q)⟩
theorem PSs.sub {X : Cx} {e : List Stmt} {t t' : TS} (h : PSs X e t) (i : ∀ D σ H, t' D σ H → t D σ H) : PSs X e t' := ⟨fun pins s σ H D I q => h.run pins s σ H D I (i _ _ _ q)⟩

/-! ### expressions -/
def dVar (i : Nat) : Sl → Option PyData := fun s => match s[i]? with | some (some d) => some d | _ => none
def dC (d : PyData) : Sl → Option PyData := fun _ => some d
def dBin (g : PyData → PyData → Option PyData) (f1 f2 : Sl → Option PyData) : Sl → Option PyData := fun s => match f1 s with | some a => (match f2 s with | some b => g a b | none => none) | none => none
def dUn (g : PyData → Option PyData) (f1 : Sl → Option PyData) : Sl → Option PyData := fun s => match f1 s with | some a => g a | none => none
theorem dBin_inv {g : PyData → PyData → Option PyData} {f1 f2 : Sl → Option PyData} {s : Sl} {d : PyData} (h : dBin g f1 f2 s = some d) : ∃ a b, f1 s = some a ∧ f2 s = some b ∧ g a b = some d := by
  unfold dBin at h
  cases e1 : f1 s with
  | none => rw [e1] at h; cases h
  | some a =>
    rw [e1] at h
    cases e2 : f2 s with
    | none => rw [e2] at h; cases h
    | some b => rw [e2] at h; exact ⟨a, b, rfl, rfl, h⟩
theorem dUn_inv {g : PyData → Option PyData} {f1 : Sl → Option PyData} {s : Sl} {d : PyData} (h : dUn g f1 s = some d) : ∃ a, f1 s = some a ∧ g a = some d := by
  unfold dUn at h
  cases e1 : f1 s with
  | none => rw [e1] at h; cases h
  | some a => rw [e1] at h; exact ⟨a, rfl, h⟩
section
variable {X : Cx}
theorem de_var [Wd] (i : Nat) {x : Str} {pos : Pos} (hN : X.N[i]? = some x := by rfl) (hv : Vis X.env.scope x := by first | exact Or.inl rfl | exact Or.inr (Or.inl rfl) | exact Or.inr (Or.inr rfl)) (hd : (x == ("__debug__" : Str)) = false := by decide)
    (hcd : (x == ("__classdict__" : Str)) = false := by decide) : PE X (.Name x pos) (tD (dVar i)) :=
  PE.sub (pe_var hN hv hd hcd) fun σ H Q ⟨sd, d, hr, hf, q⟩ => by
    unfold dVar at hf
    cases e : sd[i]? with
    | none => rw [e] at hf; cases hf
    | some o =>
      rw [e] at hf
      cases o with
      | none => cases hf
      | some d' =>
        cases hf
        obtain ⟨v, h1, h2⟩ := hr.get i d e
        exact ⟨v, h1, q H v (Same.refl H) h2⟩
theorem de_c [Wd] {e : Expr} {v : V} {d : PyData} (h : PE X e (tC v)) (r : ∀ H, R H v d) : PE X e (tD (dC d)) := PE.sub h fun σ H Q ⟨sd, d', hr, hf, q⟩ => by
  cases hf
  exact q H v (Same.refl H) (r H)
theorem de_int [Wd] {i j pos} : PE X (.Constant (.int i) j pos) (tD (dC (.int i))) := de_c pe_int fun _ => r_int
theorem de_bl [Wd] {b j pos} : PE X (.Constant (.bool b) j pos) (tD (dC (.bool b))) := de_c pe_bl fun _ => r_bl
theorem de_non [Wd] {j pos} : PE X (.Constant .none j pos) (tD (dC .none)) := de_c pe_non fun _ => r_non
theorem de_str [Wd] {x j pos} : PE X (.Constant (.str x) j pos) (tD (dC (.str x))) := de_c pe_str fun _ => r_str
/-- two parts, then a rule by values -/
theorem tOp_of [Wd] {r : R2} {g : PyData → PyData → Option PyData} {f1 f2 : Sl → Option PyData}
    (hr : ∀ (x y : V) (a b d : PyData) (H : Hp) (Q : VK), R H x a → R H y b → g a b = some d → (∀ H' v, Same H H' → R H' v d → Q v H') → r x y H Q) (σ : L2.St) (H : Hp) (Q : VK) (h : tD (dBin g f1 f2) σ H Q) : tOp r (tD f1) (tD f2) σ H Q := by
  obtain ⟨sd, d, hs, hf, q⟩ := h
  obtain ⟨a, b, e1, e2, e3⟩ := dBin_inv hf
  refine ⟨sd, a, hs, e1, fun H1 x s1 r1 => ⟨sd, b, hs.mono s1, e2, fun H2 y s2 r2 => ?_⟩⟩
  exact hr x y a b d H2 Q (r1.mono s2) r2 e3 fun H' v s3 r3 => q H' v ((s1.trans s2).trans s3) r3
theorem tUn_of [Wd] {r : V → Hp → VK → Prop} {g : PyData → Option PyData} {f1 : Sl → Option PyData}
    (hr : ∀ (x : V) (a d : PyData) (H : Hp) (Q : VK), R H x a → g a = some d → (∀ H' v, Same H H' → R H' v d → Q v H') → r x H Q) (σ : L2.St) (H : Hp) (Q : VK) (h : tD (dUn g f1) σ H Q) : tUn r (tD f1) σ H Q := by
  obtain ⟨sd, d, hs, hf, q⟩ := h
  obtain ⟨a, e1, e3⟩ := dUn_inv hf
  refine ⟨sd, a, hs, e1, fun H1 x s1 r1 => ?_⟩
  exact hr x a d H1 Q r1 e3 fun H' v s3 r3 => q H' v (s1.trans s3) r3
end
end Cs
namespace Cs
open PySem PySem.Spec PyProof.Rows L2

/-! ### what the operators do to data -/
def shp (a : PyData) : Bool := SeqAt.shaped a && noD a
theorem shp_1 {a : PyData} (h : shp a = true) : SeqAt.shaped a = true := (Bool.and_eq_true_iff.mp h).1
theorem shp_2 {a : PyData} (h : shp a = true) : noD a = true := (Bool.and_eq_true_iff.mp h).2
def gAdd : PyData → PyData → Option PyData
  | .int i, .int j => some (.int (i + j))
  | .tuple xs, .tuple ys => if xs.length + ys.length ≤ 1000 then some (.tuple (xs ++ ys)) else none
  | .str i, .str j => if i.length + j.length ≤ 1000 then some (.str (i ++ j)) else none
  | _, _ => none
def gMod : PyData → PyData → Option PyData
  | .int i, .int j => if 0 < j then some (.int (i % j)) else none
  | _, _ => none
def gInL : PyData → PyData → Option PyData
  | d, .list ds => if shp d = true ∧ shp (.list ds) = true then some (.bool (ds.any fun z => PyData.eqv z d)) else none
  | _, _ => none
def gSub : PyData → PyData → Option PyData
  | .int i, .int j => some (.int (i - j))
  | _, _ => none
def gMul : PyData → PyData → Option PyData
  | .int i, .int j => if -1000000 < i ∧ i < 1000000 then some (.int (i * j)) else none
  | _, _ => none
def gDiv2 : PyData → PyData → Option PyData
  | .int i, .int j => if 0 < j ∧ j < 1073741824 then some (.int (i / j)) else none
  | _, _ => none
def gPow : PyData → PyData → Option PyData
  | .int i, .int j => if (0 ≤ j ∧ j ≤ 1000) ∧ i.natAbs < 1000000 then some (.int (i ^ j.toNat)) else none
  | _, _ => none
def gLt : PyData → PyData → Option PyData
  | .int i, .int j => some (.bool (decide (i < j)))
  | _, _ => none
def gLe : PyData → PyData → Option PyData
  | .int i, .int j => some (.bool (decide (i ≤ j)))
  | _, _ => none
def gGt : PyData → PyData → Option PyData
  | .int i, .int j => some (.bool (decide (j < i)))
  | _, _ => none
def gGe : PyData → PyData → Option PyData
  | .int i, .int j => some (.bool (decide (j ≤ i)))
  | _, _ => none
def gEq : PyData → PyData → Option PyData
  | .int i, .int j => some (.bool (decide (i = j)))
  | .str i, .str j => some (.bool (decide (i = j)))
  | _, _ => none
def gNe : PyData → PyData → Option PyData
  | .int i, .int j => some (.bool (!decide (i = j)))
  | .str i, .str j => some (.bool (!decide (i = j)))
  | _, _ => none
def gEqD : PyData → PyData → Option PyData := fun a b => if shp a = true ∧ shp b = true then some (.bool (PyData.eqv a b)) else none
def gNeD : PyData → PyData → Option PyData := fun a b => if shp a = true ∧ shp b = true then some (.bool (!PyData.eqv a b)) else none
def isNone : PyData → Bool
  | .none => true
  | _ => false
def gIs : PyData → PyData → Option PyData
  | a, .none => some (.bool (isNone a))
  | _, _ => none
def gIsNot : PyData → PyData → Option PyData
  | a, .none => some (.bool (!isNone a))
  | _, _ => none
/-- one sign in a text -/
def gIn : PyData → PyData → Option PyData
  | .str c, .str z => (match c.cps.toList with
    | [k] => some (.bool (decide (k ∈ z.cps.toList)))
    | _ => none)
  | _, _ => none
def gIx : PyData → PyData → Option PyData
  | .tuple ds, .int i => atI ds i
  | .list ds, .int i => atI ds i
  | .str z, .int i => if z.length ≤ 1000 then (match atI z.cps.toList i with
    | some c => some (.str ⟨#[c]⟩)
    | none => none) else none
  | _, _ => none

def dTest (f : Sl → Option PyData) : Sl → Option Bool := fun s => match f s with
  | some (.bool b) => some b
  | _ => none
theorem dt_of [Wd] {X : Cx} {e : Expr} {t : TE} {f : Sl → Option PyData} (h : PT X e (tTest t)) (i : ∀ σ H Q, tD f σ H Q → t σ H Q) : PT X e (tDT (dTest f)) := PT.sub h fun σ H Q ⟨sd, k, hs, hf, q⟩ => by
  unfold dTest at hf
  split at hf
  · rename_i b e1
    cases hf
    exact i σ H _ ⟨sd, .bool k, hs, e1, fun H1 x s1 r1 => ⟨k, r1.bl, q H1 s1⟩⟩
  · cases hf
theorem isNone_of [Wd] {H : Hp} {x : V} {a : PyData} (r : R H x a) : decide (x = V.non) = isNone a := by
  cases a with
  | none => rw [r.non]; rfl
  | bool b => rw [r.bl]; rfl
  | int b => rw [r.int]; rfl
  | str b => rw [r.str]; exact decide_eq_false (fun e => nomatch e)
  | tuple ds => obtain ⟨p, xs, rfl, _⟩ := r.tup; rfl
  | list ds => obtain ⟨p, xs, rfl, _⟩ := r.lst; rfl
  | dict kvs => obtain ⟨p, o, xs, rfl, _⟩ := r.dict; rfl

section
variable {X : Cx} {a b c : Expr} {f f1 f2 f3 : Sl → Option PyData} {pos : Pos}
theorem i0_of [Wd] {g : Int → Int → V} {g' : PyData → PyData → Option PyData} (hg : ∀ u v d, g' u v = some d → ∃ i j, u = .int i ∧ v = .int j ∧ ∀ H, R H (g i j) d) :
    ∀ (x y : V) (u v d : PyData) (H : Hp) (Q : VK), R H x u → R H y v → g' u v = some d → (∀ H' v, Same H H' → R H' v d → Q v H') → rI0 g x y H Q := by
  intro x y u v d H Q r1 r2 e q
  obtain ⟨i, j, rfl, rfl, h⟩ := hg u v d e
  exact ⟨i, j, r1.int, r2.int, q H _ (Same.refl H) (h H)⟩
/-- an operator's rule by values, in data -/
def HR [Wd] (r : R2) (g : PyData → PyData → Option PyData) : Prop := ∀ (x y : V) (a b d : PyData) (H : Hp) (Q : VK), R H x a → R H y b → g a b = some d → (∀ H' v, Same H H' → R H' v d → Q v H') → r x y H Q
theorem op_addA : OpR X (binaryOp .Add) (fun x y H Q => (∃ i j, x = .int i ∧ y = .int j ∧ Q (.int (i + j)) H) ∨ rCatA X.K x y H Q ∨ ∃ i j, x = .str i ∧ y = .str j ∧ i.length + j.length ≤ sizeLine ∧ Q (.str (i ++ j)) H) := OpR.or op_add (OpR.or op_catA op_add_str)
theorem hr_add [Wd] (K : PySem.W.Frag) : HR (fun x y H Q => (∃ i j, x = .int i ∧ y = .int j ∧ Q (.int (i + j)) H) ∨ rCatA K x y H Q ∨ ∃ i j, x = .str i ∧ y = .str j ∧ i.length + j.length ≤ sizeLine ∧ Q (.str (i ++ j)) H) gAdd := fun x y u v d H Q r1 r2 e q => by
    cases u with
    | int i => cases v with
      | int j => cases e; exact .inl ⟨i, j, r1.int, r2.int, q H _ (Same.refl H) r_int⟩
      | _ => cases e
    | tuple us => cases v with
      | tuple vs =>
        replace e : (if us.length + vs.length ≤ 1000 then some (PyData.tuple (us ++ vs)) else none) = some d := e
        by_cases hl : us.length + vs.length ≤ 1000
        · rw [if_pos hl] at e
          cases e
          obtain ⟨p, xs, rfl, h1, h2⟩ := r1.tup
          obtain ⟨p', ys, rfl, h3, h4⟩ := r2.tup
          have l1 := h2.length
          have l2 := h4.length
          refine .inr (.inl ⟨p, p', xs, ys, rfl, rfl, SqT.of h1, SqT.of h3, Nat.le_trans (by omega : _ ≤ 1000) (by decide), fun z => ?_, fun _ z => ?_, fun _ _ p2 n => ?_⟩)
          · subst z
            have : us = [] := by cases us with
              | nil => rfl
              | cons _ _ => simp at l1
            subst this
            exact q H _ (Same.refl H) r2
          · subst z
            have : vs = [] := by cases vs with
              | nil => rfl
              | cons _ _ => simp at l2
            subst this
            exact q H _ (Same.refl H) (by rw [List.append_nil]; exact r1)
          · exact q _ _ (same_upd n) (r_tup upd_same ((h2.app h4).mono (same_upd n)))
        · rw [if_neg hl] at e
          cases e
      | _ => cases e
    | str i => cases v with
      | str j =>
        replace e : (if i.length + j.length ≤ 1000 then some (PyData.str (i ++ j)) else none) = some d := e
        by_cases hl : i.length + j.length ≤ 1000
        · rw [if_pos hl] at e
          cases e
          exact .inr (.inr ⟨i, j, r1.str, r2.str, Nat.le_trans hl (by decide), q H _ (Same.refl H) r_str⟩)
        · rw [if_neg hl] at e
          cases e
      | _ => cases e
    | _ => cases e
theorem de_add [Wd] (ha : PE X a (tD f1)) (hb : PE X b (tD f2)) : PE X (.BinOp a .Add b pos) (tD (dBin gAdd f1 f2)) :=
  PE.sub (pe_op op_addA ha hb) (tOp_of (hr_add X.K))
theorem hr_sub [Wd] : HR (rI0 fun i j => .int (i - j)) gSub := i0_of fun u v d e => by
    cases u with
    | int i => cases v with
      | int j => cases e; exact ⟨i, j, rfl, rfl, fun _ => r_int⟩
      | _ => cases e
    | _ => cases e
theorem hr_mod [Wd] : HR (rI (fun _ j => 0 < j) fun i j => .int (i % j)) gMod := fun x y u v d H Q r1 r2 e q => by
  unfold gMod at e
  split at e
  · split at e
    · rename_i hl
      cases e
      exact ⟨_, _, r1.int, r2.int, hl, q H _ (Same.refl H) r_int⟩
    · cases e
  · cases e
theorem de_mod [Wd] (ha : PE X a (tD f1)) (hb : PE X b (tD f2)) : PE X (.BinOp a .Mod b pos) (tD (dBin gMod f1 f2)) := PE.sub (pe_op op_mod ha hb) (tOp_of hr_mod)
theorem hr_inL [Wd] (K : PySem.W.Frag) : HR (rInD K) gInL := fun x y u v d H Q r1 r2 e q => by
  unfold gInL at e
  split at e
  · split at e
    · rename_i hl
      cases e
      exact ⟨_, _, r1.dp (shp_2 hl.1), r2.dp (shp_2 hl.2), shp_1 hl.1, shp_1 hl.2, q H _ (Same.refl H) r_bl⟩
    · cases e
  · cases e
theorem dt_inL [Wd] (hu : X.A.units + 65 < cLine) (ha : PE X a (tD f1)) (hb : PE X b (tD f2)) (hm : behindInMarks .In b = false := by rfl) : PT X (.Compare a [.In] [b] pos) (tDT (dTest (dBin gInL f1 f2))) := dt_of (pt_cmpR (op_inD hu) ha hb hm) (tOp_of (hr_inL X.K))
theorem de_sub [Wd] (ha : PE X a (tD f1)) (hb : PE X b (tD f2)) : PE X (.BinOp a .Sub b pos) (tD (dBin gSub f1 f2)) :=
  PE.sub (pe_op op_sub ha hb) (tOp_of (i0_of fun u v d e => by
    cases u with
    | int i => cases v with
      | int j => cases e; exact ⟨i, j, rfl, rfl, fun _ => r_int⟩
      | _ => cases e
    | _ => cases e))
theorem de_mul [Wd] (ha : PE X a (tD f1)) (hb : PE X b (tD f2)) : PE X (.BinOp a .Mult b pos) (tD (dBin gMul f1 f2)) :=
  PE.sub (pe_op op_mul ha hb) (tOp_of fun x y u v d H Q r1 r2 e q => by
    cases u with
    | int i => cases v with
      | int j =>
        replace e : (if -1000000 < i ∧ i < 1000000 then some (PyData.int (i * j)) else none) = some d := e
        by_cases hl : -1000000 < i ∧ i < 1000000
        · rw [if_pos hl] at e
          cases e
          exact ⟨i, j, r1.int, r2.int, .inl ⟨by omega, by omega⟩, q H _ (Same.refl H) r_int⟩
        · rw [if_neg hl] at e
          cases e
      | _ => cases e
    | _ => cases e)
theorem de_div [Wd] (ha : PE X a (tD f1)) (hb : PE X b (tD f2)) : PE X (.BinOp a .FloorDiv b pos) (tD (dBin gDiv2 f1 f2)) :=
  PE.sub (pe_op op_fdiv ha hb) (tOp_of fun x y u v d H Q r1 r2 e q => by
    cases u with
    | int i => cases v with
      | int j =>
        replace e : (if 0 < j ∧ j < 1073741824 then some (PyData.int (i / j)) else none) = some d := e
        by_cases hl : 0 < j ∧ j < 1073741824
        · rw [if_pos hl] at e
          cases e
          exact ⟨i, j, r1.int, r2.int, hl, q H _ (Same.refl H) r_int⟩
        · rw [if_neg hl] at e
          cases e
      | _ => cases e
    | _ => cases e)
theorem de_pow [Wd] (ha : PE X a (tD f1)) (hb : PE X b (tD f2)) : PE X (.BinOp a .Pow b pos) (tD (dBin gPow f1 f2)) :=
  PE.sub (pe_op op_pow ha hb) (tOp_of fun x y u v d H Q r1 r2 e q => by
    cases u with
    | int i => cases v with
      | int j =>
        replace e : (if (0 ≤ j ∧ j ≤ 1000) ∧ i.natAbs < 1000000 then some (PyData.int (i ^ j.toNat)) else none) = some d := e
        by_cases hl : (0 ≤ j ∧ j ≤ 1000) ∧ i.natAbs < 1000000
        · rw [if_pos hl] at e
          cases e
          exact ⟨i, j, r1.int, r2.int, ⟨hl.1.1, by omega, by omega⟩, q H _ (Same.refl H) r_int⟩
        · rw [if_neg hl] at e
          cases e
      | _ => cases e
    | _ => cases e)
theorem im_lt [Wd] (σ : L2.St) (H : Hp) (Q : VK) (h : tD (dBin gLt f1 f2) σ H Q) : tOp (rI0 fun i j => .bl (decide (i < j))) (tD f1) (tD f2) σ H Q := (tOp_of (i0_of fun u v d e => by
    cases u with
    | int i => cases v with
      | int j => cases e; exact ⟨i, j, rfl, rfl, fun _ => r_bl⟩
      | _ => cases e
    | _ => cases e)) σ H Q h
theorem de_lt [Wd] (ha : PE X a (tD f1)) (hb : PE X b (tD f2)) : PE X (.Compare a [.Lt] [b] pos) (tD (dBin gLt f1 f2)) := PE.sub (pe_cmpR op_lt ha hb (nomark _)) im_lt
theorem dt_lt [Wd] (ha : PE X a (tD f1)) (hb : PE X b (tD f2)) : PT X (.Compare a [.Lt] [b] pos) (tDT (dTest (dBin gLt f1 f2))) := dt_of (pt_cmpR op_lt ha hb (nomark _)) im_lt
theorem gle_of [Wd] : ∀ u v d, gLe u v = some d → ∃ i j, u = .int i ∧ v = .int j ∧ ∀ H, R H (.bl (decide (i ≤ j))) d := fun u v d e => by
  cases u with
  | int i => cases v with
    | int j => cases e; exact ⟨i, j, rfl, rfl, fun _ => r_bl⟩
    | _ => cases e
  | _ => cases e
theorem glt_of [Wd] : ∀ u v d, gLt u v = some d → ∃ i j, u = .int i ∧ v = .int j ∧ ∀ H, R H (.bl (decide (i < j))) d := fun u v d e => by
  cases u with
  | int i => cases v with
    | int j => cases e; exact ⟨i, j, rfl, rfl, fun _ => r_bl⟩
    | _ => cases e
  | _ => cases e
theorem im_le [Wd] (σ : L2.St) (H : Hp) (Q : VK) (h : tD (dBin gLe f1 f2) σ H Q) : tOp (rI0 fun i j => .bl (decide (i ≤ j))) (tD f1) (tD f2) σ H Q := (tOp_of (i0_of gle_of)) σ H Q h
theorem de_le [Wd] (ha : PE X a (tD f1)) (hb : PE X b (tD f2)) : PE X (.Compare a [.LtE] [b] pos) (tD (dBin gLe f1 f2)) := PE.sub (pe_cmpR op_le ha hb (nomark _)) im_le
theorem dt_le [Wd] (ha : PE X a (tD f1)) (hb : PE X b (tD f2)) : PT X (.Compare a [.LtE] [b] pos) (tDT (dTest (dBin gLe f1 f2))) := dt_of (pt_cmpR op_le ha hb (nomark _)) im_le
theorem im_gt [Wd] (σ : L2.St) (H : Hp) (Q : VK) (h : tD (dBin gGt f1 f2) σ H Q) : tOp (rI0 fun i j => .bl (decide (j < i))) (tD f1) (tD f2) σ H Q := (tOp_of (i0_of fun u v d e => by
    cases u with
    | int i => cases v with
      | int j => cases e; exact ⟨i, j, rfl, rfl, fun _ => r_bl⟩
      | _ => cases e
    | _ => cases e)) σ H Q h
theorem de_gt [Wd] (ha : PE X a (tD f1)) (hb : PE X b (tD f2)) : PE X (.Compare a [.Gt] [b] pos) (tD (dBin gGt f1 f2)) := PE.sub (pe_cmpR op_gt ha hb (nomark _)) im_gt
theorem dt_gt [Wd] (ha : PE X a (tD f1)) (hb : PE X b (tD f2)) : PT X (.Compare a [.Gt] [b] pos) (tDT (dTest (dBin gGt f1 f2))) := dt_of (pt_cmpR op_gt ha hb (nomark _)) im_gt
theorem im_ge [Wd] (σ : L2.St) (H : Hp) (Q : VK) (h : tD (dBin gGe f1 f2) σ H Q) : tOp (rI0 fun i j => .bl (decide (j ≤ i))) (tD f1) (tD f2) σ H Q := (tOp_of (i0_of fun u v d e => by
    cases u with
    | int i => cases v with
      | int j => cases e; exact ⟨i, j, rfl, rfl, fun _ => r_bl⟩
      | _ => cases e
    | _ => cases e)) σ H Q h
theorem de_ge [Wd] (ha : PE X a (tD f1)) (hb : PE X b (tD f2)) : PE X (.Compare a [.GtE] [b] pos) (tD (dBin gGe f1 f2)) := PE.sub (pe_cmpR op_ge ha hb (nomark _)) im_ge
theorem dt_ge [Wd] (ha : PE X a (tD f1)) (hb : PE X b (tD f2)) : PT X (.Compare a [.GtE] [b] pos) (tDT (dTest (dBin gGe f1 f2))) := dt_of (pt_cmpR op_ge ha hb (nomark _)) im_ge
theorem decV_int {i j : Int} : decide (V.int i = V.int j) = decide (i = j) := by
  by_cases h : i = j
  · subst h; simp
  · simp [h]
theorem decV_str {i j : Str} : decide (V.str i = V.str j) = decide (i = j) := by
  by_cases h : i = j
  · subst h; simp
  · simp [h]
theorem hr_eq [Wd] : HR rEq gEq := fun x y u v d H Q r1 r2 e q => by
    cases u with
    | int i => cases v with
      | int j => cases e; rw [r1.int, r2.int]; exact ⟨rfl, by rw [decV_int]; exact q H _ (Same.refl H) r_bl⟩
      | _ => cases e
    | str i => cases v with
      | str j => cases e; rw [r1.str, r2.str]; exact ⟨rfl, by rw [decV_str]; exact q H _ (Same.refl H) r_bl⟩
      | _ => cases e
    | _ => cases e
theorem im_eq [Wd] (σ : L2.St) (H : Hp) (Q : VK) (h : tD (dBin gEq f1 f2) σ H Q) : tOp (rEq) (tD f1) (tD f2) σ H Q := (tOp_of fun x y u v d H Q r1 r2 e q => by
    cases u with
    | int i => cases v with
      | int j => cases e; rw [r1.int, r2.int]; exact ⟨rfl, by rw [decV_int]; exact q H _ (Same.refl H) r_bl⟩
      | _ => cases e
    | str i => cases v with
      | str j => cases e; rw [r1.str, r2.str]; exact ⟨rfl, by rw [decV_str]; exact q H _ (Same.refl H) r_bl⟩
      | _ => cases e
    | _ => cases e) σ H Q h
theorem de_eq [Wd] (ha : PE X a (tD f1)) (hb : PE X b (tD f2)) : PE X (.Compare a [.Eq] [b] pos) (tD (dBin gEq f1 f2)) := PE.sub (pe_cmpR op_eq ha hb (nomark _)) im_eq
theorem dt_eq [Wd] (ha : PE X a (tD f1)) (hb : PE X b (tD f2)) : PT X (.Compare a [.Eq] [b] pos) (tDT (dTest (dBin gEq f1 f2))) := dt_of (pt_cmpR op_eq ha hb (nomark _)) im_eq
theorem im_ne [Wd] (σ : L2.St) (H : Hp) (Q : VK) (h : tD (dBin gNe f1 f2) σ H Q) : tOp (rNe) (tD f1) (tD f2) σ H Q := (tOp_of fun x y u v d H Q r1 r2 e q => by
    cases u with
    | int i => cases v with
      | int j => cases e; rw [r1.int, r2.int]; exact ⟨rfl, by rw [decV_int]; exact q H _ (Same.refl H) r_bl⟩
      | _ => cases e
    | str i => cases v with
      | str j => cases e; rw [r1.str, r2.str]; exact ⟨rfl, by rw [decV_str]; exact q H _ (Same.refl H) r_bl⟩
      | _ => cases e
    | _ => cases e) σ H Q h
theorem de_ne [Wd] (ha : PE X a (tD f1)) (hb : PE X b (tD f2)) : PE X (.Compare a [.NotEq] [b] pos) (tD (dBin gNe f1 f2)) := PE.sub (pe_cmpR op_ne ha hb (nomark _)) im_ne
theorem dt_ne [Wd] (ha : PE X a (tD f1)) (hb : PE X b (tD f2)) : PT X (.Compare a [.NotEq] [b] pos) (tDT (dTest (dBin gNe f1 f2))) := dt_of (pt_cmpR op_ne ha hb (nomark _)) im_ne
theorem im_eqD [Wd] (σ : L2.St) (H : Hp) (Q : VK) (h : tD (dBin gEqD f1 f2) σ H Q) : tOp (rEqD X.K) (tD f1) (tD f2) σ H Q := (tOp_of fun x y u v d H Q r1 r2 e q => by
    unfold gEqD at e
    by_cases hs : shp u = true ∧ shp v = true
    · rw [if_pos hs] at e
      cases e
      exact ⟨u, v, r1.dp (shp_2 hs.1), r2.dp (shp_2 hs.2), shp_1 hs.1, shp_1 hs.2, q H _ (Same.refl H) r_bl⟩
    · rw [if_neg hs] at e
      cases e) σ H Q h
theorem de_eqD [Wd] (hu : X.A.units + 64 < cLine) (ha : PE X a (tD f1)) (hb : PE X b (tD f2)) : PE X (.Compare a [.Eq] [b] pos) (tD (dBin gEqD f1 f2)) := PE.sub (pe_cmpR (op_eqD hu) ha hb (nomark _)) im_eqD
theorem dt_eqD [Wd] (hu : X.A.units + 64 < cLine) (ha : PE X a (tD f1)) (hb : PE X b (tD f2)) : PT X (.Compare a [.Eq] [b] pos) (tDT (dTest (dBin gEqD f1 f2))) := dt_of (pt_cmpR (op_eqD hu) ha hb (nomark _)) im_eqD
theorem im_neD [Wd] (σ : L2.St) (H : Hp) (Q : VK) (h : tD (dBin gNeD f1 f2) σ H Q) : tOp (rNeD X.K) (tD f1) (tD f2) σ H Q := (tOp_of fun x y u v d H Q r1 r2 e q => by
    unfold gNeD at e
    by_cases hs : shp u = true ∧ shp v = true
    · rw [if_pos hs] at e
      cases e
      exact ⟨u, v, r1.dp (shp_2 hs.1), r2.dp (shp_2 hs.2), shp_1 hs.1, shp_1 hs.2, q H _ (Same.refl H) r_bl⟩
    · rw [if_neg hs] at e
      cases e) σ H Q h
theorem de_neD [Wd] (hu : X.A.units + 64 < cLine) (ha : PE X a (tD f1)) (hb : PE X b (tD f2)) : PE X (.Compare a [.NotEq] [b] pos) (tD (dBin gNeD f1 f2)) := PE.sub (pe_cmpR (op_neD hu) ha hb (nomark _)) im_neD
theorem dt_neD [Wd] (hu : X.A.units + 64 < cLine) (ha : PE X a (tD f1)) (hb : PE X b (tD f2)) : PT X (.Compare a [.NotEq] [b] pos) (tDT (dTest (dBin gNeD f1 f2))) := dt_of (pt_cmpR (op_neD hu) ha hb (nomark _)) im_neD
theorem im_is [Wd] (σ : L2.St) (H : Hp) (Q : VK) (h : tD (dBin gIs f1 f2) σ H Q) : tOp (fun x y H Q => y = .non ∧ Q (.bl (decide (x = .non))) H) (tD f1) (tD f2) σ H Q := (tOp_of fun x y u v d H Q r1 r2 e q => by
    cases v with
    | none => cases e; exact ⟨r2.non, by rw [isNone_of r1]; exact q H _ (Same.refl H) r_bl⟩
    | _ => cases u <;> cases e) σ H Q h
theorem de_is [Wd] (ha : PE X a (tD f1)) (hb : PE X b (tD f2)) : PE X (.Compare a [.Is] [b] pos) (tD (dBin gIs f1 f2)) := PE.sub (pe_cmpR op_isN ha hb (nomark _)) im_is
theorem dt_is [Wd] (ha : PE X a (tD f1)) (hb : PE X b (tD f2)) : PT X (.Compare a [.Is] [b] pos) (tDT (dTest (dBin gIs f1 f2))) := dt_of (pt_cmpR op_isN ha hb (nomark _)) im_is
theorem im_isnot [Wd] (σ : L2.St) (H : Hp) (Q : VK) (h : tD (dBin gIsNot f1 f2) σ H Q) : tOp (fun x y H Q => y = .non ∧ Q (.bl (!decide (x = .non))) H) (tD f1) (tD f2) σ H Q := (tOp_of fun x y u v d H Q r1 r2 e q => by
    cases v with
    | none => cases e; exact ⟨r2.non, by rw [isNone_of r1]; exact q H _ (Same.refl H) r_bl⟩
    | _ => cases u <;> cases e) σ H Q h
theorem de_isnot [Wd] (ha : PE X a (tD f1)) (hb : PE X b (tD f2)) : PE X (.Compare a [.IsNot] [b] pos) (tD (dBin gIsNot f1 f2)) := PE.sub (pe_cmpR op_notN ha hb (nomark _)) im_isnot
theorem dt_isnot [Wd] (ha : PE X a (tD f1)) (hb : PE X b (tD f2)) : PT X (.Compare a [.IsNot] [b] pos) (tDT (dTest (dBin gIsNot f1 f2))) := dt_of (pt_cmpR op_notN ha hb (nomark _)) im_isnot
theorem im_in [Wd] (σ : L2.St) (H : Hp) (Q : VK) (h : tD (dBin gIn f1 f2) σ H Q) : tOp (fun x y H Q => ∃ (c : Nat) (z : Str), x = .str ⟨#[c]⟩ ∧ y = .str z ∧ Q (.bl (decide (c ∈ z.cps.toList))) H) (tD f1) (tD f2) σ H Q := tOp_of (fun x y u v d H Q r1 r2 e q => by
    cases u with
    | str i => cases v with
      | str j =>
        unfold gIn at e
        dsimp only at e
        split at e
        · rename_i k hk
          cases e
          have ei : i = ⟨#[k]⟩ := by
            obtain ⟨a⟩ := i
            congr 1
            exact Array.toList_inj.mp hk
          subst ei
          exact ⟨k, j, r1.str, r2.str, q H _ (Same.refl H) r_bl⟩
        · cases e
      | _ => cases e
    | _ => cases e) σ H Q h
theorem de_in [Wd] (ha : PE X a (tD f1)) (hb : PE X b (tD f2)) (hm : behindInMarks .In b = false := by rfl) : PE X (.Compare a [.In] [b] pos) (tD (dBin gIn f1 f2)) := PE.sub (pe_cmpR op_in_sign ha hb hm) im_in
theorem dt_in [Wd] (ha : PE X a (tD f1)) (hb : PE X b (tD f2)) (hm : behindInMarks .In b = false := by rfl) : PT X (.Compare a [.In] [b] pos) (tDT (dTest (dBin gIn f1 f2))) := dt_of (pt_cmpR op_in_sign ha hb hm) im_in
/-! two comparisons -/
def dChain (g g' : PyData → PyData → Option PyData) (f1 f2 f3 : Sl → Option PyData) : Sl → Option PyData := fun s => match f1 s with
  | some a => (match f2 s with
    | some b => (match g a b with
      | some (.bool true) => (match f3 s with
        | some c => g' b c
        | none => none)
      | some (.bool false) => some (.bool false)
      | _ => none)
    | none => none)
  | none => none
theorem de_lelt [Wd] (ha : PE X a (tD f1)) (hb : PE X b (tD f2)) (hc : PE X c (tD f3)) (hm : lastMarks [.LtE, .Lt] [b, c] = false := by with_unfolding_all rfl) : PE X (.Compare a [.LtE, .Lt] [b, c] pos) (tD (dChain gLe gLt f1 f2 f3)) :=
  PE.sub (pe_chain op_le op_lt ha hb hc hm) fun σ H Q ⟨sd, d, hs, hf, q⟩ => by
    unfold dChain at hf
    cases e1 : f1 sd with
    | none => rw [e1] at hf; cases hf
    | some u =>
      rw [e1] at hf
      cases e2 : f2 sd with
      | none => rw [e2] at hf; cases hf
      | some v =>
        rw [e2] at hf
        refine ⟨sd, u, hs, e1, fun H1 x s1 r1 => ⟨sd, v, hs.mono s1, e2, fun H2 y s2 r2 => ?_⟩⟩
        dsimp only at hf
        cases e3 : gLe u v with
        | none => rw [e3] at hf; cases hf
        | some w =>
          rw [e3] at hf
          obtain ⟨i, j, rfl, rfl, _⟩ := gle_of u v w e3
          cases e3
          refine ⟨i, j, (r1.mono s2).int, r2.int, _, rfl, ?_⟩
          by_cases hij : i ≤ j
          · rw [decide_eq_true hij] at hf ⊢
            refine iteT ?_
            cases e4 : f3 sd with
            | none => rw [e4] at hf; cases hf
            | some z =>
              rw [e4] at hf
              refine ⟨sd, z, hs.mono (s1.trans s2), e4, fun H3 k s3 r3 => ?_⟩
              obtain ⟨j', l, e5, rfl, r⟩ := glt_of _ _ _ hf
              cases e5
              exact ⟨j, l, (r2.mono s3).int, r3.int, q H3 _ ((s1.trans s2).trans s3) (r H3)⟩
          · rw [decide_eq_false hij] at hf ⊢
            cases hf
            exact iteF (q H2 _ (s1.trans s2) r_bl)
/-! and, or, not as values -/
def dAndV (f1 f2 : Sl → Option PyData) : Sl → Option PyData := fun s => match f1 s with
  | some (.bool true) => f2 s
  | some (.bool false) => some (.bool false)
  | _ => none
theorem de_and [Wd] {rest : List Expr} (ha : PE X a (tD f1)) (hb : PE X (.BoolOp .And (b :: rest) pos) (tD f2)) : PE X (.BoolOp .And (a :: b :: rest) pos) (tD (dAndV f1 f2)) :=
  PE.sub (pe_and ha hb) fun σ H Q ⟨sd, d, hs, hf, q⟩ => by
    unfold dAndV at hf
    cases e1 : f1 sd with
    | none => rw [e1] at hf; cases hf
    | some u =>
      rw [e1] at hf
      cases u with
      | bool k =>
        refine ⟨sd, .bool k, hs, e1, fun H1 x s1 r1 => ⟨k, r1.bl, ?_⟩⟩
        cases k with
        | true => exact iteT ⟨sd, d, hs.mono s1, hf, fun H' v s2 r2 => q H' v (s1.trans s2) r2⟩
        | false => cases hf; exact iteF (q H1 _ s1 r_bl)
      | _ => cases hf
theorem de_one [Wd] {op} (h : PE X a (tD f)) : PE X (.BoolOp op [a] pos) (tD f) := pe_one h
/-! ### tests -/
theorem tB_of [Wd] {f : Sl → Option PyData} (σ : L2.St) (H : Hp) (Q : Bool → Hp → Prop) (h : tDT (dTest f) σ H Q) : tB (tD f) σ H Q := by
  obtain ⟨sd, k, hs, hf, q⟩ := h
  unfold dTest at hf
  cases e1 : f sd with
  | none => rw [e1] at hf; cases hf
  | some u =>
    rw [e1] at hf
    cases u with
    | bool b =>
      cases hf
      exact ⟨sd, .bool k, hs, e1, fun H1 x s1 r1 => ⟨k, r1.bl, q H1 s1⟩⟩
    | _ => cases hf
theorem dt_val [Wd] {e : Expr} (h : PE X e (tD f)) (he : ∀ whole, isTrue e X.env whole = (do let v ← whole; standAt e.pos; holding [v] (truthy v)) := by intro _; rfl) : PT X e (tDT (dTest f)) := PT.sub (pt_val h he) tB_of
def dTruth (f : Sl → Option PyData) : Sl → Option Bool := fun s => match f s with
  | some (.tuple ds) => some (!ds.isEmpty)
  | some (.list ds) => some (!ds.isEmpty)
  | _ => none
theorem isEmpty_len {α β : Type} : ∀ {xs : List α} {ds : List β}, xs.length = ds.length → (!ds.isEmpty) = !xs.isEmpty
  | [], [], _ => rfl
  | _ :: _, _ :: _, _ => rfl
  | [], _ :: _, h => by simp at h
  | _ :: _, [], h => by simp at h
theorem dt_truth [Wd] (h : PE X a (tD f)) (he : ∀ whole, isTrue a X.env whole = (do let v ← whole; standAt a.pos; holding [v] (truthy v)) := by intro _; rfl) : PT X a (tDT (dTruth f)) :=
  PT.sub (pt_truth h he) fun σ H Q ⟨sd, k, hs, hf, q⟩ => by
    unfold dTruth at hf
    cases e1 : f sd with
    | none => rw [e1] at hf; cases hf
    | some u =>
      rw [e1] at hf
      refine ⟨sd, u, hs, e1, fun H1 x s1 r1 => ?_⟩
      cases u with
      | tuple ds =>
        cases hf
        obtain ⟨p, xs, rfl, h1, h2⟩ := r1.tup
        exact ⟨_, .inr (.inl ⟨xs, SqT.of h1, isEmpty_len h2.length⟩), q H1 s1⟩
      | list ds =>
        cases hf
        obtain ⟨p, xs, rfl, h1, h2⟩ := r1.lst
        exact ⟨_, .inl ⟨xs, SqL.of h1, isEmpty_len h2.length⟩, q H1 s1⟩
      | _ => cases hf
def tAndF (f1 f2 : Sl → Option Bool) : Sl → Option Bool := fun s => match f1 s with
  | some true => f2 s
  | some false => some false
  | none => none
def tOrF (f1 f2 : Sl → Option Bool) : Sl → Option Bool := fun s => match f1 s with
  | some true => some true
  | some false => f2 s
  | none => none
def tNotF (f1 : Sl → Option Bool) : Sl → Option Bool := fun s => match f1 s with
  | some b => some (!b)
  | none => none
section
variable {g1 g2 : Sl → Option Bool} {rest : List Expr}
theorem dw_and1 [Wd] (ha : PT X a (tDT g1)) : PW X (.BoolOp .And [a] pos) (tDT g1) := pw_and1 ha
theorem dw_or1 [Wd] (ha : PT X a (tDT g1)) : PW X (.BoolOp .Or [a] pos) (tDT g1) := pw_or1 ha
theorem dw_and [Wd] (ha : PT X a (tDT g1)) (hb : PW X (.BoolOp .And (b :: rest) pos) (tDT g2)) : PW X (.BoolOp .And (a :: b :: rest) pos) (tDT (tAndF g1 g2)) :=
  PW.sub (pw_and ha hb) fun σ H Q ⟨sd, k, hs, hf, q⟩ => by
    unfold tAndF at hf
    cases e1 : g1 sd with
    | none => rw [e1] at hf; cases hf
    | some u =>
      rw [e1] at hf
      refine ⟨sd, u, hs, e1, fun H1 s1 => ?_⟩
      cases u with
      | true => exact iteT ⟨sd, k, hs.mono s1, hf, fun H' s2 => q H' (s1.trans s2)⟩
      | false => cases hf; exact iteF (q H1 s1)
theorem dw_or [Wd] (ha : PT X a (tDT g1)) (hb : PW X (.BoolOp .Or (b :: rest) pos) (tDT g2)) : PW X (.BoolOp .Or (a :: b :: rest) pos) (tDT (tOrF g1 g2)) :=
  PW.sub (pw_or ha hb) fun σ H Q ⟨sd, k, hs, hf, q⟩ => by
    unfold tOrF at hf
    cases e1 : g1 sd with
    | none => rw [e1] at hf; cases hf
    | some u =>
      rw [e1] at hf
      refine ⟨sd, u, hs, e1, fun H1 s1 => ?_⟩
      cases u with
      | false => exact iteF ⟨sd, k, hs.mono s1, hf, fun H' s2 => q H' (s1.trans s2)⟩
      | true => cases hf; exact iteT (q H1 s1)
theorem dt_not [Wd] (ha : PT X a (tDT g1)) : PT X (.UnaryOp .Not a pos) (tDT (tNotF g1)) :=
  PT.sub (pt_not ha) fun σ H Q ⟨sd, k, hs, hf, q⟩ => by
    unfold tNotF at hf
    cases e1 : g1 sd with
    | none => rw [e1] at hf; cases hf
    | some u =>
      rw [e1] at hf
      cases hf
      exact ⟨sd, u, hs, e1, fun H1 s1 => q H1 s1⟩
end
/-! ### displays, indices, slices -/
def evs : List (Sl → Option PyData) → Sl → Option (List PyData)
  | [], _ => some []
  | f :: fs, s => match f s with
    | some d => (match evs fs s with
      | some ds => some (d :: ds)
      | none => none)
    | none => none
theorem evs_len : ∀ {fs : List (Sl → Option PyData)} {s : Sl} {ds : List PyData}, evs fs s = some ds → ds.length = fs.length
  | [], _, _, h => by cases h; rfl
  | f :: fs, s, ds, h => by
    unfold evs at h
    cases e1 : f s with
    | none => rw [e1] at h; cases h
    | some d =>
      rw [e1] at h
      cases e2 : evs fs s with
      | none => rw [e2] at h; cases h
      | some es =>
        rw [e2] at h
        cases h
        simp [evs_len e2]
section
variable {e : Expr} {es : List Expr} {fs : List (Sl → Option PyData)}
theorem da_nil [Wd] : PA X [] (tDA (evs [])) := PA.sub pa_nil fun σ H Q ⟨sd, ds, hs, hf, q⟩ => by
  cases hf
  exact q H [] (Same.refl H) ra_nil
theorem da_cons [Wd] (ha : PE X e (tD f)) (hr : PA X es (tDA (evs fs))) (hs : starEach (e :: es) X.env = (false, eval e X.env) :: starEach es X.env := by rfl) : PA X (e :: es) (tDA (evs (f :: fs))) :=
  PA.sub (pa_cons ha hr hs) fun σ H Q ⟨sd, ds, hs, hf, q⟩ => by
    unfold evs at hf
    cases e1 : f sd with
    | none => rw [e1] at hf; cases hf
    | some d =>
      rw [e1] at hf
      cases e2 : evs fs sd with
      | none => rw [e2] at hf; cases hf
      | some es =>
        rw [e2] at hf
        cases hf
        exact ⟨sd, d, hs, e1, fun H1 x s1 r1 => ⟨sd, es, hs.mono s1, e2, fun H2 xs s2 r2 => q H2 _ (s1.trans s2) (ra_cons (r1.mono s2) r2)⟩⟩
def dTup (fs : List (Sl → Option PyData)) : Sl → Option PyData := fun s => match evs fs s with
  | some ds => some (.tuple ds)
  | none => none
theorem de_tup [Wd] {x1} (h : PA X es (tDA (evs fs))) (hl : fs.length ≤ 20 := by decide) : PE X (.Tuple es x1 pos) (tD (dTup fs)) :=
  PE.sub (pe_tup h) fun σ H Q ⟨sd, d, hs, hf, q⟩ => by
    unfold dTup at hf
    cases e1 : evs fs sd with
    | none => rw [e1] at hf; cases hf
    | some ds =>
      rw [e1] at hf
      cases hf
      refine ⟨sd, ds, hs, e1, fun H1 xs s1 r1 => ⟨?_, fun p n => q _ _ (s1.trans (same_upd n)) (r_tup upd_same (r1.mono (same_upd n)))⟩⟩
      rw [r1.length, evs_len e1]
      exact Nat.le_trans hl (by decide)
end
theorem atI_R [Wd] {H : Hp} {xs : List V} {ds : List PyData} {i : Int} {d : PyData} (r : RAll H xs ds) (h : atI ds i = some d) : ∃ x, atI xs i = some x ∧ R H x d := by
  unfold atI at h ⊢
  rw [r.length]
  cases e : ixN ds.length i with
  | none => rw [e] at h; cases h
  | some j =>
    rw [e] at h
    exact r.get h
theorem hr_ix [Wd] (K : PySem.W.Frag) : HR (rIx K) gIx := fun x y u v d H Q r1 r2 e q => by
    cases v with
    | int i =>
      cases u with
      | tuple ds =>
        obtain ⟨p, xs, rfl, h1, h2⟩ := r1.tup
        obtain ⟨z, e1, r⟩ := atI_R h2 (show atI ds i = some d from e)
        exact .inr (.inl ⟨p, xs, i, z, rfl, r2.int, SqT.of h1, e1, q H z (Same.refl H) r⟩)
      | list ds =>
        obtain ⟨p, xs, rfl, h1, h2⟩ := r1.lst
        obtain ⟨z, e1, r⟩ := atI_R h2 (show atI ds i = some d from e)
        exact .inl ⟨p, xs, i, z, rfl, r2.int, SqL.of h1, e1, q H z (Same.refl H) r⟩
      | str z =>
        unfold gIx at e
        dsimp only at e
        split at e
        · rename_i hz
          split at e
          · rename_i c hc
            cases e
            exact .inr (.inr ⟨z, i, c, r1.str, r2.int, Nat.le_trans hz (by decide), hc, q H _ (Same.refl H) r_str⟩)
          · cases e
        · cases e
      | _ => cases e
    | _ => cases u <;> cases e
theorem de_ix [Wd] (ha : PE X a (tD f1)) (hb : PE X b (tD f2)) (hs : PlainIx b := by intro _ _; rfl) : PE X (.Subscript a b pos) (tD (dBin gIx f1 f2)) :=
  PE.sub (pe_ix ix_seq ha hb hs) (tOp_of (hr_ix X.K))
/-- a slice's part -/
def tDO [Wd] (g : Sl → Option (Option Int)) : TO := fun σ H Q => ∃ sd o, RS H σ sd ∧ g sd = some o ∧ ∀ H', Same H H' → Q o H'
def dPart (f : Sl → Option PyData) : Sl → Option (Option Int) := fun s => match f s with
  | some (.int i) => some (some i)
  | _ => none
theorem PO.sub {e : Option Expr} {t t' : TO} (h : PO X e t) (i : ∀ σ H Q, t' σ H Q → t σ H Q) : PO X e t' := ⟨fun pins s σ H Q I q => h.run pins s σ H Q I (i _ _ _ q)⟩
theorem do_none [Wd] : PO X none (tDO fun _ => some none) := PO.sub po_none fun σ H Q ⟨sd, o, hs, hf, q⟩ => by
  cases hf
  exact q H (Same.refl H)
theorem do_some [Wd] (h : PE X a (tD f)) : PO X (some a) (tDO (dPart f)) := PO.sub (po_some h) fun σ H Q ⟨sd, o, hs, hf, q⟩ => by
  unfold dPart at hf
  cases e1 : f sd with
  | none => rw [e1] at hf; cases hf
  | some u =>
    rw [e1] at hf
    cases u with
    | int i =>
      cases hf
      exact ⟨sd, .int i, hs, e1, fun H1 x s1 r1 => ⟨i, r1.int, q H1 s1⟩⟩
    | _ => cases hf
def cutD (ds : List PyData) (lo hi : Option Int) : List PyData := (ds.drop (HT.sIx ds.length 0 lo)).take (HT.sIx ds.length ds.length hi - HT.sIx ds.length 0 lo)
theorem cut_R [Wd] {H : Hp} {xs : List V} {ds : List PyData} (r : RAll H xs ds) (lo hi : Option Int) : RAll H (cutV xs lo hi) (cutD ds lo hi) := by
  unfold cutV cutD
  rw [r.length]
  exact (r.drop _).take _
def dSl (f : Sl → Option PyData) (g1 g2 : Sl → Option (Option Int)) : Sl → Option PyData := fun s => match f s with
  | some (.tuple ds) => (match g1 s with
    | some lo => (match g2 s with
      | some hi => some (.tuple (cutD ds lo hi))
      | none => none)
    | none => none)
  | _ => none
theorem de_slice [Wd] {lo hi : Option Expr} {g1 g2 : Sl → Option (Option Int)} {p2 : Pos} (ha : PE X a (tD f)) (hl : PO X lo (tDO g1)) (hu : PO X hi (tDO g2)) : PE X (.Subscript a (.Slice lo hi none p2) pos) (tD (dSl f g1 g2)) :=
  PE.sub (pe_slice sl_tupA ha hl hu) fun σ H Q ⟨sd, d, hs, hf, q⟩ => by
    unfold dSl at hf
    cases e1 : f sd with
    | none => rw [e1] at hf; cases hf
    | some u =>
      rw [e1] at hf
      cases u with
      | tuple ds =>
        cases e2 : g1 sd with
        | none => rw [e2] at hf; cases hf
        | some l =>
          rw [e2] at hf
          cases e3 : g2 sd with
          | none => rw [e3] at hf; cases hf
          | some h =>
            rw [e3] at hf
            cases hf
            refine ⟨sd, .tuple ds, hs, e1, fun H1 x s1 r1 => ⟨sd, l, hs.mono s1, e2, fun H2 s2 => ⟨sd, h, hs.mono (s1.trans s2), e3, fun H3 s3 => ?_⟩⟩⟩
            obtain ⟨p, xs, rfl, h1, h2⟩ := (r1.mono (s2.trans s3)).tup
            refine ⟨p, xs, rfl, SqT.of h1, fun w => ?_, fun _ p2 n => ?_⟩
            · have rc := cut_R h2 l h
              have ec : cutV xs l h = xs := by
                unfold cutV
                rw [w.1, w.2]
                simp
              rw [ec] at rc
              exact q H3 _ ((s1.trans s2).trans s3) (r_tup h1 rc)
            · exact q _ _ (((s1.trans s2).trans s3).trans (same_upd n)) (r_tup upd_same ((cut_R h2 l h).mono (same_upd n)))
      | _ => cases hf
/-! ### calls -/
/-- a built-in's rule in data -/
def CbR [Wd] (r : List V → Hp → VK → Prop) (g : List PyData → Option PyData) : Prop := ∀ (vs : List V) (ds : List PyData) (d : PyData) (H : Hp) (Q : VK), RAll H vs ds → g ds = some d → (∀ H' v, Same H H' → R H' v d → Q v H') → r vs H Q
def dCall (g : List PyData → Option PyData) (fs : List (Sl → Option PyData)) : Sl → Option PyData := fun s => match evs fs s with
  | some ds => g ds
  | none => none
theorem tCB_of [Wd] {r : List V → Hp → VK → Prop} {g : List PyData → Option PyData} {fs : List (Sl → Option PyData)} (h : CbR r g) (σ : L2.St) (H : Hp) (Q : VK) (k : tD (dCall g fs) σ H Q) : tCB r (tDA (evs fs)) σ H Q := by
  obtain ⟨sd, d, hs, hf, q⟩ := k
  unfold dCall at hf
  cases e1 : evs fs sd with
  | none => rw [e1] at hf; cases hf
  | some ds =>
    rw [e1] at hf
    exact ⟨sd, ds, hs, e1, fun H1 vs s1 r1 => h vs ds d H1 Q r1 hf fun H' v s2 r2 => q H' v (s1.trans s2) r2⟩
/-- a pure def's promise -/
def spP [Wd] (g : List PyData → Option PyData) (n : Nat) : Sp := fun vs H Q _ => ∃ ds d, RAll H vs ds ∧ g ds = some d ∧ ds.length = n ∧ ∀ H' v, Same H H' → R H' v d → Q v H'
theorem spP.len [Wd] {g : List PyData → Option PyData} {n : Nat} {vs : List V} {H : Hp} {Q : VK} {E : XK} (h : spP g n vs H Q E) : vs.length = n := by
  obtain ⟨ds, d, r, _, e, _⟩ := h
  rw [r.length, e]
def dFn (g : List PyData → Option PyData) (n : Nat) (fs : List (Sl → Option PyData)) : Sl → Option PyData := dCall g fs
theorem tCall_of [Wd] {g : List PyData → Option PyData} {n : Nat} {fs : List (Sl → Option PyData)} (hn : fs.length = n) (σ : L2.St) (H : Hp) (Q : VK) (k : tD (dCall g fs) σ H Q) : tCall (spP g n) [] E0 (tDA (evs fs)) σ H Q := by
  obtain ⟨sd, d, hs, hf, q⟩ := k
  unfold dCall at hf
  cases e1 : evs fs sd with
  | none => rw [e1] at hf; cases hf
  | some ds =>
    rw [e1] at hf
    refine ⟨sd, ds, hs, e1, fun H1 vs s1 r1 => ⟨ds, d, ?_, hf, by rw [evs_len e1, hn], fun H' v s2 r2 => q H' v (s1.trans s2) r2⟩⟩
    rw [List.append_nil]
    exact r1
end
end Cs
namespace Cs
open PySem PySem.Spec PyProof.Rows L2

/-! ### what is walked -/
structure Feeds [Wd] (J : It) (G : Hp → Prop) (ds : List PyData) : Prop where
  keep : ∀ H H', G H → Same H H' → G H'
  go : ∀ (i : Nat) H, i < ds.length → G H → J.go i H
  stop : ∀ H, G H → J.stop ds.length H
  yld : ∀ (i : Nat) H x H', i < ds.length → G H → J.yld i H x H' → H' = H ∧ ∃ d, ds[i]? = some d ∧ R H x d
def iD [Wd] (f : Sl → Option (List PyData)) : TI := fun σ H Q => ∃ sd ds, RS H σ sd ∧ f sd = some ds ∧ ∀ J H' G, Same H H' → G H' → Feeds J G ds → Q J H'
theorem PI.sub {X : Cx} {tg e : Expr} {t t' : TI} (h : PI X tg e t) (i : ∀ σ H Q, t' σ H Q → t σ H Q) : PI X tg e t' := ⟨fun pins s σ H Q I q => h.run pins s σ H Q I (i _ _ _ q)⟩
theorem feeds_tup [Wd] (K : PySem.W.Frag) (a : Addr) (ds : List PyData) : Feeds (Itt K a) (fun H => ∃ xs, H a = some (.tup xs) ∧ RAll H xs ds) ds where
  keep := fun H H' ⟨xs, h1, h2⟩ s => ⟨xs, s _ _ h1, h2.mono s⟩
  go := fun i H hi ⟨xs, h1, h2⟩ => by
    obtain ⟨x, e, _⟩ := h2.get (List.getElem?_eq_getElem hi)
    exact ⟨xs, x, SqT.of h1, e⟩
  stop := fun H ⟨xs, h1, h2⟩ => ⟨xs, SqT.of h1, Nat.le_of_eq h2.length⟩
  yld := fun i H x H' hi ⟨xs, h1, h2⟩ ⟨e, y⟩ => by
    obtain ⟨z, e1, r⟩ := h2.get (List.getElem?_eq_getElem hi)
    have e2 := y xs (SqT.of h1)
    rw [e1] at e2
    cases e2
    exact ⟨e, _, List.getElem?_eq_getElem hi, r⟩
theorem feeds_lst [Wd] (K : PySem.W.Frag) (a : Addr) (ds : List PyData) : Feeds (Itl K a) (fun H => ∃ xs, H a = some (.lst xs) ∧ RAll H xs ds) ds where
  keep := fun H H' ⟨xs, h1, h2⟩ s => ⟨xs, s _ _ h1, h2.mono s⟩
  go := fun i H hi ⟨xs, h1, h2⟩ => by
    obtain ⟨x, e, _⟩ := h2.get (List.getElem?_eq_getElem hi)
    exact ⟨xs, x, SqL.of h1, e⟩
  stop := fun H ⟨xs, h1, h2⟩ => ⟨xs, SqL.of h1, Nat.le_of_eq h2.length⟩
  yld := fun i H x H' hi ⟨xs, h1, h2⟩ ⟨e, y⟩ => by
    obtain ⟨z, e1, r⟩ := h2.get (List.getElem?_eq_getElem hi)
    have e2 := y xs (SqL.of h1)
    rw [e1] at e2
    cases e2
    exact ⟨e, _, List.getElem?_eq_getElem hi, r⟩
def signs (z : Str) : List PyData := z.cps.toList.map fun c => .str ⟨#[c]⟩
theorem feeds_str [Wd] (z : Str) : Feeds (Its z) (fun _ => True) (signs z) where
  keep := fun _ _ h _ => h
  go := fun i H hi _ => by
    unfold signs at hi
    show i < z.cps.size
    simpa using hi
  stop := fun H _ => by
    unfold signs
    simp [Its]
  yld := fun i H x H' hi _ ⟨e, c, e1, e2⟩ => by
    refine ⟨e, .str ⟨#[c]⟩, ?_, by rw [e2]; exact r_str⟩
    unfold signs
    rw [List.getElem?_map]
    have : z.cps.toList[i]? = some c := by simpa using e1
    rw [this]
    rfl
def intsD (lo c : Int) (n : Nat) : List PyData := (List.range n).map fun i => .int (lo + (i : Nat) * c)
theorem intsD_len (lo c : Int) (n : Nat) : (intsD lo c n).length = n := by simp [intsD]
theorem feeds_range [Wd] (lo : Int) (n : Nat) : Feeds (Itr lo n) (fun _ => True) (intsD lo 1 n) where
  keep := fun _ _ h _ => h
  go := fun i H hi _ => by rw [intsD_len] at hi; exact hi
  stop := fun H _ => by rw [intsD_len]; exact Nat.le_refl n
  yld := fun i H x H' hi _ ⟨e, e1⟩ => by
    rw [intsD_len] at hi
    refine ⟨e, .int (lo + i), ?_, by rw [e1]; exact r_int⟩
    simp [intsD, hi]
theorem feeds_rangeC [Wd] (lo c : Int) (n : Nat) : Feeds (Itc lo c n) (fun _ => True) (intsD lo c n) where
  keep := fun _ _ h _ => h
  go := fun i H hi _ => by rw [intsD_len] at hi; exact hi
  stop := fun H _ => by rw [intsD_len]; exact Nat.le_refl n
  yld := fun i H x H' hi _ ⟨e, e1⟩ => by
    rw [intsD_len] at hi
    refine ⟨e, .int (lo + (i : Nat) * c), ?_, by rw [e1]; exact r_int⟩
    simp [intsD, hi]
def iSeq (f : Sl → Option PyData) : Sl → Option (List PyData) := fun s => match f s with
  | some (.tuple ds) => some ds
  | _ => none
def iLst (f : Sl → Option PyData) : Sl → Option (List PyData) := fun s => match f s with
  | some (.list ds) => some ds
  | _ => none
def iTxt (f : Sl → Option PyData) : Sl → Option (List PyData) := fun s => match f s with
  | some (.str z) => some (signs z)
  | _ => none
def small (i : Int) : Prop := -1000000 ≤ i ∧ i ≤ 1000000
instance (i : Int) : Decidable (small i) := by unfold small; exact inferInstance
def iRg1 (f : Sl → Option (List PyData)) : Sl → Option (List PyData) := fun s => match f s with
  | some [.int j] => if small j then some (intsD 0 1 j.toNat) else none
  | _ => none
def iRg2 (f : Sl → Option (List PyData)) : Sl → Option (List PyData) := fun s => match f s with
  | some [.int i, .int j] => if small i ∧ small j then some (intsD i 1 (j - i).toNat) else none
  | _ => none
def iRg3 (f : Sl → Option (List PyData)) : Sl → Option (List PyData) := fun s => match f s with
  | some [.int i, .int j, .int c] => if (small i ∧ small j) ∧ c = 2 then some (intsD i 2 ((j - i + 1) / 2).toNat) else none
  | _ => none
theorem rgSize2 (i j : Int) : Builtin.Range.rangeSize i j 2 = (((j - i + 1) / 2).toNat : Nat) := by
  unfold Builtin.Range.rangeSize
  simp only [gt_iff_lt, show (0 : Int) < 2 by decide, if_true]
  split <;> omega
theorem fitsLong {i : Int} (h1 : -9000000 ≤ i) (h2 : i ≤ 9000000) : Builtin.Range.rangeFitsLong i = true := by
  unfold Builtin.Range.rangeFitsLong
  simp only [Bool.and_eq_true, decide_eq_true_eq]
  omega
theorem rgC2 {i j : Int} (hi : small i) (hj : small j) : RgC i j 2 ((j - i + 1) / 2).toNat := by
  obtain ⟨a1, a2⟩ := hi
  obtain ⟨b1, b2⟩ := hj
  refine ⟨by decide, by decide, ?_, rgSize2 i j⟩
  unfold Builtin.Range.small
  rw [rgSize2, fitsLong (by omega) (by omega), fitsLong (by omega) (by omega), fitsLong (by omega) (by omega), fitsLong (by omega) (by omega), if_pos (by decide), fitsLong (by omega) (by omega)]
  simp
section
variable {X : Cx} {tg e a b c : Expr} {f f1 f2 f3 : Sl → Option PyData} {fa : Sl → Option (List PyData)} {p pos : Pos}
theorem di_tup [Wd] (h : PE X e (tD f)) : PI X tg e (iD (iSeq f)) := PI.sub (pi_tup h) fun σ H Q ⟨sd, ds, hs, hf, q⟩ => by
  unfold iSeq at hf
  cases e1 : f sd with
  | none => rw [e1] at hf; cases hf
  | some u =>
    rw [e1] at hf
    cases u with
    | tuple us =>
      cases hf
      refine ⟨sd, .tuple ds, hs, e1, fun H1 x s1 r1 => ?_⟩
      obtain ⟨p, xs, rfl, h1, h2⟩ := r1.tup
      exact ⟨p, rfl, ⟨xs, SqT.of h1⟩, q _ _ _ s1 ⟨xs, h1, h2⟩ (feeds_tup X.K p ds)⟩
    | _ => cases hf
theorem di_lst [Wd] (h : PE X e (tD f)) : PI X tg e (iD (iLst f)) := PI.sub (pi_list h) fun σ H Q ⟨sd, ds, hs, hf, q⟩ => by
  unfold iLst at hf
  cases e1 : f sd with
  | none => rw [e1] at hf; cases hf
  | some u =>
    rw [e1] at hf
    cases u with
    | list us =>
      cases hf
      refine ⟨sd, .list ds, hs, e1, fun H1 x s1 r1 => ?_⟩
      obtain ⟨p, xs, rfl, h1, h2⟩ := r1.lst
      exact ⟨p, rfl, ⟨xs, SqL.of h1⟩, q _ _ _ s1 ⟨xs, h1, h2⟩ (feeds_lst X.K p ds)⟩
    | _ => cases hf
theorem di_str [Wd] (h : PE X e (tD f)) : PI X tg e (iD (iTxt f)) := PI.sub (pi_str h) fun σ H Q ⟨sd, ds, hs, hf, q⟩ => by
  unfold iTxt at hf
  cases e1 : f sd with
  | none => rw [e1] at hf; cases hf
  | some u =>
    rw [e1] at hf
    cases u with
    | str z =>
      cases hf
      exact ⟨sd, .str z, hs, e1, fun H1 x s1 r1 => ⟨z, r1.str, q _ _ _ s1 trivial (feeds_str z)⟩⟩
    | _ => cases hf
theorem di_range1 [Wd] (hg : Gl X "range") (hm : X.mg "range" = none) (ha : PA X [a] (tDA fa)) (hs : starEach [a] X.env = [(false, eval a X.env)] := by rfl) : PI X tg (.Call (.Name "range" p) [a] [] pos) (iD (iRg1 fa)) :=
  PI.sub (pi_range1 hg hm ha hs) fun σ H Q ⟨sd, ds, hs, hf, q⟩ => by
    unfold iRg1 at hf
    split at hf
    · rename_i j e1
      ·
        by_cases hl : small j
        · rw [if_pos hl] at hf
          cases hf
          refine ⟨sd, _, hs, e1, fun H1 vs s1 r1 => ?_⟩
          obtain ⟨x, r, rfl, h1, h2⟩ := r1.cons
          rw [h2.nil, h1.int]
          exact ⟨j, rfl, by have := hl.1; omega, by have := hl.2; omega, q _ _ _ s1 trivial (feeds_range 0 j.toNat)⟩
        · rw [if_neg hl] at hf
          cases hf
    · cases hf
theorem di_range2 [Wd] (hg : Gl X "range") (hm : X.mg "range" = none) (ha : PA X [a, b] (tDA fa)) (hs : starEach [a, b] X.env = [(false, eval a X.env), (false, eval b X.env)] := by rfl) (hs2 : starEach [b] X.env = [(false, eval b X.env)] := by rfl) :
    PI X tg (.Call (.Name "range" p) [a, b] [] pos) (iD (iRg2 fa)) :=
  PI.sub (pi_range2 hg hm ha hs hs2) fun σ H Q ⟨sd, ds, hs, hf, q⟩ => by
    unfold iRg2 at hf
    split at hf
    · rename_i i j e1
      ·
        by_cases hl : small i ∧ small j
        · rw [if_pos hl] at hf
          cases hf
          refine ⟨sd, _, hs, e1, fun H1 vs s1 r1 => ?_⟩
          obtain ⟨x, r, rfl, h1, h2⟩ := r1.cons
          obtain ⟨y, r, rfl, h3, h4⟩ := h2.cons
          rw [h4.nil, h1.int, h3.int]
          obtain ⟨⟨a1, a2⟩, b1, b2⟩ := hl
          exact ⟨i, j, rfl, ⟨by omega, by omega, by omega, by omega⟩, q _ _ _ s1 trivial (feeds_range i _)⟩
        · rw [if_neg hl] at hf
          cases hf
    · cases hf
theorem di_range3 [Wd] (hg : Gl X "range") (hm : X.mg "range" = none) (ha : PA X [a, b, c] (tDA fa)) (hs : starEach [a, b, c] X.env = (false, eval a X.env) :: starEach [b, c] X.env := by rfl) (hpl : (backTo pos (starEach [b, c] X.env)).any (·.1) = false := by rfl) :
    PI X tg (.Call (.Name "range" p) [a, b, c] [] pos) (iD (iRg3 fa)) :=
  PI.sub (pi_range3 hg hm ha hs hpl) fun σ H Q ⟨sd, ds, hs, hf, q⟩ => by
    unfold iRg3 at hf
    split at hf
    · rename_i i j k e1
      ·
        by_cases hl : (small i ∧ small j) ∧ k = 2
        · rw [if_pos hl] at hf
          cases hf
          refine ⟨sd, _, hs, e1, fun H1 vs s1 r1 => ?_⟩
          obtain ⟨x, r, rfl, h1, h2⟩ := r1.cons
          obtain ⟨y, r, rfl, h3, h4⟩ := h2.cons
          obtain ⟨z, r, rfl, h5, h6⟩ := h4.cons
          rw [h6.nil, h1.int, h3.int, h5.int, hl.2]
          exact ⟨i, j, 2, _, rfl, rgC2 hl.1.1 hl.1.2, q _ _ _ s1 trivial (feeds_rangeC i 2 _)⟩
        · rw [if_neg hl] at hf
          cases hf
    · cases hf
end

/-! ### statements -/
def dSeq (F G : Sl → Option Out) : Sl → Option Out := fun s => match F s with
  | some (.nx s') => G s'
  | some (.rt d) => some (.rt d)
  | none => none
def dSkip : Sl → Option Out := fun s => some (.nx s)
def dSet (i : Nat) (f : Sl → Option PyData) : Sl → Option Out := fun s => match f s with
  | some d => some (.nx (s.set i (some d)))
  | none => none
def dRet (f : Sl → Option PyData) : Sl → Option Out := fun s => match f s with
  | some d => some (.rt d)
  | none => none
def dIf (c : Sl → Option Bool) (F G : Sl → Option Out) : Sl → Option Out := fun s => match c s with
  | some true => F s
  | some false => G s
  | none => none
def setAll : List Nat → List PyData → Sl → Sl
  | i :: is, d :: ds, s => setAll is ds (s.set i (some d))
  | _, _, s => s
def dUnp (is : List Nat) (f : Sl → Option PyData) : Sl → Option Out := fun s => match f s with
  | some (.tuple ds) => if ds.length = is.length then some (.nx (setAll is ds s)) else none
  | _ => none
def dLoop (F : Sl → Option Out) (i : Nat) : List PyData → Sl → Option Out
  | [], s => some (.nx s)
  | d :: ds, s => match F (s.set i (some d)) with
    | some (.nx s') => dLoop F i ds s'
    | some (.rt d) => some (.rt d)
    | none => none
def dFor (i : Nat) (it : Sl → Option (List PyData)) (F : Sl → Option Out) : Sl → Option Out := fun s => match it s with
  | some ds => dLoop F i ds s
  | none => none
theorem PG.setD {X : Cx} {tg : Expr} {i : Nat} (h : PG X tg (gName i)) : PG X tg (gName i) := h
section
variable {X : Cx} {st : Stmt} {rest a b : List Stmt} {F G : Sl → Option Out} {e c tg : Expr} {f : Sl → Option PyData} {g : Sl → Option Bool} {pos : Pos}
theorem ds_nil [Wd] : PSs X [] (tDS dSkip) := PSs.sub pss_nil fun D σ H ⟨sd, o, hs, hf, q⟩ => by
  cases hf
  exact q σ H (Same.refl H) hs
theorem ds_one [Wd] (h : PS X st (tDS F)) : PSs X [st] (tDS F) := pss_one h
theorem ds_cons [Wd] (h : PS X st (tDS F)) (k : PSs X rest (tDS G)) : PSs X (st :: rest) (tDS (dSeq F G)) := PSs.sub (pss_cons h k) fun D σ H ⟨sd, o, hs, hf, q⟩ => by
  unfold dSeq at hf
  cases e1 : F sd with
  | none => rw [e1] at hf; cases hf
  | some u =>
    rw [e1] at hf
    refine ⟨sd, u, hs, e1, ?_⟩
    cases u with
    | rt d => cases hf; exact q
    | nx s' =>
      intro σ' H' s1 hs'
      exact ⟨s', o, hs', hf, q.same s1⟩
theorem ds_asg [Wd] (i : Nat) (he : PE X e (tD f)) (hg : PG X tg (gName i)) (hs : swapsWithSole [tg] e pos.line X.env = pure false := by rfl) (hw : swappedStores [tg] e X.env = pure none := by rfl)
    (h1 : (assignEach [tg] X.env).map (·.2) = [assign tg X.env] := by rfl) : PS X (.Assign [tg] e pos) (tDS (dSet i f)) :=
  PS.sub (ps_asg he hg hs hw h1) fun D σ H ⟨sd, o, hs, hf, q⟩ => by
    unfold dSet at hf
    cases e1 : f sd with
    | none => rw [e1] at hf; cases hf
    | some u =>
      rw [e1] at hf
      cases hf
      exact ⟨sd, u, hs, e1, fun H1 x s1 r1 => q _ H1 s1 ((hs.mono s1).set i r1)⟩
theorem ds_set [Wd] (i : Nat) {x : Str} {pos' : Pos} (hN : X.N.Nodup) (hi : X.N[i]? = some x) (hx : Loc X.env.scope x) (he : PE X e (tD f)) (hs : swapsWith e (some (.Name x pos')) pos.line X.env = pure false := by rfl) (hf : X.fn x = true ∨ X.env.scope.names.lookup x = some .local := by first | exact .inl rfl | exact .inr rfl | assumption) :
    PS X (.Assign [.Name x pos'] e pos) (tDS (dSet i f)) :=
  PS.sub (ps_set hN hi hx he hs hf) fun D σ H ⟨sd, o, hs, hf, q⟩ => by
    unfold dSet at hf
    cases e1 : f sd with
    | none => rw [e1] at hf; cases hf
    | some u =>
      rw [e1] at hf
      cases hf
      exact ⟨sd, u, hs, e1, fun H1 x s1 r1 => q _ H1 s1 ((hs.mono s1).set i r1)⟩
theorem ds_ret [Wd] (he : PE X e (tD f)) : PS X (.Return (some e) pos) (tDS (dRet f)) := PS.sub (ps_ret he) fun D σ H ⟨sd, o, hs, hf, q⟩ => by
  unfold dRet at hf
  cases e1 : f sd with
  | none => rw [e1] at hf; cases hf
  | some u =>
    rw [e1] at hf
    cases hf
    exact ⟨sd, u, hs, e1, fun H1 x s1 r1 => q H1 x s1 r1⟩
theorem ds_if [Wd] (hc : PT X c (tDT g)) (ha : PSs X a (tDS F)) (hb : PSs X b (tDS G)) : PS X (.If c a b pos) (tDS (dIf g F G)) := PS.sub (ps_if hc ha hb) fun D σ H ⟨sd, o, hs, hf, q⟩ => by
  unfold dIf at hf
  cases e1 : g sd with
  | none => rw [e1] at hf; cases hf
  | some u =>
    rw [e1] at hf
    refine ⟨sd, u, hs, e1, fun H1 s1 => ?_⟩
    cases u with
    | true => exact iteT ⟨sd, o, hs.mono s1, hf, q.same s1⟩
    | false => exact iteF ⟨sd, o, hs.mono s1, hf, q.same s1⟩
/-- a way that is not taken -/
def dNever : Sl → Option Out := fun _ => none
theorem ds_never [Wd] : PS X st (tDS dNever) := PS.sub ps_never fun D σ H ⟨sd, o, hs, hf, q⟩ => by cases hf
theorem dss_never [Wd] : PSs X rest (tDS dNever) := PSs.sub pss_never fun D σ H ⟨sd, o, hs, hf, q⟩ => by cases hf
def dNon : Sl → Option PyData := fun _ => none
/-- several names -/
def tDGs [Wd] (is : List Nat) : TGs := fun vs σ H Q => ∃ sd ds, RS H σ sd ∧ RAll H vs ds ∧ ds.length = is.length ∧ ∀ σ', RS H σ' (setAll is ds sd) → Q σ' H
theorem PGs.sub {es : List Expr} {t t' : TGs} (h : PGs X es t) (i : ∀ vs σ H Q, t' vs σ H Q → t vs σ H Q) : PGs X es t' := ⟨fun pins s σ H vs us Q I r q => h.run pins s σ H vs us Q I r (i _ _ _ _ q)⟩
theorem dgs_nil [Wd] : PGs X [] (tDGs []) := PGs.sub pgs_nil fun vs σ H Q ⟨sd, ds, hs, r, hl, q⟩ => by
  have : ds = [] := List.length_eq_zero_iff.mp hl
  subst this
  exact ⟨r.nil, q σ hs⟩
theorem dgs_cons [Wd] {x : Expr} {xs : List Expr} {i : Nat} {is : List Nat} (h1 : PG X x (gName i)) (h2 : PGs X xs (tDGs is)) (hs : (assignEach (x :: xs) X.env).map (·.2) = assign x X.env :: (assignEach xs X.env).map (·.2) := by rfl) : PGs X (x :: xs) (tDGs (i :: is)) :=
  PGs.sub (pgs_cons h1 h2 hs) fun vs σ H Q ⟨sd, ds, hs, r, hl, q⟩ => by
    cases ds with
    | nil => simp at hl
    | cons d ds =>
      obtain ⟨v, r', rfl, e1, e2⟩ := r.cons
      exact ⟨v, r', rfl, sd.set i (some d), ds, hs.set i e1, e2, by simpa using hl, q⟩
theorem ds_unp [Wd] {is : List Nat} {es : List Expr} {k : Nat} {p : Pos} (hc : X.calm = true) (he : PE X e (tD f)) (hg : PGs X es (tDGs is)) (hn : (assignEach es X.env).length = is.length := by rfl) (hst : (assignEach es X.env).findIdx? (·.1) = none := by rfl)
    (hs : swapsWithSole [.Tuple es k p] e pos.line X.env = pure false := by rfl) (hw : swappedStores [.Tuple es k p] e X.env = pure none := by rfl)
    (h1 : (assignEach [.Tuple es k p] X.env).map (·.2) = [assign (.Tuple es k p) X.env] := by rfl) : PS X (.Assign [.Tuple es k p] e pos) (tDS (dUnp is f)) :=
  PS.sub (ps_asg he (pg_tup hc hg hn hst) hs hw h1) fun D σ H ⟨sd, o, hs, hf, q⟩ => by
    unfold dUnp at hf
    cases e1 : f sd with
    | none => rw [e1] at hf; cases hf
    | some u =>
      rw [e1] at hf
      cases u with
      | tuple ds =>
        dsimp only at hf
        by_cases hl : ds.length = is.length
        · rw [if_pos hl] at hf
          cases hf
          refine ⟨sd, .tuple ds, hs, e1, fun H1 x s1 r1 => ?_⟩
          obtain ⟨p, xs, rfl, h1, h2⟩ := r1.tup
          exact ⟨p, xs, rfl, SqT.of h1, by rw [h2.length, hl], sd, ds, hs.mono s1, h2, hl, fun σ' hs' => q σ' H1 s1 hs'⟩
        · rw [if_neg hl] at hf
          cases hf
      | _ => cases hf
theorem ds_for [Wd] {i : Nat} {it : Sl → Option (List PyData)} {body : List Stmt} (hp : PassesOwn (model X.prog X.w) X.A X.env X.xe) (hc : X.calm = true) (hi : PI X tg e (iD it)) (hg : PG X tg (gName i)) (hb : PSs X body (tDS F))
    (hs : ∀ x, foldedSetIterable e X.env x = pure x := by intro _; rfl) : PS X (.For tg e body [] pos) (tDS (dFor i it F)) :=
  PS.sub (ps_for hp hc hi hg hb hs) fun D σ H ⟨sd, o, hs, hf, q⟩ => by
    unfold dFor at hf
    cases e1 : it sd with
    | none => rw [e1] at hf; cases hf
    | some ds =>
      rw [e1] at hf
      refine ⟨sd, ds, hs, e1, fun J H1 Gd s1 g1 fd => ?_⟩
      refine ⟨fun k m σ' H' => k + m = ds.length ∧ Same H H' ∧ Gd H' ∧ ∃ sd', RS H' σ' sd' ∧ dLoop F i (ds.drop k) sd' = some o, ⟨ds.length, by simp, s1, g1, sd, hs.mono s1, by simpa using hf⟩, ?_⟩
      rintro k m σ' H' ⟨hk, s2, g2, sd', hs', hl⟩
      by_cases hlt : k < ds.length
      · refine .inr ⟨fd.go k H' hlt g2, fun σ3 H3 => Same H H3 ∧ Gd H3 ∧ ∃ sd3, RS H3 σ3 sd3 ∧ dLoop F i (ds.drop (k + 1)) sd3 = some o, ?_, ?_⟩
        · rintro σ3 H3 ⟨s3, g3, sd3, h3, l3⟩
          exact ⟨m - 1, by omega, by omega, s3, g3, sd3, h3, l3⟩
        · intro x H3 hy
          obtain ⟨rfl, d, hd, r⟩ := fd.yld k H' x H3 hlt g2 hy
          have ed : ds.drop k = d :: ds.drop (k + 1) := by
            rw [List.drop_eq_getElem_cons hlt]
            rw [List.getElem?_eq_getElem hlt] at hd
            cases hd
            rfl
          rw [ed] at hl
          unfold dLoop at hl
          show tDS F _ _ _
          cases e2 : F (sd'.set i (some d)) with
          | none => rw [e2] at hl; cases hl
          | some u =>
            rw [e2] at hl
            refine ⟨_, u, hs'.set i r, e2, ?_⟩
            cases u with
            | rt z =>
              cases hl
              exact fun H4 v s4 r4 => q H4 v (s2.trans s4) r4
            | nx s4 => exact fun σ4 H4 s5 h4 => ⟨s2.trans s5, fd.keep _ _ g2 s5, s4, h4, hl⟩
      · have ek : k = ds.length := by omega
        subst ek
        refine .inl ⟨fd.stop H' g2, ?_⟩
        rw [List.drop_length] at hl
        unfold dLoop at hl
        cases hl
        exact q σ' H' s2 hs'
end

/-! ### a def -/
def startD (n : Nat) (ds : List PyData) : Sl := ds.map some ++ List.replicate (n - ds.length) none
def runF (F : Sl → Option Out) (n : Nat) (ds : List PyData) : Option PyData := match F (startD n ds) with
  | some (.rt d) => some d
  | some (.nx _) => some .none
  | none => none
theorem start_R [Wd] {H : Hp} {N : List Str} {vs : List V} {ds : List PyData} (r : RAll H vs ds) : RS H (L2.start N vs) (startD N.length ds) := by
  have hl := r.length
  refine ⟨by simp [L2.start, startD, hl], fun i d e => ?_⟩
  unfold startD at e
  unfold L2.start
  by_cases hi : i < ds.length
  · rw [List.getElem?_append_left (by simpa using hi)] at e
    rw [List.getElem?_append_left (by simpa [hl] using hi)]
    rw [List.getElem?_map] at e ⊢
    cases e1 : ds[i]? with
    | none => rw [e1] at e; cases e
    | some d' =>
      rw [e1] at e
      cases e
      obtain ⟨x, e2, e3⟩ := r.get e1
      exact ⟨x, by rw [e2]; rfl, e3⟩
  · rw [List.getElem?_append_right (by simpa using hi), List.getElem?_replicate] at e
    split at e <;> cases e
theorem run_R [Wd] {F : Sl → Option Out} {n : Nat} {N : List Str} {vs : List V} {H : Hp} {Q : VK} {E : XK} (h : spP (runF F N.length) n vs H Q E) : tDS F { nx := fun _ H' => Q .non H', rt := Q } (L2.start N vs) H := by
  obtain ⟨ds, d, r, e, _, q⟩ := h
  unfold runF at e
  cases e1 : F (startD N.length ds) with
  | none => rw [e1] at e; cases e
  | some o =>
    rw [e1] at e
    refine ⟨_, o, start_R r, e1, ?_⟩
    cases o with
    | rt z => cases e; exact fun H' v s k => q H' v s k
    | nx z => cases e; exact fun σ' H' s _ => q H' _ s r_non
/-- the def st stands under its name -/
structure DefAt (K : PySem.W.Frag) (mg : Str → Option Value) (x : Str) (st : Stmt) : Prop where
  ex : ∃ f fd, mg x = some (.ref f) ∧ FunD K x x (defArgs st) (defBody st) (defScope st) [] [] f fd
/-- a def that may be called by its name -/
structure Ok (P : Program) (w : World) (K : PySem.W.Frag) (mg : Str → Option Value) (base : Heap) (x : Str) (k : Nat) (ps : List Str) (sp : Sp) : Prop where
  ex : ∃ f fd, mg x = some (.ref f) ∧ PySem.W.keepIn K (.ref f) = true ∧ Binds K fd ps [] ∧ FnOk P w K mg base CX0 k f fd ps sp
def BindOk (x : Str) (st : Stmt) (ps : List Str) : Prop := ∀ (kV doc pm : Value) (an : Option Addr) (cdv ct : Value) (us : List Value), us.length = ps.length → bindArgs (PySem.W.fnOf x x (defArgs st) (defBody st) (defScope st) .none kV doc pm an cdv ct) ⟨us, []⟩ = pure (ps.zip us)
section
variable {P : Program} {w : World} {K : PySem.W.Frag} {mg : Str → Option Value} {base : Heap} {x : Str} {st : Stmt} {N ps : List Str} {k : Nat} {sp : Sp}
theorem DefAt.ok (D : DefAt K mg x st) (S : FnScope N ps (defScope st)) (b : BindOk x st ps) (len : ∀ vs H Q E, sp vs H Q E → vs.length = ps.length)
    (hbody : ∀ (f : Addr) (cdv : Value) (A : Around) (outer : List Env) (s : Shared) (H : Hp) (vs : List V) (Q : VK) (E : XK), Room k (A.deeper (envOfC x (defScope st) s.heap.objs.size f cdv)) → sp vs H Q E →
      ∃ t, PSs (cxOf CX0 P w K mg base N x (defScope st) f cdv A outer s H E).nox (defBody st) t ∧ t { nx := fun _ H' => Q .non H', rt := Q } (L2.start N vs) H) : Ok P w K mg base x (k + 1) ps sp := by
  obtain ⟨f, fd, hm, F⟩ := D.ex
  refine ⟨f, fd, hm, F.kp, F.bindsN b, F.ok S len fun cdv A outer s H vs Q E hr h => ?_⟩
  obtain ⟨t, h1, h2⟩ := hbody f cdv A outer s H vs Q E hr h
  exact ⟨t, h1.nox, h2⟩
theorem DefAt.pure [Wd] {F : Sl → Option Out} {n : Nat} {g : List PyData → Option PyData} (D : DefAt K mg x st) (S : FnScope N ps (defScope st)) (b : BindOk x st ps) (hn : ps.length = n) (hg : g = runF F N.length)
    (hbody : ∀ (f : Addr) (cdv : Value) (A : Around) (outer : List Env) (s : Shared) (H : Hp) (E : XK), Room k (A.deeper (envOfC x (defScope st) s.heap.objs.size f cdv)) →
      PSs (cxOf CX0 P w K mg base N x (defScope st) f cdv A outer s H E).nox (defBody st) (tDS F)) : Ok P w K mg base x (k + 1) ps (spP g n) := by
  subst hg
  exact D.ok S b (fun vs H Q E h => by rw [h.len, hn]) fun f cdv A outer s H vs Q E hr h => ⟨_, hbody f cdv A outer s H E hr, run_R h⟩
end
section
variable {X : Cx} {x : Str} {k j : Nat} {ps : List Str} {sp : Sp} {p pos : Pos} {e : Expr} {es : List Expr} {t : TA}
theorem pe_cl (F : Ok X.prog X.w X.K X.mg X.base x k ps sp) (hr : Room j X.A) (ha : PA X (e :: es) t) (hkj : k ≤ j := by decide) (hg : Gl X x := by rfl) (hdb : (x == ("__debug__" : Str)) = false := by decide)
    (he : starEach (e :: es) X.env = (false, eval e X.env) :: starEach es X.env := by rfl) (hpl : (backTo pos (starEach es X.env)).any (·.1) = false := by rfl) : PE X (.Call (.Name x p) (e :: es) [] pos) (tCall sp [] E0 t) := by
  obtain ⟨f, fd, hm, kp, b, F⟩ := F.ex
  exact pe_call F (hr.mono hkj) hg hm kp b .nil pass0 ha hdb he hpl
theorem de_cl [Wd] {g : List PyData → Option PyData} {n : Nat} {fs : List (Sl → Option PyData)} (F : Ok X.prog X.w X.K X.mg X.base x k ps (spP g n)) (hr : Room j X.A) (ha : PA X (e :: es) (tDA (evs fs))) (hkj : k ≤ j := by decide) (hn : fs.length = n := by rfl) (hg : Gl X x := by rfl)
    (hdb : (x == ("__debug__" : Str)) = false := by decide) (he : starEach (e :: es) X.env = (false, eval e X.env) :: starEach es X.env := by rfl) (hpl : (backTo pos (starEach es X.env)).any (·.1) = false := by rfl) :
    PE X (.Call (.Name x p) (e :: es) [] pos) (tD (dCall g fs)) := PE.sub (pe_cl F hr ha hkj hg hdb he hpl) (tCall_of hn)
end
end Cs
/-! ### steps of two, least and greatest of tuples, at the library's level -/
namespace CsLow
open PySem PyProof.Rows HT
section
variable {prog : Program} {w : World} {A : Around} {E : Value → Shared → Prop} {s : Shared}
theorem applied2 {sl : Addr} {vl vu vs : Value} {lo hi : Option Int} {n : Nat} {Q : Int × Int × Nat → Shared → Prop} (hs : s.heap.IsSliceOf sl vl vu vs) (pl : IsPart vl lo) (pu : IsPart vu hi) (ps : IsPart vs (some 2))
    (h : ∀ p : Int × Int, Builtin.Slice.sliceAdjust lo hi 2 (n : Int) = p → Q (p.1, 2, Builtin.Slice.slicePlaces p.1 p.2 2) s) : wpAny (model prog w) A (Builtin.Slice.sliceApplied (.ref sl) (pure (n : Int))) Q E s := by
  obtain ⟨os, hos, hcs, hds⟩ := id hs
  unfold Builtin.Slice.sliceApplied Builtin.Slice.sliceFields
  refine wpAny_bind (wpAny_bind (wpAny_field hos hds (x := vl) rfl (wpAny_bind (wpAny_field hos hds (x := vu) rfl (wpAny_bind (wpAny_field hos hds (x := vs) rfl (wpAny_pure ?_)))))))
  refine wpAny_bind (slicePart_ ps ?_)
  show wpAny _ _ (if ((2 : Int) == 0) = true then _ else _) _ _ s
  rw [if_neg (by decide)]
  refine wpAny_bind (slicePart_ pl (wpAny_bind (slicePart_ pu (wpAny_bind (wpAny_pure ?_)))))
  exact wpAny_pure (h _ rfl)
/-- every second item from lo on -/
def step2 {α : Type} (xs : List α) (lo hi : Option Int) : List α :=
  (List.range (Builtin.Slice.slicePlaces (Builtin.Slice.sliceAdjust lo hi 2 (xs.length : Int)).1 (Builtin.Slice.sliceAdjust lo hi 2 (xs.length : Int)).2 2)).filterMap fun (k : Nat) => xs[((Builtin.Slice.sliceAdjust lo hi 2 (xs.length : Int)).1 + (k : Int) * 2).toNat]?
theorem getItem_tuple2 {t sl : Addr} {items : Array Value} {vl vu vs : Value} {lo hi : Option Int} {Q : Value → Shared → Prop} (ht : IsTup s.heap t items) (hs : s.heap.IsSliceOf sl vl vu vs) (pl : IsPart vl lo) (pu : IsPart vu hi) (ps : IsPart vs (some 2))
    (h : Q (.ref s.heap.objs.size) { s with heap := s.heap.push { cls := .type "tuple", data := .seq (step2 items.toList lo hi).toArray } })
    (hsz : (step2 items.toList lo hi).length ≤ sizeLine) : wpAny (model prog w) A (getItem (.ref t) (.ref sl)) Q E s := by
  obtain ⟨os, hos, hcs, hds⟩ := id hs
  have hTs : s.TypeIs (.ref sl) "slice" := ⟨os, hos, hcs⟩
  unfold getItem
  try with_reducible refine wpAny_holding ?_
  first | refine wpAny_bind (wpAny_pure ?_) | skip
  refine wpAny_bind (wpAny_sequenceKey ht.typeIs (by decide) ?_)
  refine wpAny_bind (wpAny_callSpecial?_slot (name := Str.ofString "__getitem__") ht.typeIs PyProof.Rows.slot_tuple_getitem
    (wpAny_call_entry PyProof.Rows.slot_tuple_getitem ht.typeIs entry_tuple_getitem ?_ (args_tuple_getitem _ _)))
  show wpAny _ _ (Builtin.Tuple.tupleItemsOf (.ref t) >>= _) _ _ s
  refine wpAny_bind (tupleItemsOf_ ht ?_)
  refine wpAny_bind (wpAny_typeOf hTs ?_)
  rw [if_pos (by decide)]
  refine wpAny_bind (applied2 hs pl pu ps fun p hp => ?_)
  have hno : ¬ ((p.1 == 0 && (2 : Int) == 1 && (Builtin.Slice.slicePlaces p.1 p.2 2) == items.size) = true) := by
    intro q
    rw [Bool.and_eq_true, Bool.and_eq_true] at q
    exact absurd q.1.2 (by decide)
  show wpAny _ _ (if (p.1 == 0 && (2 : Int) == 1 && (Builtin.Slice.slicePlaces p.1 p.2 2) == items.size) = true then _ else _) _ _ s
  rw [if_neg hno]
  have e : ((List.range (Builtin.Slice.slicePlaces p.1 p.2 2)).filterMap fun (k : Nat) => items[(p.1 + (k : Int) * 2).toNat]?) = step2 items.toList lo hi := by
    unfold step2
    rw [Array.length_toList, hp]
    congr 1
    funext k
    rw [Array.getElem?_toList]
  rw [e]
  have htake : sizeOk (.seq (step2 items.toList lo hi).toArray) := by
    show (step2 items.toList lo hi).toArray.size ≤ sizeLine
    rw [List.size_toArray]
    exact hsz
  first
    | exact wpAny_bind (m := Builtin.Tuple.tupleExact _) (wpAny_newObj_type (wpAny_pure ⟨_, rfl, wpAny_pure h⟩) htake)
    | exact wpAny_bind (m := Builtin.Tuple.tupleExact _) (wpAny_newObj_type (wpAny_bind (wpAny_pure (wpAny_pure ⟨_, rfl, wpAny_pure h⟩))) htake)
    | exact wpAny_bind (wpAny_bind (m := Builtin.Tuple.tupleExact _) (wpAny_newObj_type (wpAny_pure (wpAny_pure ⟨_, rfl, wpAny_pure h⟩)) htake))
    | exact wpAny_bind (wpAny_bind (m := Builtin.Tuple.tupleExact _) (wpAny_newObj_type (wpAny_pure ⟨_, rfl, wpAny_pure h⟩) htake))
theorem iter_tup {t : Addr} {items : Array Value} {Q : Value → Shared → Prop} (ht : s.heap.IsTuple t items)
    (h : ∀ s₂ : Shared, s₂ = { s with heap := s.heap.push { cls := .type "tuple_iterator", data := .fields #[.ref t, .int 0 0] } } →
      (s₂.heap.IsTupleIter s.heap.objs.size t 0 ∧ s₂.heap.IsTuple t items) → (∀ b ∈ [s.heap.objs.size, t], b < s₂.heap.objs.size) → t ≠ s.heap.objs.size → Q (.ref s.heap.objs.size) s₂) :
    wpAny (model prog w) A (pyIter (.ref t)) Q E s := by
  have hlt : t < s.heap.objs.size := by obtain ⟨_, e, _⟩ := ht; exact Heap.lt_size e
  refine wpAny_pyIter_tuple ht (h _ rfl ⟨⟨_, Heap.get?_push_size _ rfl, rfl, rfl⟩, ?_⟩ (fun b hb => ?_) (Nat.ne_of_lt hlt))
  · exact ht.at fun o e => Heap.get?_push_of_some _ e
  · show b < (s.heap.push _).objs.size
    rw [Heap.size_push]
    rcases List.mem_cons.mp hb with rfl | hb
    · exact Nat.lt_succ_self _
    · rcases List.mem_cons.mp hb with rfl | hb
      · exact Nat.lt_succ_of_lt hlt
      · cases hb
theorem kept1 {o : Obj} {h' : Heap} (hk : ∀ b u, b ∉ [s.heap.objs.size] → (s.heap.push o).get? b = some u → h'.get? b = some u) : ∀ b u, s.heap.get? b = some u → h'.get? b = some u := fun b u e => by
  refine hk b u (fun hm => ?_) (Heap.get?_push_of_some _ e)
  rcases List.mem_cons.mp hm with e1 | hm
  · exact absurd (e1 ▸ Heap.lt_size e) (Nat.lt_irrefl _)
  · cases hm
theorem intsAt {its : List Value} {ns : List Int} (hi : IntsAre its ns) : ∀ (i : Nat) (v : Value), its.toArray[i]? = some v → ∃ t, v = .int (ns.getD i 0) t := by
  intro i v e
  induction hi generalizing i with
  | nil => simp at e
  | cons n t hi ih =>
    cases i with
    | zero =>
      simp at e
      exact ⟨t, by rw [← e]; rfl⟩
    | succ i =>
      simp at e
      obtain ⟨t', e'⟩ := ih i (by simpa using e)
      exact ⟨t', by rw [e']; rfl⟩
theorem getD_in {ns : List Int} {i : Nat} (h : i < ns.length) : ns.getD i 0 ∈ ns := by
  simp [List.getD, List.getElem?_eq_getElem h]
theorem in_getD {ns : List Int} {y : Int} (h : y ∈ ns) : ∃ i, i < ns.length ∧ ns.getD i 0 = y := by
  obtain ⟨i, hi, e⟩ := List.getElem_of_mem h
  exact ⟨i, hi, by simp [List.getD, List.getElem?_eq_getElem hi, e]⟩
theorem min_tup {t : Addr} {its : List Value} {ns : List Int} {Q : Value → Shared → Prop} (hh : A.handled = none) (ht : s.heap.IsTuple t its.toArray) (hi : IntsAre its ns) (hne : 0 < ns.length)
    (h : ∀ h' tk M t', (∀ b o, s.heap.get? b = some o → h'.get? b = some o) → M ∈ ns → (∀ a, a ∈ ns → M ≤ a) → Q (.int M t') { s with heap := h', toks := tk }) : wpAny (model prog w) A (call (.builtin "min") [.ref t]) Q E s := by
  have hl := hi.length
  refine call_min_walk (iter_tup ht fun s₂ e st hfp hne' => ?_)
  subst e
  refine ⟨_, _, _, _, _, _, _, rfl, Walks.tuple (A := A.in1) hh _ t hne' its.toArray, st, hfp, by simp; omega, CmpOf.ints_lt (fun i => ns.getD i 0) (fun i v => intsAt hi i v), fun v h' tk hP hk => ?_⟩
  obtain ⟨t', rfl⟩ := intsAt hi _ v hP
  obtain ⟨h1, h2⟩ := argBest_lt (fun i => ns.getD i 0) (its.toArray.size - 1)
  have hsz : its.toArray.size = ns.length := by simp; omega
  rw [hsz] at h1 h2
  refine h h' tk _ t' (kept1 hk) ?_ fun a ha => ?_
  · rw [hsz]
    exact getD_in (by omega)
  · rw [hsz]
    obtain ⟨j, hj, rfl⟩ := in_getD ha
    exact h2 j (by omega)
theorem max_tup {t : Addr} {its : List Value} {ns : List Int} {Q : Value → Shared → Prop} (hh : A.handled = none) (ht : s.heap.IsTuple t its.toArray) (hi : IntsAre its ns) (hne : 0 < ns.length)
    (h : ∀ h' tk M t', (∀ b o, s.heap.get? b = some o → h'.get? b = some o) → M ∈ ns → (∀ a, a ∈ ns → a ≤ M) → Q (.int M t') { s with heap := h', toks := tk }) : wpAny (model prog w) A (call (.builtin "max") [.ref t]) Q E s := by
  have hl := hi.length
  refine call_max_walk (iter_tup ht fun s₂ e st hfp hne' => ?_)
  subst e
  refine ⟨_, _, _, _, _, _, _, rfl, Walks.tuple (A := A.in1) hh _ t hne' its.toArray, st, hfp, by simp; omega, CmpOf.ints_gt (fun i => ns.getD i 0) (fun i v => intsAt hi i v), fun v h' tk hP hk => ?_⟩
  obtain ⟨t', rfl⟩ := intsAt hi _ v hP
  obtain ⟨h1, h2⟩ := argBest_gt (fun i => ns.getD i 0) (its.toArray.size - 1)
  have hsz : its.toArray.size = ns.length := by simp; omega
  rw [hsz] at h1 h2
  refine h h' tk _ t' (kept1 hk) ?_ fun a ha => ?_
  · rw [hsz]
    exact getD_in (by omega)
  · rw [hsz]
    obtain ⟨j, hj, rfl⟩ := in_getD ha
    exact h2 j (by omega)
end
end CsLow
namespace Cs
open PySem PySem.Spec PyProof.Rows L2 CsLow
section
variable {X : Cx}
/-! ### t[lo:hi:2] -/
theorem vals_step2 {xs : List V} {its : List Value} (r : Vals xs its) (lo hi : Option Int) : Vals (step2 xs lo hi) (step2 its lo hi) := by
  have hl := r.length
  unfold step2
  rw [← hl]
  generalize (Builtin.Slice.slicePlaces _ _ 2) = n
  generalize (Builtin.Slice.sliceAdjust lo hi 2 (xs.length : Int)).1 = a
  generalize hL : List.range n = L
  clear hL
  induction L with
  | nil => exact .nil
  | cons k L ih =>
    rw [List.filterMap_cons, List.filterMap_cons]
    cases e : xs[(a + (k : Int) * 2).toNat]? with
    | none => rw [r.none_of e]; exact ih
    | some x =>
      obtain ⟨u, e1, e2⟩ := r.get e
      rw [e1]
      exact .cons e2 ih
theorem ra_step2 [Wd] {H : Hp} {xs : List V} {ds : List PyData} (r : RAll H xs ds) (lo hi : Option Int) : RAll H (step2 xs lo hi) (step2 ds lo hi) := by
  have hl := r.length
  unfold step2
  rw [hl]
  generalize (Builtin.Slice.slicePlaces _ _ 2) = n
  generalize (Builtin.Slice.sliceAdjust lo hi 2 (ds.length : Int)).1 = a
  generalize hL : List.range n = L
  clear hL
  induction L with
  | nil => exact ra_nil
  | cons k L ih =>
    rw [List.filterMap_cons, List.filterMap_cons]
    cases e : ds[(a + (k : Int) * 2).toNat]? with
    | none =>
      have : xs[(a + (k : Int) * 2).toNat]? = none := by
        rw [List.getElem?_eq_none_iff] at e ⊢
        omega
      rw [this]
      exact ih
    | some x =>
      obtain ⟨u, e1, e2⟩ := r.get e
      rw [e1]
      exact ra_cons e2 ih
def tSl2 (K : PySem.W.Frag) (te : TE) (tl th : TO) : TE := fun σ H Q => te σ H fun x H1 => tl σ H1 fun lo H2 => th σ H2 fun hi H3 => ∃ a xs, x = .ref a ∧ SqT K H3 a xs ∧ (step2 xs lo hi).length ≤ sizeLine ∧ ∀ p, H3 p = none → Q (.ref p) (upd H3 p (.tup (step2 xs lo hi)))
theorem pe_slice2 {e : Expr} {lo hi : Option Expr} {te : TE} {tl th : TO} {k : Nat} {p1 p2 pos : Pos} (he : PE X e te) (hl : PO X lo tl) (hu : PO X hi th) : PE X (.Subscript e (.Slice lo hi (some (.Constant (.int 2) k p1)) p2) pos) (tSl2 X.K te tl th) := by
  refine ⟨fun pins s σ H Q I h => ?_⟩
  refine Subscript_ (thn (he.run pins s σ H _ I h) fun v s1 ⟨x, H1, I1, r1, q1⟩ => ?_)
  have hst : PO X (some (.Constant (.int 2) k p1)) (tPart (tC (.int 2))) := po_some pe_int
  refine wpAny_Slice (thn (hl.run pins s1 σ H1 _ I1 q1) fun vl s2 ⟨l, H2, I2, pl, q2⟩ => thn (hu.run pins s2 σ H2 _ I2 q2) fun vu s3 ⟨u, H3, I3, pu, q3⟩ => ?_)
  refine thn (hst.run pins s3 σ H3 (fun o H4 => o = some 2 ∧ H4 = H3) I3 ⟨2, rfl, rfl, rfl⟩) fun vs s4 ⟨o, H4, I4, ps, eo, e4⟩ => ?_
  subst eo e4
  obtain ⟨a, xs, ex, hx, hz, q⟩ := q3
  subst ex
  cases r1
  have I5 : Inv X pins σ H4 { s4 with heap := s4.heap.push { cls := .type "slice", data := .fields #[vl, vu, vs] } } := I4.kept (t' := s4.toks) fun b ob q => Heap.get?_push_of_some _ q
  obtain ⟨its, r, ht, hz'⟩ := I5.tuple hx
  have rr := vals_step2 r l u
  show wpAny (model X.prog X.w) X.A (subscriptTail e (.Slice lo hi (some (.Constant (.int 2) k p1)) p2) (.ref a) (.ref s4.heap.objs.size)) (EP X pins σ Q) X.xe { s4 with heap := s4.heap.push { cls := .type "slice", data := .fields #[vl, vu, vs] } }
  refine tail_any (ops := [.ref a, .ref s4.heap.objs.size]) ht.typeIs PyProof.Rows.slot_tuple_getitem.lookup ?_ (by with_unfolding_all rfl)
  refine getItem_tuple2 ht (Heap.IsSliceOf.new _ vl vu vs) pl pu ps ?_ (by show (step2 its l u).length ≤ sizeLine; rw [← rr.length]; exact hz)
  exact ⟨.ref _, _, I5.laid (t' := s4.toks) (o := .tup (step2 xs l u)) (fun b ob q => Heap.get?_push_of_some _ q) (Nat.le_refl _) ⟨hz, _, rr, IsTup.new _ _⟩, rfl, q _ (I5.hok.fresh (Nat.le_refl _))⟩
def dSl2 (f : Sl → Option PyData) (g1 g2 : Sl → Option (Option Int)) : Sl → Option PyData := fun s => match f s with
  | some (.tuple ds) => (match g1 s with
    | some lo => (match g2 s with
      | some hi => if (step2 ds lo hi).length ≤ 1000 then some (.tuple (step2 ds lo hi)) else none
      | none => none)
    | none => none)
  | _ => none
theorem de_slice2 [Wd] {a : Expr} {f : Sl → Option PyData} {lo hi : Option Expr} {g1 g2 : Sl → Option (Option Int)} {k : Nat} {p1 p2 pos : Pos} (ha : PE X a (tD f)) (hl : PO X lo (tDO g1)) (hu : PO X hi (tDO g2)) : PE X (.Subscript a (.Slice lo hi (some (.Constant (.int 2) k p1)) p2) pos) (tD (dSl2 f g1 g2)) :=
  PE.sub (pe_slice2 ha hl hu) fun σ H Q ⟨sd, d, hs, hf, q⟩ => by
    unfold dSl2 at hf
    split at hf
    · rename_i ds e1
      split at hf
      · rename_i l e2
        split at hf
        · rename_i u e3
          split at hf
          · rename_i hz
            cases hf
            refine ⟨sd, .tuple ds, hs, e1, fun H1 x s1 r1 => ⟨sd, l, hs.mono s1, e2, fun H2 s2 => ⟨sd, u, hs.mono (s1.trans s2), e3, fun H3 s3 => ?_⟩⟩⟩
            obtain ⟨p, xs, rfl, h1, h2⟩ := (r1.mono (s2.trans s3)).tup
            have rr := ra_step2 h2 l u
            exact ⟨p, xs, rfl, SqT.of h1, by rw [rr.length]; exact Nat.le_trans hz (by decide), fun p2 n => q _ _ (((s1.trans s2).trans s3).trans (same_upd n)) (r_tup upd_same (rr.mono (same_upd n)))⟩
          · cases hf
        · cases hf
      · cases hf
    · cases hf
/-! ### built-ins -/
def asInts : List PyData → Option (List Int)
  | [] => some []
  | .int i :: ds => (match asInts ds with
    | some ns => some (i :: ns)
    | none => none)
  | _ :: _ => none
theorem asInts_eq : ∀ {ds : List PyData} {ns : List Int}, asInts ds = some ns → ds = ns.map PyData.int
  | [], ns, h => by cases h; rfl
  | d :: ds, ns, h => by
    cases d with
    | int i =>
      unfold asInts at h
      cases e : asInts ds with
      | none => rw [e] at h; cases h
      | some ms =>
        rw [e] at h
        cases h
        rw [asInts_eq e]
        rfl
    | _ => cases h
theorem ra_ints [Wd] {H : Hp} : ∀ {ns : List Int} {xs : List V}, RAll H xs (ns.map PyData.int) → xs = ns.map V.int
  | [], _, h => h.nil
  | n :: ns, _, h => by
    obtain ⟨x, r, rfl, h1, h2⟩ := h.cons
    rw [h1.int, ra_ints h2]
    rfl
theorem ints_ra [Wd] {H : Hp} : ∀ {ns : List Int}, RAll H (ns.map V.int) (ns.map PyData.int)
  | [] => ra_nil
  | n :: ns => ra_cons r_int ints_ra
def least (n : Int) (ns : List Int) : Int := ns.foldl min n
def most (n : Int) (ns : List Int) : Int := ns.foldl max n
theorem least_le : ∀ (ns : List Int) (n : Int), least n ns ≤ n ∧ (∀ y ∈ ns, least n ns ≤ y) ∧ least n ns ∈ n :: ns
  | [], n => ⟨Int.le_refl n, fun y h => absurd h (by simp), by simp [least, most]⟩
  | m :: ns, n => by
    obtain ⟨h1, h2, h3⟩ := least_le ns (min n m)
    have e : least n (m :: ns) = least (min n m) ns := rfl
    rw [e]
    refine ⟨by omega, fun y hy => ?_, ?_⟩
    · rcases List.mem_cons.mp hy with rfl | hy
      · omega
      · exact h2 y hy
    · rcases List.mem_cons.mp h3 with h3 | h3
      · rw [h3]
        by_cases c : n ≤ m
        · rw [Int.min_eq_left c]; simp
        · rw [Int.min_eq_right (by omega)]; simp
      · exact List.mem_cons_of_mem _ (List.mem_cons_of_mem _ h3)
theorem le_most : ∀ (ns : List Int) (n : Int), n ≤ most n ns ∧ (∀ y ∈ ns, y ≤ most n ns) ∧ most n ns ∈ n :: ns
  | [], n => ⟨Int.le_refl n, fun y h => absurd h (by simp), by simp [least, most]⟩
  | m :: ns, n => by
    obtain ⟨h1, h2, h3⟩ := le_most ns (max n m)
    have e : most n (m :: ns) = most (max n m) ns := rfl
    rw [e]
    refine ⟨by omega, fun y hy => ?_, ?_⟩
    · rcases List.mem_cons.mp hy with rfl | hy
      · omega
      · exact h2 y hy
    · rcases List.mem_cons.mp h3 with h3 | h3
      · rw [h3]
        by_cases c : n ≤ m
        · rw [Int.max_eq_right c]; simp
        · rw [Int.max_eq_left (by omega)]; simp
      · exact List.mem_cons_of_mem _ (List.mem_cons_of_mem _ h3)
theorem least_is {n m : Int} {ns : List Int} (h : m ∈ n :: ns) (k : ∀ y, y ∈ n :: ns → m ≤ y) : m = least n ns := by
  obtain ⟨h1, h2, h3⟩ := least_le ns n
  have a := k _ h3
  rcases List.mem_cons.mp h with rfl | h
  · omega
  · have := h2 m h; omega
theorem most_is {n m : Int} {ns : List Int} (h : m ∈ n :: ns) (k : ∀ y, y ∈ n :: ns → y ≤ m) : m = most n ns := by
  obtain ⟨h1, h2, h3⟩ := le_most ns n
  have a := k _ h3
  rcases List.mem_cons.mp h with rfl | h
  · omega
  · have := h2 m h; omega
def rMinT (K : PySem.W.Frag) : List V → Hp → VK → Prop := fun vs H Q => ∃ (a : Addr) (ns : List Int), vs = [V.ref a] ∧ SqT K H a (ns.map V.int) ∧ 0 < ns.length ∧ ∀ m, m ∈ ns → (∀ y, y ∈ ns → m ≤ y) → Q (.int m) H
def rMaxT (K : PySem.W.Frag) : List V → Hp → VK → Prop := fun vs H Q => ∃ (a : Addr) (ns : List Int), vs = [V.ref a] ∧ SqT K H a (ns.map V.int) ∧ 0 < ns.length ∧ ∀ m, m ∈ ns → (∀ y, y ∈ ns → y ≤ m) → Q (.int m) H
theorem cr_minT (hc : X.calm = true) : CallR X (.builtin "min") (rMinT X.K) := by
  intro pins s σ H vs us Q I r h
  obtain ⟨a, ns, rfl, hs, hne, q⟩ := h
  obtain ⟨its, rv, ht, _⟩ := I.tuple hs
  rw [Vals.ref1 r]
  exact min_tup (I.ok.hd hc) (show s.heap.IsTuple a its.toArray from ht) rv.ints hne fun h' tk m t' hk h1 h2 => ⟨.int _, H, I.kept hk, ⟨_, rfl⟩, q m h1 h2⟩
theorem cr_maxT (hc : X.calm = true) : CallR X (.builtin "max") (rMaxT X.K) := by
  intro pins s σ H vs us Q I r h
  obtain ⟨a, ns, rfl, hs, hne, q⟩ := h
  obtain ⟨its, rv, ht, _⟩ := I.tuple hs
  rw [Vals.ref1 r]
  exact max_tup (I.ok.hd hc) (show s.heap.IsTuple a its.toArray from ht) rv.ints hne fun h' tk m t' hk h1 h2 => ⟨.int _, H, I.kept hk, ⟨_, rfl⟩, q m h1 h2⟩
end
/-! in data -/
def mx (i j : Int) : Int := if j > i then j else i
def mn (i j : Int) : Int := if j < i then j else i
def iabs (i : Int) : Int := if i < 0 then -i else i
def gAbs : List PyData → Option PyData
  | [.int i] => some (.int (iabs i))
  | _ => none
def gMax : List PyData → Option PyData
  | [.int i, .int j] => some (.int (mx i j))
  | [.list ds] => (match asInts ds with
    | some (n :: ns) => some (.int (most n ns))
    | _ => none)
  | [.tuple ds] => (match asInts ds with
    | some (n :: ns) => some (.int (most n ns))
    | _ => none)
  | _ => none
def gMin : List PyData → Option PyData
  | [.int i, .int j] => some (.int (mn i j))
  | [.list ds] => (match asInts ds with
    | some (n :: ns) => some (.int (least n ns))
    | _ => none)
  | [.tuple ds] => (match asInts ds with
    | some (n :: ns) => some (.int (least n ns))
    | _ => none)
  | _ => none
def gSum : List PyData → Option PyData
  | [.list ds] => (match asInts ds with
    | some ns => some (.int ns.sum)
    | none => none)
  | _ => none
def gLen : List PyData → Option PyData
  | [.list ds] => some (.int ds.length)
  | [.tuple ds] => some (.int ds.length)
  | [.str z] => if z.length ≤ 100000 then some (.int z.length) else none
  | _ => none
def gInt : List PyData → Option PyData
  | [.int i] => some (.int i)
  | _ => none
def gTuple : List PyData → Option PyData
  | [.list ds] => some (.tuple ds)
  | [.tuple ds] => some (.tuple ds)
  | _ => none
theorem one_R [Wd] {H : Hp} {vs : List V} {d : PyData} (r : RAll H vs [d]) : ∃ x, vs = [x] ∧ R H x d := by
  obtain ⟨x, r', rfl, h1, h2⟩ := r.cons
  rw [h2.nil]
  exact ⟨x, rfl, h1⟩
theorem two_R [Wd] {H : Hp} {vs : List V} {d e : PyData} (r : RAll H vs [d, e]) : ∃ x y, vs = [x, y] ∧ R H x d ∧ R H y e := by
  obtain ⟨x, r', rfl, h1, h2⟩ := r.cons
  obtain ⟨y, rfl, h3⟩ := one_R h2
  exact ⟨x, y, rfl, h1, h3⟩
theorem ra_ne [Wd] {H : Hp} {xs : List V} {d : PyData} {ds : List PyData} (r : RAll H xs (d :: ds)) : 0 < xs.length := by rw [r.length]; simp
section
variable {X : Cx}
abbrev rAbs : List V → Hp → VK → Prop := fun xs H Q => ∃ i, xs = [.int i] ∧ Q (.int (if i < 0 then -i else i)) H
theorem cb_abs [Wd] : CbR rAbs gAbs := fun vs ds d H Q r e q => by
  unfold gAbs at e
  split at e
  · cases e
    obtain ⟨x, rfl, h⟩ := one_R r
    exact ⟨_, by rw [h.int], q H _ (Same.refl H) r_int⟩
  · cases e
theorem de_abs [Wd] {p pos : Pos} {e : Expr} {es : List Expr} {fs : List (Sl → Option PyData)} (hm : X.mg "abs" = none) (ha : PA X (e :: es) (tDA (evs fs))) (hg : Gl X "abs" := by rfl) (he : starEach (e :: es) X.env = (false, eval e X.env) :: starEach es X.env := by rfl) (hpl : (backTo pos (starEach es X.env)).any (·.1) = false := by rfl) :
    PE X (.Call (.Name "abs" p) (e :: es) [] pos) (tD (dCall gAbs fs)) := PE.sub (pe_callB call_abs hg hm (by decide +kernel) ha (by decide) (by decide) he hpl) (tCB_of cb_abs)
theorem cr_max3 (hc : X.calm = true) : CallR X (.builtin "max") (fun xs H Q => (∃ i j, xs = [.int i, .int j] ∧ Q (.int (if j > i then j else i)) H) ∨ rMax X.K xs H Q ∨ rMaxT X.K xs H Q) := (call_max2 hc).or ((cr_max hc).or (cr_maxT hc))
theorem cr_min3 (hc : X.calm = true) : CallR X (.builtin "min") (fun xs H Q => (∃ i j, xs = [.int i, .int j] ∧ Q (.int (if j < i then j else i)) H) ∨ rMin X.K xs H Q ∨ rMinT X.K xs H Q) := (call_min2 hc).or ((cr_min hc).or (cr_minT hc))
theorem cb_max [Wd] {K : PySem.W.Frag} : CbR (fun xs H Q => (∃ i j, xs = [.int i, .int j] ∧ Q (.int (if j > i then j else i)) H) ∨ rMax K xs H Q ∨ rMaxT K xs H Q) gMax := fun vs ds d H Q r e q => by
  unfold gMax at e
  split at e
  · cases e
    obtain ⟨x, y, rfl, h, k⟩ := two_R r
    exact .inl ⟨_, _, by rw [h.int, k.int], q H _ (Same.refl H) r_int⟩
  · split at e
    · rename_i ds' ns' n ns en
      cases e
      obtain ⟨x, rfl, h⟩ := one_R r
      obtain ⟨p, xs, rfl, h1, h2⟩ := h.lst
      rw [asInts_eq en] at h2
      have ex := ra_ints h2
      subst ex
      exact .inr (.inl ⟨p, n :: ns, rfl, SqL.of h1, by simp, fun m hm hle => by rw [most_is hm hle]; exact q H _ (Same.refl H) r_int⟩)
    · cases e
  · split at e
    · rename_i ds' ns' n ns en
      cases e
      obtain ⟨x, rfl, h⟩ := one_R r
      obtain ⟨p, xs, rfl, h1, h2⟩ := h.tup
      rw [asInts_eq en] at h2
      have ex := ra_ints h2
      subst ex
      exact .inr (.inr ⟨p, n :: ns, rfl, SqT.of h1, by simp, fun m hm hle => by rw [most_is hm hle]; exact q H _ (Same.refl H) r_int⟩)
    · cases e
  · cases e
theorem cb_min [Wd] {K : PySem.W.Frag} : CbR (fun xs H Q => (∃ i j, xs = [.int i, .int j] ∧ Q (.int (if j < i then j else i)) H) ∨ rMin K xs H Q ∨ rMinT K xs H Q) gMin := fun vs ds d H Q r e q => by
  unfold gMin at e
  split at e
  · cases e
    obtain ⟨x, y, rfl, h, k⟩ := two_R r
    exact .inl ⟨_, _, by rw [h.int, k.int], q H _ (Same.refl H) r_int⟩
  · split at e
    · rename_i ds' ns' n ns en
      cases e
      obtain ⟨x, rfl, h⟩ := one_R r
      obtain ⟨p, xs, rfl, h1, h2⟩ := h.lst
      rw [asInts_eq en] at h2
      have ex := ra_ints h2
      subst ex
      exact .inr (.inl ⟨p, n :: ns, rfl, SqL.of h1, by simp, fun m hm hle => by rw [least_is hm hle]; exact q H _ (Same.refl H) r_int⟩)
    · cases e
  · split at e
    · rename_i ds' ns' n ns en
      cases e
      obtain ⟨x, rfl, h⟩ := one_R r
      obtain ⟨p, xs, rfl, h1, h2⟩ := h.tup
      rw [asInts_eq en] at h2
      have ex := ra_ints h2
      subst ex
      exact .inr (.inr ⟨p, n :: ns, rfl, SqT.of h1, by simp, fun m hm hle => by rw [least_is hm hle]; exact q H _ (Same.refl H) r_int⟩)
    · cases e
  · cases e
theorem cb_sum [Wd] {K : PySem.W.Frag} : CbR (rSum K) gSum := fun vs ds d H Q r e q => by
  unfold gSum at e
  split at e
  · split at e
    · rename_i ds' ns en
      cases e
      obtain ⟨x, rfl, h⟩ := one_R r
      obtain ⟨p, xs, rfl, h1, h2⟩ := h.lst
      rw [asInts_eq en] at h2
      have ex := ra_ints h2
      subst ex
      exact ⟨p, ns, rfl, SqL.of h1, q H _ (Same.refl H) r_int⟩
    · cases e
  · cases e
theorem cb_len [Wd] {K : PySem.W.Frag} : CbR (fun xs H Q => ∃ x n, xs = [x] ∧ LenV K x H n ∧ Q (.int n) H) gLen := fun vs ds d H Q r e q => by
  unfold gLen at e
  split at e
  · cases e
    obtain ⟨x, rfl, h⟩ := one_R r
    obtain ⟨p, xs, rfl, h1, h2⟩ := h.lst
    exact ⟨_, _, rfl, .inl ⟨xs, SqL.of h1, rfl⟩, by rw [h2.length]; exact q H _ (Same.refl H) r_int⟩
  · cases e
    obtain ⟨x, rfl, h⟩ := one_R r
    obtain ⟨p, xs, rfl, h1, h2⟩ := h.tup
    exact ⟨_, _, rfl, .inr ⟨xs, SqT.of h1, rfl⟩, by rw [h2.length]; exact q H _ (Same.refl H) r_int⟩
  · split at e
    · rename_i hz
      cases e
      obtain ⟨x, rfl, h⟩ := one_R r
      rw [h.str]
      exact ⟨_, _, rfl, ⟨Nat.le_trans hz (by decide), rfl⟩, q H _ (Same.refl H) r_int⟩
    · cases e
  · cases e
theorem cb_int [Wd] : CbR (fun xs H Q => (∃ i, xs = [.int i] ∧ Q (.int i) H) ∨ ∃ k, xs = [.bl k] ∧ Q (.int (if k then 1 else 0)) H) gInt := fun vs ds d H Q r e q => by
  unfold gInt at e
  split at e
  · cases e
    obtain ⟨x, rfl, h⟩ := one_R r
    exact .inl ⟨_, by rw [h.int], q H _ (Same.refl H) r_int⟩
  · cases e
theorem cb_tuple [Wd] {K : PySem.W.Frag} : CbR (fun xs H Q => ∃ p ys, xs = [.ref p] ∧ ((SqL K H p ys ∧ ∀ l, H l = none → Q (.ref l) (upd H l (.tup ys))) ∨ (SqT K H p ys ∧ Q (.ref p) H))) gTuple := fun vs ds d H Q r e q => by
  unfold gTuple at e
  split at e
  · cases e
    obtain ⟨x, rfl, h⟩ := one_R r
    obtain ⟨p, xs, rfl, h1, h2⟩ := h.lst
    exact ⟨p, xs, rfl, .inl ⟨SqL.of h1, fun l n => q _ _ (same_upd n) (r_tup upd_same (h2.mono (same_upd n)))⟩⟩
  · cases e
    obtain ⟨x, rfl, h⟩ := one_R r
    obtain ⟨p, xs, rfl, h1, h2⟩ := h.tup
    exact ⟨p, xs, rfl, .inr ⟨SqT.of h1, q H _ (Same.refl H) (r_tup h1 h2)⟩⟩
  · cases e
variable {p pos : Pos} {e : Expr} {es : List Expr} {fs : List (Sl → Option PyData)}
theorem de_max [Wd] (hc : X.calm = true) (hm : X.mg "max" = none) (ha : PA X (e :: es) (tDA (evs fs))) (hg : Gl X "max" := by rfl) (he : starEach (e :: es) X.env = (false, eval e X.env) :: starEach es X.env := by rfl) (hpl : (backTo pos (starEach es X.env)).any (·.1) = false := by rfl) :
    PE X (.Call (.Name "max" p) (e :: es) [] pos) (tD (dCall gMax fs)) := PE.sub (pe_callB (cr_max3 hc) hg hm (by decide +kernel) ha (by decide) (by decide) he hpl) (tCB_of cb_max)
theorem de_min [Wd] (hc : X.calm = true) (hm : X.mg "min" = none) (ha : PA X (e :: es) (tDA (evs fs))) (hg : Gl X "min" := by rfl) (he : starEach (e :: es) X.env = (false, eval e X.env) :: starEach es X.env := by rfl) (hpl : (backTo pos (starEach es X.env)).any (·.1) = false := by rfl) :
    PE X (.Call (.Name "min" p) (e :: es) [] pos) (tD (dCall gMin fs)) := PE.sub (pe_callB (cr_min3 hc) hg hm (by decide +kernel) ha (by decide) (by decide) he hpl) (tCB_of cb_min)
theorem de_sum [Wd] (hc : X.calm = true) (hm : X.mg "sum" = none) (ha : PA X (e :: es) (tDA (evs fs))) (hg : Gl X "sum" := by rfl) (he : starEach (e :: es) X.env = (false, eval e X.env) :: starEach es X.env := by rfl) (hpl : (backTo pos (starEach es X.env)).any (·.1) = false := by rfl) :
    PE X (.Call (.Name "sum" p) (e :: es) [] pos) (tD (dCall gSum fs)) := PE.sub (pe_callB (cr_sum hc) hg hm (by decide +kernel) ha (by decide) (by decide) he hpl) (tCB_of cb_sum)
theorem de_len [Wd] (hm : X.mg "len" = none) (ha : PA X (e :: es) (tDA (evs fs))) (hg : Gl X "len" := by rfl) (he : starEach (e :: es) X.env = (false, eval e X.env) :: starEach es X.env := by rfl) (hpl : (backTo pos (starEach es X.env)).any (·.1) = false := by rfl) :
    PE X (.Call (.Name "len" p) (e :: es) [] pos) (tD (dCall gLen fs)) := PE.sub (pe_callB call_len hg hm (by decide +kernel) ha (by decide) (by decide) he hpl) (tCB_of cb_len)
theorem de_toInt [Wd] (hm : X.mg "int" = none) (ha : PA X (e :: es) (tDA (evs fs))) (hg : Gl X "int" := by rfl) (he : starEach (e :: es) X.env = (false, eval e X.env) :: starEach es X.env := by rfl) (hpl : (backTo pos (starEach es X.env)).any (·.1) = false := by rfl) :
    PE X (.Call (.Name "int" p) (e :: es) [] pos) (tD (dCall gInt fs)) := PE.sub (pe_callTy call_int1 hg hm (by decide +kernel) ha (by decide) (by decide) he hpl) (tCB_of cb_int)
theorem de_tuple [Wd] (hm : X.mg "tuple" = none) (ha : PA X (e :: es) (tDA (evs fs))) (hg : Gl X "tuple" := by rfl) (he : starEach (e :: es) X.env = (false, eval e X.env) :: starEach es X.env := by rfl) (hpl : (backTo pos (starEach es X.env)).any (·.1) = false := by rfl) :
    PE X (.Call (.Name "tuple" p) (e :: es) [] pos) (tD (dCall gTuple fs)) := PE.sub (pe_callTy call_tuple_of hg hm (by decide +kernel) ha (by decide) (by decide) he hpl) (tCB_of cb_tuple)
/-- a constant of the module -/
theorem de_gstr [Wd] {x z : Str} (hm : ∃ t, X.mg x = some (.str z t)) (hg : Gl X x := by rfl) (hd : (x == ("__debug__" : Str)) = false := by decide) : PE X (.Name x pos) (tD (dC (.str z))) :=
  let ⟨_, h⟩ := hm
  de_c (pe_glob (v := .str z) hg h ⟨_, rfl⟩ hd) fun _ => r_str
theorem de_gint [Wd] {x : Str} {z : Int} (hm : ∃ t, X.mg x = some (.int z t)) (hg : Gl X x := by rfl) (hd : (x == ("__debug__" : Str)) = false := by decide) : PE X (.Name x pos) (tD (dC (.int z))) :=
  let ⟨_, h⟩ := hm
  de_c (pe_glob (v := .int z) hg h ⟨_, rfl⟩ hd) fun _ => r_int
end
/-! ### str(i), list(x), list displays -/
def gStr : List PyData → Option PyData
  | [.int i] => if small i then some (.str (toString i)) else none
  | _ => none
def gList : List PyData → Option PyData
  | [.list ds] => some (.list ds)
  | [.tuple ds] => some (.list ds)
  | _ => none
def dLst (fs : List (Sl → Option PyData)) : Sl → Option PyData := fun s => match evs fs s with
  | some ds => some (.list ds)
  | none => none
theorem cb_str [Wd] : CbR (fun xs H Q => ∃ i, xs = [.int i] ∧ i.natAbs.log2 < 1920 ∧ Q (.str (toString i)) H) gStr := fun vs ds d H Q r e q => by
  unfold gStr at e
  split at e
  · split at e
    · rename_i i hs
      cases e
      obtain ⟨x, rfl, h⟩ := one_R r
      refine ⟨i, by rw [h.int], ?_, q H _ (Same.refl H) r_str⟩
      obtain ⟨a, b⟩ := hs
      have h0 : i.natAbs < 2 ^ 1920 := Nat.lt_of_lt_of_le (show i.natAbs < 2 ^ 20 by omega) (Nat.pow_le_pow_right (by decide) (by decide))
      by_cases z : i.natAbs = 0
      · rw [z]
        decide
      · exact (Nat.log2_lt z).mpr h0
    · cases e
  · cases e
theorem cb_list [Wd] {K : PySem.W.Frag} : CbR (fun xs H Q => ∃ p ys, xs = [.ref p] ∧ (SqL K H p ys ∨ SqT K H p ys) ∧ ∀ l, H l = none → Q (.ref l) (upd H l (.lst ys))) gList := fun vs ds d H Q r e q => by
  unfold gList at e
  split at e
  · cases e
    obtain ⟨x, rfl, h⟩ := one_R r
    obtain ⟨p, xs, rfl, h1, h2⟩ := h.lst
    exact ⟨p, xs, rfl, .inl (SqL.of h1), fun l n => q _ _ (same_upd n) (r_lst upd_same (h2.mono (same_upd n)))⟩
  · cases e
    obtain ⟨x, rfl, h⟩ := one_R r
    obtain ⟨p, xs, rfl, h1, h2⟩ := h.tup
    exact ⟨p, xs, rfl, .inr (SqT.of h1), fun l n => q _ _ (same_upd n) (r_lst upd_same (h2.mono (same_upd n)))⟩
  · cases e
section
variable {X : Cx} {p pos : Pos} {e : Expr} {es : List Expr} {fs : List (Sl → Option PyData)}
theorem de_strI [Wd] (hm : X.mg "str" = none) (ha : PA X (e :: es) (tDA (evs fs))) (hg : Gl X "str" := by rfl) (he : starEach (e :: es) X.env = (false, eval e X.env) :: starEach es X.env := by rfl) (hpl : (backTo pos (starEach es X.env)).any (·.1) = false := by rfl) :
    PE X (.Call (.Name "str" p) (e :: es) [] pos) (tD (dCall gStr fs)) := PE.sub (pe_callTy call_str_int hg hm (by decide +kernel) ha (by decide) (by decide) he hpl) (tCB_of cb_str)
theorem de_list [Wd] (hm : X.mg "list" = none) (ha : PA X (e :: es) (tDA (evs fs))) (hg : Gl X "list" := by rfl) (he : starEach (e :: es) X.env = (false, eval e X.env) :: starEach es X.env := by rfl) (hpl : (backTo pos (starEach es X.env)).any (·.1) = false := by rfl) :
    PE X (.Call (.Name "list" p) (e :: es) [] pos) (tD (dCall gList fs)) := PE.sub (pe_callTy call_list_of hg hm (by decide +kernel) ha (by decide) (by decide) he hpl) (tCB_of cb_list)
theorem de_lst [Wd] (h : PA X es (tDA (evs fs))) (hl : fs.length ≤ 20 := by decide) : PE X (.List es pos) (tD (dLst fs)) :=
  PE.sub (pe_lst h) fun σ H Q ⟨sd, d, hs, hf, q⟩ => by
    unfold dLst at hf
    split at hf
    · rename_i ds e1
      cases hf
      refine ⟨sd, ds, hs, e1, fun H1 xs s1 r1 => ⟨?_, fun p n => q _ _ (s1.trans (same_upd n)) (r_lst upd_same (r1.mono (same_upd n)))⟩⟩
      rw [r1.length, evs_len e1]
      exact Nat.le_trans hl (by decide)
    · cases hf
end
/-! ### list comprehensions -/
def lcD (i : Nat) (t : Sl → Option Bool) (f : Sl → Option PyData) : List PyData → Sl → Option (List PyData)
  | [], _ => some []
  | d :: ds, s => match t (s.set i (some d)) with
    | some true => (match f (s.set i (some d)) with
      | some e => if noL e = true then (match lcD i t f ds s with
        | some es => some (e :: es)
        | none => none) else none
      | none => none)
    | some false => lcD i t f ds s
    | none => none
theorem lcD_len {i : Nat} {t : Sl → Option Bool} {f : Sl → Option PyData} {s : Sl} : ∀ {ds es : List PyData}, lcD i t f ds s = some es → es.length ≤ ds.length
  | [], es, h => by cases h; exact Nat.le_refl 0
  | d :: ds, es, h => by
    unfold lcD at h
    split at h
    · split at h
      · split at h
        · split at h
          · rename_i e2
            cases h
            have := lcD_len e2
            simp
            omega
          · cases h
        · cases h
      · cases h
    · have := lcD_len h
      simp
      omega
    · cases h
def dLc (i : Nat) (it : Sl → Option (List PyData)) (t : Sl → Option Bool) (f : Sl → Option PyData) : Sl → Option PyData := fun s => match it s with
  | some ds => if ds.length ≤ 1000 then (match lcD i t f ds s with
    | some es => some (.list es)
    | none => none) else none
  | none => none
def dYes : Sl → Option Bool := fun _ => some true
theorem tYes_of [Wd] {σ : L2.St} {H : Hp} {Q : Bool → Hp → Prop} (h : tDT dYes σ H Q) : tYes σ H Q := by
  obtain ⟨sd, b, hs, hf, q⟩ := h
  cases hf
  exact q H (Same.refl H)
theorem PTs.sub {X : Cx} {e : List Expr} {t t' : TT} (h : PTs X e t) (i : ∀ σ H Q, t' σ H Q → t σ H Q) : PTs X e t' := ⟨fun pins s σ H Q I q => h.run pins s σ H Q I (i _ _ _ q)⟩
theorem dts_nil [Wd] {X : Cx} : PTs X [] (tDT dYes) := PTs.sub pts_nil fun _ _ _ => tYes_of
theorem dts_one [Wd] {X : Cx} {c : Expr} {g : Sl → Option Bool} (h : PT X c (tDT g)) : PTs X [c] (tDT g) := pts_one h
theorem RS.wipe [Wd] {H : Hp} {σ : L2.St} {sd : Sl} (h : RS H σ sd) (i : Nat) : RS H (wipe σ [i]) (sd.set i none) := by
  have e : L2.wipe σ [i] = σ.set i none := rfl
  rw [e]
  refine ⟨by simp [h.len], fun j d q => ?_⟩
  by_cases hij : i = j
  · subst hij
    rw [List.getElem?_set] at q
    by_cases hl : i < sd.length
    · simp [hl] at q
    · simp [hl] at q
  · rw [List.getElem?_set_ne hij] at q
    obtain ⟨v, a, b⟩ := h.get j d q
    exact ⟨v, by rw [List.getElem?_set_ne hij]; exact a, b⟩
theorem wipe_back {σ : L2.St} {i : Nat} {v : V} : wipe ((wipe σ [i]).set i (some v)) [i] = wipe σ [i] := by
  show ((σ.set i none).set i (some v)).set i none = σ.set i none
  rw [List.set_set, List.set_set]
theorem grow_upd {H : Hp} {D : Addr} {xs : List V} {o : HO} (h : H D = some (.lst xs)) : Grow H (upd H D o) := fun b ys e => by
  rw [upd_ne (ne_of e h (by intro z; cases z))]
  exact e
theorem tLc_of [Wd] {i : Nat} {it : Sl → Option (List PyData)} {t : Sl → Option Bool} {f : Sl → Option PyData} (σ : L2.St) (H : Hp) (Q : VK) (h : tD (dLc i it t f) σ H Q) : tLc (iD it) (gName i) (tDT t) (tD f) [i] σ H Q := by
  obtain ⟨sd, d, hs, hf, q⟩ := h
  unfold dLc at hf
  split at hf
  · rename_i ds e1
    split at hf
    · rename_i hz
      split at hf
      · rename_i es e2
        cases hf
        refine ⟨sd, ds, hs, e1, fun J H1 Gd s1 g1 fd D hD => ?_⟩
        refine ⟨fun k m H' => k + m = ds.length ∧ Same H1 H' ∧ ∃ acc da rest, H' D = some (.lst acc) ∧ RAll H' acc da ∧ noLs da = true ∧ da.length ≤ k ∧ lcD i t f (ds.drop k) sd = some rest ∧ es = da ++ rest,
          ⟨ds.length, by simp, same_upd hD, [], [], es, upd_same, ra_nil, rfl, Nat.le_refl 0, by simpa using e2, rfl⟩, ?_⟩
        rintro k m H' ⟨hk, s2, acc, da, rest, hacc, ra, nl, hlen, hl, hes⟩
        have g2 : Gd H' := fd.keep _ _ g1 s2
        by_cases hlt : k < ds.length
        · refine .inr ⟨fd.go k H' hlt g2, fun H3 => Same H1 H3 ∧ ∃ acc da rest, H3 D = some (.lst acc) ∧ RAll H3 acc da ∧ noLs da = true ∧ da.length ≤ k + 1 ∧ lcD i t f (ds.drop (k + 1)) sd = some rest ∧ es = da ++ rest, ?_, ?_⟩
          · rintro H3 ⟨s3, r3⟩
            exact ⟨m - 1, by omega, by omega, s3, r3⟩
          · intro x H3 hy
            obtain ⟨rfl, d, hd, r⟩ := fd.yld k H' x H3 hlt g2 hy
            have ed : ds.drop k = d :: ds.drop (k + 1) := by
              rw [List.drop_eq_getElem_cons hlt]
              rw [List.getElem?_eq_getElem hlt] at hd
              cases hd
              rfl
            rw [ed] at hl
            unfold lcD at hl
            have hset : (sd.set i none).set i (some d) = sd.set i (some d) := List.set_set ..
            have rs' : RS H3 ((wipe σ [i]).set i (some x)) (sd.set i (some d)) := by
              rw [← hset]
              exact ((hs.mono (s1.trans s2)).wipe i).set i r
            refine ⟨wipe_back, ?_⟩
            split at hl
            · rename_i et
              refine ⟨_, true, rs', et, fun H4 s4 => iteT ?_⟩
              split at hl
              · rename_i ee ef
                split at hl
                · rename_i hn
                  split at hl
                  · rename_i es' el
                    cases hl
                    refine ⟨_, ee, rs'.mono s4, ef, fun H5 v s5 r5 => ?_⟩
                    have s35 : Same H3 H5 := s4.trans s5
                    refine ⟨acc, s35 _ _ hacc, ?_, ?_⟩
                    · rw [ra.length]
                      exact Nat.lt_of_le_of_lt (Nat.le_trans hlen (Nat.le_trans (Nat.le_of_lt hlt) hz)) (by decide)
                    · have gr := grow_upd (o := .lst (acc ++ [v])) (s35 _ _ hacc)
                      have nl' : noLs (da ++ [ee]) = true := by
                        clear hes hlen ra
                        induction da with
                        | nil =>
                          show (noL ee && noLs []) = true
                          rw [hn]
                          rfl
                        | cons a r ih =>
                          unfold noLs at nl
                          obtain ⟨n1, n2⟩ := Bool.and_eq_true_iff.mp nl
                          show (noL a && noLs (r ++ [ee])) = true
                          rw [n1, ih n2]
                          rfl
                      refine ⟨fun b o e => ?_, acc ++ [v], da ++ [ee], es', upd_same, ?_, nl', by simp; omega, el, by rw [hes]; simp⟩
                      · rw [upd_ne (ne_of_none e hD)]
                        exact s35 _ _ (s2 _ _ e)
                      · exact RAll.grow gr nl' ((ra.mono s35).snoc r5)
                  · cases hl
                · cases hl
              · cases hl
            · rename_i et
              refine ⟨_, false, rs', et, fun H4 s4 => iteF ?_⟩
              exact ⟨s2.trans s4, acc, da, rest, s4 _ _ hacc, ra.mono s4, nl, by omega, hl, hes⟩
            · cases hl
        · have ek : k = ds.length := by omega
          subst ek
          refine .inl ⟨fd.stop H' g2, ?_⟩
          rw [List.drop_length] at hl
          cases hl
          rw [List.append_nil] at hes
          subst hes
          exact q H' _ (s1.trans s2) (r_lst hacc ra)
      · cases hf
    · cases hf
  · cases hf
section
variable {X : Cx} {elt tg iter : Expr} {ifs : List Expr} {scope : Scope} {x : Str} {i : Nat} {pos : Pos} {it : Sl → Option (List PyData)} {t : Sl → Option Bool} {f : Sl → Option PyData}
theorem de_lc [Wd] (hc : X.calm = true) (hN : X.N.Nodup) (hi : PI X tg iter (iD it)) (ok : BlkOk X.N X.env.scope scope [(x, i)])
    (hg : ∀ (s : Shared) (H : Hp) (C : Addr) (cl : List (Str × Addr)) (fp : List Addr), PG (X.blk s H scope (compEnvC scope cl C X.env) fp) tg (gName i)) (ht : ∀ (s : Shared) (H : Hp) (C : Addr) (cl : List (Str × Addr)) (fp : List Addr), PTs (X.blk s H scope (compEnvC scope cl C X.env) fp) ifs (tDT t))
    (he : ∀ (s : Shared) (H : Hp) (C : Addr) (cl : List (Str × Addr)) (fp : List Addr), PE (X.blk s H scope (compEnvC scope cl C X.env) fp) elt (tD f)) (hs : ∀ x, foldedSetIterable iter X.env x = pure x := by intro _; rfl) :
    PE X (.ListComp elt [⟨tg, iter, ifs, 0⟩] scope pos) (tD (dLc i it t f)) := PE.sub (pe_lc (own := [(x, i)]) hc hN hi ok hg ht he hs) tLc_of
theorem ds_setLc [Wd] {j : Nat} {y : Str} {py spos : Pos} (hc : X.calm = true) (hN : X.N.Nodup) (hy : X.N[j]? = some y) (hyl : X.env.scope.names.lookup y = some .local)
    (hsw : swapsWith (.ListComp elt [⟨tg, iter, ifs, 0⟩] scope pos) (some (.Name y py)) spos.line X.env = PySem.Sem.pure true) (hi : PI X tg iter (iD it)) (ok : BlkOk X.N X.env.scope scope [(x, i)])
    (hg : ∀ (s : Shared) (H : Hp) (C : Addr) (cl : List (Str × Addr)) (fp : List Addr), PG (X.blk s H scope (compEnvC scope cl C X.env) fp) tg (gName i)) (ht : ∀ (s : Shared) (H : Hp) (C : Addr) (cl : List (Str × Addr)) (fp : List Addr), PTs (X.blk s H scope (compEnvC scope cl C X.env) fp) ifs (tDT t))
    (he : ∀ (s : Shared) (H : Hp) (C : Addr) (cl : List (Str × Addr)) (fp : List Addr), PE (X.blk s H scope (compEnvC scope cl C X.env) fp) elt (tD f)) (hs : ∀ x, foldedSetIterable iter X.env x = PySem.Sem.pure x := by intro _; rfl) :
    PS X (.Assign [.Name y py] (.ListComp elt [⟨tg, iter, ifs, 0⟩] scope pos) spos) (tDS (dSet j (dLc i it t f))) :=
  PS.sub (ps_setLc (own := [(x, i)]) hc hN hy hyl hsw hi ok hg ht he hs) fun D σ H ⟨sd, o, hs, hf, q⟩ => by
    unfold dSet at hf
    split at hf
    · rename_i u e1
      cases hf
      exact tLc_of σ H _ ⟨sd, u, hs, e1, fun H1 x s1 r1 => q _ H1 s1 ((hs.mono s1).set j r1)⟩
    · cases hf
end
end Cs
namespace Cs
open PySem PySem.Spec PyProof.Rows L2
/-! ### dicts of identities in data -/
def nidOf : PyData → Option Nid
  | .tuple [.none, .str r, .str k] => some ⟨none, r, k⟩
  | .tuple [.int i, .str r, .str k] => some ⟨some i, r, k⟩
  | _ => none
theorem nidOf_D (n : Nid) : nidOf (nidD n) = some n := by
  obtain ⟨p, r, k⟩ := n
  cases p <;> rfl
theorem nidOf_eq {d : PyData} {n : Nid} (h : nidOf d = some n) : d = nidD n := by
  unfold nidOf at h
  split at h
  · cases h; rfl
  · cases h; rfl
  · cases h
def lookD (kvs : List (PyData × PyData)) (n : Nid) : Option PyData := (kvs.find? fun e => decide (nidOf e.1 = some n)).map (·.2)
def putD (kvs : List (PyData × PyData)) (n : Nid) (v : PyData) : List (PyData × PyData) := if (lookD kvs n).isSome then kvs.map (fun e => if nidOf e.1 = some n then (e.1, v) else e) else kvs ++ [(nidD n, v)]
def RO [Wd] (H : Hp) : Option V → Option PyData → Prop
  | none, none => True
  | some v, some d => R H v d
  | _, _ => False
theorem look_RO [Wd] {H : Hp} (n : Nid) : ∀ {kvs : List (PyData × PyData)} {es : List Ent}, RKv H es kvs → RO H (look es n) (lookD kvs n)
  | [], _, h => by rw [h.nil]; exact True.intro
  | (k, d) :: r, _, h => by
    obtain ⟨m, q, x, s, rfl, rfl, h1, h2⟩ := h.cons
    by_cases e : m = n
    · have b1 : look ((m, q, x) :: s) n = some x := by simp [look, List.find?_cons, e]
      have b2 : lookD ((nidD m, d) :: r) n = some d := by simp [lookD, List.find?_cons, e, nidOf_D]
      rw [b1, b2]
      exact h1
    · have b1 : look ((m, q, x) :: s) n = look s n := by simp [look, List.find?_cons, e]
      have b2 : lookD ((nidD m, d) :: r) n = lookD r n := by simp [lookD, List.find?_cons, e, nidOf_D]
      rw [b1, b2]
      exact look_RO n h2
theorem RO.some_eq [Wd] {H : Hp} {a : Option V} {b : Option PyData} (h : RO H a b) : a.isSome = b.isSome := by
  cases a <;> cases b <;> first | rfl | exact h.elim
theorem RO.getD [Wd] {H : Hp} {a : Option V} {b : Option PyData} {v : V} {d : PyData} (h : RO H a b) (r : R H v d) : R H (a.getD v) (b.getD d) := by
  cases a <;> cases b <;> first | exact r | exact h | exact h.elim
theorem put_RKv [Wd] {H : Hp} {n : Nid} {q : Addr} {x : V} {d : PyData} {kvs : List (PyData × PyData)} {es : List Ent} (h : RKv H es kvs) (r : R H x d) : RKv H (put es n q x) (putD kvs n d) := by
  have e := (look_RO n h).some_eq
  unfold put putD
  rw [e]
  by_cases c : (lookD kvs n).isSome = true
  · rw [if_pos c, if_pos c]
    clear e c
    induction kvs generalizing es with
    | nil => rw [h.nil]; exact rk_nil
    | cons kd t ih =>
      obtain ⟨k, d0⟩ := kd
      obtain ⟨m, q0, x0, s, rfl, rfl, h1, h2⟩ := h.cons
      rw [List.map_cons, List.map_cons]
      by_cases e : m = n
      · rw [if_pos e, if_pos (by rw [e, nidOf_D])]
        exact rk_cons r (ih h2)
      · rw [if_neg e, if_neg (by rw [nidOf_D]; intro z; exact e (Option.some.inj z))]
        exact rk_cons h1 (ih h2)
  · rw [if_neg c, if_neg c]
    clear e c
    induction kvs generalizing es with
    | nil => rw [h.nil]; exact rk_cons r rk_nil
    | cons kd t ih =>
      obtain ⟨k, d0⟩ := kd
      obtain ⟨m, q0, x0, s, rfl, rfl, h1, h2⟩ := h.cons
      exact rk_cons h1 (ih h2)
def nlv (kvs : List (PyData × PyData)) : Prop := ∀ e ∈ kvs, noL e.2 = true
theorem RKv.grow [Wd] {H H' : Hp} (e : Grow H H') : ∀ {kvs : List (PyData × PyData)} {es : List Ent}, nlv kvs → RKv H es kvs → RKv H' es kvs
  | [], _, _, h => by rw [h.nil]; exact rk_nil
  | (k, d) :: r, _, nl, h => by
    obtain ⟨m, q, x, s, rfl, rfl, h1, h2⟩ := h.cons
    exact rk_cons (h1.grow e (nl _ List.mem_cons_self)) (RKv.grow e (fun z hz => nl z (List.mem_cons_of_mem _ hz)) h2)
theorem Keys.grow {H H' : Hp} (e : Grow H H') {es : List Ent} (h : Keys H es) : Keys H' es := fun x hx => e _ _ (h x hx)
theorem Keys.put {H : Hp} {es : List Ent} {n : Nid} {q : Addr} {x : V} (h : Keys H es) (hq : H q = some (.tup (nidV n))) : Keys H (put es n q x) := by
  intro e he
  unfold Cs.put at he
  split at he
  · obtain ⟨e0, h0, rfl⟩ := List.mem_map.mp he
    have := h e0 h0
    split
    · exact this
    · exact this
  · rcases List.mem_append.mp he with z | z
    · exact h e z
    · have : e = (n, q, x) := by simpa using z
      rw [this]
      exact hq
theorem nlv_put {kvs : List (PyData × PyData)} {n : Nid} {v : PyData} (h : nlv kvs) (hv : noL v = true) : nlv (putD kvs n v) := by
  intro e he
  unfold putD at he
  split at he
  · obtain ⟨e0, h0, rfl⟩ := List.mem_map.mp he
    split
    · exact hv
    · exact h e0 h0
  · rcases List.mem_append.mp he with z | z
    · exact h e z
    · have : e = (nidD n, v) := by simpa using z
      rw [this]
      exact hv
theorem RKv.fst [Wd] {H : Hp} : ∀ {kvs : List (PyData × PyData)} {es : List Ent}, RKv H es kvs → kvs.map (·.1) = es.map (fun e => nidD e.1)
  | [], _, h => by rw [h.nil]; rfl
  | (k, d) :: r, _, h => by
    obtain ⟨m, q, x, s, rfl, rfl, h1, h2⟩ := h.cons
    rw [List.map_cons, List.map_cons, RKv.fst h2]
theorem RKv.length [Wd] {H : Hp} {kvs : List (PyData × PyData)} {es : List Ent} (h : RKv H es kvs) : kvs.length = es.length := by
  have := congrArg List.length h.fst
  simpa using this
/-! membership, get -/
def gInK : PyData → PyData → Option PyData
  | k, .dict kvs => (match nidOf k with
    | some n => some (.bool (lookD kvs n).isSome)
    | none => none)
  | _, _ => none
def gNotInK : PyData → PyData → Option PyData
  | k, .dict kvs => (match nidOf k with
    | some n => some (.bool (!(lookD kvs n).isSome))
    | none => none)
  | _, _ => none
def gGet1 : PyData → PyData → Option PyData
  | .dict kvs, k => (match nidOf k with
    | some n => some ((lookD kvs n).getD .none)
    | none => none)
  | _, _ => none
section
variable [Wd] {X : Cx} {a b c : Expr} {f f1 f2 f3 : Sl → Option PyData} {pos : Pos}
theorem im_inK (hT : nT X.prog X.w = nT Wd.P Wd.w) (σ : L2.St) (H : Hp) (Q : VK) (h : tD (dBin gInK f1 f2) σ H Q) : tOp (rInN X.prog X.w false) (tD f1) (tD f2) σ H Q := (tOp_of fun x y u v d H Q r1 r2 e q => by
  unfold gInK at e
  split at e
  · rename_i k kvs
    split at e
    · rename_i n en
      cases e
      rw [nidOf_eq en] at r1
      obtain ⟨p, rfl, hp⟩ := nid_R r1
      obtain ⟨a, od, es, rfl, ha, hk, rk⟩ := r2.dict
      refine ⟨p, a, n, es, rfl, rfl, hp, .inr ⟨od, by rw [hT]; exact ha⟩, hk, ?_⟩
      have := q H _ (Same.refl H) (r_bl (b := (lookD kvs n).isSome))
      rw [← (look_RO n rk).some_eq] at this
      simpa using this
    · cases e
  · cases e) σ H Q h
theorem im_notInK (hT : nT X.prog X.w = nT Wd.P Wd.w) (σ : L2.St) (H : Hp) (Q : VK) (h : tD (dBin gNotInK f1 f2) σ H Q) : tOp (rInN X.prog X.w true) (tD f1) (tD f2) σ H Q := (tOp_of fun x y u v d H Q r1 r2 e q => by
  unfold gNotInK at e
  split at e
  · rename_i k kvs
    split at e
    · rename_i n en
      cases e
      rw [nidOf_eq en] at r1
      obtain ⟨p, rfl, hp⟩ := nid_R r1
      obtain ⟨a, od, es, rfl, ha, hk, rk⟩ := r2.dict
      refine ⟨p, a, n, es, rfl, rfl, hp, .inr ⟨od, by rw [hT]; exact ha⟩, hk, ?_⟩
      have := q H _ (Same.refl H) (r_bl (b := !(lookD kvs n).isSome))
      rw [← (look_RO n rk).some_eq] at this
      simpa using this
    · cases e
  · cases e) σ H Q h
theorem dt_inK (hu : X.A.units + 64 < cLine) (ha : PE X a (tD f1)) (hb : PE X b (tD f2)) (hT : nT X.prog X.w = nT Wd.P Wd.w := by rfl) (hm : behindInMarks .In b = false := by rfl) : PT X (.Compare a [.In] [b] pos) (tDT (dTest (dBin gInK f1 f2))) := dt_of (pt_cmpR (op_inN (by omega)) ha hb hm) (im_inK hT)
theorem dt_notInK (hu : X.A.units + 64 < cLine) (ha : PE X a (tD f1)) (hb : PE X b (tD f2)) (hT : nT X.prog X.w = nT Wd.P Wd.w := by rfl) (hm : behindInMarks .NotIn b = false := by rfl) : PT X (.Compare a [.NotIn] [b] pos) (tDT (dTest (dBin gNotInK f1 f2))) := dt_of (pt_cmpR (op_notInN (by omega)) ha hb hm) (im_notInK hT)
theorem de_get1 {apos : Pos} (hu : X.A.units + 64 < cLine) (ha : PE X a (tD f1)) (hb : PE X b (tD f2)) (m : M1 X a "get" apos b pos := by exact ⟨rfl, rfl, rfl, rfl⟩) (hT : nT X.prog X.w = nT Wd.P Wd.w := by rfl) : PE X (.Call (.Attribute a "get" apos) [b] [] pos) (tD (dBin gGet1 f1 f2)) :=
  PE.sub (pe_nget1 (by omega) ha hb m) fun σ H Q ⟨sd, d, hs, hf, q⟩ => by
    obtain ⟨u, v, e1, e2, e3⟩ := dBin_inv hf
    unfold gGet1 at e3
    split at e3
    · rename_i kvs k
      split at e3
      · rename_i n en
        cases e3
        refine ⟨sd, _, hs, e1, fun H1 x s1 r1 => ?_⟩
        obtain ⟨p, od, es, rfl, hp, hk, rk⟩ := r1.dict
        refine ⟨p, es, rfl, .inr ⟨od, by rw [hT]; exact hp⟩, sd, _, hs.mono s1, e2, fun H2 y s2 r2 => ?_⟩
        rw [nidOf_eq en] at r2
        obtain ⟨b, rfl, hb⟩ := nid_R r2
        exact ⟨b, n, es, rfl, hb, .inr ⟨od, by rw [hT]; exact s2 _ _ hp⟩, hk.mono s2, q H2 _ (s1.trans s2) ((look_RO n (rk.mono s2)).getD r_non)⟩
      · cases e3
    · cases e3
end
/-! walks over keys; list(d) -/
theorem feeds_keys [Wd] (a : Addr) (od : Obj) (es : List Ent) : Feeds (Itn Wd.P Wd.w a od es) (fun H => H a = some (.frz od (nT Wd.P Wd.w a es)) ∧ Keys H es) (es.map fun e => nidD e.1) where
  keep := fun H H' ⟨h1, h2⟩ s => ⟨s _ _ h1, h2.mono s⟩
  go := fun i H hi ⟨h1, h2⟩ => ⟨h1, h2, by simpa using hi⟩
  stop := fun H ⟨h1, h2⟩ => ⟨h1, h2, by simp⟩
  yld := fun i H x H' hi ⟨h1, h2⟩ ⟨e, en, e1, e2⟩ => by
    refine ⟨e, nidD en.1, by rw [List.getElem?_map, e1]; rfl, ?_⟩
    rw [e2]
    exact r_nid (h2 en (List.mem_of_getElem? e1))
def iKy (f : Sl → Option PyData) : Sl → Option (List PyData) := fun s => match f s with
  | some (.dict kvs) => some (kvs.map (·.1))
  | _ => none
def gListK : List PyData → Option PyData
  | [.dict kvs] => some (.list (kvs.map (·.1)))
  | _ => none
theorem ra_keys [Wd] {H : Hp} : ∀ {es : List Ent}, Keys H es → RAll H (es.map fun e => V.ref e.2.1) (es.map fun e => nidD e.1)
  | [], _ => ra_nil
  | e :: r, h => ra_cons (r_nid (h e List.mem_cons_self)) (ra_keys fun z hz => h z (List.mem_cons_of_mem _ hz))
section
variable [Wd] {X : Cx} {tg a : Expr} {es : List Expr} {f f1 f2 : Sl → Option PyData} {fs : List (Sl → Option PyData)} {p pos : Pos}
theorem di_keys (h : PE X a (tD f)) (hP : Wd.P = X.prog := by rfl) (hw : Wd.w = X.w := by rfl) : PI X tg a (iD (iKy f)) := PI.sub (pi_keysN h) fun σ H Q ⟨sd, ds, hs, hf, q⟩ => by
  unfold iKy at hf
  split at hf
  · rename_i kvs e1
    cases hf
    refine ⟨sd, _, hs, e1, fun H1 x s1 r1 => ?_⟩
    obtain ⟨a, od, es, rfl, h1, hk, rk⟩ := r1.dict
    rw [rk.fst] at q
    rw [← hP, ← hw]
    exact ⟨a, od, es, rfl, h1, hk, q _ _ _ s1 ⟨h1, hk⟩ (feeds_keys a od es)⟩
  · cases hf
theorem cb_listK (P : Program) (w : World) (hT : nT P w = nT Wd.P Wd.w) : CbR (fun xs H Q => ∃ d od kvs, xs = [V.ref d] ∧ H d = some (.frz od (nT P w d kvs)) ∧ Keys H kvs ∧ ∀ p, H p = none → Q (.ref p) (upd H p (.lst (kvs.map fun e => V.ref e.2.1)))) gListK := fun vs ds d H Q r e q => by
  unfold gListK at e
  split at e
  · cases e
    obtain ⟨x, rfl, h⟩ := one_R r
    obtain ⟨a, od, es, rfl, h1, hk, rk⟩ := h.dict
    rw [rk.fst] at q
    exact ⟨a, od, es, rfl, by rw [hT]; exact h1, hk, fun p n => q _ _ (same_upd n) (r_lst upd_same ((ra_keys hk).mono (same_upd n)))⟩
  · cases e
theorem de_listK {e : Expr} (hc : X.calm = true) (hm : X.mg "list" = none) (ha : PA X (e :: es) (tDA (evs fs))) (hg : Gl X "list" := by rfl) (he : starEach (e :: es) X.env = (false, eval e X.env) :: starEach es X.env := by rfl) (hpl : (backTo pos (starEach es X.env)).any (·.1) = false := by rfl) (hT : nT X.prog X.w = nT Wd.P Wd.w := by rfl) :
    PE X (.Call (.Name "list" p) (e :: es) [] pos) (tD (dCall gListK fs)) := PE.sub (pe_callTy (call_listN hc) hg hm (by decide +kernel) ha (by decide) (by decide) he hpl) (tCB_of (cb_listK X.prog X.w hT))
end
/-! ### dict comprehensions -/
def dcD (i : Nat) (t : Sl → Option Bool) (fk fv : Sl → Option PyData) : List PyData → Sl → List (PyData × PyData) → Option (List (PyData × PyData))
  | [], _, acc => some acc
  | d :: ds, s, acc => match t (s.set i (some d)) with
    | some true => (match fk (s.set i (some d)) with
      | some k => (match nidOf k with
        | some n => (match fv (s.set i (some d)) with
          | some v => if noL v = true then dcD i t fk fv ds s (putD acc n v) else none
          | none => none)
        | none => none)
      | none => none)
    | some false => dcD i t fk fv ds s acc
    | none => none
def dDc (i : Nat) (it : Sl → Option (List PyData)) (t : Sl → Option Bool) (fk fv : Sl → Option PyData) : Sl → Option PyData := fun s => match it s with
  | some ds => if ds.length ≤ 1000 then (match dcD i t fk fv ds s [] with
    | some es => some (.dict es)
    | none => none) else none
  | none => none
theorem grow_updN {P : Program} {w : World} {H : Hp} {D : Addr} {xs : List Ent} {o : HO} (h : H D = some (nT P w D xs)) : Grow H (upd H D o) := fun b ys e => by
  rw [upd_ne (ne_of e h (by intro z; cases z))]
  exact e
theorem tDc_of [Wd] {i : Nat} {it : Sl → Option (List PyData)} {t : Sl → Option Bool} {fk fv : Sl → Option PyData} (Qd : PyData → V → Hp → Prop) (σ : L2.St) (H : Hp) (sd : Sl) (d : PyData) (hs : RS H σ sd) (hf : dDc i it t fk fv sd = some d) (Q : VK)
    (q : ∀ (H' : Hp) (D : Addr) (es : List Ent) (kvs : List (PyData × PyData)), d = .dict kvs → H D = none → Same H H' → H' D = some (nT Wd.P Wd.w D es) → Keys H' es → RKv H' es kvs → nlv kvs → Q (.ref D) H') : tDcN Wd.P Wd.w (iD it) (gName i) (tDT t) (tD fk) (tD fv) [i] σ H Q := by
  unfold dDc at hf
  split at hf
  · rename_i ds e1
    split at hf
    · rename_i hz
      split at hf
      · rename_i out e2
        cases hf
        refine ⟨sd, ds, hs, e1, fun J H1 Gd s1 g1 fd D hD => ?_⟩
        have hD0 : H D = none := by
          cases e : H D with
          | none => rfl
          | some o => rw [s1 _ _ e] at hD; cases hD
        refine ⟨fun k m H' => k + m = ds.length ∧ Same H1 H' ∧ ∃ es kv, H' D = some (nT Wd.P Wd.w D es) ∧ Keys H' es ∧ RKv H' es kv ∧ nlv kv ∧ es.length ≤ k ∧ dcD i t fk fv (ds.drop k) sd kv = some out,
          ⟨ds.length, by simp, same_upd hD, [], [], upd_same, (fun e he => nomatch he), rk_nil, (fun e he => nomatch he), Nat.le_refl 0, by simpa using e2⟩, ?_⟩
        rintro k m H' ⟨hk, s2, es, kv, hacc, hkeys, rk, nl, hlen, hl⟩
        have g2 : Gd H' := fd.keep _ _ g1 s2
        by_cases hlt : k < ds.length
        · refine .inr ⟨fd.go k H' hlt g2, fun H3 => Same H1 H3 ∧ ∃ es kv, H3 D = some (nT Wd.P Wd.w D es) ∧ Keys H3 es ∧ RKv H3 es kv ∧ nlv kv ∧ es.length ≤ k + 1 ∧ dcD i t fk fv (ds.drop (k + 1)) sd kv = some out, ?_, ?_⟩
          · rintro H3 ⟨s3, r3⟩
            exact ⟨m - 1, by omega, by omega, s3, r3⟩
          · intro x H3 hy
            obtain ⟨rfl, d, hd, r⟩ := fd.yld k H' x H3 hlt g2 hy
            have ed : ds.drop k = d :: ds.drop (k + 1) := by
              rw [List.drop_eq_getElem_cons hlt]
              rw [List.getElem?_eq_getElem hlt] at hd
              cases hd
              rfl
            rw [ed] at hl
            unfold dcD at hl
            have hset : (sd.set i none).set i (some d) = sd.set i (some d) := List.set_set ..
            have rs' : RS H3 ((wipe σ [i]).set i (some x)) (sd.set i (some d)) := by
              rw [← hset]
              exact ((hs.mono (s1.trans s2)).wipe i).set i r
            refine ⟨wipe_back, ?_⟩
            split at hl
            · rename_i et
              refine ⟨_, true, rs', et, fun H4 s4 => iteT ?_⟩
              split at hl
              · rename_i kd ek
                split at hl
                · rename_i n en
                  split at hl
                  · rename_i vd ev
                    split at hl
                    · rename_i hn
                      refine ⟨_, kd, rs'.mono s4, ek, fun H5 y s5 r5 => ⟨_, vd, (rs'.mono s4).mono s5, ev, fun H6 z s6 r6 => ?_⟩⟩
                      rw [nidOf_eq en] at r5
                      obtain ⟨q0, rfl, hq0⟩ := nid_R (r5.mono s6)
                      have s36 : Same H3 H6 := (s4.trans s5).trans s6
                      have hD6 := s36 _ _ hacc
                      have gr := grow_updN (o := nT Wd.P Wd.w D (put es n q0 z)) hD6
                      refine ⟨es, n, q0, rfl, hq0, hD6, hkeys.mono s36, Nat.lt_of_le_of_lt (Nat.le_trans hlen (Nat.le_trans (Nat.le_of_lt hlt) hz)) (by decide), ?_⟩
                      refine ⟨fun b o e => ?_, put es n q0 z, _, upd_same, ((hkeys.mono s36).put hq0).grow gr, RKv.grow gr (nlv_put nl hn) (put_RKv (rk.mono s36) r6), nlv_put nl hn, ?_, hl⟩
                      · rw [upd_ne (ne_of_none e hD)]
                        exact s36 _ _ (s2 _ _ e)
                      · have := put_len es n q0 z
                        omega
                    · cases hl
                  · cases hl
                · cases hl
              · cases hl
            · rename_i et
              refine ⟨_, false, rs', et, fun H4 s4 => iteF ?_⟩
              exact ⟨s2.trans s4, es, kv, s4 _ _ hacc, hkeys.mono s4, rk.mono s4, nl, by omega, hl⟩
            · cases hl
        · have ek : k = ds.length := by omega
          subst ek
          refine .inl ⟨fd.stop H' g2, ?_⟩
          rw [List.drop_length] at hl
          cases hl
          exact q H' D es _ rfl hD0 (s1.trans s2) hacc hkeys rk nl
      · cases hf
    · cases hf
  · cases hf
section
variable [Wd] {X : Cx} {kx vx tg iter : Expr} {ifs : List Expr} {scope : Scope} {x : Str} {i : Nat} {pos : Pos} {it : Sl → Option (List PyData)} {t : Sl → Option Bool} {fk fv : Sl → Option PyData}
/-- the dict comprehension, still written -/
theorem pe_dcD (hu : X.A.units + 64 < cLine) (hc : X.calm = true) (hN : X.N.Nodup) (hi : PI X tg iter (iD it)) (ok : BlkOk X.N X.env.scope scope [(x, i)])
    (hg : ∀ (s : Shared) (H : Hp) (C : Addr) (cl : List (Str × Addr)) (fp : List Addr), PG (X.blk s H scope (compEnvC scope cl C X.env) fp) tg (gName i)) (ht : ∀ (s : Shared) (H : Hp) (C : Addr) (cl : List (Str × Addr)) (fp : List Addr), PTs (X.blk s H scope (compEnvC scope cl C X.env) fp) ifs (tDT t))
    (hk : ∀ (s : Shared) (H : Hp) (C : Addr) (cl : List (Str × Addr)) (fp : List Addr), PE (X.blk s H scope (compEnvC scope cl C X.env) fp) kx (tD fk))
    (he : ∀ (s : Shared) (H : Hp) (C : Addr) (cl : List (Str × Addr)) (fp : List Addr), PE (X.blk s H scope (compEnvC scope cl C X.env) fp) vx (tD fv)) (hs : ∀ x, foldedSetIterable iter X.env x = pure x := by intro _; rfl) (hP : Wd.P = X.prog := by rfl) (hw : Wd.w = X.w := by rfl) :
    PE X (.DictComp kx vx [⟨tg, iter, ifs, 0⟩] scope pos) (tDcN Wd.P Wd.w (iD it) (gName i) (tDT t) (tD fk) (tD fv) [i]) := by
  rw [hP, hw]
  exact pe_dcN (own := [(x, i)]) (by omega) hc hN hi ok hg ht hk he hs
theorem de_dc (hu : X.A.units + 64 < cLine) (hc : X.calm = true) (hN : X.N.Nodup) (hi : PI X tg iter (iD it)) (ok : BlkOk X.N X.env.scope scope [(x, i)])
    (hg : ∀ (s : Shared) (H : Hp) (C : Addr) (cl : List (Str × Addr)) (fp : List Addr), PG (X.blk s H scope (compEnvC scope cl C X.env) fp) tg (gName i)) (ht : ∀ (s : Shared) (H : Hp) (C : Addr) (cl : List (Str × Addr)) (fp : List Addr), PTs (X.blk s H scope (compEnvC scope cl C X.env) fp) ifs (tDT t))
    (hk : ∀ (s : Shared) (H : Hp) (C : Addr) (cl : List (Str × Addr)) (fp : List Addr), PE (X.blk s H scope (compEnvC scope cl C X.env) fp) kx (tD fk))
    (he : ∀ (s : Shared) (H : Hp) (C : Addr) (cl : List (Str × Addr)) (fp : List Addr), PE (X.blk s H scope (compEnvC scope cl C X.env) fp) vx (tD fv)) (hs : ∀ x, foldedSetIterable iter X.env x = pure x := by intro _; rfl) (hP : Wd.P = X.prog := by rfl) (hw : Wd.w = X.w := by rfl) :
    PE X (.DictComp kx vx [⟨tg, iter, ifs, 0⟩] scope pos) (tD (dDc i it t fk fv)) :=
  PE.sub (pe_frz (pe_dcD hu hc hN hi ok hg ht hk he hs hP hw)) fun σ H Q ⟨sd, d, hs, hf, q⟩ => by
    refine tDc_of (fun _ _ _ => True) σ H sd d hs hf _ fun H' D es kvs ed hD s hD' hk rk nl => ⟨D, _, hD', True.intro, fun od => ?_⟩
    subst ed
    have gr := grow_updN (o := .frz od (nT Wd.P Wd.w D es)) hD'
    refine q _ _ (fun b o e => ?_) (r_dict upd_same (hk.grow gr) (rk.grow gr nl))
    rw [upd_ne (ne_of_none e hD)]
    exact s _ _ e
end
section
variable [Wd] {X : Cx} {kx vx tg iter : Expr} {ifs : List Expr} {scope : Scope} {x : Str} {i j : Nat} {pos : Pos} {it : Sl → Option (List PyData)} {t : Sl → Option Bool} {fk fv : Sl → Option PyData} {y : Str} {py spos : Pos}
theorem ps_setDcD (hu : X.A.units + 64 < cLine) (hc : X.calm = true) (hN : X.N.Nodup) (hy : X.N[j]? = some y) (hyl : X.env.scope.names.lookup y = some .local)
    (hsw : swapsWith (.DictComp kx vx [⟨tg, iter, ifs, 0⟩] scope pos) (some (.Name y py)) spos.line X.env = PySem.Sem.pure true) (hi : PI X tg iter (iD it)) (ok : BlkOk X.N X.env.scope scope [(x, i)])
    (hg : ∀ (s : Shared) (H : Hp) (C : Addr) (cl : List (Str × Addr)) (fp : List Addr), PG (X.blk s H scope (compEnvC scope cl C X.env) fp) tg (gName i)) (ht : ∀ (s : Shared) (H : Hp) (C : Addr) (cl : List (Str × Addr)) (fp : List Addr), PTs (X.blk s H scope (compEnvC scope cl C X.env) fp) ifs (tDT t))
    (hk : ∀ (s : Shared) (H : Hp) (C : Addr) (cl : List (Str × Addr)) (fp : List Addr), PE (X.blk s H scope (compEnvC scope cl C X.env) fp) kx (tD fk))
    (he : ∀ (s : Shared) (H : Hp) (C : Addr) (cl : List (Str × Addr)) (fp : List Addr), PE (X.blk s H scope (compEnvC scope cl C X.env) fp) vx (tD fv)) (hs : ∀ x, foldedSetIterable iter X.env x = PySem.Sem.pure x := by intro _; rfl) (hP : Wd.P = X.prog := by rfl) (hw : Wd.w = X.w := by rfl) :
    PS X (.Assign [.Name y py] (.DictComp kx vx [⟨tg, iter, ifs, 0⟩] scope pos) spos) (tAsg (tDcN Wd.P Wd.w (iD it) (gName i) (tDT t) (tD fk) (tD fv) [i]) (gName j)) := by
  rw [hP, hw]
  exact ps_setDcN (own := [(x, i)]) (by omega) hc hN hy hyl hsw hi ok hg ht hk he hs
theorem ds_setDc (hu : X.A.units + 64 < cLine) (hc : X.calm = true) (hN : X.N.Nodup) (hy : X.N[j]? = some y) (hyl : X.env.scope.names.lookup y = some .local)
    (hsw : swapsWith (.DictComp kx vx [⟨tg, iter, ifs, 0⟩] scope pos) (some (.Name y py)) spos.line X.env = PySem.Sem.pure true) (hi : PI X tg iter (iD it)) (ok : BlkOk X.N X.env.scope scope [(x, i)])
    (hg : ∀ (s : Shared) (H : Hp) (C : Addr) (cl : List (Str × Addr)) (fp : List Addr), PG (X.blk s H scope (compEnvC scope cl C X.env) fp) tg (gName i)) (ht : ∀ (s : Shared) (H : Hp) (C : Addr) (cl : List (Str × Addr)) (fp : List Addr), PTs (X.blk s H scope (compEnvC scope cl C X.env) fp) ifs (tDT t))
    (hk : ∀ (s : Shared) (H : Hp) (C : Addr) (cl : List (Str × Addr)) (fp : List Addr), PE (X.blk s H scope (compEnvC scope cl C X.env) fp) kx (tD fk))
    (he : ∀ (s : Shared) (H : Hp) (C : Addr) (cl : List (Str × Addr)) (fp : List Addr), PE (X.blk s H scope (compEnvC scope cl C X.env) fp) vx (tD fv)) (hs : ∀ x, foldedSetIterable iter X.env x = PySem.Sem.pure x := by intro _; rfl) (hP : Wd.P = X.prog := by rfl) (hw : Wd.w = X.w := by rfl) :
    PS X (.Assign [.Name y py] (.DictComp kx vx [⟨tg, iter, ifs, 0⟩] scope pos) spos) (tDS (dSet j (dDc i it t fk fv))) :=
  PS.sub (ps_frz (ps_setDcD hu hc hN hy hyl hsw hi ok hg ht hk he hs hP hw)) fun D σ H ⟨sd, o, hs, hf, q⟩ => by
    unfold dSet at hf
    split at hf
    · rename_i u e1
      cases hf
      show tDcN Wd.P Wd.w (iD it) (gName i) (tDT t) (tD fk) (tD fv) [i] σ H (fun x H1 => gName j x σ H1 fun σ' H' => ∃ d u, H' d = some u ∧ Mut (some u) ∧ ∀ od, D.nx σ' (upd H' d (.frz od u)))
      refine tDc_of (fun _ _ _ => True) σ H sd u hs e1 _ fun H' D' es kvs ed hD s hD' hk rk nl => ?_
      refine ⟨D', _, hD', True.intro, fun od => ?_⟩
      subst ed
      have gr := grow_updN (o := .frz od (nT Wd.P Wd.w D' es)) hD'
      have sm : Same H (upd H' D' (.frz od (nT Wd.P Wd.w D' es))) := fun b o e => by
        rw [upd_ne (ne_of_none e hD)]
        exact s _ _ e
      exact q _ _ sm ((hs.mono sm).set j (r_dict upd_same (hk.grow gr) (rk.grow gr nl)))
    · cases hf
end
/-! ### lists put together, a list's part, minus -/
def gCat : PyData → PyData → Option PyData
  | .list xs, .list ys => if xs.length + ys.length ≤ 1000 then some (.list (xs ++ ys)) else none
  | _, _ => none
def gNeg : PyData → Option PyData
  | .int i => some (.int (-i))
  | _ => none
def dSlL (f : Sl → Option PyData) (g1 g2 : Sl → Option (Option Int)) : Sl → Option PyData := fun s => match f s with
  | some (.list ds) => (match g1 s with
    | some lo => (match g2 s with
      | some hi => some (.list (cutD ds lo hi))
      | none => none)
    | none => none)
  | _ => none
section
variable [Wd] {X : Cx} {a b : Expr} {f f1 f2 : Sl → Option PyData} {pos : Pos}
theorem de_catL (ha : PE X a (tD f1)) (hb : PE X b (tD f2)) : PE X (.BinOp a .Add b pos) (tD (dBin gCat f1 f2)) :=
  PE.sub (pe_op op_cat ha hb) (tOp_of fun x y u v d H Q r1 r2 e q => by
    unfold gCat at e
    split at e
    · rename_i us vs
      split at e
      · rename_i hl
        cases e
        obtain ⟨p, xs, rfl, h1, h2⟩ := r1.lst
        obtain ⟨p', ys, rfl, h3, h4⟩ := r2.lst
        refine ⟨p, p', xs, ys, rfl, rfl, h1, h3, ?_, fun p2 n => q _ _ (same_upd n) (r_lst upd_same ((h2.app h4).mono (same_upd n)))⟩
        rw [h2.length, h4.length]
        exact Nat.le_trans hl (by decide)
      · cases e
    · cases e)
theorem de_neg (ha : PE X a (tD f)) : PE X (.UnaryOp .USub a pos) (tD (dUn gNeg f)) :=
  PE.sub (pe_un un_neg ha) (tUn_of fun x u d H Q r e q => by
    unfold gNeg at e
    split at e
    · cases e
      exact ⟨_, r.int, q H _ (Same.refl H) r_int⟩
    · cases e)
theorem de_sliceL {lo hi : Option Expr} {g1 g2 : Sl → Option (Option Int)} {p2 : Pos} (ha : PE X a (tD f)) (hl : PO X lo (tDO g1)) (hu : PO X hi (tDO g2)) : PE X (.Subscript a (.Slice lo hi none p2) pos) (tD (dSlL f g1 g2)) :=
  PE.sub (pe_slice sl_list ha hl hu) fun σ H Q ⟨sd, d, hs, hf, q⟩ => by
    unfold dSlL at hf
    cases e1 : f sd with
    | none => rw [e1] at hf; cases hf
    | some u =>
      rw [e1] at hf
      cases u with
      | list ds =>
        cases e2 : g1 sd with
        | none => rw [e2] at hf; cases hf
        | some l =>
          rw [e2] at hf
          cases e3 : g2 sd with
          | none => rw [e3] at hf; cases hf
          | some h =>
            rw [e3] at hf
            cases hf
            refine ⟨sd, .list ds, hs, e1, fun H1 x s1 r1 => ⟨sd, l, hs.mono s1, e2, fun H2 s2 => ⟨sd, h, hs.mono (s1.trans s2), e3, fun H3 s3 => ?_⟩⟩⟩
            obtain ⟨p, xs, rfl, h1, h2⟩ := (r1.mono (s2.trans s3)).lst
            exact ⟨p, xs, rfl, SqL.of h1, fun p2 n => q _ _ (((s1.trans s2).trans s3).trans (same_upd n)) (r_lst upd_same ((cut_R h2 l h).mono (same_upd n)))⟩
      | _ => cases hf
end
end Cs
namespace Cs
open PySem PySem.Spec PyProof.Rows L2
/-! ### what may come out -/
structure Nd (α : Type) where
  wp : (α → Prop) → Prop
  mono : ∀ {P Q : α → Prop}, (∀ a, P a → Q a) → wp P → wp Q
def Nd.ret {α : Type} (a : α) : Nd α := ⟨fun Q => Q a, fun h p => h _ p⟩
def Nd.bnd {α β : Type} (m : Nd α) (f : α → Nd β) : Nd β := ⟨fun Q => m.wp fun a => (f a).wp Q, fun h p => m.mono (fun a q => (f a).mono h q) p⟩
def Nd.opt {α : Type} (o : Option α) : Nd α := ⟨fun Q => ∃ a, o = some a ∧ Q a, fun h ⟨a, e, p⟩ => ⟨a, e, h _ p⟩⟩
def Nd.any {α : Type} (S : α → Prop) : Nd α := ⟨fun Q => ∀ a, S a → Q a, fun h p a s => h _ (p a s)⟩
def Nd.fail {α : Type} : Nd α := ⟨fun _ => False, fun _ p => p⟩
/-- list-free, or a list of such -/
def tidy : PyData → Bool
  | .list ds => noLs ds
  | d => noL d
def Nd.tdy (o : Option PyData) : Nd PyData := ⟨fun Q => ∃ a, o = some a ∧ tidy a = true ∧ Q a, fun h ⟨a, e, t, p⟩ => ⟨a, e, t, h _ p⟩⟩
/-! ### the tape stands apart -/
/-- a tape: its list, the script's list, the script -/
structure Tp where
  a : Addr
  sl : Addr
  zs : List Int
def At (t : Option Tp) (b : Addr) : Prop := ∃ T, t = some T ∧ T.a = b
instance (t : Option Tp) (b : Addr) : Decidable (At t b) := match t with
  | none => isFalse fun ⟨_, e, _⟩ => nomatch e
  | some T => if h : T.a = b then isTrue ⟨T, rfl, h⟩ else isFalse fun ⟨T', e, h'⟩ => by cases e; exact h h'
def pun (H : Hp) (t : Option Tp) : Hp := fun b => if At t b then none else H b
theorem pun_ne {H : Hp} {t : Option Tp} {b : Addr} (h : ¬ At t b) : pun H t b = H b := if_neg h
theorem pun_some {H : Hp} {t : Option Tp} {b : Addr} {o : HO} (h : pun H t b = some o) : ¬ At t b ∧ H b = some o := by
  unfold pun at h
  by_cases e : At t b
  · rw [if_pos e] at h; cases h
  · rw [if_neg e] at h; exact ⟨e, h⟩
theorem pun_le {H : Hp} {t : Option Tp} : Same (pun H t) H := fun b o e => (pun_some e).2
theorem pun_mono {H H' : Hp} {t : Option Tp} (h : Same H H') : Same (pun H t) (pun H' t) := fun b o e => by
  obtain ⟨a, c⟩ := pun_some e
  rw [pun_ne a]
  exact h _ _ c
theorem pun_none {H : Hp} : pun H none = H := by
  funext b
  exact pun_ne fun ⟨_, e, _⟩ => nomatch e
def TapeOk (t : Option Tp) (H : Hp) : Prop := ∀ T : Tp, t = some T → ∃ p h n : Int, H T.a = some (.lst [.ref T.sl, .int p, .int h, .int n]) ∧ T.sl ≠ T.a ∧ H T.sl = some (.lst (T.zs.map V.int)) ∧ T.zs.length ≤ 1000 ∧ 0 ≤ p ∧ 0 ≤ h ∧ 0 ≤ n
theorem TapeOk.same {t : Option Tp} {H H' : Hp} (k : TapeOk t H) (s : Same H H') : TapeOk t H' := fun a e => by
  obtain ⟨p, h, n, h1, h2, h3, h4⟩ := k a e
  exact ⟨p, h, n, s _ _ h1, h2, s _ _ h3, h4⟩
theorem TapeOk.none {H : Hp} : TapeOk none H := fun a e => nomatch e
structure Ef (t : Option Tp) (H H' : Hp) : Prop where
  sm : Same (pun H t) (pun H' t)
  tp : TapeOk t H'
theorem Ef.refl {t : Option Tp} {H : Hp} (k : TapeOk t H) : Ef t H H := ⟨Same.refl _, k⟩
theorem Ef.trans {t : Option Tp} {H H1 H2 : Hp} (a : Ef t H H1) (b : Ef t H1 H2) : Ef t H H2 := ⟨a.sm.trans b.sm, b.tp⟩
theorem Ef.of {t : Option Tp} {H H' : Hp} (k : TapeOk t H) (s : Same H H') : Ef t H H' := ⟨pun_mono s, k.same s⟩
theorem TapeOk.notTup {t : Option Tp} {H : Hp} (k : TapeOk t H) {b : Addr} {xs : List V} (h : H b = some (.tup xs)) : ¬ At t b := fun ⟨T, e, eb⟩ => by
  obtain ⟨p, h0, n, h1, _⟩ := k T e
  rw [eb, h] at h1
  cases h1
theorem grow_pun {t : Option Tp} {H : Hp} (k : TapeOk t H) : Grow H (pun H t) := fun b xs e => by
  rw [pun_ne (k.notTup e)]
  exact e
theorem Ef.grow {t : Option Tp} {H H' : Hp} (k : TapeOk t H) (e : Ef t H H') : Grow H H' := fun b xs h => pun_le _ _ (e.sm _ _ (grow_pun k b xs h))
theorem tidy_noL {d : PyData} (h : noL d = true) : tidy d = true := by
  cases d with
  | list ds => unfold noL at h; cases h
  | _ => exact h
theorem R.pun [Wd] {t : Option Tp} {H : Hp} {v : V} {d : PyData} (k : TapeOk t H) (n : tidy d = true) (r : R H v d) : R (pun H t) v d := by
  cases d with
  | list ds =>
    replace n : noLs ds = true := n
    obtain ⟨p, xs, rfl, h1, h2⟩ := r.lst
    have hp : ¬ At t p := fun ⟨T, e, eb⟩ => by
      obtain ⟨q, h, m, a1, a2, a3, a4⟩ := k T e
      rw [eb, h1] at a1
      injection a1 with a1
      injection a1 with a1
      subst a1
      cases ds with
      | nil => have := h2.nil; cases this
      | cons d0 ds =>
        unfold noLs at n
        obtain ⟨n1, n2⟩ := Bool.and_eq_true_iff.mp n
        obtain ⟨x, r', e1, e2, _⟩ := h2.cons
        injection e1 with e1 e1'
        subst e1
        cases d0 with
        | none => cases e2.non
        | bool b => cases e2.bl
        | int b => cases e2.int
        | str b => cases e2.str
        | tuple us =>
          obtain ⟨b, ys, e3, e4, _⟩ := e2.tup
          cases e3
          rw [a3] at e4
          cases e4
        | list us => unfold noL at n1; cases n1
        | dict us => unfold noL at n1; cases n1
    exact r_lst (by rw [pun_ne hp]; exact h1) (h2.grow (grow_pun k) n)
  | none => exact r.grow (grow_pun k) n
  | bool b => exact r.grow (grow_pun k) n
  | int b => exact r.grow (grow_pun k) n
  | str b => exact r.grow (grow_pun k) n
  | tuple us => exact r.grow (grow_pun k) n
  | dict us => exact r.grow (grow_pun k) n
/-! ### the frame of a run: tape, start, own lists -/
structure Fr where
  t : Option Tp
  H0 : Hp
  own : List Nat
  ti : Nat
structure RSt [Wd] (Z : Fr) (H : Hp) (σ : L2.St) (sd : Sl) : Prop where
  rs : RS (Cs.pun H Z.t) σ sd
  tp : TapeOk Z.t H
  tv : ∀ T, Z.t = some T → σ[Z.ti]? = some (some (.ref T.a))
  sl : ∀ T, Z.t = some T → Z.H0 T.sl ≠ none
  ef : Same (Cs.pun Z.H0 Z.t) (Cs.pun H Z.t)
  ow : ∀ i ∈ Z.own, ∀ d, sd[i]? = some (some d) → ∃ p xs ds, d = .list ds ∧ noLs ds = true ∧ σ[i]? = some (some (.ref p)) ∧ Cs.pun H Z.t p = some (.lst xs) ∧ Cs.pun Z.H0 Z.t p = none
  sep : ∀ i ∈ Z.own, ∀ j ∈ Z.own, i ≠ j → ∀ d d', sd[i]? = some (some d) → sd[j]? = some (some d') → σ[i]? ≠ σ[j]?
  st : ∀ (i : Nat) d, i ∉ Z.own → sd[i]? = some (some d) → noL d = true ∨ ∃ v, σ[i]? = some (some v) ∧ R (Cs.pun Z.H0 Z.t) v d
section
variable [Wd] {Z : Fr} {H H' : Hp} {σ : L2.St} {sd : Sl}
theorem RSt.mono (h : RSt Z H σ sd) (e : Ef Z.t H H') : RSt Z H' σ sd where
  rs := h.rs.mono e.sm
  tp := e.tp
  tv := h.tv
  sl := h.sl
  ef := h.ef.trans e.sm
  ow := fun i hi d hd => by
    obtain ⟨p, xs, ds, h1, h2, h3, h4, h5⟩ := h.ow i hi d hd
    exact ⟨p, xs, ds, h1, h2, h3, e.sm _ _ h4, h5⟩
  sep := h.sep
  st := h.st
theorem RSt.full (h : RSt Z H σ sd) : RS H σ sd := h.rs.mono pun_le
theorem set_get {α : Type} {l : List (Option α)} {i j : Nat} {x d : α} (h : (l.set i (some x))[j]? = some (some d)) : (i = j ∧ x = d) ∨ (i ≠ j ∧ l[j]? = some (some d)) := by
  by_cases hij : i = j
  · subst hij
    rw [List.getElem?_set] at h
    by_cases hl : i < l.length
    · simp [hl] at h
      exact .inl ⟨rfl, h⟩
    · simp [hl] at h
  · rw [List.getElem?_set_ne hij] at h
    exact .inr ⟨hij, h⟩
theorem RSt.set (h : RSt Z H σ sd) {i : Nat} {v : V} {d : PyData} (hi : i ∉ Z.own) (ht : i ≠ Z.ti) (n : noL d = true) (r : R (Cs.pun H Z.t) v d) : RSt Z H (σ.set i (some v)) (sd.set i (some d)) where
  rs := h.rs.set i r
  tp := h.tp
  tv := fun a e => by rw [List.getElem?_set_ne ht]; exact h.tv a e
  sl := h.sl
  ef := h.ef
  ow := fun j hj d' hd => by
    have hij : i ≠ j := fun e => hi (e ▸ hj)
    rw [List.getElem?_set_ne hij] at hd ⊢
    exact h.ow j hj d' hd
  sep := fun j hj k hk hjk d1 d2 h1 h2 => by
    have hij : i ≠ j := fun e => hi (e ▸ hj)
    have hik : i ≠ k := fun e => hi (e ▸ hk)
    rw [List.getElem?_set_ne hij] at h1 ⊢
    rw [List.getElem?_set_ne hik] at h2 ⊢
    exact h.sep j hj k hk hjk d1 d2 h1 h2
  st := fun j d' hj hd => by
    rcases set_get hd with ⟨rfl, rfl⟩ | ⟨hij, hd⟩
    · exact .inl n
    · rw [List.getElem?_set_ne hij]
      exact h.st j d' hj hd
/-- an own list put into its slot -/
theorem RSt.ownSet (h : RSt Z H σ sd) {i : Nat} {p : Addr} {xs : List V} {ds : List PyData} (hi : i ∈ Z.own) (ht : i ≠ Z.ti) (hp : Cs.pun H Z.t p = some (.lst xs)) (r : RAll (Cs.pun H Z.t) xs ds) (n : noLs ds = true) (f : Cs.pun Z.H0 Z.t p = none)
    (hs : ∀ j ∈ Z.own, j ≠ i → ∀ d, sd[j]? = some (some d) → σ[j]? ≠ some (some (.ref p))) : RSt Z H (σ.set i (some (.ref p))) (sd.set i (some (.list ds))) where
  rs := h.rs.set i (r_lst hp r)
  tp := h.tp
  tv := fun a e => by rw [List.getElem?_set_ne ht]; exact h.tv a e
  sl := h.sl
  ef := h.ef
  ow := fun j hj d' hd => by
    rcases set_get hd with ⟨rfl, rfl⟩ | ⟨hij, hd⟩
    · have hl : i < σ.length := by
        rw [h.rs.len]
        by_cases hl : i < sd.length
        · exact hl
        · rw [List.getElem?_eq_none (by simpa using hl)] at hd; cases hd
      exact ⟨p, xs, ds, rfl, n, by rw [List.getElem?_set]; simp [hl], hp, f⟩
    · rw [List.getElem?_set_ne hij]
      exact h.ow j hj d' hd
  sep := fun j hj k hk hjk d1 d2 h1 h2 => by
    rcases set_get h1 with ⟨rfl, rfl⟩ | ⟨hij, h1⟩
    · rcases set_get h2 with ⟨rfl, rfl⟩ | ⟨hik, h2⟩
      · exact absurd rfl hjk
      · rw [List.getElem?_set_ne hik, List.getElem?_set]
        intro e
        obtain ⟨_, _, _, _, _, z, _⟩ := h.ow k hk d2 h2
        have ne := hs k hk (Ne.symm hjk) d2 h2
        rw [← e] at z ne
        simp at z ne
        obtain ⟨z1, z2⟩ := z
        omega
    · rcases set_get h2 with ⟨rfl, rfl⟩ | ⟨hik, h2⟩
      · rw [List.getElem?_set_ne hij, List.getElem?_set]
        intro e
        obtain ⟨_, _, _, _, _, z, _⟩ := h.ow j hj d1 h1
        have ne := hs j hj hjk d1 h1
        rw [e] at z ne
        simp at z ne
        obtain ⟨z1, z2⟩ := z
        omega
      · rw [List.getElem?_set_ne hij, List.getElem?_set_ne hik]
        exact h.sep j hj k hk hjk d1 d2 h1 h2
  st := fun j d' hj hd => by
    rcases set_get hd with ⟨rfl, rfl⟩ | ⟨hij, hd⟩
    · exact absurd hi hj
    · rw [List.getElem?_set_ne hij]
      exact h.st j d' hj hd
/-- an own list is written -/
theorem RSt.write (h : RSt Z H σ sd) {i : Nat} {p : Addr} {xs ys : List V} {ds ds' : List PyData} (hi : i ∈ Z.own) (hd : sd[i]? = some (some (.list ds))) (hσ : σ[i]? = some (some (.ref p))) (hp : H p = some (.lst xs)) (hpt : ¬ At Z.t p) (f : Cs.pun Z.H0 Z.t p = none)
    (r : RAll (Cs.pun H Z.t) ys ds') (n : noLs ds' = true) : RSt Z (upd H p (.lst ys)) σ (sd.set i (some (.list ds'))) := by
  have gr : Grow (Cs.pun H Z.t) (Cs.pun (upd H p (.lst ys)) Z.t) := fun b zs e => by
    obtain ⟨a, c⟩ := pun_some e
    rw [pun_ne a, upd_ne (ne_of c hp (by intro z; cases z))]
    exact c
  have hpp : Cs.pun (upd H p (.lst ys)) Z.t p = some (.lst ys) := by rw [pun_ne hpt, upd_same]
  have sm0 : Same (Cs.pun Z.H0 Z.t) (Cs.pun (upd H p (.lst ys)) Z.t) := fun b o e => by
    obtain ⟨a, c⟩ := pun_some (h.ef b o e)
    rw [pun_ne a, upd_ne (ne_of_none e f)]
    exact c
  have own : ∀ j ∈ Z.own, i ≠ j → ∀ d, sd[j]? = some (some d) → ∃ q zs us, d = .list us ∧ noLs us = true ∧ σ[j]? = some (some (.ref q)) ∧ Cs.pun (upd H p (.lst ys)) Z.t q = some (.lst zs) ∧ Cs.pun Z.H0 Z.t q = none ∧ Cs.pun H Z.t q = some (.lst zs) := fun j hj hij d hd' => by
    obtain ⟨q, zs, us, h1, h2, h3, h4, h5⟩ := h.ow j hj d hd'
    have hqp : q ≠ p := fun e => h.sep i hi j hj hij _ _ hd hd' (by rw [hσ, h3, e])
    obtain ⟨a, c⟩ := pun_some h4
    exact ⟨q, zs, us, h1, h2, h3, by rw [pun_ne a, upd_ne hqp]; exact c, h5, h4⟩
  refine ⟨⟨by simp [h.rs.len], fun j d e => ?_⟩, fun T e => ?_, h.tv, h.sl, sm0, fun j hj d e => ?_, fun j hj k hk hjk d1 d2 h1 h2 => ?_, fun j d hj e => ?_⟩
  · rcases set_get e with ⟨rfl, rfl⟩ | ⟨hij, e⟩
    · exact ⟨_, hσ, r_lst hpp (r.grow gr n)⟩
    · by_cases hj : j ∈ Z.own
      · obtain ⟨q, zs, us, h1, h2, h3, h4, h5, h6⟩ := own j hj hij d e
        obtain ⟨v, e1, e2⟩ := h.rs.get j d e
        rw [h3] at e1
        cases e1
        subst h1
        obtain ⟨q', zs', e3, e4, e5⟩ := e2.lst
        cases e3
        rw [h6] at e4
        cases e4
        exact ⟨_, h3, r_lst h4 (e5.grow gr h2)⟩
      · obtain ⟨v, e1, e2⟩ := h.rs.get j d e
        rcases h.st j d hj e with nl | ⟨v', e3, e4⟩
        · exact ⟨v, e1, e2.grow gr nl⟩
        · exact ⟨v', e3, e4.mono sm0⟩
  · obtain ⟨q, hh, m, a1, a2, a3, a4⟩ := h.tp T e
    have h1 : T.a ≠ p := fun z => hpt ⟨T, e, z⟩
    have hs : T.sl ≠ p := fun z => by
      have : Cs.pun Z.H0 Z.t T.sl = none := by rw [z]; exact f
      rw [pun_ne (fun ⟨T', e', z'⟩ => by rw [e] at e'; cases e'; exact a2 z'.symm)] at this
      exact h.sl T e this
    exact ⟨q, hh, m, by rw [upd_ne h1]; exact a1, a2, by rw [upd_ne hs]; exact a3, a4⟩
  · rcases set_get e with ⟨rfl, rfl⟩ | ⟨hij, e⟩
    · exact ⟨p, ys, ds', rfl, n, hσ, hpp, f⟩
    · obtain ⟨q, zs, us, h1, h2, h3, h4, h5, h6⟩ := own j hj hij d e
      exact ⟨q, zs, us, h1, h2, h3, h4, h5⟩
  · have g1 : ∃ d1, sd[j]? = some (some d1) := by
      rcases set_get h1 with ⟨z, _⟩ | ⟨_, e⟩
      · exact ⟨_, z ▸ hd⟩
      · exact ⟨_, e⟩
    have g2 : ∃ d1, sd[k]? = some (some d1) := by
      rcases set_get h2 with ⟨z, _⟩ | ⟨_, e⟩
      · exact ⟨_, z ▸ hd⟩
      · exact ⟨_, e⟩
    obtain ⟨e1, g1⟩ := g1
    obtain ⟨e2, g2⟩ := g2
    exact h.sep j hj k hk hjk e1 e2 g1 g2
  · rcases set_get e with ⟨rfl, rfl⟩ | ⟨hij, e⟩
    · exact absurd hi hj
    · exact h.st j d hj e
end
end Cs
namespace Cs
open PySem PySem.Spec PyProof.Rows L2
/-! ### readings of what may come out -/
section
variable [Wd]
def tN (Z : Fr) (f : Sl → Nd PyData) : TE := fun σ H Q => ∃ sd, RSt Z H σ sd ∧ (f sd).wp fun d => ∀ H' v, Ef Z.t H H' → R (pun H' Z.t) v d → Q v H'
def tNT (Z : Fr) (f : Sl → Nd Bool) : TT := fun σ H Q => ∃ sd, RSt Z H σ sd ∧ (f sd).wp fun b => ∀ H', Ef Z.t H H' → Q b H'
def tNA (Z : Fr) (f : Sl → Nd (List PyData)) : TA := fun σ H Q => ∃ sd, RSt Z H σ sd ∧ (f sd).wp fun ds => ∀ H' vs, Ef Z.t H H' → RAll (pun H' Z.t) vs ds → Q vs H'
def tNB (Z : Fr) (f : Sl → Nd (List PyData)) : TA := fun σ H Q => ∃ sd, RSt Z H σ sd ∧ (f sd).wp fun ds => ∀ H' vs T, Z.t = some T → Ef Z.t H H' → RAll (pun H' Z.t) vs ds → Q (.ref T.a :: vs) H'
def OQt (Z : Fr) (D : Ends) (H : Hp) : Out → Prop
  | .nx sd' => ∀ σ' H', Grow H H' → RSt Z H' σ' sd' → D.nx σ' H'
  | .rt d => ∀ H' v, TapeOk Z.t H' → Same (pun Z.H0 Z.t) (pun H' Z.t) → R (pun H' Z.t) v d → D.rt v H'
theorem OQt.gr {Z : Fr} {D : Ends} {H H1 : Hp} (e : Grow H H1) : ∀ {o : Out}, OQt Z D H o → OQt Z D H1 o
  | .nx _, q => fun σ' H' g r => q σ' H' (e.trans g) r
  | .rt _, q => q
def tNS (Z : Fr) (F : Sl → Nd Out) : TS := fun D σ H => ∃ sd, RSt Z H σ sd ∧ (F sd).wp (OQt Z D H)
end
/-! the functions -/
def nP (f : Sl → Option PyData) : Sl → Nd PyData := fun s => Nd.tdy (f s)
def nPT (f : Sl → Option Bool) : Sl → Nd Bool := fun s => Nd.opt (f s)
def nBin (g : PyData → PyData → Option PyData) (f1 f2 : Sl → Nd PyData) : Sl → Nd PyData := fun s => (f1 s).bnd fun a => (f2 s).bnd fun b => Nd.tdy (g a b)
def nTest (f : Sl → Nd PyData) : Sl → Nd Bool := fun s => (f s).bnd fun d => match d with
  | .bool b => Nd.ret b
  | _ => Nd.fail
def nNil : Sl → Nd (List PyData) := fun _ => Nd.ret []
def nCons (f : Sl → Nd PyData) (fs : Sl → Nd (List PyData)) : Sl → Nd (List PyData) := fun s => (f s).bnd fun d => (fs s).bnd fun ds => Nd.ret (d :: ds)
def nTup (fs : Sl → Nd (List PyData)) : Sl → Nd PyData := fun s => (fs s).bnd fun ds => if ds.length ≤ 1000 then Nd.ret (.tuple ds) else Nd.fail
def nLst (fs : Sl → Nd (List PyData)) : Sl → Nd PyData := fun s => (fs s).bnd fun ds => if ds.length ≤ 1000 then Nd.ret (.list ds) else Nd.fail
def nCl (g : List PyData → Option PyData) (n : Nat) (fs : Sl → Nd (List PyData)) : Sl → Nd PyData := fun s => (fs s).bnd fun ds => if ds.length = n then Nd.tdy (g ds) else Nd.fail
def nTc (g : List PyData → Nd PyData) (n : Nat) (fs : Sl → Nd (List PyData)) : Sl → Nd PyData := fun s => (fs s).bnd fun ds => if ds.length = n then g ds else Nd.fail
/-- a tape def's promise -/
def spN [Wd] (g : List PyData → Nd PyData) (n : Nat) : Sp := fun vs H Q _ => ∃ T vs' ds, vs = .ref T.a :: vs' ∧ TapeOk (some T) H ∧ RAll (pun H (some T)) vs' ds ∧ ds.length = n ∧ (g ds).wp fun d => ∀ H' v, Ef (some T) H H' → R (pun H' (some T)) v d → Q v H'
theorem spN.len [Wd] {g : List PyData → Nd PyData} {n : Nat} {vs : List V} {H : Hp} {Q : VK} {E : XK} (h : spN g n vs H Q E) : vs.length = n + 1 := by
  obtain ⟨T, vs', ds, rfl, _, r, e, _⟩ := h
  rw [List.length_cons, r.length, e]
def nSet (i : Nat) (f : Sl → Nd PyData) : Sl → Nd Out := fun s => (f s).bnd fun d => if noL d = true then Nd.ret (.nx (s.set i (some d))) else Nd.fail
def nRet (f : Sl → Nd PyData) : Sl → Nd Out := fun s => (f s).bnd fun d => Nd.ret (.rt d)
def nSeq (F G : Sl → Nd Out) : Sl → Nd Out := fun s => (F s).bnd fun o => match o with
  | .nx s' => G s'
  | .rt d => Nd.ret (.rt d)
def nSkip : Sl → Nd Out := fun s => Nd.ret (.nx s)
def nIf (c : Sl → Nd Bool) (F G : Sl → Nd Out) : Sl → Nd Out := fun s => (c s).bnd fun b => if b then F s else G s
def nNew (i : Nat) : Sl → Nd Out := fun s => Nd.ret (.nx (s.set i (some (.list []))))
def getL (i : Nat) (s : Sl) : Option (List PyData) := match s[i]? with
  | some (some (.list ds)) => some ds
  | _ => none
def nApp (i : Nat) (f : Sl → Nd PyData) : Sl → Nd Out := fun s => match getL i s with
  | some ds => (f s).bnd fun d => if noL d = true ∧ ds.length < 1000 then Nd.ret (.nx (s.set i (some (.list (ds ++ [d]))))) else Nd.fail
  | none => Nd.fail
def nIns (i : Nat) (fs : Sl → Nd (List PyData)) : Sl → Nd Out := fun s => match getL i s with
  | some ds => (fs s).bnd fun es => match es with
    | [.int k, d] => if noL d = true ∧ ds.length < 1000 ∧ 0 ≤ k ∧ k < 1000000 then Nd.ret (.nx (s.set i (some (.list (ds.take k.toNat ++ [d] ++ ds.drop k.toNat))))) else Nd.fail
    | _ => Nd.fail
  | none => Nd.fail
def nLoop (F : Sl → Nd Out) (i : Nat) : List PyData → Sl → Nd Out
  | [], s => Nd.ret (.nx s)
  | d :: ds, s => (F (s.set i (some d))).bnd fun o => match o with
    | .nx s' => nLoop F i ds s'
    | .rt d => Nd.ret (.rt d)
def nFor (i : Nat) (it : Sl → Nd (List PyData)) (F : Sl → Nd Out) : Sl → Nd Out := fun s => (it s).bnd fun ds => nLoop F i ds s
def nWhl (c : Sl → Nd Bool) (F : Sl → Nd Out) : Nat → Sl → Nd Out
  | 0, _ => Nd.fail
  | n + 1, s => (c s).bnd fun b => if b then (F s).bnd fun o => (match o with
    | .nx s' => nWhl c F n s'
    | .rt d => Nd.ret (.rt d)) else Nd.ret (.nx s)
def nWhile (c : Sl → Nd Bool) (F : Sl → Nd Out) : Sl → Nd Out := fun s => ⟨fun Q => ∃ n, (nWhl c F n s).wp Q, fun h ⟨n, p⟩ => ⟨n, (nWhl c F n s).mono h p⟩⟩
def nSeqI (f : Sl → Option PyData) : Sl → Nd (List PyData) := fun s => match f s with
  | some (.tuple ds) => if noLs ds = true then Nd.ret ds else Nd.fail
  | _ => Nd.fail
def nRg1 (fs : Sl → Nd (List PyData)) : Sl → Nd (List PyData) := fun s => (fs s).bnd fun ds => match ds with
  | [.int j] => if small j then Nd.ret (intsD 0 1 j.toNat) else Nd.fail
  | _ => Nd.fail
def nRg2 (fs : Sl → Nd (List PyData)) : Sl → Nd (List PyData) := fun s => (fs s).bnd fun ds => match ds with
  | [.int i, .int j] => if small i ∧ small j then Nd.ret (intsD i 1 (j - i).toNat) else Nd.fail
  | _ => Nd.fail
structure FeedsG [Wd] (J : It) (G : Hp → Prop) (ds : List PyData) : Prop where
  keep : ∀ H H', G H → Grow H H' → G H'
  go : ∀ (i : Nat) H, i < ds.length → G H → J.go i H
  stop : ∀ H, G H → J.stop ds.length H
  yld : ∀ (i : Nat) H x H', i < ds.length → G H → J.yld i H x H' → H' = H ∧ ∃ d, ds[i]? = some d ∧ noL d = true ∧ R H x d
def iN [Wd] (Z : Fr) (f : Sl → Nd (List PyData)) : TI := fun σ H Q => ∃ sd, RSt Z H σ sd ∧ (f sd).wp fun ds => ∀ J H' G, Ef Z.t H H' → G H' → FeedsG J G ds → Q J H'
theorem noLs_get : ∀ {ds : List PyData} {i : Nat} {d : PyData}, noLs ds = true → ds[i]? = some d → noL d = true
  | [], _, _, _, e => by simp at e
  | a :: r, 0, d, n, e => by
    unfold noLs at n
    simp at e
    rw [← e]
    exact (Bool.and_eq_true_iff.mp n).1
  | a :: r, i + 1, d, n, e => by
    unfold noLs at n
    exact noLs_get (Bool.and_eq_true_iff.mp n).2 (by simpa using e)
theorem noLs_app : ∀ {ds es : List PyData}, noLs ds = true → noLs es = true → noLs (ds ++ es) = true
  | [], _, _, h => h
  | a :: r, es, n, h => by
    unfold noLs at n
    obtain ⟨n1, n2⟩ := Bool.and_eq_true_iff.mp n
    show (noL a && noLs (r ++ es)) = true
    rw [n1, noLs_app n2 h]
    rfl
theorem noLs_take : ∀ {ds : List PyData} (k : Nat), noLs ds = true → noLs (ds.take k) = true
  | _, 0, _ => by simp; rfl
  | [], k + 1, _ => by simp; rfl
  | a :: r, k + 1, n => by
    unfold noLs at n
    obtain ⟨n1, n2⟩ := Bool.and_eq_true_iff.mp n
    show (noL a && noLs (r.take k)) = true
    rw [n1, noLs_take k n2]
    rfl
theorem noLs_drop : ∀ {ds : List PyData} (k : Nat), noLs ds = true → noLs (ds.drop k) = true
  | _, 0, n => by simpa using n
  | [], k + 1, _ => by simp; rfl
  | a :: r, k + 1, n => by
    unfold noLs at n
    exact noLs_drop k (Bool.and_eq_true_iff.mp n).2
theorem noLs_one {d : PyData} (h : noL d = true) : noLs [d] = true := by
  show (noL d && noLs []) = true
  rw [h]
  rfl
/-! ### the rules -/
section
variable [Wd] {X : Cx} {Z : Fr} {a b c e : Expr} {es : List Expr} {f : Sl → Option PyData} {g : Sl → Option Bool} {f1 f2 : Sl → Nd PyData} {fs : Sl → Nd (List PyData)} {p pos : Pos}
theorem ne_pure (h : PE X e (tD f)) : PE X e (tN Z (nP f)) := PE.sub h fun σ H Q ⟨sd, rs, d, ef, td, q⟩ =>
  ⟨sd, d, rs.full, ef, fun H' v s r => q H' v (Ef.of rs.tp s) (r.pun (rs.tp.same s) td)⟩
theorem nt_pure (h : PT X e (tDT g)) : PT X e (tNT Z (nPT g)) := PT.sub h fun σ H Q ⟨sd, rs, b, ef, q⟩ =>
  ⟨sd, b, rs.full, ef, fun H' s => q H' (Ef.of rs.tp s)⟩
theorem tOpN_of {r : R2} {g : PyData → PyData → Option PyData} (hr : HR r g) (σ : L2.St) (H : Hp) (Q : VK) (h : tN Z (nBin g f1 f2) σ H Q) : tOp r (tN Z f1) (tN Z f2) σ H Q := by
  obtain ⟨sd, rs, w⟩ := h
  refine ⟨sd, rs, (f1 sd).mono (fun u wa H1 x e1 r1 => ⟨sd, rs.mono e1, (f2 sd).mono (fun v wb H2 y e2 r2 => ?_) wa⟩) w⟩
  obtain ⟨d, hg, ht, q⟩ := wb
  exact hr x y u v d H2 Q ((r1.mono e2.sm).mono pun_le) (r2.mono pun_le) hg fun H' z s r => q H' z ((e1.trans e2).trans (Ef.of e2.tp s)) (r.pun (e2.tp.same s) ht)
theorem ne_add (ha : PE X a (tN Z f1)) (hb : PE X b (tN Z f2)) : PE X (.BinOp a .Add b pos) (tN Z (nBin gAdd f1 f2)) := PE.sub (pe_op op_addA ha hb) (tOpN_of (hr_add X.K))
theorem ne_sub (ha : PE X a (tN Z f1)) (hb : PE X b (tN Z f2)) : PE X (.BinOp a .Sub b pos) (tN Z (nBin gSub f1 f2)) := PE.sub (pe_op op_sub ha hb) (tOpN_of hr_sub)
theorem ne_ix (ha : PE X a (tN Z f1)) (hb : PE X b (tN Z f2)) (hs : PlainIx b := by intro _ _; rfl) : PE X (.Subscript a b pos) (tN Z (nBin gIx f1 f2)) := PE.sub (pe_ix ix_seq ha hb hs) (tOpN_of (hr_ix X.K))
theorem nt_of {t : TE} {f : Sl → Nd PyData} (h : PT X e (tTest t)) (i : ∀ σ H Q, tN Z f σ H Q → t σ H Q) : PT X e (tNT Z (nTest f)) := PT.sub h fun σ H Q ⟨sd, rs, w⟩ =>
  i σ H _ ⟨sd, rs, (f sd).mono (fun d wd H' v ef r => by
    cases d with
    | bool k => exact ⟨k, r.bl, wd H' ef⟩
    | _ => exact wd.elim) w⟩
theorem nt_eq (ha : PE X a (tN Z f1)) (hb : PE X b (tN Z f2)) : PT X (.Compare a [.Eq] [b] pos) (tNT Z (nTest (nBin gEq f1 f2))) := nt_of (pt_cmpR op_eq ha hb (nomark _)) (tOpN_of hr_eq)
theorem na_nil : PA X [] (tNA Z nNil) := PA.sub pa_nil fun σ H Q ⟨sd, rs, q⟩ => q H [] (Ef.refl rs.tp) ra_nil
theorem na_cons (ha : PE X e (tN Z f1)) (hr : PA X es (tNA Z fs)) (hs : starEach (e :: es) X.env = (false, eval e X.env) :: starEach es X.env := by rfl) : PA X (e :: es) (tNA Z (nCons f1 fs)) :=
  PA.sub (pa_cons ha hr hs) fun σ H Q ⟨sd, rs, w⟩ => ⟨sd, rs, (f1 sd).mono (fun d wd H1 x e1 r1 => ⟨sd, rs.mono e1, (fs sd).mono (fun ds q H2 xs e2 r2 => q H2 _ (e1.trans e2) (ra_cons (r1.mono e2.sm) r2)) wd⟩) w⟩
theorem na_tape {x : Str} (hN : X.N[Z.ti]? = some x) (ht : Z.t.isSome = true) (hr : PA X es (tNA Z fs)) (hv : Vis X.env.scope x := by first | exact Or.inl rfl | exact Or.inr (Or.inl rfl) | exact Or.inr (Or.inr rfl)) (hd : (x == ("__debug__" : Str)) = false := by decide)
    (hcd : (x == ("__classdict__" : Str)) = false := by decide) (hs : starEach (.Name x pos :: es) X.env = (false, eval (.Name x pos) X.env) :: starEach es X.env := by rfl) : PA X (.Name x pos :: es) (tNB Z fs) :=
  PA.sub (pa_cons (pe_var hN hv hd hcd) hr hs) fun σ H Q ⟨sd, rs, w⟩ => by
    obtain ⟨T, hT⟩ := Option.isSome_iff_exists.mp ht
    exact ⟨_, rs.tv T hT, sd, rs, (fs sd).mono (fun ds q H2 xs e2 r2 => q H2 xs T hT e2 r2) w⟩
theorem ne_tup {x1} (h : PA X es (tNA Z fs)) : PE X (.Tuple es x1 pos) (tN Z (nTup fs)) := PE.sub (pe_tup h) fun σ H Q ⟨sd, rs, w⟩ => ⟨sd, rs, (fs sd).mono (fun ds wd H1 xs e1 r1 => by
  try dsimp only at wd
  by_cases hl : ds.length ≤ 1000
  · rw [if_pos hl] at wd
    refine ⟨by rw [r1.length]; exact Nat.le_trans hl (by decide), fun p n => ?_⟩
    have s := same_upd (o := .tup xs) n
    have np : ¬ At Z.t p := fun ⟨T, e, z⟩ => by
      obtain ⟨_, _, _, h1, _⟩ := e1.tp T e
      rw [z, n] at h1
      cases h1
    exact wd _ _ (e1.trans (Ef.of e1.tp s)) (r_tup (by rw [pun_ne np, upd_same]) (r1.mono (pun_mono s)))
  · rw [if_neg hl] at wd
    exact wd.elim) w⟩
theorem ne_lst (h : PA X es (tNA Z fs)) : PE X (.List es pos) (tN Z (nLst fs)) := PE.sub (pe_lst h) fun σ H Q ⟨sd, rs, w⟩ => ⟨sd, rs, (fs sd).mono (fun ds wd H1 xs e1 r1 => by
  try dsimp only at wd
  by_cases hl : ds.length ≤ 1000
  · rw [if_pos hl] at wd
    refine ⟨by rw [r1.length]; exact Nat.le_trans hl (by decide), fun p n => ?_⟩
    have s := same_upd (o := .lst xs) n
    have np : ¬ At Z.t p := fun ⟨T, e, z⟩ => by
      obtain ⟨_, _, _, h1, _⟩ := e1.tp T e
      rw [z, n] at h1
      cases h1
    exact wd _ _ (e1.trans (Ef.of e1.tp s)) (r_lst (by rw [pun_ne np, upd_same]) (r1.mono (pun_mono s)))
  · rw [if_neg hl] at wd
    exact wd.elim) w⟩
theorem ne_cl {x : Str} {k j n : Nat} {ps : List Str} {g : List PyData → Option PyData} (F : Ok X.prog X.w X.K X.mg X.base x k ps (spP g n)) (hr : Room j X.A) (ha : PA X (e :: es) (tNA Z fs)) (hkj : k ≤ j := by decide) (hg : Gl X x := by rfl)
    (hdb : (x == ("__debug__" : Str)) = false := by decide) (he : starEach (e :: es) X.env = (false, eval e X.env) :: starEach es X.env := by rfl) (hpl : (backTo pos (starEach es X.env)).any (·.1) = false := by rfl) :
    PE X (.Call (.Name x p) (e :: es) [] pos) (tN Z (nCl g n fs)) := PE.sub (pe_cl F hr ha hkj hg hdb he hpl) fun σ H Q ⟨sd, rs, w⟩ => ⟨sd, rs, (fs sd).mono (fun ds wd H1 vs e1 r1 => by
  try dsimp only at wd
  by_cases hl : ds.length = n
  · rw [if_pos hl] at wd
    obtain ⟨d, hg, ht, q⟩ := wd
    refine ⟨ds, d, ?_, hg, hl, fun H' v s r => q H' v (e1.trans (Ef.of e1.tp s)) (r.pun (e1.tp.same s) ht)⟩
    rw [List.append_nil]
    exact r1.mono pun_le
  · rw [if_neg hl] at wd
    exact wd.elim) w⟩
theorem ne_tcl {x y : Str} {k j n : Nat} {ps : List Str} {g : List PyData → Nd PyData} {py : Pos} (F : Ok X.prog X.w X.K X.mg X.base x k ps (spN g n)) (hr : Room j X.A) (ha : PA X (.Name y py :: es) (tNB Z fs)) (hkj : k ≤ j := by decide) (hg : Gl X x := by rfl)
    (hdb : (x == ("__debug__" : Str)) = false := by decide) (he : starEach (.Name y py :: es) X.env = (false, eval (.Name y py) X.env) :: starEach es X.env := by rfl) (hpl : (backTo pos (starEach es X.env)).any (·.1) = false := by rfl) :
    PE X (.Call (.Name x p) (.Name y py :: es) [] pos) (tN Z (nTc g n fs)) := PE.sub (pe_cl F hr ha hkj hg hdb he hpl) fun σ H Q ⟨sd, rs, w⟩ => ⟨sd, rs, (fs sd).mono (fun ds wd H1 vs T hT e1 r1 => by
  try dsimp only at wd
  by_cases hl : ds.length = n
  · rw [if_pos hl] at wd
    have tp := e1.tp
    rw [hT] at tp r1
    refine ⟨T, vs, ds, by rw [List.append_nil], tp, r1, hl, (g ds).mono (fun d q H' v e2 r2 => ?_) wd⟩
    have e3 : Ef Z.t H1 H' := by rw [hT]; exact e2
    exact q H' v (e1.trans e3) (by rw [hT]; exact r2)
  · rw [if_neg hl] at wd
    exact wd.elim) w⟩
/-! walks -/
theorem feedsG_tup (K : PySem.W.Frag) (a : Addr) (ds : List PyData) (n : noLs ds = true) : FeedsG (Itt K a) (fun H => ∃ xs, H a = some (.tup xs) ∧ RAll H xs ds) ds where
  keep := fun H H' ⟨xs, h1, h2⟩ s => ⟨xs, s _ _ h1, h2.grow s n⟩
  go := (feeds_tup K a ds).go
  stop := (feeds_tup K a ds).stop
  yld := fun i H x H' hi g y => by
    obtain ⟨h1, d, h2, h3⟩ := (feeds_tup K a ds).yld i H x H' hi g y
    exact ⟨h1, d, h2, noLs_get n h2, h3⟩
theorem feedsG_range (lo : Int) (n : Nat) : FeedsG (Itr lo n) (fun _ => True) (intsD lo 1 n) where
  keep := fun _ _ h _ => h
  go := (feeds_range lo n).go
  stop := (feeds_range lo n).stop
  yld := fun i H x H' hi g y => by
    obtain ⟨h1, d, h2, h3⟩ := (feeds_range lo n).yld i H x H' hi g y
    refine ⟨h1, d, h2, ?_, h3⟩
    unfold intsD at h2
    rw [List.getElem?_map] at h2
    cases e : (List.range n)[i]? with
    | none => rw [e] at h2; cases h2
    | some j => rw [e] at h2; cases h2; rfl
theorem ni_tup {tg : Expr} (h : PE X e (tD f)) : PI X tg e (iN Z (nSeqI f)) := PI.sub (pi_tup h) fun σ H Q ⟨sd, rs, w⟩ => by
  unfold nSeqI at w
  cases e1 : f sd with
  | none => rw [e1] at w; exact w.elim
  | some u =>
    rw [e1] at w
    cases u with
    | tuple ds =>
      dsimp only at w
      by_cases n : noLs ds = true
      · rw [if_pos n] at w
        refine ⟨sd, .tuple ds, rs.full, e1, fun H1 x s1 r1 => ?_⟩
        obtain ⟨p, xs, rfl, h1, h2⟩ := r1.tup
        exact ⟨p, rfl, ⟨xs, SqT.of h1⟩, w _ _ _ (Ef.of rs.tp s1) ⟨xs, h1, h2⟩ (feedsG_tup X.K p ds n)⟩
      · rw [if_neg n] at w
        exact w.elim
    | _ => exact w.elim
theorem ni_range1 {tg : Expr} (hg : Gl X "range") (hm : X.mg "range" = none) (ha : PA X [a] (tNA Z fs)) (hs : starEach [a] X.env = [(false, eval a X.env)] := by rfl) : PI X tg (.Call (.Name "range" p) [a] [] pos) (iN Z (nRg1 fs)) :=
  PI.sub (pi_range1 hg hm ha hs) fun σ H Q ⟨sd, rs, w⟩ => ⟨sd, rs, (fs sd).mono (fun ds wd H1 vs e1 r1 => by
    try dsimp only at wd
    split at wd
    · rename_i j
      try dsimp only at wd
      by_cases hl : small j
      · rw [if_pos hl] at wd
        obtain ⟨x, r, rfl, h1, h2⟩ := r1.cons
        rw [h2.nil, h1.int]
        exact ⟨j, rfl, by have := hl.1; omega, by have := hl.2; omega, wd _ _ _ e1 trivial (feedsG_range 0 j.toNat)⟩
      · rw [if_neg hl] at wd
        exact wd.elim
    · exact wd.elim) w⟩
theorem ni_range2 {tg : Expr} (hg : Gl X "range") (hm : X.mg "range" = none) (ha : PA X [a, b] (tNA Z fs)) (hs : starEach [a, b] X.env = [(false, eval a X.env), (false, eval b X.env)] := by rfl) (hs2 : starEach [b] X.env = [(false, eval b X.env)] := by rfl) :
    PI X tg (.Call (.Name "range" p) [a, b] [] pos) (iN Z (nRg2 fs)) :=
  PI.sub (pi_range2 hg hm ha hs hs2) fun σ H Q ⟨sd, rs, w⟩ => ⟨sd, rs, (fs sd).mono (fun ds wd H1 vs e1 r1 => by
    try dsimp only at wd
    split at wd
    · rename_i i j
      try dsimp only at wd
      by_cases hl : small i ∧ small j
      · rw [if_pos hl] at wd
        obtain ⟨x, r, rfl, h1, h2⟩ := r1.cons
        obtain ⟨y, r, rfl, h3, h4⟩ := h2.cons
        rw [h4.nil, h1.int, h3.int]
        obtain ⟨⟨a1, a2⟩, b1, b2⟩ := hl
        exact ⟨i, j, rfl, ⟨by omega, by omega, by omega, by omega⟩, wd _ _ _ e1 trivial (feedsG_range i _)⟩
      · rw [if_neg hl] at wd
        exact wd.elim
    · exact wd.elim) w⟩
/-! statements -/
variable {st : Stmt} {rest sa sb : List Stmt} {F G : Sl → Nd Out} {gt : Sl → Nd Bool} {f' : Sl → Nd PyData} {tg : Expr}
theorem ns_nil : PSs X [] (tNS Z nSkip) := PSs.sub pss_nil fun D σ H ⟨sd, rs, q⟩ => q σ H (Grow.refl H) rs
theorem ns_one (h : PS X st (tNS Z F)) : PSs X [st] (tNS Z F) := pss_one h
theorem ns_cons (h : PS X st (tNS Z F)) (k : PSs X rest (tNS Z G)) : PSs X (st :: rest) (tNS Z (nSeq F G)) := PSs.sub (pss_cons h k) fun D σ H ⟨sd, rs, w⟩ =>
  ⟨sd, rs, (F sd).mono (fun o wo => by
    cases o with
    | rt d => exact wo
    | nx s' => exact fun σ' H' g rs' => ⟨s', rs', (G s').mono (fun o' q => q.gr g) wo⟩) w⟩
theorem ns_set (i : Nat) {x : Str} {pos' : Pos} (hN : X.N.Nodup) (hi : X.N[i]? = some x) (hx : Loc X.env.scope x) (he : PE X e (tN Z f')) (ho : i ∉ Z.own) (ht : i ≠ Z.ti) (hs : swapsWith e (some (.Name x pos')) pos.line X.env = pure false := by rfl) (hf : X.fn x = true ∨ X.env.scope.names.lookup x = some .local := by first | exact .inl rfl | exact .inr rfl | assumption) :
    PS X (.Assign [.Name x pos'] e pos) (tNS Z (nSet i f')) :=
  PS.sub (ps_set hN hi hx he hs hf) fun D σ H ⟨sd, rs, w⟩ => ⟨sd, rs, (f' sd).mono (fun d wd H1 v e1 r1 => by
    try dsimp only at wd
    by_cases n : noL d = true
    · rw [if_pos n] at wd
      exact wd _ H1 (e1.grow rs.tp) ((rs.mono e1).set ho ht n r1)
    · rw [if_neg n] at wd
      exact wd.elim) w⟩
theorem ns_ret (he : PE X e (tN Z f')) : PS X (.Return (some e) pos) (tNS Z (nRet f')) := PS.sub (ps_ret he) fun D σ H ⟨sd, rs, w⟩ => ⟨sd, rs, (f' sd).mono (fun d wd H1 v e1 r1 => wd H1 v e1.tp (rs.ef.trans e1.sm) r1) w⟩
theorem ns_if (hc : PT X c (tNT Z gt)) (ha : PSs X sa (tNS Z F)) (hb : PSs X sb (tNS Z G)) : PS X (.If c sa sb pos) (tNS Z (nIf gt F G)) := PS.sub (ps_if hc ha hb) fun D σ H ⟨sd, rs, w⟩ => ⟨sd, rs, (gt sd).mono (fun k wk H1 e1 => by
    cases k with
    | true => exact iteT ⟨sd, rs.mono e1, (F sd).mono (fun o q => q.gr (e1.grow rs.tp)) wk⟩
    | false => exact iteF ⟨sd, rs.mono e1, (G sd).mono (fun o q => q.gr (e1.grow rs.tp)) wk⟩) w⟩
theorem ns_never : PS X st (tNS Z fun _ => Nd.fail) := PS.sub ps_never fun D σ H ⟨sd, rs, w⟩ => w
theorem ns_new (i : Nat) {x : Str} {pos' lp : Pos} (hN : X.N.Nodup) (hi : X.N[i]? = some x) (hx : Loc X.env.scope x) (ho : i ∈ Z.own) (ht : i ≠ Z.ti) (hs : swapsWith (.List [] lp) (some (.Name x pos')) pos.line X.env = pure false := by rfl) (hf : X.fn x = true ∨ X.env.scope.names.lookup x = some .local := by first | exact .inl rfl | exact .inr rfl | assumption) :
    PS X (.Assign [.Name x pos'] (.List [] lp) pos) (tNS Z (nNew i)) :=
  PS.sub (ps_set hN hi hx (pe_lst pa_nil) hs hf) fun D σ H ⟨sd, rs, w⟩ => by
    refine ⟨Nat.zero_le _, fun p n => ?_⟩
    have s := same_upd (o := .lst []) n
    have np : ¬ At Z.t p := fun ⟨T, e, z⟩ => by
      obtain ⟨_, _, _, h1, _⟩ := rs.tp T e
      rw [z, n] at h1
      cases h1
    have rs' := rs.mono (Ef.of rs.tp s)
    refine w _ _ (Grow.of s) (rs'.ownSet ho ht (xs := []) (by rw [pun_ne np, upd_same]) ra_nil rfl ?_ fun j hj hji d hd e => ?_)
    · cases e : pun Z.H0 Z.t p with
      | none => rfl
      | some o =>
        have := pun_le _ _ (rs.ef _ _ e)
        rw [n] at this
        cases this
    · obtain ⟨q, xs, ds, h1, h2, h3, h4, h5⟩ := rs.ow j hj d hd
      rw [h3] at e
      cases e
      have := pun_le _ _ h4
      rw [n] at this
      cases this
theorem getL_some {i : Nat} {sd : Sl} {ds : List PyData} (h : getL i sd = some ds) : sd[i]? = some (some (.list ds)) := by
  unfold getL at h
  split at h
  · rename_i e
    cases h
    exact e
  · cases h
theorem RAll.noTape {H : Hp} {v : V} : True := trivial
theorem ns_app (i : Nat) {x : Str} {px apos cpos : Pos} (hi : X.N[i]? = some x) (ho : i ∈ Z.own) (he : PE X e (tN Z f')) (hv : Vis X.env.scope x := by first | exact Or.inl rfl | exact Or.inr (Or.inl rfl) | exact Or.inr (Or.inr rfl)) (hd : (x == ("__debug__" : Str)) = false := by decide)
    (hcd : (x == ("__classdict__" : Str)) = false := by decide) (hs : starEach [e] X.env = (false, eval e X.env) :: starEach [] X.env := by rfl)
    (hbase : attributeBase (.Name x px) "append" X.env (eval (.Name x px) X.env) = eval (.Name x px) X.env := by rfl)
    (hfew : ((backTo cpos (starEach [e] X.env)).all (fun x => !x.1) && (backToKw cpos (keywordEach [] X.env)).all (fun x => x.1.isSome) && decide (([e] : List Expr).length + ([] : List Keyword).length + (if ([] : List Keyword).isEmpty then 0 else 1) < 30)) = true := by rfl)
    (hline : (apos.endLine == cpos.line) = true := by rfl) (hsw : swapsWith (.Call (.Attribute (.Name x px) "append" apos) [e] [] cpos) none pos.line X.env = pure false := by rfl) :
    PS X (.Expr (.Call (.Attribute (.Name x px) "append" apos) [e] [] cpos) pos) (tNS Z (nApp i f')) :=
  PS.sub (ps_expr (pe_bm PySem.F.plainAttrs_list PySem.F.slot_list_append PySem.F.type_list_append mt_append (pe_var hi hv hd hcd) (pa_cons he pa_nil hs) hbase hfew hline hs rfl) hsw) fun D σ H ⟨sd, rs, w⟩ => by
    unfold nApp at w
    cases e1 : getL i sd with
    | none => rw [e1] at w; exact w.elim
    | some ds =>
      rw [e1] at w
      have hsd := getL_some e1
      obtain ⟨q, xs, us, h1, h2, h3, h4, h5⟩ := rs.ow i ho _ hsd
      cases h1
      refine ⟨_, h3, .inl ⟨rfl, xs, SqL.of (pun_le _ _ h4)⟩, sd, rs, (f' sd).mono (fun d wd H1 v e2 r2 => ?_) w⟩
      try dsimp only at wd
      by_cases n : noL d = true ∧ ds.length < 1000
      · rw [if_pos n] at wd
        have rs1 := rs.mono e2
        obtain ⟨q', xs', us', g1, g2, g3, g4, g5⟩ := rs1.ow i ho _ hsd
        cases g1
        rw [h3] at g3
        cases g3
        obtain ⟨np, g6⟩ := pun_some g4
        obtain ⟨v0, k1, k2⟩ := rs1.rs.get i _ hsd
        rw [h3] at k1
        cases k1
        obtain ⟨q2, xs2, k3, k4, k5⟩ := k2.lst
        cases k3
        rw [g4] at k4
        cases k4
        refine ⟨q, xs', v, rfl, rfl, g6, by rw [k5.length]; exact Nat.lt_of_lt_of_le n.2 (by decide), ?_⟩
        have gr : Grow H1 (upd H1 q (.lst (xs' ++ [v]))) := grow_upd g6
        exact wd _ _ ((e2.grow rs.tp).trans gr) (rs1.write ho hsd h3 g6 np g5 (k5.snoc r2) (noLs_app g2 (noLs_one n.1)))
      · rw [if_neg n] at wd
        exact wd.elim
theorem ns_ins (i : Nat) {x : Str} {px apos cpos : Pos} (hi : X.N[i]? = some x) (ho : i ∈ Z.own) (he : PA X (e :: es) (tNA Z fs)) (hv : Vis X.env.scope x := by first | exact Or.inl rfl | exact Or.inr (Or.inl rfl) | exact Or.inr (Or.inr rfl)) (hd : (x == ("__debug__" : Str)) = false := by decide)
    (hcd : (x == ("__classdict__" : Str)) = false := by decide) (hs : starEach (e :: es) X.env = (false, eval e X.env) :: starEach es X.env := by rfl) (hpl : (backTo cpos (starEach es X.env)).any (·.1) = false := by rfl)
    (hbase : attributeBase (.Name x px) "insert" X.env (eval (.Name x px) X.env) = eval (.Name x px) X.env := by rfl)
    (hfew : ((backTo cpos (starEach (e :: es) X.env)).all (fun x => !x.1) && (backToKw cpos (keywordEach [] X.env)).all (fun x => x.1.isSome) && decide ((e :: es).length + ([] : List Keyword).length + (if ([] : List Keyword).isEmpty then 0 else 1) < 30)) = true := by rfl)
    (hline : (apos.endLine == cpos.line) = true := by rfl) (hsw : swapsWith (.Call (.Attribute (.Name x px) "insert" apos) (e :: es) [] cpos) none pos.line X.env = pure false := by rfl) :
    PS X (.Expr (.Call (.Attribute (.Name x px) "insert" apos) (e :: es) [] cpos) pos) (tNS Z (nIns i fs)) :=
  PS.sub (ps_expr (pe_bm PySem.F.plainAttrs_list PySem.F.slot_list_insert PySem.F.type_list_insert mt_insert (pe_var hi hv hd hcd) he hbase hfew hline hs hpl) hsw) fun D σ H ⟨sd, rs, w⟩ => by
    unfold nIns at w
    cases e1 : getL i sd with
    | none => rw [e1] at w; exact w.elim
    | some ds =>
      rw [e1] at w
      have hsd := getL_some e1
      obtain ⟨q, xs, us, h1, h2, h3, h4, h5⟩ := rs.ow i ho _ hsd
      cases h1
      refine ⟨_, h3, .inl ⟨rfl, xs, SqL.of (pun_le _ _ h4)⟩, sd, rs, (fs sd).mono (fun es' wd H1 vs e2 r2 => ?_) w⟩
      try dsimp only at wd
      split at wd
      · rename_i k d
        try dsimp only at wd
        by_cases n : noL d = true ∧ ds.length < 1000 ∧ 0 ≤ k ∧ k < 1000000
        · rw [if_pos n] at wd
          have rs1 := rs.mono e2
          obtain ⟨q', xs', us', g1, g2, g3, g4, g5⟩ := rs1.ow i ho _ hsd
          cases g1
          rw [h3] at g3
          cases g3
          obtain ⟨np, g6⟩ := pun_some g4
          obtain ⟨v0, k1, k2⟩ := rs1.rs.get i _ hsd
          rw [h3] at k1
          cases k1
          obtain ⟨q2, xs2, k3, k4, k5⟩ := k2.lst
          cases k3
          rw [g4] at k4
          cases k4
          obtain ⟨y1, r3, rfl, m1, m2⟩ := r2.cons
          obtain ⟨y2, r4, rfl, m3, m4⟩ := m2.cons
          rw [m4.nil, m1.int]
          refine ⟨q, xs', k, y2, rfl, rfl, g6, by rw [k5.length]; exact Nat.lt_of_lt_of_le n.2.1 (by decide), n.2.2.1, by have := n.2.2.2; omega, ?_⟩
          have gr : Grow H1 (upd H1 q (.lst (xs'.take k.toNat ++ [y2] ++ xs'.drop k.toNat))) := grow_upd g6
          exact wd _ _ ((e2.grow rs.tp).trans gr) (rs1.write ho hsd h3 g6 np g5 (((k5.take _).snoc m3).app (k5.drop _)) (noLs_app (noLs_app (noLs_take _ g2) (noLs_one n.1)) (noLs_drop _ g2)))
        · rw [if_neg n] at wd
          exact wd.elim
      · exact wd.elim
theorem ns_for {i : Nat} {it : Sl → Nd (List PyData)} {body : List Stmt} (hp : PassesOwn (model X.prog X.w) X.A X.env X.xe) (hc : X.calm = true) (hi : PI X tg e (iN Z it)) (hg : PG X tg (gName i)) (hb : PSs X body (tNS Z F)) (ho : i ∉ Z.own) (ht : i ≠ Z.ti)
    (hs : ∀ x, foldedSetIterable e X.env x = pure x := by intro _; rfl) : PS X (.For tg e body [] pos) (tNS Z (nFor i it F)) :=
  PS.sub (ps_for hp hc hi hg hb hs) fun D σ H ⟨sd, rs, w⟩ => ⟨sd, rs, (it sd).mono (fun ds wd J H1 Gd e1 g1 fd => by
    refine ⟨fun k m σ' H' => k + m = ds.length ∧ Grow H H' ∧ Gd H' ∧ ∃ sd', RSt Z H' σ' sd' ∧ (nLoop F i (ds.drop k) sd').wp (OQt Z D H), ⟨ds.length, by simp, e1.grow rs.tp, g1, sd, rs.mono e1, by simpa using wd⟩, ?_⟩
    rintro k m σ' H' ⟨hk, s2, g2, sd', rs', hl⟩
    by_cases hlt : k < ds.length
    · refine .inr ⟨fd.go k H' hlt g2, fun σ3 H3 => Grow H H3 ∧ Gd H3 ∧ ∃ sd3, RSt Z H3 σ3 sd3 ∧ (nLoop F i (ds.drop (k + 1)) sd3).wp (OQt Z D H), ?_, ?_⟩
      · rintro σ3 H3 ⟨s3, g3, sd3, h3, l3⟩
        exact ⟨m - 1, by omega, by omega, s3, g3, sd3, h3, l3⟩
      · intro x H3 hy
        obtain ⟨rfl, d, hd, nl, r⟩ := fd.yld k H' x H3 hlt g2 hy
        have ed : ds.drop k = d :: ds.drop (k + 1) := by
          rw [List.drop_eq_getElem_cons hlt]
          rw [List.getElem?_eq_getElem hlt] at hd
          cases hd
          rfl
        rw [ed] at hl
        refine ⟨_, rs'.set ho ht nl (r.grow (grow_pun rs'.tp) nl), (F _).mono (fun o wo => ?_) hl⟩
        cases o with
        | rt z => exact wo
        | nx s4 => exact fun σ4 H4 s5 h4 => ⟨s2.trans s5, fd.keep _ _ g2 s5, s4, h4, wo⟩
    · have ek : k = ds.length := by omega
      subst ek
      refine .inl ⟨fd.stop H' g2, ?_⟩
      rw [List.drop_length] at hl
      exact hl σ' H' s2 rs') w⟩
theorem ns_while {body : List Stmt} (hp : PassesOwn (model X.prog X.w) X.A X.env X.xe) (hc : PT X c (tNT Z gt)) (hb : PSs X body (tNS Z F)) : PS X (.While c body [] pos) (tNS Z (nWhile gt F)) :=
  PS.sub (ps_while hp hc hb) fun D σ H ⟨sd, rs, n0, w⟩ => by
    refine ⟨fun n σ' H' => Grow H H' ∧ ∃ sd', RSt Z H' σ' sd' ∧ (nWhl gt F n sd').wp (OQt Z D H), ⟨n0, Grow.refl H, sd, rs, w⟩, ?_⟩
    rintro n σ' H' ⟨g, sd', rs', w'⟩
    cases n with
    | zero => exact w'.elim
    | succ n =>
      refine ⟨sd', rs', (gt sd').mono (fun k wk H1 e1 => ?_) w'⟩
      cases k with
      | false => exact iteF (wk σ' H1 (g.trans (e1.grow rs'.tp)) (rs'.mono e1))
      | true =>
        refine iteT ⟨fun σ3 H3 => Grow H H3 ∧ ∃ sd3, RSt Z H3 σ3 sd3 ∧ (nWhl gt F n sd3).wp (OQt Z D H), fun σ3 H3 h3 => ⟨n, Nat.lt_succ_self n, h3⟩, sd', rs'.mono e1, (F sd').mono (fun o wo => ?_) wk⟩
        cases o with
        | rt z => exact wo
        | nx s4 => exact fun σ4 H4 s5 h4 => ⟨(g.trans (e1.grow rs'.tp)).trans s5, s4, h4, wo⟩
end
/-! ### defs -/
def startN (n : Nat) (ds : List PyData) : Sl := none :: (ds.map some ++ List.replicate (n - 1 - ds.length) none)
def outN (o : Out) : PyData := match o with
  | .rt d => d
  | .nx _ => .none
def runN (F : Sl → Nd Out) (n : Nat) (ds : List PyData) : Nd PyData := (F (startN n ds)).bnd fun o => Nd.ret (outN o)
section
variable [Wd] {P : Program} {w : World} {K : PySem.W.Frag} {mg : Str → Option Value} {base : Heap} {x : Str} {st : Stmt} {N ps : List Str} {k : Nat} {sp : Sp}
theorem DefAt.tape {F : Sl → Nd Out} {n : Nat} {g : List PyData → Nd PyData} {own : List Nat} (D : DefAt K mg x st) (S : FnScope N ps (defScope st)) (b : BindOk x st ps) (hn : ps.length = n + 1) (hg : g = runN F N.length) (hN : ps.length ≤ N.length) (hown : ∀ i ∈ own, ps.length ≤ i)
    (hbody : ∀ (f : Addr) (cdv : Value) (A : Around) (outer : List Env) (s : Shared) (H : Hp) (E : XK) (T : Tp), Room k (A.deeper (envOfC x (defScope st) s.heap.objs.size f cdv)) →
      PSs (cxOf CX0 P w K mg base N x (defScope st) f cdv A outer s H E).nox (defBody st) (tNS ⟨some T, H, own, 0⟩ F)) : Ok P w K mg base x (k + 1) ps (spN g n) := by
  subst hg
  refine D.ok S b (fun vs H Q E h => by rw [h.len, hn]) fun f cdv A outer s H vs Q E hr h => ?_
  obtain ⟨T, vs', ds, rfl, tp, r, hl, w0⟩ := h
  refine ⟨_, hbody f cdv A outer s H E T hr, startN N.length ds, ?_, (F _).mono (fun o wo => ?_) w0⟩
  · have e1 : L2.start N (.ref T.a :: vs') = some (.ref T.a) :: (vs'.map some ++ List.replicate (N.length - 1 - ds.length) none) := by
      unfold L2.start
      rw [List.map_cons, List.length_cons, r.length]
      show some (V.ref T.a) :: _ = _
      congr 3
      omega
    have key : ∀ (i : Nat) (d : PyData), (startN N.length ds)[i]? = some (some d) → ∃ v, (L2.start N (.ref T.a :: vs'))[i]? = some (some v) ∧ R (pun H (some T)) v d ∧ 0 < i ∧ i < n + 1 := fun i d e => by
      rw [e1]
      unfold startN at e
      cases i with
      | zero => cases e
      | succ i =>
        rw [List.getElem?_cons_succ] at e ⊢
        by_cases hi : i < ds.length
        · rw [List.getElem?_append_left (by simpa using hi)] at e
          rw [List.getElem?_append_left (by simpa [r.length] using hi)]
          rw [List.getElem?_map] at e ⊢
          cases e2 : ds[i]? with
          | none => rw [e2] at e; cases e
          | some d' =>
            rw [e2] at e
            cases e
            obtain ⟨y, e3, e4⟩ := r.get e2
            exact ⟨y, by rw [e3]; rfl, e4, by omega, by omega⟩
        · rw [List.getElem?_append_right (by simpa using hi), List.getElem?_replicate] at e
          split at e <;> cases e
    refine ⟨⟨?_, fun i d e => ?_⟩, tp, fun T' e => ?_, fun T' e => ?_, Same.refl _, fun i hi d e => ?_, fun i hi j hj hij d d' e e' => ?_, fun i d hi e => ?_⟩
    · rw [e1]
      unfold startN
      simp [r.length]
    · obtain ⟨v, h1, h2, _⟩ := key i d e
      exact ⟨v, h1, h2⟩
    · cases e
      rw [e1]
      rfl
    · cases e
      obtain ⟨_, _, _, _, _, h3, _⟩ := tp T rfl
      show H T.sl ≠ none
      rw [h3]
      exact fun z => nomatch z
    · obtain ⟨v, _, _, h3, h4⟩ := key i d e
      have := hown i hi
      omega
    · obtain ⟨v, _, _, h3, h4⟩ := key i d e
      have := hown i hi
      omega
    · obtain ⟨v, h1, h2, _⟩ := key i d e
      exact .inr ⟨v, h1, h2⟩
  · cases o with
    | rt d => exact fun H' v t' s' r' => wo H' v ⟨s', t'⟩ r'
    | nx s' => exact fun σ' H' _ rs => wo H' _ ⟨rs.ef, rs.tp⟩ r_non
/-- a pure def with own lists -/
theorem DefAt.own {F : Sl → Nd Out} {n : Nat} {g : List PyData → Option PyData} {own : List Nat} (D : DefAt K mg x st) (S : FnScope N ps (defScope st)) (b : BindOk x st ps) (hn : ps.length = n) (hg : ∀ ds d, g ds = some d → (F (startD N.length ds)).wp fun o => outN o = d) (hown : ∀ i ∈ own, ps.length ≤ i)
    (hbody : ∀ (f : Addr) (cdv : Value) (A : Around) (outer : List Env) (s : Shared) (H : Hp) (E : XK), Room k (A.deeper (envOfC x (defScope st) s.heap.objs.size f cdv)) →
      PSs (cxOf CX0 P w K mg base N x (defScope st) f cdv A outer s H E).nox (defBody st) (tNS ⟨none, H, own, 1000⟩ F)) : Ok P w K mg base x (k + 1) ps (spP g n) := by
  refine D.ok S b (fun vs H Q E h => by rw [h.len, hn]) fun f cdv A outer s H vs Q E hr h => ?_
  obtain ⟨ds, d, r, e, hl, q⟩ := h
  refine ⟨_, hbody f cdv A outer s H E hr, startD N.length ds, ?_, (F _).mono (fun o wo => ?_) (hg ds d e)⟩
  · have rs : RS H (L2.start N vs) (startD N.length ds) := start_R r
    have key : ∀ (i : Nat) (d : PyData), (startD N.length ds)[i]? = some (some d) → i < n := fun i d e => by
      unfold startD at e
      by_cases hi : i < ds.length
      · omega
      · rw [List.getElem?_append_right (by simpa using hi), List.getElem?_replicate] at e
        split at e <;> cases e
    refine ⟨by rw [pun_none]; exact rs, TapeOk.none, fun T' e => (nomatch e), fun T' e => (nomatch e), Same.refl _, fun i hi d e => ?_, fun i hi j hj hij d d' e e' => ?_, fun i d hi e => ?_⟩
    · have := key i d e
      have := hown i hi
      omega
    · have := key i d e
      have := hown i hi
      omega
    · rw [pun_none]
      exact .inr (rs.get i d e)
  · cases o with
    | rt z =>
      intro H' v t' s' r'
      rw [pun_none] at s' r'
      rw [pun_none] at s'
      have : z = d := wo
      rw [← this] at q
      exact q H' v s' r'
    | nx s' =>
      intro σ' H' _ rs
      have : PyData.none = d := wo
      rw [← this] at q
      have s2 := rs.ef
      rw [pun_none, pun_none] at s2
      exact q H' _ s2 r_non
end
/-! ### what may come out, step by step -/
theorem nSeq_at {F G : Sl → Nd Out} {s : Sl} {Q : Out → Prop} (h : (F s).wp fun o => match o with
    | .nx s' => (G s').wp Q
    | .rt d => Q (.rt d)) : (nSeq F G s).wp Q := (F s).mono (fun o wo => by
  cases o with
  | nx s' => exact wo
  | rt d => exact wo) h
theorem nSet_at {i : Nat} {f : Sl → Option PyData} {s : Sl} {d : PyData} {Q : Out → Prop} (e : f s = some d) (n : noL d = true) (h : Q (.nx (s.set i (some d)))) : (nSet i (nP f) s).wp Q := by
  refine ⟨d, e, tidy_noL n, ?_⟩
  show (if noL d = true then Nd.ret (Out.nx (s.set i (some d))) else Nd.fail : Nd Out).wp Q
  rw [if_pos n]
  exact h
theorem nSetN_at {i : Nat} {f : Sl → Nd PyData} {s : Sl} {Q : Out → Prop} (h : (f s).wp fun d => noL d = true ∧ Q (.nx (s.set i (some d)))) : (nSet i f s).wp Q := (f s).mono (fun d ⟨n, q⟩ => by
  show (if noL d = true then Nd.ret (Out.nx (s.set i (some d))) else Nd.fail : Nd Out).wp Q
  rw [if_pos n]
  exact q) h
theorem nIf_at {g : Sl → Option Bool} {F G : Sl → Nd Out} {s : Sl} {b : Bool} {Q : Out → Prop} (e : g s = some b) (h : (if b then F s else G s).wp Q) : (nIf (nPT g) F G s).wp Q := ⟨b, e, h⟩
theorem nIfN_at {g : Sl → Nd Bool} {F G : Sl → Nd Out} {s : Sl} {Q : Out → Prop} (h : (g s).wp fun b => (if b then F s else G s).wp Q) : (nIf g F G s).wp Q := h
theorem nRet_at {f : Sl → Option PyData} {s : Sl} {d : PyData} {Q : Out → Prop} (e : f s = some d) (n : tidy d = true) (h : Q (.rt d)) : (nRet (nP f) s).wp Q := ⟨d, e, n, h⟩
theorem nRetN_at {f : Sl → Nd PyData} {s : Sl} {Q : Out → Prop} (h : (f s).wp fun d => Q (.rt d)) : (nRet f s).wp Q := h
theorem nApp_at {i : Nat} {f : Sl → Option PyData} {s : Sl} {ds : List PyData} {d : PyData} {Q : Out → Prop} (hi : s[i]? = some (some (.list ds))) (e : f s = some d) (n : noL d = true) (hl : ds.length < 1000) (h : Q (.nx (s.set i (some (.list (ds ++ [d])))))) : (nApp i (nP f) s).wp Q := by
  unfold nApp getL
  rw [hi]
  refine ⟨d, e, tidy_noL n, ?_⟩
  show (if noL d = true ∧ ds.length < 1000 then Nd.ret (Out.nx (s.set i (some (.list (ds ++ [d]))))) else Nd.fail : Nd Out).wp Q
  rw [if_pos ⟨n, hl⟩]
  exact h
theorem nAppN_at {i : Nat} {f : Sl → Nd PyData} {s : Sl} {ds : List PyData} {Q : Out → Prop} (hi : s[i]? = some (some (.list ds))) (hl : ds.length < 1000) (h : (f s).wp fun d => noL d = true ∧ Q (.nx (s.set i (some (.list (ds ++ [d])))))) : (nApp i f s).wp Q := by
  unfold nApp getL
  rw [hi]
  refine (f s).mono (fun d ⟨n, q⟩ => ?_) h
  show (if noL d = true ∧ ds.length < 1000 then Nd.ret (Out.nx (s.set i (some (.list (ds ++ [d]))))) else Nd.fail : Nd Out).wp Q
  rw [if_pos ⟨n, hl⟩]
  exact q
theorem nP_at {f : Sl → Option PyData} {s : Sl} {d : PyData} {Q : PyData → Prop} (e : f s = some d) (n : tidy d = true) (h : Q d) : (nP f s).wp Q := ⟨d, e, n, h⟩
theorem nBin_at {g : PyData → PyData → Option PyData} {f1 f2 : Sl → Nd PyData} {s : Sl} {Q : PyData → Prop} (h : (f1 s).wp fun a => (f2 s).wp fun b => ∃ d, g a b = some d ∧ tidy d = true ∧ Q d) : (nBin g f1 f2 s).wp Q := h
theorem nCons_at {f : Sl → Nd PyData} {fs : Sl → Nd (List PyData)} {s : Sl} {Q : List PyData → Prop} (h : (f s).wp fun d => (fs s).wp fun ds => Q (d :: ds)) : (nCons f fs s).wp Q := h
theorem nTup_at {fs : Sl → Nd (List PyData)} {s : Sl} {Q : PyData → Prop} (h : (fs s).wp fun ds => ds.length ≤ 1000 ∧ Q (.tuple ds)) : (nTup fs s).wp Q := (fs s).mono (fun ds ⟨n, q⟩ => by
  show (if ds.length ≤ 1000 then Nd.ret (.tuple ds) else Nd.fail : Nd PyData).wp Q
  rw [if_pos n]
  exact q) h
theorem nLst_at {fs : Sl → Nd (List PyData)} {s : Sl} {Q : PyData → Prop} (h : (fs s).wp fun ds => ds.length ≤ 1000 ∧ Q (.list ds)) : (nLst fs s).wp Q := (fs s).mono (fun ds ⟨n, q⟩ => by
  show (if ds.length ≤ 1000 then Nd.ret (.list ds) else Nd.fail : Nd PyData).wp Q
  rw [if_pos n]
  exact q) h
theorem nTc_at {g : List PyData → Nd PyData} {n : Nat} {fs : Sl → Nd (List PyData)} {s : Sl} {Q : PyData → Prop} (h : (fs s).wp fun ds => ds.length = n ∧ (g ds).wp Q) : (nTc g n fs s).wp Q := (fs s).mono (fun ds ⟨e, q⟩ => by
  show (if ds.length = n then g ds else Nd.fail).wp Q
  rw [if_pos e]
  exact q) h
theorem nFor_at {i : Nat} {it : Sl → Nd (List PyData)} {F : Sl → Nd Out} {s : Sl} {Q : Out → Prop} (h : (it s).wp fun ds => (nLoop F i ds s).wp Q) : (nFor i it F s).wp Q := h
theorem nSeqI_at {f : Sl → Option PyData} {s : Sl} {ds : List PyData} {Q : List PyData → Prop} (e : f s = some (.tuple ds)) (n : noLs ds = true) (h : Q ds) : (nSeqI f s).wp Q := by
  unfold nSeqI
  rw [e]
  show (if noLs ds = true then Nd.ret ds else Nd.fail).wp Q
  rw [if_pos n]
  exact h
theorem nRg1_at {fs : Sl → Nd (List PyData)} {s : Sl} {Q : List PyData → Prop} (h : (fs s).wp fun ds => ∃ j, ds = [.int j] ∧ small j ∧ Q (intsD 0 1 j.toNat)) : (nRg1 fs s).wp Q := (fs s).mono (fun ds ⟨j, e, n, q⟩ => by
  subst e
  show (if small j then Nd.ret (intsD 0 1 j.toNat) else Nd.fail).wp Q
  rw [if_pos n]
  exact q) h
theorem nRg2_at {fs : Sl → Nd (List PyData)} {s : Sl} {Q : List PyData → Prop} (h : (fs s).wp fun ds => ∃ i j, ds = [.int i, .int j] ∧ (small i ∧ small j) ∧ Q (intsD i 1 (j - i).toNat)) : (nRg2 fs s).wp Q := (fs s).mono (fun ds ⟨i, j, e, n, q⟩ => by
  subst e
  show (if small i ∧ small j then Nd.ret (intsD i 1 (j - i).toNat) else Nd.fail).wp Q
  rw [if_pos n]
  exact q) h
/-- a loop by what holds before each turn -/
theorem nLoop_inv {F : Sl → Nd Out} {i : Nat} {Q : Out → Prop} : ∀ (ds : List PyData) (Iv : Nat → Sl → Prop) (s : Sl), Iv 0 s → (∀ k d s, ds[k]? = some d → Iv k s → (F (s.set i (some d))).wp fun o => match o with
    | .nx s' => Iv (k + 1) s'
    | .rt d => Q (.rt d)) → (∀ s, Iv ds.length s → Q (.nx s)) → (nLoop F i ds s).wp Q
  | [], Iv, s, h0, _, hd => hd s h0
  | d :: ds, Iv, s, h0, hs, hd => by
    refine (F (s.set i (some d))).mono (fun o wo => ?_) (hs 0 d s rfl h0)
    cases o with
    | rt z => exact wo
    | nx s' => exact nLoop_inv ds (fun k => Iv (k + 1)) s' wo (fun k d' s2 e iv => hs (k + 1) d' s2 e iv) hd
end Cs
namespace Cs
open PySem PySem.Spec PyProof.Rows L2
/-! ### a def that writes its tape -/
def tapeD (zs : List Int) (p h n : Int) : PyData := .list [.list (zs.map .int), .int p, .int h, .int n]
def dItem (k : Nat) (f : Sl → Option PyData) : Sl → Option Out := fun s => match f s with
  | some (.int i) => if 0 ≤ i then (match getL 0 s with
    | some ds => some (.nx (s.set 0 (some (.list (ds.set k (.int i))))))
    | none => none) else none
  | _ => none
structure RD [Wd] (T : Tp) (H0 H : Hp) (σ : L2.St) (sd : Sl) : Prop where
  rs : RS H σ sd
  ef : Same (pun H0 (some T)) (pun H (some T))
  s0 : σ[0]? = some (some (.ref T.a))
  at0 : ∃ p h n : Int, sd[0]? = some (some (tapeD T.zs p h n)) ∧ 0 ≤ p ∧ 0 ≤ h ∧ 0 ≤ n ∧ H T.a = some (.lst [.ref T.sl, .int p, .int h, .int n])
  sl : T.sl ≠ T.a ∧ H T.sl = some (.lst (T.zs.map V.int)) ∧ T.zs.length ≤ 1000
  st : ∀ (i : Nat) d, i ≠ 0 → sd[i]? = some (some d) → noL d = true
def OD [Wd] (T : Tp) (H0 : Hp) (D : Ends) : Out → Prop
  | .nx sd' => ∀ σ' H', RD T H0 H' σ' sd' → D.nx σ' H'
  | .rt d => ∀ H' v, Ef (some T) H0 H' → R H' v d → D.rt v H'
def tKS [Wd] (T : Tp) (H0 : Hp) (F : Sl → Option Out) : TS := fun D σ H => ∃ sd o, RD T H0 H σ sd ∧ F sd = some o ∧ OD T H0 D o
theorem zints_R [Wd] {H : Hp} : ∀ zs : List Int, RAll H (zs.map V.int) (zs.map PyData.int)
  | [] => ra_nil
  | z :: zs => ra_cons r_int (zints_R zs)
section
variable [Wd] {T : Tp} {H0 H H' : Hp} {σ : L2.St} {sd : Sl}
theorem RD.tp (h : RD T H0 H σ sd) : TapeOk (some T) H := fun T' e => by
  cases e
  obtain ⟨p, q, n, _, h1, h2, h3, h4⟩ := h.at0
  exact ⟨p, q, n, h4, h.sl.1, h.sl.2.1, h.sl.2.2, h1, h2, h3⟩
theorem RD.mono (h : RD T H0 H σ sd) (s : Same H H') : RD T H0 H' σ sd where
  rs := h.rs.mono s
  ef := h.ef.trans (pun_mono s)
  s0 := h.s0
  at0 := by
    obtain ⟨p, q, n, h0, h1, h2, h3, h4⟩ := h.at0
    exact ⟨p, q, n, h0, h1, h2, h3, s _ _ h4⟩
  sl := ⟨h.sl.1, s _ _ h.sl.2.1, h.sl.2.2⟩
  st := h.st
theorem RD.set (h : RD T H0 H σ sd) {i : Nat} (hi : i ≠ 0) {v : V} {d : PyData} (n : noL d = true) (r : R H v d) : RD T H0 H (σ.set i (some v)) (sd.set i (some d)) where
  rs := h.rs.set i r
  ef := h.ef
  s0 := by rw [List.getElem?_set_ne hi]; exact h.s0
  at0 := by rw [List.getElem?_set_ne hi]; exact h.at0
  sl := h.sl
  st := fun j d' hj e => by
    rcases set_get e with ⟨rfl, rfl⟩ | ⟨_, e⟩
    · exact n
    · exact h.st j d' hj e
theorem RD.item (h : RD T H0 H σ sd) {k : Nat} (hk : k = 1 ∨ k = 2 ∨ k = 3) {i : Int} (hi : 0 ≤ i) : ∃ ds xs, sd[0]? = some (some (.list ds)) ∧ H T.a = some (.lst xs) ∧ k < xs.length ∧ RD T H0 (upd H T.a (.lst (xs.set k (.int i)))) σ (sd.set 0 (some (.list (ds.set k (.int i))))) := by
  obtain ⟨p, q, n, h0, h1, h2, h3, h4⟩ := h.at0
  have len : 0 < sd.length := by
    by_cases hl : 0 < sd.length
    · exact hl
    · rw [List.getElem?_eq_none (by simpa using hl)] at h0; cases h0
  refine ⟨_, _, h0, h4, by rcases hk with rfl | rfl | rfl <;> simp, ?_⟩
  have gr : Grow H (upd H T.a (.lst ([V.ref T.sl, .int p, .int q, .int n].set k (.int i)))) := grow_upd h4
  have hs : (upd H T.a (.lst ([V.ref T.sl, .int p, .int q, .int n].set k (.int i)))) T.sl = some (.lst (T.zs.map V.int)) := by rw [upd_ne h.sl.1]; exact h.sl.2.1
  have key : ∃ p' q' n' : Int, ([V.ref T.sl, .int p, .int q, .int n].set k (.int i)) = [V.ref T.sl, .int p', .int q', .int n'] ∧ PyData.list ([PyData.list (T.zs.map .int), .int p, .int q, .int n].set k (.int i)) = tapeD T.zs p' q' n' ∧ 0 ≤ p' ∧ 0 ≤ q' ∧ 0 ≤ n' := by
    rcases hk with rfl | rfl | rfl
    · exact ⟨i, q, n, rfl, rfl, hi, h2, h3⟩
    · exact ⟨p, i, n, rfl, rfl, h1, hi, h3⟩
    · exact ⟨p, q, i, rfl, rfl, h1, h2, hi⟩
  obtain ⟨p', q', n', e1, e2, g1, g2, g3⟩ := key
  rw [e1] at gr hs ⊢
  rw [e2]
  refine ⟨⟨by simp [h.rs.len], fun j d e => ?_⟩, fun b o e => ?_, h.s0, ⟨p', q', n', by rw [List.getElem?_set]; simp [len], g1, g2, g3, upd_same⟩, ⟨h.sl.1, hs, h.sl.2.2⟩, fun j d hj e => ?_⟩
  · rcases set_get e with ⟨rfl, rfl⟩ | ⟨hij, e⟩
    · exact ⟨_, h.s0, r_lst upd_same (ra_cons (r_lst hs (zints_R T.zs)) (ra_cons r_int (ra_cons r_int (ra_cons r_int ra_nil))))⟩
    · obtain ⟨v, e3, e4⟩ := h.rs.get j d e
      exact ⟨v, e3, e4.grow gr (h.st j d (Ne.symm hij) e)⟩
  · have := h.ef b o e
    obtain ⟨a, c⟩ := pun_some this
    rw [pun_ne a, upd_ne (fun z => a ⟨T, rfl, z.symm⟩)]
    exact c
  · rcases set_get e with ⟨rfl, rfl⟩ | ⟨hij, e⟩
    · exact absurd rfl hj
    · exact h.st j d hj e
variable {X : Cx} {st : Stmt} {rest sa sb : List Stmt} {F G : Sl → Option Out} {e c tg : Expr} {f : Sl → Option PyData} {g : Sl → Option Bool} {pos : Pos}
theorem ks_nil : PSs X [] (tKS T H0 dSkip) := PSs.sub pss_nil fun D σ H ⟨sd, o, hs, hf, q⟩ => by
  cases hf
  exact q σ H hs
theorem ks_one (h : PS X st (tKS T H0 F)) : PSs X [st] (tKS T H0 F) := pss_one h
theorem ks_cons (h : PS X st (tKS T H0 F)) (k : PSs X rest (tKS T H0 G)) : PSs X (st :: rest) (tKS T H0 (dSeq F G)) := PSs.sub (pss_cons h k) fun D σ H ⟨sd, o, hs, hf, q⟩ => by
  unfold dSeq at hf
  cases e1 : F sd with
  | none => rw [e1] at hf; cases hf
  | some u =>
    rw [e1] at hf
    refine ⟨sd, u, hs, e1, ?_⟩
    cases u with
    | rt d => cases hf; exact q
    | nx s' => exact fun σ' H' hs' => ⟨s', o, hs', hf, q⟩
def dSetK (i : Nat) (f : Sl → Option PyData) : Sl → Option Out := fun s => match f s with
  | some d => if noL d = true then some (.nx (s.set i (some d))) else none
  | none => none
theorem ks_set (i : Nat) {x : Str} {pos' : Pos} (hN : X.N.Nodup) (hi : X.N[i]? = some x) (hx : Loc X.env.scope x) (he : PE X e (tD f)) (h0 : i ≠ 0 := by decide) (hs : swapsWith e (some (.Name x pos')) pos.line X.env = pure false := by rfl) (hf : X.fn x = true ∨ X.env.scope.names.lookup x = some .local := by first | exact .inl rfl | exact .inr rfl | assumption) :
    PS X (.Assign [.Name x pos'] e pos) (tKS T H0 (dSetK i f)) :=
  PS.sub (ps_set hN hi hx he hs hf) fun D σ H ⟨sd, o, hs, hf, q⟩ => by
    unfold dSetK at hf
    cases e1 : f sd with
    | none => rw [e1] at hf; cases hf
    | some u =>
      rw [e1] at hf
      dsimp only at hf
      by_cases n : noL u = true
      · rw [if_pos n] at hf
        cases hf
        exact ⟨sd, u, hs.rs, e1, fun H1 x s1 r1 => q _ H1 ((hs.mono s1).set h0 n r1)⟩
      · rw [if_neg n] at hf
        cases hf
theorem ks_ret (he : PE X e (tD f)) : PS X (.Return (some e) pos) (tKS T H0 (dRet f)) := PS.sub (ps_ret he) fun D σ H ⟨sd, o, hs, hf, q⟩ => by
  unfold dRet at hf
  cases e1 : f sd with
  | none => rw [e1] at hf; cases hf
  | some u =>
    rw [e1] at hf
    cases hf
    exact ⟨sd, u, hs.rs, e1, fun H1 x s1 r1 => q H1 x ⟨(hs.mono s1).ef, (hs.mono s1).tp⟩ r1⟩
theorem ks_if (hc : PT X c (tDT g)) (ha : PSs X sa (tKS T H0 F)) (hb : PSs X sb (tKS T H0 G)) : PS X (.If c sa sb pos) (tKS T H0 (dIf g F G)) := PS.sub (ps_if hc ha hb) fun D σ H ⟨sd, o, hs, hf, q⟩ => by
  unfold dIf at hf
  cases e1 : g sd with
  | none => rw [e1] at hf; cases hf
  | some u =>
    rw [e1] at hf
    refine ⟨sd, u, hs.rs, e1, fun H1 s1 => ?_⟩
    cases u with
    | true => exact iteT ⟨sd, o, hs.mono s1, hf, q⟩
    | false => exact iteF ⟨sd, o, hs.mono s1, hf, q⟩
theorem ks_item {x : Str} {k kk : Nat} {px pk ps : Pos} (hk : k = 1 ∨ k = 2 ∨ k = 3) (hN : X.N[0]? = some x) (he : PE X e (tD f)) (hv : Vis X.env.scope x := by first | exact Or.inl rfl | exact Or.inr (Or.inl rfl) | exact Or.inr (Or.inr rfl)) (hd : (x == ("__debug__" : Str)) = false := by decide)
    (hcd : (x == ("__classdict__" : Str)) = false := by decide)
    (ha : ∀ v, assign (.Subscript (.Name x px) (.Constant (.int k) kk pk) ps) X.env v = (do
      let ov ← holding [v] (eval (.Name x px) X.env)
      let iv ← holding [v, ov] (eval (.Constant (.int k) kk pk) X.env)
      standAt ps
      holding [v, ov, iv] (setItem ov iv v)
      release [v, ov, iv] []) := by intro _; rfl)
    (hs : swapsWithSole [.Subscript (.Name x px) (.Constant (.int k) kk pk) ps] e pos.line X.env = pure false := by rfl) (hw : swappedStores [.Subscript (.Name x px) (.Constant (.int k) kk pk) ps] e X.env = pure none := by rfl)
    (h1 : (assignEach [.Subscript (.Name x px) (.Constant (.int k) kk pk) ps] X.env).map (·.2) = [assign (.Subscript (.Name x px) (.Constant (.int k) kk pk) ps) X.env] := by rfl) :
    PS X (.Assign [.Subscript (.Name x px) (.Constant (.int k) kk pk) ps] e pos) (tKS T H0 (dItem k f)) :=
  PS.sub (ps_asg he (pg_sub (pe_var hN hv hd hcd) pe_int set_list ha) hs hw h1) fun D σ H ⟨sd, o, hs, hf, q⟩ => by
    unfold dItem at hf
    split at hf
    · rename_i i e1
      split at hf
      · rename_i hi
        split at hf
        · rename_i ds e2
          cases hf
          refine ⟨sd, _, hs.rs, e1, fun H1 v s1 r1 => ?_⟩
          have hs1 := hs.mono s1
          obtain ⟨ds', xs, g1, g2, g3, g4⟩ := hs1.item hk hi
          rw [getL_some e2] at g1
          cases g1
          refine ⟨_, hs.s0, T.a, xs, k, k, rfl, rfl, g2, ?_, ?_⟩
          · unfold ixN
            rw [if_pos (by omega), if_pos (by omega)]
            rfl
          · rw [r1.int]
            exact q _ _ g4
        · cases hf
      · cases hf
    · cases hf
end
section
variable [Wd] {P : Program} {w : World} {K : PySem.W.Frag} {mg : Str → Option Value} {base : Heap} {x : Str} {st : Stmt} {N ps : List Str} {k : Nat} {sp : Sp}
/-- a def that writes its tape: what comes out is a list-free thing -/
theorem DefAt.taper {F : Sl → Option Out} {n : Nat} {g : List PyData → Nd PyData} (D : DefAt K mg x st) (S : FnScope N ps (defScope st)) (b : BindOk x st ps) (hn : ps.length = n + 1) (hN : ps.length ≤ N.length)
    (hg : ∀ (ds : List PyData) (Q : PyData → Prop), ds.length = n → (g ds).wp Q → noLs ds = true ∧ ∀ (zs : List Int) (p h m : Int), 0 ≤ p → 0 ≤ h → 0 ≤ m → zs.length ≤ 1000 → ∃ d, F (startD N.length (tapeD zs p h m :: ds)) = some (.rt d) ∧ noL d = true ∧ Q d)
    (hbody : ∀ (f : Addr) (cdv : Value) (A : Around) (outer : List Env) (s : Shared) (H : Hp) (E : XK) (T : Tp), Room k (A.deeper (envOfC x (defScope st) s.heap.objs.size f cdv)) →
      PSs (cxOf CX0 P w K mg base N x (defScope st) f cdv A outer s H E).nox (defBody st) (tKS T H F)) : Ok P w K mg base x (k + 1) ps (spN g n) := by
  refine D.ok S b (fun vs H Q E h => by rw [h.len, hn]) fun f cdv A outer s H vs Q E hr h => ?_
  obtain ⟨T, vs', ds, rfl, tp, r, hl, w0⟩ := h
  obtain ⟨nds, hg⟩ := hg ds _ hl w0
  obtain ⟨p, h, m, t1, t2, t3, t4, t5, t6, t7⟩ := tp T rfl
  obtain ⟨d, e1, e2, q⟩ := hg T.zs p h m t5 t6 t7 t4
  have rt : R H (.ref T.a) (tapeD T.zs p h m) := r_lst t1 (ra_cons (r_lst t3 (zints_R T.zs)) (ra_cons r_int (ra_cons r_int (ra_cons r_int ra_nil))))
  have rall : RAll H (.ref T.a :: vs') (tapeD T.zs p h m :: ds) := ra_cons rt (r.mono pun_le)
  refine ⟨_, hbody f cdv A outer s H E T hr, startD N.length (tapeD T.zs p h m :: ds), _, ⟨start_R rall, Same.refl _, ?_, ⟨p, h, m, rfl, t5, t6, t7, t1⟩, ⟨t2, t3, t4⟩, fun i d' hi e => ?_⟩, e1, fun H' v ef r' => q H' v ef (r'.pun ef.tp (tidy_noL e2))⟩
  · rfl
  · cases i with
    | zero => exact absurd rfl hi
    | succ i =>
      unfold startD at e
      rw [List.map_cons, List.cons_append, List.getElem?_cons_succ] at e
      by_cases hi : i < ds.length
      · rw [List.getElem?_append_left (by simpa using hi), List.getElem?_map] at e
        cases e2 : ds[i]? with
        | none => rw [e2] at e; cases e
        | some d0 =>
          rw [e2] at e
          cases e
          exact noLs_get nds e2
      · rw [List.getElem?_append_right (by simpa using hi), List.getElem?_replicate] at e
        split at e <;> cases e
end
def gMulR : PyData → PyData → Option PyData
  | .int i, .int j => if -1000000 < j ∧ j < 1000000 then some (.int (i * j)) else none
  | _, _ => none
theorem de_mulR [Wd] {X : Cx} {a b : Expr} {f1 f2 : Sl → Option PyData} {pos : Pos} (ha : PE X a (tD f1)) (hb : PE X b (tD f2)) : PE X (.BinOp a .Mult b pos) (tD (dBin gMulR f1 f2)) :=
  PE.sub (pe_op op_mul ha hb) (tOp_of fun x y u v d H Q r1 r2 e q => by
    unfold gMulR at e
    split at e
    · split at e
      · rename_i hl
        cases e
        exact ⟨_, _, r1.int, r2.int, .inr ⟨by omega, by omega⟩, q H _ (Same.refl H) r_int⟩
      · cases e
    · cases e)
theorem Room.units65 {k : Nat} {A : Around} (r : Room k A) : A.units + 65 < cLine := by have := r.un; omega
end Cs
namespace Cs
open PySem PySem.Spec PyProof.Rows L2
def topS (i : Nat) : Stmt := PySem.Challenge.pw_chartspec_k62_whole_damage_is_enough.main.body.getD i (.Pass ⟨0, 0, 0, 0⟩)
abbrev s_contains : Stmt := topS 4
abbrev s_common : Stmt := topS 5
abbrev s_overlap : Stmt := topS 6
abbrev s_hull : Stmt := topS 7
abbrev s_glyph_width : Stmt := topS 14
abbrev s_text_width : Stmt := topS 15
abbrev s_inked : Stmt := topS 16
abbrev s_around : Stmt := topS 18
abbrev s_line_covers : Stmt := topS 19
abbrev s_polyline_covers : Stmt := topS 20
abbrev s_covers : Stmt := topS 21
abbrev s_identity : Stmt := topS 23
abbrev s_page_of : Stmt := topS 24
abbrev s_reach : Stmt := topS 25
abbrev s_visible_part : Stmt := topS 26
abbrev s_paint_of : Stmt := topS 27
abbrev s_paint_part : Stmt := topS 31
abbrev s_needed : Stmt := topS 32
abbrev s_painted : Stmt := topS 33
abbrev s_picture : Stmt := topS 34
abbrev s_repainted : Stmt := topS 35
abbrev s_merged_order : Stmt := topS 37
abbrev s_by_identity : Stmt := topS 39
abbrev s_kept_names : Stmt := topS 40
abbrev s_moved : Stmt := topS 41
abbrev s_damage : Stmt := topS 42
abbrev s_diff : Stmt := topS 43
abbrev s_law_tape : Stmt := topS 45
abbrev s_law_draw : Stmt := topS 46
abbrev s_law_holds : Stmt := topS 47
abbrev s_law_sign_width : Stmt := topS 48
abbrev s_law_width : Stmt := topS 49
abbrev s_law_inked : Stmt := topS 50
abbrev s_law_around : Stmt := topS 51
abbrev s_law_on_line : Stmt := topS 52
abbrev s_law_covers : Stmt := topS 53
abbrev s_law_paint : Stmt := topS 54
abbrev s_law_word : Stmt := topS 55
abbrev s_law_color : Stmt := topS 56
abbrev s_law_form : Stmt := topS 57
abbrev s_law_clip : Stmt := topS 58
abbrev s_law_identity : Stmt := topS 59
abbrev s_law_new_identity : Stmt := topS 60
abbrev s_law_primitive : Stmt := topS 61
abbrev s_law_identities : Stmt := topS 62
abbrev s_law_scene : Stmt := topS 63
abbrev s_law_changed_item : Stmt := topS 64
abbrev s_law_turned_items : Stmt := topS 65
abbrev s_law_next_scene : Stmt := topS 66
abbrev s_law_color_at : Stmt := topS 67
abbrev s_law_painted : Stmt := topS 68
abbrev s_law : Stmt := topS 69
/-- what stands behind the top -/
structure Tx (K : PySem.W.Frag) (mg : Str → Option Value) : Prop where
  contains : DefAt K mg "contains" s_contains
  common : DefAt K mg "common" s_common
  overlap : DefAt K mg "overlap" s_overlap
  hull : DefAt K mg "hull" s_hull
  glyph_width : DefAt K mg "glyph_width" s_glyph_width
  text_width : DefAt K mg "text_width" s_text_width
  inked : DefAt K mg "inked" s_inked
  around : DefAt K mg "around" s_around
  line_covers : DefAt K mg "line_covers" s_line_covers
  polyline_covers : DefAt K mg "polyline_covers" s_polyline_covers
  covers : DefAt K mg "covers" s_covers
  identity : DefAt K mg "identity" s_identity
  page_of : DefAt K mg "page_of" s_page_of
  reach : DefAt K mg "reach" s_reach
  visible_part : DefAt K mg "visible_part" s_visible_part
  paint_of : DefAt K mg "paint_of" s_paint_of
  paint_part : DefAt K mg "paint_part" s_paint_part
  needed : DefAt K mg "needed" s_needed
  painted : DefAt K mg "painted" s_painted
  picture : DefAt K mg "picture" s_picture
  repainted : DefAt K mg "repainted" s_repainted
  merged_order : DefAt K mg "merged_order" s_merged_order
  by_identity : DefAt K mg "by_identity" s_by_identity
  kept_names : DefAt K mg "kept_names" s_kept_names
  moved : DefAt K mg "moved" s_moved
  damage : DefAt K mg "damage" s_damage
  diff : DefAt K mg "diff" s_diff
  law_tape : DefAt K mg "_law_tape" s_law_tape
  law_draw : DefAt K mg "_law_draw" s_law_draw
  law_holds : DefAt K mg "_law_holds" s_law_holds
  law_sign_width : DefAt K mg "_law_sign_width" s_law_sign_width
  law_width : DefAt K mg "_law_width" s_law_width
  law_inked : DefAt K mg "_law_inked" s_law_inked
  law_around : DefAt K mg "_law_around" s_law_around
  law_on_line : DefAt K mg "_law_on_line" s_law_on_line
  law_covers : DefAt K mg "_law_covers" s_law_covers
  law_paint : DefAt K mg "_law_paint" s_law_paint
  law_word : DefAt K mg "_law_word" s_law_word
  law_color : DefAt K mg "_law_color" s_law_color
  law_form : DefAt K mg "_law_form" s_law_form
  law_clip : DefAt K mg "_law_clip" s_law_clip
  law_identity : DefAt K mg "_law_identity" s_law_identity
  law_new_identity : DefAt K mg "_law_new_identity" s_law_new_identity
  law_primitive : DefAt K mg "_law_primitive" s_law_primitive
  law_identities : DefAt K mg "_law_identities" s_law_identities
  law_scene : DefAt K mg "_law_scene" s_law_scene
  law_changed_item : DefAt K mg "_law_changed_item" s_law_changed_item
  law_turned_items : DefAt K mg "_law_turned_items" s_law_turned_items
  law_next_scene : DefAt K mg "_law_next_scene" s_law_next_scene
  law_color_at : DefAt K mg "_law_color_at" s_law_color_at
  law_painted : DefAt K mg "_law_painted" s_law_painted
  law : DefAt K mg "law" s_law
  HEIGHT : ∃ t, mg "HEIGHT" = some (.int 7 t)
  ONE : ∃ t, mg "ONE" = some (.str "!'.:i|" t)
  TWO : ∃ t, mg "TWO" = some (.str "(),;[]`jl" t)
  THREE : ∃ t, mg "THREE" = some (.str " \"*-/1<>I\\^frt{}" t)
  FOUR : ∃ t, mg "FOUR" = some (.str "$023456789=?J_abcdeghknopqsuvxyz" t)
  WHITE : ∃ t, mg "WHITE" = some (.str "#ffffff" t)
  MOST_PIXELS : ∃ t, mg "MOST_PIXELS" = some (.int 20000 t)
  b_max : mg "max" = none
  b_min : mg "min" = none
  b_sum : mg "sum" = none
  b_len : mg "len" = none
  b_abs : mg "abs" = none
  b_int : mg "int" = none
  b_tuple : mg "tuple" = none
  b_list : mg "list" = none
  b_range : mg "range" = none
  b_str : mg "str" = none
  b_repr : mg "repr" = none
  b_reversed : mg "reversed" = none
section
variable {K : PySem.W.Frag} {mg : Str → Option Value} {base : Heap}
theorem sc_contains : FnScope ["rectangle", "x", "y", "left", "top", "width", "height"] ["rectangle", "x", "y"] (defScope s_contains) := ⟨rfl, rfl, rfl, by decide +kernel, rfl, by decide +kernel, by decide +kernel⟩
theorem bo_contains : BindOk "contains" s_contains ["rectangle", "x", "y"] := fun _ _ _ _ _ _ us hl => match us, hl with | [_, _, _], _ => rfl
def F_contains : Sl → Option Out := (dSeq (dUnp [3, 4, 5, 6] (dVar 0)) (dRet (dAndV (dChain gLe gLt (dVar 3) (dVar 1) (dBin gAdd (dVar 3) (dVar 5))) (dChain gLe gLt (dVar 4) (dVar 2) (dBin gAdd (dVar 4) (dVar 6))))))
def f_contains : List PyData → Option PyData := runF F_contains 7
theorem ok_contains [Wd] (T : Tx K mg) : Ok Wd.P Wd.w K mg base "contains" 1 ["rectangle", "x", "y"] (spP f_contains 3) := T.contains.pure (F := F_contains) sc_contains bo_contains rfl rfl fun f cdv A outer s H E hr => (ds_cons (ds_unp (is := [3, 4, 5, 6]) rfl (de_var 0) (dgs_cons (pg_name (i := 3) sc_contains.nd rfl (Or.inl rfl)) (dgs_cons (pg_name (i := 4) sc_contains.nd rfl (Or.inl rfl)) (dgs_cons (pg_name (i := 5) sc_contains.nd rfl (Or.inl rfl)) (dgs_cons (pg_name (i := 6) sc_contains.nd rfl (Or.inl rfl)) dgs_nil))))) (ds_one (ds_ret (de_and (de_lelt (de_var 3) (de_var 1) (de_add (de_var 3) (de_var 5))) (de_one (de_lelt (de_var 4) (de_var 2) (de_add (de_var 4) (de_var 6))))))))
theorem sc_common : FnScope ["first", "second", "left", "top", "right", "lower"] ["first", "second"] (defScope s_common) := ⟨rfl, rfl, rfl, by decide +kernel, rfl, by decide +kernel, by decide +kernel⟩
theorem bo_common : BindOk "common" s_common ["first", "second"] := fun _ _ _ _ _ _ us hl => match us, hl with | [_, _], _ => rfl
def F_common : Sl → Option Out := (dSeq (dSet 2 (dCall gMax [(dBin gIx (dVar 0) (dC (.int 0))), (dBin gIx (dVar 1) (dC (.int 0)))])) (dSeq (dSet 3 (dCall gMax [(dBin gIx (dVar 0) (dC (.int 1))), (dBin gIx (dVar 1) (dC (.int 1)))])) (dSeq (dSet 4 (dCall gMin [(dBin gAdd (dBin gIx (dVar 0) (dC (.int 0))) (dBin gIx (dVar 0) (dC (.int 2)))), (dBin gAdd (dBin gIx (dVar 1) (dC (.int 0))) (dBin gIx (dVar 1) (dC (.int 2))))])) (dSeq (dSet 5 (dCall gMin [(dBin gAdd (dBin gIx (dVar 0) (dC (.int 1))) (dBin gIx (dVar 0) (dC (.int 3)))), (dBin gAdd (dBin gIx (dVar 1) (dC (.int 1))) (dBin gIx (dVar 1) (dC (.int 3))))])) (dSeq (dIf (tOrF (dTest (dBin gLe (dVar 4) (dVar 2))) (dTest (dBin gLe (dVar 5) (dVar 3)))) (dRet (dC .none)) dSkip) (dRet (dTup [(dVar 2), (dVar 3), (dBin gSub (dVar 4) (dVar 2)), (dBin gSub (dVar 5) (dVar 3))])))))))
def f_common : List PyData → Option PyData := runF F_common 6
theorem ok_common [Wd] (T : Tx K mg) : Ok Wd.P Wd.w K mg base "common" 1 ["first", "second"] (spP f_common 2) := T.common.pure (F := F_common) sc_common bo_common rfl rfl fun f cdv A outer s H E hr => (ds_cons (ds_set 2 sc_common.nd rfl (Or.inl rfl) (de_max rfl T.b_max (da_cons (de_ix (de_var 0) de_int) (da_cons (de_ix (de_var 1) de_int) da_nil)))) (ds_cons (ds_set 3 sc_common.nd rfl (Or.inl rfl) (de_max rfl T.b_max (da_cons (de_ix (de_var 0) de_int) (da_cons (de_ix (de_var 1) de_int) da_nil)))) (ds_cons (ds_set 4 sc_common.nd rfl (Or.inl rfl) (de_min rfl T.b_min (da_cons (de_add (de_ix (de_var 0) de_int) (de_ix (de_var 0) de_int)) (da_cons (de_add (de_ix (de_var 1) de_int) (de_ix (de_var 1) de_int)) da_nil)))) (ds_cons (ds_set 5 sc_common.nd rfl (Or.inl rfl) (de_min rfl T.b_min (da_cons (de_add (de_ix (de_var 0) de_int) (de_ix (de_var 0) de_int)) (da_cons (de_add (de_ix (de_var 1) de_int) (de_ix (de_var 1) de_int)) da_nil)))) (ds_cons (ds_if (PW.pt (dw_or (dt_le (de_var 4) (de_var 2)) (dw_or1 (dt_le (de_var 5) (de_var 3))))) (ds_one (ds_ret de_non)) ds_nil) (ds_one (ds_ret (de_tup (da_cons (de_var 2) (da_cons (de_var 3) (da_cons (de_sub (de_var 4) (de_var 2)) (da_cons (de_sub (de_var 5) (de_var 3)) da_nil))))))))))))
theorem sc_overlap : FnScope ["first", "second"] ["first", "second"] (defScope s_overlap) := ⟨rfl, rfl, rfl, by decide +kernel, rfl, by decide +kernel, by decide +kernel⟩
theorem bo_overlap : BindOk "overlap" s_overlap ["first", "second"] := fun _ _ _ _ _ _ us hl => match us, hl with | [_, _], _ => rfl
def F_overlap : Sl → Option Out := (dRet (dBin gIsNot (dCall f_common [(dVar 0), (dVar 1)]) (dC .none)))
def f_overlap : List PyData → Option PyData := runF F_overlap 2
theorem ok_overlap [Wd] (T : Tx K mg) : Ok Wd.P Wd.w K mg base "overlap" 2 ["first", "second"] (spP f_overlap 2) := T.overlap.pure (F := F_overlap) sc_overlap bo_overlap rfl rfl fun f cdv A outer s H E hr => (ds_one (ds_ret (de_isnot (de_cl (ok_common T) hr (da_cons (de_var 0) (da_cons (de_var 1) da_nil))) de_non)))
theorem sc_hull : FnScope ["rectangles", "left", "top", "right", "lower", "box"] ["rectangles"] (defScope s_hull) := ⟨rfl, rfl, rfl, by decide +kernel, rfl, by decide +kernel, by decide +kernel⟩
theorem bo_hull : BindOk "hull" s_hull ["rectangles"] := fun _ _ _ _ _ _ us hl => match us, hl with | [_], _ => rfl
def F_hull : Sl → Option Out := (dSeq (dIf (tNotF (dTruth (dVar 0))) (dRet (dC .none)) dSkip) (dSeq (dSet 1 (dCall gMin [(dLc 5 (iLst (dVar 0)) dYes (dBin gIx (dVar 5) (dC (.int 0))))])) (dSeq (dSet 2 (dCall gMin [(dLc 5 (iLst (dVar 0)) dYes (dBin gIx (dVar 5) (dC (.int 1))))])) (dSeq (dSet 3 (dCall gMax [(dLc 5 (iLst (dVar 0)) dYes (dBin gAdd (dBin gIx (dVar 5) (dC (.int 0))) (dBin gIx (dVar 5) (dC (.int 2)))))])) (dSeq (dSet 4 (dCall gMax [(dLc 5 (iLst (dVar 0)) dYes (dBin gAdd (dBin gIx (dVar 5) (dC (.int 1))) (dBin gIx (dVar 5) (dC (.int 3)))))])) (dRet (dTup [(dVar 1), (dVar 2), (dBin gSub (dVar 3) (dVar 1)), (dBin gSub (dVar 4) (dVar 2))])))))))
def f_hull : List PyData → Option PyData := runF F_hull 6
theorem ok_hull [Wd] (T : Tx K mg) : Ok Wd.P Wd.w K mg base "hull" 1 ["rectangles"] (spP f_hull 1) := T.hull.pure (F := F_hull) sc_hull bo_hull rfl rfl fun f cdv A outer s H E hr => (ds_cons (ds_if (dt_not (dt_truth (de_var 0))) (ds_one (ds_ret de_non)) ds_nil) (ds_cons (ds_set 1 sc_hull.nd rfl (Or.inl rfl) (de_min rfl T.b_min (da_cons (de_lc rfl sc_hull.nd (di_lst (de_var 0)) (blkOk_by (own := [("box", 5)]) (N := ["rectangles", "left", "top", "right", "lower", "box"]) (sc := defScope s_hull) (by decide +kernel)) (fun _ _ _ _ _ => pg_name (i := 5) sc_hull.nd rfl (Or.inl rfl)) (fun _ _ _ _ _ => dts_nil) (fun _ _ _ _ _ => (de_ix (de_var 5) de_int))) da_nil))) (ds_cons (ds_set 2 sc_hull.nd rfl (Or.inl rfl) (de_min rfl T.b_min (da_cons (de_lc rfl sc_hull.nd (di_lst (de_var 0)) (blkOk_by (own := [("box", 5)]) (N := ["rectangles", "left", "top", "right", "lower", "box"]) (sc := defScope s_hull) (by decide +kernel)) (fun _ _ _ _ _ => pg_name (i := 5) sc_hull.nd rfl (Or.inl rfl)) (fun _ _ _ _ _ => dts_nil) (fun _ _ _ _ _ => (de_ix (de_var 5) de_int))) da_nil))) (ds_cons (ds_set 3 sc_hull.nd rfl (Or.inl rfl) (de_max rfl T.b_max (da_cons (de_lc rfl sc_hull.nd (di_lst (de_var 0)) (blkOk_by (own := [("box", 5)]) (N := ["rectangles", "left", "top", "right", "lower", "box"]) (sc := defScope s_hull) (by decide +kernel)) (fun _ _ _ _ _ => pg_name (i := 5) sc_hull.nd rfl (Or.inl rfl)) (fun _ _ _ _ _ => dts_nil) (fun _ _ _ _ _ => (de_add (de_ix (de_var 5) de_int) (de_ix (de_var 5) de_int)))) da_nil))) (ds_cons (ds_set 4 sc_hull.nd rfl (Or.inl rfl) (de_max rfl T.b_max (da_cons (de_lc rfl sc_hull.nd (di_lst (de_var 0)) (blkOk_by (own := [("box", 5)]) (N := ["rectangles", "left", "top", "right", "lower", "box"]) (sc := defScope s_hull) (by decide +kernel)) (fun _ _ _ _ _ => pg_name (i := 5) sc_hull.nd rfl (Or.inl rfl)) (fun _ _ _ _ _ => dts_nil) (fun _ _ _ _ _ => (de_add (de_ix (de_var 5) de_int) (de_ix (de_var 5) de_int)))) da_nil))) (ds_one (ds_ret (de_tup (da_cons (de_var 1) (da_cons (de_var 2) (da_cons (de_sub (de_var 3) (de_var 1)) (da_cons (de_sub (de_var 4) (de_var 2)) da_nil))))))))))))
theorem sc_glyph_width : FnScope ["character"] ["character"] (defScope s_glyph_width) := ⟨rfl, rfl, rfl, by decide +kernel, rfl, by decide +kernel, by decide +kernel⟩
theorem bo_glyph_width : BindOk "glyph_width" s_glyph_width ["character"] := fun _ _ _ _ _ _ us hl => match us, hl with | [_], _ => rfl
def F_glyph_width : Sl → Option Out := (dSeq (dIf (dTest (dBin gIn (dVar 0) (dC (.str "!'.:i|")))) (dRet (dC (.int 1))) dSkip) (dSeq (dIf (dTest (dBin gIn (dVar 0) (dC (.str "(),;[]`jl")))) (dRet (dC (.int 2))) dSkip) (dSeq (dIf (dTest (dBin gIn (dVar 0) (dC (.str " \"*-/1<>I\\^frt{}")))) (dRet (dC (.int 3))) dSkip) (dSeq (dIf (dTest (dBin gIn (dVar 0) (dC (.str "$023456789=?J_abcdeghknopqsuvxyz")))) (dRet (dC (.int 4))) dSkip) (dRet (dC (.int 5)))))))
def f_glyph_width : List PyData → Option PyData := runF F_glyph_width 1
theorem ok_glyph_width [Wd] (T : Tx K mg) : Ok Wd.P Wd.w K mg base "glyph_width" 1 ["character"] (spP f_glyph_width 1) := T.glyph_width.pure (F := F_glyph_width) sc_glyph_width bo_glyph_width rfl rfl fun f cdv A outer s H E hr => (ds_cons (ds_if (dt_in (de_var 0) (de_gstr T.ONE)) (ds_one (ds_ret de_int)) ds_nil) (ds_cons (ds_if (dt_in (de_var 0) (de_gstr T.TWO)) (ds_one (ds_ret de_int)) ds_nil) (ds_cons (ds_if (dt_in (de_var 0) (de_gstr T.THREE)) (ds_one (ds_ret de_int)) ds_nil) (ds_cons (ds_if (dt_in (de_var 0) (de_gstr T.FOUR)) (ds_one (ds_ret de_int)) ds_nil) (ds_one (ds_ret de_int))))))
theorem sc_text_width : FnScope ["text", "character"] ["text"] (defScope s_text_width) := ⟨rfl, rfl, rfl, by decide +kernel, rfl, by decide +kernel, by decide +kernel⟩
theorem bo_text_width : BindOk "text_width" s_text_width ["text"] := fun _ _ _ _ _ _ us hl => match us, hl with | [_], _ => rfl
def F_text_width : Sl → Option Out := (dSeq (dIf (dTest (dBin gEq (dVar 0) (dC (.str "")))) (dRet (dC (.int 0))) dSkip) (dRet (dBin gSub (dBin gAdd (dCall gSum [(dLc 1 (iTxt (dVar 0)) dYes (dCall f_glyph_width [(dVar 1)]))]) (dCall gLen [(dVar 0)])) (dC (.int 1)))))
def f_text_width : List PyData → Option PyData := runF F_text_width 2
theorem ok_text_width [Wd] (T : Tx K mg) : Ok Wd.P Wd.w K mg base "text_width" 2 ["text"] (spP f_text_width 1) := T.text_width.pure (F := F_text_width) sc_text_width bo_text_width rfl rfl fun f cdv A outer s H E hr => (ds_cons (ds_if (dt_eq (de_var 0) de_str) (ds_one (ds_ret de_int)) ds_nil) (ds_one (ds_ret (de_sub (de_add (de_sum rfl T.b_sum (da_cons (de_lc rfl sc_text_width.nd (di_str (de_var 0)) (blkOk_by (own := [("character", 1)]) (N := ["text", "character"]) (sc := defScope s_text_width) (by decide +kernel)) (fun _ _ _ _ _ => pg_name (i := 1) sc_text_width.nd rfl (Or.inl rfl)) (fun _ _ _ _ _ => dts_nil) (fun _ _ _ _ _ => (de_cl (ok_glyph_width T) hr (da_cons (de_var 1) da_nil)))) da_nil)) (de_len T.b_len (da_cons (de_var 0) da_nil))) de_int))))
theorem sc_inked : FnScope ["text", "x", "y", "left", "character", "width"] ["text", "x", "y"] (defScope s_inked) := ⟨rfl, rfl, rfl, by decide +kernel, rfl, by decide +kernel, by decide +kernel⟩
theorem bo_inked : BindOk "inked" s_inked ["text", "x", "y"] := fun _ _ _ _ _ _ us hl => match us, hl with | [_, _, _], _ => rfl
def L0_inked : Sl → Option Out := (dSeq (dSet 5 (dCall f_glyph_width [(dVar 4)])) (dSeq (dIf (dTest (dBin gLt (dVar 1) (dBin gAdd (dVar 3) (dVar 5)))) (dRet (dAndV (dBin gGe (dVar 1) (dVar 3)) (dBin gNe (dVar 4) (dC (.str " "))))) dSkip) (dSet 3 (dBin gAdd (dBin gAdd (dVar 3) (dVar 5)) (dC (.int 1))))))
def F_inked : Sl → Option Out := (dSeq (dIf (tOrF (dTest (dBin gLt (dVar 1) (dC (.int 0)))) (tOrF (dTest (dBin gLt (dVar 2) (dC (.int 0)))) (dTest (dBin gGe (dVar 2) (dC (.int 7)))))) (dRet (dC (.bool false))) dSkip) (dSeq (dSet 3 (dC (.int 0))) (dSeq (dFor 4 (iTxt (dVar 0)) L0_inked) (dRet (dC (.bool false))))))
def f_inked : List PyData → Option PyData := runF F_inked 6
theorem ok_inked [Wd] (T : Tx K mg) : Ok Wd.P Wd.w K mg base "inked" 2 ["text", "x", "y"] (spP f_inked 3) := T.inked.pure (F := F_inked) sc_inked bo_inked rfl rfl fun f cdv A outer s H E hr => (ds_cons (ds_if (PW.pt (dw_or (dt_lt (de_var 1) de_int) (dw_or (dt_lt (de_var 2) de_int) (dw_or1 (dt_ge (de_var 2) (de_gint T.HEIGHT)))))) (ds_one (ds_ret de_bl)) ds_nil) (ds_cons (ds_set 3 sc_inked.nd rfl (Or.inl rfl) de_int) (ds_cons (ds_for (i := 4) PassesOwn.never rfl (di_str (de_var 0)) (pg_name (i := 4) sc_inked.nd rfl (Or.inl rfl)) (ds_cons (ds_set 5 sc_inked.nd rfl (Or.inl rfl) (de_cl (ok_glyph_width T) hr (da_cons (de_var 4) da_nil))) (ds_cons (ds_if (dt_lt (de_var 1) (de_add (de_var 3) (de_var 5))) (ds_one (ds_ret (de_and (de_ge (de_var 1) (de_var 3)) (de_one (de_ne (de_var 4) de_str))))) ds_nil) (ds_one (ds_set 3 sc_inked.nd rfl (Or.inl rfl) (de_add (de_add (de_var 3) (de_var 5)) de_int)))))) (ds_one (ds_ret de_bl)))))
theorem sc_around : FnScope ["shape", "points", "text", "columns", "rows", "left", "top", "x", "y", "radius", "width"] ["shape", "points", "text"] (defScope s_around) := ⟨rfl, rfl, rfl, by decide +kernel, rfl, by decide +kernel, by decide +kernel⟩
theorem bo_around : BindOk "around" s_around ["shape", "points", "text"] := fun _ _ _ _ _ _ us hl => match us, hl with | [_, _, _], _ => rfl
def F_around : Sl → Option Out := (dSeq (dIf (dTest (dBin gEq (dVar 0) (dC (.str "rectangle")))) (dRet (dVar 1)) dSkip) (dSeq (dIf (tOrF (dTest (dBin gEq (dVar 0) (dC (.str "line")))) (dTest (dBin gEq (dVar 0) (dC (.str "polyline"))))) (dSeq (dSet 3 (dSl2 (dVar 1) (fun _ => some none) (fun _ => some none))) (dSeq (dSet 4 (dSl2 (dVar 1) (dPart (dC (.int 1))) (fun _ => some none))) (dSeq (dSet 5 (dCall gMin [(dVar 3)])) (dSeq (dSet 6 (dCall gMin [(dVar 4)])) (dRet (dTup [(dVar 5), (dVar 6), (dBin gAdd (dBin gSub (dCall gMax [(dVar 3)]) (dVar 5)) (dC (.int 1))), (dBin gAdd (dBin gSub (dCall gMax [(dVar 4)]) (dVar 6)) (dC (.int 1)))])))))) dSkip) (dSeq (dIf (dTest (dBin gEq (dVar 0) (dC (.str "circle")))) (dSeq (dUnp [7, 8, 9] (dVar 1)) (dRet (dTup [(dBin gSub (dVar 7) (dVar 9)), (dBin gSub (dVar 8) (dVar 9)), (dBin gAdd (dBin gMul (dC (.int 2)) (dVar 9)) (dC (.int 1))), (dBin gAdd (dBin gMul (dC (.int 2)) (dVar 9)) (dC (.int 1)))]))) dSkip) (dSeq (dSet 10 (dCall f_text_width [(dVar 2)])) (dSeq (dSet 5 (dBin gIx (dVar 1) (dC (.int 0)))) (dSeq (dIf (dTest (dBin gEq (dVar 0) (dC (.str "text middle")))) (dSet 5 (dBin gSub (dVar 5) (dBin gDiv2 (dVar 10) (dC (.int 2))))) (dIf (dTest (dBin gEq (dVar 0) (dC (.str "text end")))) (dSet 5 (dBin gSub (dVar 5) (dVar 10))) dSkip)) (dRet (dTup [(dVar 5), (dBin gIx (dVar 1) (dC (.int 1))), (dVar 10), (dC (.int 7))]))))))))
def f_around : List PyData → Option PyData := runF F_around 11
theorem ok_around [Wd] (T : Tx K mg) : Ok Wd.P Wd.w K mg base "around" 3 ["shape", "points", "text"] (spP f_around 3) := T.around.pure (F := F_around) sc_around bo_around rfl rfl fun f cdv A outer s H E hr => (ds_cons (ds_if (dt_eq (de_var 0) de_str) (ds_one (ds_ret (de_var 1))) ds_nil) (ds_cons (ds_if (PW.pt (dw_or (dt_eq (de_var 0) de_str) (dw_or1 (dt_eq (de_var 0) de_str)))) (ds_cons (ds_set 3 sc_around.nd rfl (Or.inl rfl) (de_slice2 (de_var 1) do_none do_none)) (ds_cons (ds_set 4 sc_around.nd rfl (Or.inl rfl) (de_slice2 (de_var 1) (do_some de_int) do_none)) (ds_cons (ds_set 5 sc_around.nd rfl (Or.inl rfl) (de_min rfl T.b_min (da_cons (de_var 3) da_nil))) (ds_cons (ds_set 6 sc_around.nd rfl (Or.inl rfl) (de_min rfl T.b_min (da_cons (de_var 4) da_nil))) (ds_one (ds_ret (de_tup (da_cons (de_var 5) (da_cons (de_var 6) (da_cons (de_add (de_sub (de_max rfl T.b_max (da_cons (de_var 3) da_nil)) (de_var 5)) de_int) (da_cons (de_add (de_sub (de_max rfl T.b_max (da_cons (de_var 4) da_nil)) (de_var 6)) de_int) da_nil))))))))))) ds_nil) (ds_cons (ds_if (dt_eq (de_var 0) de_str) (ds_cons (ds_unp (is := [7, 8, 9]) rfl (de_var 1) (dgs_cons (pg_name (i := 7) sc_around.nd rfl (Or.inl rfl)) (dgs_cons (pg_name (i := 8) sc_around.nd rfl (Or.inl rfl)) (dgs_cons (pg_name (i := 9) sc_around.nd rfl (Or.inl rfl)) dgs_nil)))) (ds_one (ds_ret (de_tup (da_cons (de_sub (de_var 7) (de_var 9)) (da_cons (de_sub (de_var 8) (de_var 9)) (da_cons (de_add (de_mul de_int (de_var 9)) de_int) (da_cons (de_add (de_mul de_int (de_var 9)) de_int) da_nil)))))))) ds_nil) (ds_cons (ds_set 10 sc_around.nd rfl (Or.inl rfl) (de_cl (ok_text_width T) hr (da_cons (de_var 2) da_nil))) (ds_cons (ds_set 5 sc_around.nd rfl (Or.inl rfl) (de_ix (de_var 1) de_int)) (ds_cons (ds_if (dt_eq (de_var 0) de_str) (ds_one (ds_set 5 sc_around.nd rfl (Or.inl rfl) (de_sub (de_var 5) (de_div (de_var 10) de_int)))) (ds_one (ds_if (dt_eq (de_var 0) de_str) (ds_one (ds_set 5 sc_around.nd rfl (Or.inl rfl) (de_sub (de_var 5) (de_var 10)))) ds_nil))) (ds_one (ds_ret (de_tup (da_cons (de_var 5) (da_cons (de_ix (de_var 1) de_int) (da_cons (de_var 10) (da_cons (de_gint T.HEIGHT) da_nil)))))))))))))
theorem sc_line_covers : FnScope ["ends", "x", "y", "x1", "y1", "x2", "y2", "apart"] ["ends", "x", "y"] (defScope s_line_covers) := ⟨rfl, rfl, rfl, by decide +kernel, rfl, by decide +kernel, by decide +kernel⟩
theorem bo_line_covers : BindOk "line_covers" s_line_covers ["ends", "x", "y"] := fun _ _ _ _ _ _ us hl => match us, hl with | [_, _, _], _ => rfl
def F_line_covers : Sl → Option Out := (dSeq (dUnp [3, 4, 5, 6] (dVar 0)) (dSeq (dIf (tOrF (dTest (dBin gLt (dVar 1) (dCall gMin [(dVar 3), (dVar 5)]))) (tOrF (dTest (dBin gGt (dVar 1) (dCall gMax [(dVar 3), (dVar 5)]))) (tOrF (dTest (dBin gLt (dVar 2) (dCall gMin [(dVar 4), (dVar 6)]))) (dTest (dBin gGt (dVar 2) (dCall gMax [(dVar 4), (dVar 6)])))))) (dRet (dC (.bool false))) dSkip) (dSeq (dSet 7 (dCall gAbs [(dBin gSub (dBin gMul (dBin gSub (dVar 2) (dVar 4)) (dBin gSub (dVar 5) (dVar 3))) (dBin gMul (dBin gSub (dVar 1) (dVar 3)) (dBin gSub (dVar 6) (dVar 4))))])) (dRet (dBin gLe (dBin gMul (dC (.int 2)) (dVar 7)) (dCall gMax [(dCall gAbs [(dBin gSub (dVar 5) (dVar 3))]), (dCall gAbs [(dBin gSub (dVar 6) (dVar 4))])]))))))
def f_line_covers : List PyData → Option PyData := runF F_line_covers 8
theorem ok_line_covers [Wd] (T : Tx K mg) : Ok Wd.P Wd.w K mg base "line_covers" 1 ["ends", "x", "y"] (spP f_line_covers 3) := T.line_covers.pure (F := F_line_covers) sc_line_covers bo_line_covers rfl rfl fun f cdv A outer s H E hr => (ds_cons (ds_unp (is := [3, 4, 5, 6]) rfl (de_var 0) (dgs_cons (pg_name (i := 3) sc_line_covers.nd rfl (Or.inl rfl)) (dgs_cons (pg_name (i := 4) sc_line_covers.nd rfl (Or.inl rfl)) (dgs_cons (pg_name (i := 5) sc_line_covers.nd rfl (Or.inl rfl)) (dgs_cons (pg_name (i := 6) sc_line_covers.nd rfl (Or.inl rfl)) dgs_nil))))) (ds_cons (ds_if (PW.pt (dw_or (dt_lt (de_var 1) (de_min rfl T.b_min (da_cons (de_var 3) (da_cons (de_var 5) da_nil)))) (dw_or (dt_gt (de_var 1) (de_max rfl T.b_max (da_cons (de_var 3) (da_cons (de_var 5) da_nil)))) (dw_or (dt_lt (de_var 2) (de_min rfl T.b_min (da_cons (de_var 4) (da_cons (de_var 6) da_nil)))) (dw_or1 (dt_gt (de_var 2) (de_max rfl T.b_max (da_cons (de_var 4) (da_cons (de_var 6) da_nil))))))))) (ds_one (ds_ret de_bl)) ds_nil) (ds_cons (ds_set 7 sc_line_covers.nd rfl (Or.inl rfl) (de_abs T.b_abs (da_cons (de_sub (de_mul (de_sub (de_var 2) (de_var 4)) (de_sub (de_var 5) (de_var 3))) (de_mul (de_sub (de_var 1) (de_var 3)) (de_sub (de_var 6) (de_var 4)))) da_nil))) (ds_one (ds_ret (de_le (de_mul de_int (de_var 7)) (de_max rfl T.b_max (da_cons (de_abs T.b_abs (da_cons (de_sub (de_var 5) (de_var 3)) da_nil)) (da_cons (de_abs T.b_abs (da_cons (de_sub (de_var 6) (de_var 4)) da_nil)) da_nil)))))))))
theorem sc_polyline_covers : FnScope ["points", "x", "y", "k"] ["points", "x", "y"] (defScope s_polyline_covers) := ⟨rfl, rfl, rfl, by decide +kernel, rfl, by decide +kernel, by decide +kernel⟩
theorem bo_polyline_covers : BindOk "polyline_covers" s_polyline_covers ["points", "x", "y"] := fun _ _ _ _ _ _ us hl => match us, hl with | [_, _, _], _ => rfl
def L0_polyline_covers : Sl → Option Out := (dIf (dTest (dCall f_line_covers [(dSl (dVar 0) (dPart (dVar 3)) (dPart (dBin gAdd (dVar 3) (dC (.int 4))))), (dVar 1), (dVar 2)])) (dRet (dC (.bool true))) dSkip)
def F_polyline_covers : Sl → Option Out := (dSeq (dIf (dTest (dBin gEq (dCall gLen [(dVar 0)]) (dC (.int 2)))) (dRet (dBin gEqD (dVar 0) (dTup [(dVar 1), (dVar 2)]))) dSkip) (dSeq (dFor 3 (iRg3 (evs [(dC (.int 0)), (dBin gSub (dCall gLen [(dVar 0)]) (dC (.int 2))), (dC (.int 2))])) L0_polyline_covers) (dRet (dC (.bool false)))))
def f_polyline_covers : List PyData → Option PyData := runF F_polyline_covers 4
theorem ok_polyline_covers [Wd] (T : Tx K mg) : Ok Wd.P Wd.w K mg base "polyline_covers" 2 ["points", "x", "y"] (spP f_polyline_covers 3) := T.polyline_covers.pure (F := F_polyline_covers) sc_polyline_covers bo_polyline_covers rfl rfl fun f cdv A outer s H E hr => (ds_cons (ds_if (dt_eq (de_len T.b_len (da_cons (de_var 0) da_nil)) de_int) (ds_one (ds_ret (de_eqD hr.units (de_var 0) (de_tup (da_cons (de_var 1) (da_cons (de_var 2) da_nil)))))) ds_nil) (ds_cons (ds_for (i := 3) PassesOwn.never rfl (di_range3 rfl T.b_range (da_cons de_int (da_cons (de_sub (de_len T.b_len (da_cons (de_var 0) da_nil)) de_int) (da_cons de_int da_nil)))) (pg_name (i := 3) sc_polyline_covers.nd rfl (Or.inl rfl)) (ds_one (ds_if (dt_val (de_cl (ok_line_covers T) hr (da_cons (de_slice (de_var 0) (do_some (de_var 3)) (do_some (de_add (de_var 3) de_int))) (da_cons (de_var 1) (da_cons (de_var 2) da_nil))))) (ds_one (ds_ret de_bl)) ds_nil))) (ds_one (ds_ret de_bl))))
theorem sc_covers : FnScope ["shape", "points", "text", "x", "y", "across", "along", "box"] ["shape", "points", "text", "x", "y"] (defScope s_covers) := ⟨rfl, rfl, rfl, by decide +kernel, rfl, by decide +kernel, by decide +kernel⟩
theorem bo_covers : BindOk "covers" s_covers ["shape", "points", "text", "x", "y"] := fun _ _ _ _ _ _ us hl => match us, hl with | [_, _, _, _, _], _ => rfl
def F_covers : Sl → Option Out := (dSeq (dIf (dTest (dBin gEq (dVar 0) (dC (.str "rectangle")))) (dRet (dCall f_contains [(dVar 1), (dVar 3), (dVar 4)])) dSkip) (dSeq (dIf (dTest (dBin gEq (dVar 0) (dC (.str "line")))) (dRet (dCall f_line_covers [(dVar 1), (dVar 3), (dVar 4)])) dSkip) (dSeq (dIf (dTest (dBin gEq (dVar 0) (dC (.str "polyline")))) (dRet (dCall f_polyline_covers [(dVar 1), (dVar 3), (dVar 4)])) dSkip) (dSeq (dIf (dTest (dBin gEq (dVar 0) (dC (.str "circle")))) (dSeq (dSet 5 (dBin gSub (dVar 3) (dBin gIx (dVar 1) (dC (.int 0))))) (dSeq (dSet 6 (dBin gSub (dVar 4) (dBin gIx (dVar 1) (dC (.int 1))))) (dRet (dBin gLe (dBin gAdd (dBin gMul (dVar 5) (dVar 5)) (dBin gMul (dVar 6) (dVar 6))) (dBin gAdd (dBin gMul (dBin gIx (dVar 1) (dC (.int 2))) (dBin gIx (dVar 1) (dC (.int 2)))) (dBin gIx (dVar 1) (dC (.int 2)))))))) dSkip) (dSeq (dSet 7 (dCall f_around [(dVar 0), (dVar 1), (dVar 2)])) (dRet (dCall f_inked [(dVar 2), (dBin gSub (dVar 3) (dBin gIx (dVar 7) (dC (.int 0)))), (dBin gSub (dVar 4) (dBin gIx (dVar 7) (dC (.int 1))))])))))))
def f_covers : List PyData → Option PyData := runF F_covers 8
theorem ok_covers [Wd] (T : Tx K mg) : Ok Wd.P Wd.w K mg base "covers" 4 ["shape", "points", "text", "x", "y"] (spP f_covers 5) := T.covers.pure (F := F_covers) sc_covers bo_covers rfl rfl fun f cdv A outer s H E hr => (ds_cons (ds_if (dt_eq (de_var 0) de_str) (ds_one (ds_ret (de_cl (ok_contains T) hr (da_cons (de_var 1) (da_cons (de_var 3) (da_cons (de_var 4) da_nil)))))) ds_nil) (ds_cons (ds_if (dt_eq (de_var 0) de_str) (ds_one (ds_ret (de_cl (ok_line_covers T) hr (da_cons (de_var 1) (da_cons (de_var 3) (da_cons (de_var 4) da_nil)))))) ds_nil) (ds_cons (ds_if (dt_eq (de_var 0) de_str) (ds_one (ds_ret (de_cl (ok_polyline_covers T) hr (da_cons (de_var 1) (da_cons (de_var 3) (da_cons (de_var 4) da_nil)))))) ds_nil) (ds_cons (ds_if (dt_eq (de_var 0) de_str) (ds_cons (ds_set 5 sc_covers.nd rfl (Or.inl rfl) (de_sub (de_var 3) (de_ix (de_var 1) de_int))) (ds_cons (ds_set 6 sc_covers.nd rfl (Or.inl rfl) (de_sub (de_var 4) (de_ix (de_var 1) de_int))) (ds_one (ds_ret (de_le (de_add (de_mul (de_var 5) (de_var 5)) (de_mul (de_var 6) (de_var 6))) (de_add (de_mul (de_ix (de_var 1) de_int) (de_ix (de_var 1) de_int)) (de_ix (de_var 1) de_int))))))) ds_nil) (ds_cons (ds_set 7 sc_covers.nd rfl (Or.inl rfl) (de_cl (ok_around T) hr (da_cons (de_var 0) (da_cons (de_var 1) (da_cons (de_var 2) da_nil))))) (ds_one (ds_ret (de_cl (ok_inked T) hr (da_cons (de_var 2) (da_cons (de_sub (de_var 3) (de_ix (de_var 7) de_int)) (da_cons (de_sub (de_var 4) (de_ix (de_var 7) de_int)) da_nil)))))))))))
theorem sc_identity : FnScope ["primitive"] ["primitive"] (defScope s_identity) := ⟨rfl, rfl, rfl, by decide +kernel, rfl, by decide +kernel, by decide +kernel⟩
theorem bo_identity : BindOk "identity" s_identity ["primitive"] := fun _ _ _ _ _ _ us hl => match us, hl with | [_], _ => rfl
def F_identity : Sl → Option Out := (dRet (dSl (dVar 0) (fun _ => some none) (dPart (dC (.int 3)))))
def f_identity : List PyData → Option PyData := runF F_identity 1
theorem ok_identity [Wd] (T : Tx K mg) : Ok Wd.P Wd.w K mg base "identity" 1 ["primitive"] (spP f_identity 1) := T.identity.pure (F := F_identity) sc_identity bo_identity rfl rfl fun f cdv A outer s H E hr => (ds_one (ds_ret (de_slice (de_var 0) do_none (do_some de_int))))
theorem sc_page_of : FnScope ["scene"] ["scene"] (defScope s_page_of) := ⟨rfl, rfl, rfl, by decide +kernel, rfl, by decide +kernel, by decide +kernel⟩
theorem bo_page_of : BindOk "page_of" s_page_of ["scene"] := fun _ _ _ _ _ _ us hl => match us, hl with | [_], _ => rfl
def F_page_of : Sl → Option Out := (dRet (dTup [(dC (.int 0)), (dC (.int 0)), (dBin gIx (dVar 0) (dC (.int 0))), (dBin gIx (dVar 0) (dC (.int 1)))]))
def f_page_of : List PyData → Option PyData := runF F_page_of 1
theorem ok_page_of [Wd] (T : Tx K mg) : Ok Wd.P Wd.w K mg base "page_of" 1 ["scene"] (spP f_page_of 1) := T.page_of.pure (F := F_page_of) sc_page_of bo_page_of rfl rfl fun f cdv A outer s H E hr => (ds_one (ds_ret (de_tup (da_cons de_int (da_cons de_int (da_cons (de_ix (de_var 0) de_int) (da_cons (de_ix (de_var 0) de_int) da_nil)))))))
theorem sc_reach : FnScope ["primitive", "whole"] ["primitive"] (defScope s_reach) := ⟨rfl, rfl, rfl, by decide +kernel, rfl, by decide +kernel, by decide +kernel⟩
theorem bo_reach : BindOk "reach" s_reach ["primitive"] := fun _ _ _ _ _ _ us hl => match us, hl with | [_], _ => rfl
def F_reach : Sl → Option Out := (dSeq (dSet 1 (dCall f_around [(dBin gIx (dVar 0) (dC (.int 3))), (dBin gIx (dVar 0) (dC (.int 4))), (dBin gIx (dVar 0) (dC (.int 5)))])) (dSeq (dIf (dTest (dBin gIs (dBin gIx (dVar 0) (dC (.int 8))) (dC .none))) (dRet (dCall f_common [(dVar 1), (dVar 1)])) dSkip) (dRet (dCall f_common [(dVar 1), (dBin gIx (dVar 0) (dC (.int 8)))]))))
def f_reach : List PyData → Option PyData := runF F_reach 2
theorem ok_reach [Wd] (T : Tx K mg) : Ok Wd.P Wd.w K mg base "reach" 4 ["primitive"] (spP f_reach 1) := T.reach.pure (F := F_reach) sc_reach bo_reach rfl rfl fun f cdv A outer s H E hr => (ds_cons (ds_set 1 sc_reach.nd rfl (Or.inl rfl) (de_cl (ok_around T) hr (da_cons (de_ix (de_var 0) de_int) (da_cons (de_ix (de_var 0) de_int) (da_cons (de_ix (de_var 0) de_int) da_nil))))) (ds_cons (ds_if (dt_is (de_ix (de_var 0) de_int) de_non) (ds_one (ds_ret (de_cl (ok_common T) hr (da_cons (de_var 1) (da_cons (de_var 1) da_nil))))) ds_nil) (ds_one (ds_ret (de_cl (ok_common T) hr (da_cons (de_var 1) (da_cons (de_ix (de_var 0) de_int) da_nil)))))))
theorem sc_visible_part : FnScope ["scene", "primitive", "box"] ["scene", "primitive"] (defScope s_visible_part) := ⟨rfl, rfl, rfl, by decide +kernel, rfl, by decide +kernel, by decide +kernel⟩
theorem bo_visible_part : BindOk "visible_part" s_visible_part ["scene", "primitive"] := fun _ _ _ _ _ _ us hl => match us, hl with | [_, _], _ => rfl
def F_visible_part : Sl → Option Out := (dSeq (dSet 2 (dCall f_reach [(dVar 1)])) (dSeq (dIf (dTest (dBin gIs (dVar 2) (dC .none))) (dRet (dC .none)) dSkip) (dRet (dCall f_common [(dVar 2), (dCall f_page_of [(dVar 0)])]))))
def f_visible_part : List PyData → Option PyData := runF F_visible_part 3
theorem ok_visible_part [Wd] (T : Tx K mg) : Ok Wd.P Wd.w K mg base "visible_part" 5 ["scene", "primitive"] (spP f_visible_part 2) := T.visible_part.pure (F := F_visible_part) sc_visible_part bo_visible_part rfl rfl fun f cdv A outer s H E hr => (ds_cons (ds_set 2 sc_visible_part.nd rfl (Or.inl rfl) (de_cl (ok_reach T) hr (da_cons (de_var 1) da_nil))) (ds_cons (ds_if (dt_is (de_var 2) de_non) (ds_one (ds_ret de_non)) ds_nil) (ds_one (ds_ret (de_cl (ok_common T) hr (da_cons (de_var 2) (da_cons (de_cl (ok_page_of T) hr (da_cons (de_var 0) da_nil)) da_nil)))))))
theorem sc_paint_of : FnScope ["primitive", "x", "y", "color"] ["primitive", "x", "y"] (defScope s_paint_of) := ⟨rfl, rfl, rfl, by decide +kernel, rfl, by decide +kernel, by decide +kernel⟩
theorem bo_paint_of : BindOk "paint_of" s_paint_of ["primitive", "x", "y"] := fun _ _ _ _ _ _ us hl => match us, hl with | [_, _, _], _ => rfl
def F_paint_of : Sl → Option Out := (dSeq (dSet 3 (dBin gIx (dVar 0) (dC (.int 6)))) (dSeq (dIf (tOrF (dTest (dBin gEq (dBin gIx (dVar 0) (dC (.int 3))) (dC (.str "line")))) (dTest (dBin gEq (dBin gIx (dVar 0) (dC (.int 3))) (dC (.str "polyline"))))) (dSet 3 (dBin gIx (dVar 0) (dC (.int 7)))) dSkip) (dSeq (dIf (dTest (dBin gIs (dVar 3) (dC .none))) (dRet (dC .none)) dSkip) (dSeq (dIf (tAndF (dTest (dBin gIsNot (dBin gIx (dVar 0) (dC (.int 8))) (dC .none))) (tNotF (dTest (dCall f_contains [(dBin gIx (dVar 0) (dC (.int 8))), (dVar 1), (dVar 2)])))) (dRet (dC .none)) dSkip) (dSeq (dIf (dTest (dCall f_covers [(dBin gIx (dVar 0) (dC (.int 3))), (dBin gIx (dVar 0) (dC (.int 4))), (dBin gIx (dVar 0) (dC (.int 5))), (dVar 1), (dVar 2)])) (dRet (dVar 3)) dSkip) (dRet (dC .none)))))))
def f_paint_of : List PyData → Option PyData := runF F_paint_of 4
theorem ok_paint_of [Wd] (T : Tx K mg) : Ok Wd.P Wd.w K mg base "paint_of" 5 ["primitive", "x", "y"] (spP f_paint_of 3) := T.paint_of.pure (F := F_paint_of) sc_paint_of bo_paint_of rfl rfl fun f cdv A outer s H E hr => (ds_cons (ds_set 3 sc_paint_of.nd rfl (Or.inl rfl) (de_ix (de_var 0) de_int)) (ds_cons (ds_if (PW.pt (dw_or (dt_eq (de_ix (de_var 0) de_int) de_str) (dw_or1 (dt_eq (de_ix (de_var 0) de_int) de_str)))) (ds_one (ds_set 3 sc_paint_of.nd rfl (Or.inl rfl) (de_ix (de_var 0) de_int))) ds_nil) (ds_cons (ds_if (dt_is (de_var 3) de_non) (ds_one (ds_ret de_non)) ds_nil) (ds_cons (ds_if (PW.pt (dw_and (dt_isnot (de_ix (de_var 0) de_int) de_non) (dw_and1 (dt_not (dt_val (de_cl (ok_contains T) hr (da_cons (de_ix (de_var 0) de_int) (da_cons (de_var 1) (da_cons (de_var 2) da_nil))))))))) (ds_one (ds_ret de_non)) ds_nil) (ds_cons (ds_if (dt_val (de_cl (ok_covers T) hr (da_cons (de_ix (de_var 0) de_int) (da_cons (de_ix (de_var 0) de_int) (da_cons (de_ix (de_var 0) de_int) (da_cons (de_var 1) (da_cons (de_var 2) da_nil))))))) (ds_one (ds_ret (de_var 3))) ds_nil) (ds_one (ds_ret de_non)))))))
theorem sc_law_holds : FnScope ["_law_one", "_law_x", "_law_y"] ["_law_one", "_law_x", "_law_y"] (defScope s_law_holds) := ⟨rfl, rfl, rfl, by decide +kernel, rfl, by decide +kernel, by decide +kernel⟩
theorem bo_law_holds : BindOk "_law_holds" s_law_holds ["_law_one", "_law_x", "_law_y"] := fun _ _ _ _ _ _ us hl => match us, hl with | [_, _, _], _ => rfl
def F_law_holds : Sl → Option Out := (dRet (dAndV (dBin gLe (dBin gIx (dVar 0) (dC (.int 0))) (dVar 1)) (dAndV (dBin gLt (dVar 1) (dBin gAdd (dBin gIx (dVar 0) (dC (.int 0))) (dBin gIx (dVar 0) (dC (.int 2))))) (dAndV (dBin gLe (dBin gIx (dVar 0) (dC (.int 1))) (dVar 2)) (dBin gLt (dVar 2) (dBin gAdd (dBin gIx (dVar 0) (dC (.int 1))) (dBin gIx (dVar 0) (dC (.int 3)))))))))
def f_law_holds : List PyData → Option PyData := runF F_law_holds 3
theorem ok_law_holds [Wd] (T : Tx K mg) : Ok Wd.P Wd.w K mg base "_law_holds" 1 ["_law_one", "_law_x", "_law_y"] (spP f_law_holds 3) := T.law_holds.pure (F := F_law_holds) sc_law_holds bo_law_holds rfl rfl fun f cdv A outer s H E hr => (ds_one (ds_ret (de_and (de_le (de_ix (de_var 0) de_int) (de_var 1)) (de_and (de_lt (de_var 1) (de_add (de_ix (de_var 0) de_int) (de_ix (de_var 0) de_int))) (de_and (de_le (de_ix (de_var 0) de_int) (de_var 2)) (de_one (de_lt (de_var 2) (de_add (de_ix (de_var 0) de_int) (de_ix (de_var 0) de_int)))))))))
theorem sc_law_sign_width : FnScope ["_law_sign"] ["_law_sign"] (defScope s_law_sign_width) := ⟨rfl, rfl, rfl, by decide +kernel, rfl, by decide +kernel, by decide +kernel⟩
theorem bo_law_sign_width : BindOk "_law_sign_width" s_law_sign_width ["_law_sign"] := fun _ _ _ _ _ _ us hl => match us, hl with | [_], _ => rfl
def F_law_sign_width : Sl → Option Out := (dSeq (dIf (dTest (dBin gIn (dVar 0) (dC (.str "!'.:i|")))) (dRet (dC (.int 1))) dSkip) (dSeq (dIf (dTest (dBin gIn (dVar 0) (dC (.str "(),;[]jl`")))) (dRet (dC (.int 2))) dSkip) (dSeq (dIf (dTest (dBin gIn (dVar 0) (dC (.str " \"*-/1<>I\\^frt{}")))) (dRet (dC (.int 3))) dSkip) (dSeq (dIf (dTest (dBin gIn (dVar 0) (dC (.str "$023456789=?J_abcdeghknopqsuvxyz")))) (dRet (dC (.int 4))) dSkip) (dRet (dC (.int 5)))))))
def f_law_sign_width : List PyData → Option PyData := runF F_law_sign_width 1
theorem ok_law_sign_width [Wd] (T : Tx K mg) : Ok Wd.P Wd.w K mg base "_law_sign_width" 1 ["_law_sign"] (spP f_law_sign_width 1) := T.law_sign_width.pure (F := F_law_sign_width) sc_law_sign_width bo_law_sign_width rfl rfl fun f cdv A outer s H E hr => (ds_cons (ds_if (dt_in (de_var 0) de_str) (ds_one (ds_ret de_int)) ds_nil) (ds_cons (ds_if (dt_in (de_var 0) de_str) (ds_one (ds_ret de_int)) ds_nil) (ds_cons (ds_if (dt_in (de_var 0) de_str) (ds_one (ds_ret de_int)) ds_nil) (ds_cons (ds_if (dt_in (de_var 0) de_str) (ds_one (ds_ret de_int)) ds_nil) (ds_one (ds_ret de_int))))))
theorem sc_law_width : FnScope ["_law_text", "_law_total", "_law_sign"] ["_law_text"] (defScope s_law_width) := ⟨rfl, rfl, rfl, by decide +kernel, rfl, by decide +kernel, by decide +kernel⟩
theorem bo_law_width : BindOk "_law_width" s_law_width ["_law_text"] := fun _ _ _ _ _ _ us hl => match us, hl with | [_], _ => rfl
def L0_law_width : Sl → Option Out := (dSet 1 (dBin gAdd (dBin gAdd (dVar 1) (dC (.int 1))) (dCall f_law_sign_width [(dVar 2)])))
def F_law_width : Sl → Option Out := (dSeq (dSet 1 (dC (.int 0))) (dSeq (dFor 2 (iTxt (dVar 0)) L0_law_width) (dRet (dCall gMax [(dBin gSub (dVar 1) (dC (.int 1))), (dC (.int 0))]))))
def f_law_width : List PyData → Option PyData := runF F_law_width 3
theorem ok_law_width [Wd] (T : Tx K mg) : Ok Wd.P Wd.w K mg base "_law_width" 2 ["_law_text"] (spP f_law_width 1) := T.law_width.pure (F := F_law_width) sc_law_width bo_law_width rfl rfl fun f cdv A outer s H E hr => (ds_cons (ds_set 1 sc_law_width.nd rfl (Or.inl rfl) de_int) (ds_cons (ds_for (i := 2) PassesOwn.never rfl (di_str (de_var 0)) (pg_name (i := 2) sc_law_width.nd rfl (Or.inl rfl)) (ds_one (ds_set 1 sc_law_width.nd rfl (Or.inl rfl) (de_add (de_add (de_var 1) de_int) (de_cl (ok_law_sign_width T) hr (da_cons (de_var 2) da_nil)))))) (ds_one (ds_ret (de_max rfl T.b_max (da_cons (de_sub (de_var 1) de_int) (da_cons de_int da_nil)))))))
theorem sc_law_inked : FnScope ["_law_text", "_law_x", "_law_y", "_law_left", "_law_sign", "_law_width_here"] ["_law_text", "_law_x", "_law_y"] (defScope s_law_inked) := ⟨rfl, rfl, rfl, by decide +kernel, rfl, by decide +kernel, by decide +kernel⟩
theorem bo_law_inked : BindOk "_law_inked" s_law_inked ["_law_text", "_law_x", "_law_y"] := fun _ _ _ _ _ _ us hl => match us, hl with | [_, _, _], _ => rfl
def L0_law_inked : Sl → Option Out := (dSeq (dSet 5 (dCall f_law_sign_width [(dVar 4)])) (dSeq (dIf (tAndF (dTest (dBin gLe (dVar 3) (dVar 1))) (dTest (dBin gLt (dVar 1) (dBin gAdd (dVar 3) (dVar 5))))) (dRet (dAndV (dBin gNe (dVar 4) (dC (.str " "))) (dAndV (dBin gLe (dC (.int 0)) (dVar 2)) (dBin gLt (dVar 2) (dC (.int 7)))))) dSkip) (dSet 3 (dBin gAdd (dBin gAdd (dVar 3) (dVar 5)) (dC (.int 1))))))
def F_law_inked : Sl → Option Out := (dSeq (dSet 3 (dC (.int 0))) (dSeq (dFor 4 (iTxt (dVar 0)) L0_law_inked) (dRet (dC (.bool false)))))
def f_law_inked : List PyData → Option PyData := runF F_law_inked 6
theorem ok_law_inked [Wd] (T : Tx K mg) : Ok Wd.P Wd.w K mg base "_law_inked" 2 ["_law_text", "_law_x", "_law_y"] (spP f_law_inked 3) := T.law_inked.pure (F := F_law_inked) sc_law_inked bo_law_inked rfl rfl fun f cdv A outer s H E hr => (ds_cons (ds_set 3 sc_law_inked.nd rfl (Or.inl rfl) de_int) (ds_cons (ds_for (i := 4) PassesOwn.never rfl (di_str (de_var 0)) (pg_name (i := 4) sc_law_inked.nd rfl (Or.inl rfl)) (ds_cons (ds_set 5 sc_law_inked.nd rfl (Or.inl rfl) (de_cl (ok_law_sign_width T) hr (da_cons (de_var 4) da_nil))) (ds_cons (ds_if (PW.pt (dw_and (dt_le (de_var 3) (de_var 1)) (dw_and1 (dt_lt (de_var 1) (de_add (de_var 3) (de_var 5)))))) (ds_one (ds_ret (de_and (de_ne (de_var 4) de_str) (de_and (de_le de_int (de_var 2)) (de_one (de_lt (de_var 2) de_int)))))) ds_nil) (ds_one (ds_set 3 sc_law_inked.nd rfl (Or.inl rfl) (de_add (de_add (de_var 3) (de_var 5)) de_int)))))) (ds_one (ds_ret de_bl))))
theorem sc_law_around : FnScope ["_law_shape", "_law_points", "_law_text", "_law_size", "_law_across", "_law_down", "_law_width_here", "_law_left", "_law_k"] ["_law_shape", "_law_points", "_law_text"] (defScope s_law_around) := ⟨rfl, rfl, rfl, by decide +kernel, rfl, by decide +kernel, by decide +kernel⟩
theorem bo_law_around : BindOk "_law_around" s_law_around ["_law_shape", "_law_points", "_law_text"] := fun _ _ _ _ _ _ us hl => match us, hl with | [_, _, _], _ => rfl
def F_law_around : Sl → Option Out := (dSeq (dIf (dTest (dBin gEq (dVar 0) (dC (.str "rectangle")))) (dRet (dVar 1)) dSkip) (dSeq (dIf (dTest (dBin gEq (dVar 0) (dC (.str "circle")))) (dSeq (dSet 3 (dBin gAdd (dBin gMul (dC (.int 2)) (dBin gIx (dVar 1) (dC (.int 2)))) (dC (.int 1)))) (dRet (dTup [(dBin gSub (dBin gIx (dVar 1) (dC (.int 0))) (dBin gIx (dVar 1) (dC (.int 2)))), (dBin gSub (dBin gIx (dVar 1) (dC (.int 1))) (dBin gIx (dVar 1) (dC (.int 2)))), (dVar 3), (dVar 3)]))) dSkip) (dSeq (dIf (tOrF (dTest (dBin gEq (dVar 0) (dC (.str "line")))) (dTest (dBin gEq (dVar 0) (dC (.str "polyline"))))) (dSeq (dSet 4 (dLc 8 (iRg3 (evs [(dC (.int 0)), (dCall gLen [(dVar 1)]), (dC (.int 2))])) dYes (dBin gIx (dVar 1) (dVar 8)))) (dSeq (dSet 5 (dLc 8 (iRg3 (evs [(dC (.int 1)), (dCall gLen [(dVar 1)]), (dC (.int 2))])) dYes (dBin gIx (dVar 1) (dVar 8)))) (dRet (dTup [(dCall gMin [(dVar 4)]), (dCall gMin [(dVar 5)]), (dBin gAdd (dBin gSub (dCall gMax [(dVar 4)]) (dCall gMin [(dVar 4)])) (dC (.int 1))), (dBin gAdd (dBin gSub (dCall gMax [(dVar 5)]) (dCall gMin [(dVar 5)])) (dC (.int 1)))])))) dSkip) (dSeq (dSet 6 (dCall f_law_width [(dVar 2)])) (dSeq (dSet 7 (dBin gIx (dVar 1) (dC (.int 0)))) (dSeq (dIf (dTest (dBin gEq (dVar 0) (dC (.str "text middle")))) (dSet 7 (dBin gSub (dVar 7) (dBin gDiv2 (dVar 6) (dC (.int 2))))) dSkip) (dSeq (dIf (dTest (dBin gEq (dVar 0) (dC (.str "text end")))) (dSet 7 (dBin gSub (dVar 7) (dVar 6))) dSkip) (dRet (dTup [(dVar 7), (dBin gIx (dVar 1) (dC (.int 1))), (dVar 6), (dC (.int 7))])))))))))
def f_law_around : List PyData → Option PyData := runF F_law_around 9
theorem ok_law_around [Wd] (T : Tx K mg) : Ok Wd.P Wd.w K mg base "_law_around" 3 ["_law_shape", "_law_points", "_law_text"] (spP f_law_around 3) := T.law_around.pure (F := F_law_around) sc_law_around bo_law_around rfl rfl fun f cdv A outer s H E hr => (ds_cons (ds_if (dt_eq (de_var 0) de_str) (ds_one (ds_ret (de_var 1))) ds_nil) (ds_cons (ds_if (dt_eq (de_var 0) de_str) (ds_cons (ds_set 3 sc_law_around.nd rfl (Or.inl rfl) (de_add (de_mul de_int (de_ix (de_var 1) de_int)) de_int)) (ds_one (ds_ret (de_tup (da_cons (de_sub (de_ix (de_var 1) de_int) (de_ix (de_var 1) de_int)) (da_cons (de_sub (de_ix (de_var 1) de_int) (de_ix (de_var 1) de_int)) (da_cons (de_var 3) (da_cons (de_var 3) da_nil)))))))) ds_nil) (ds_cons (ds_if (PW.pt (dw_or (dt_eq (de_var 0) de_str) (dw_or1 (dt_eq (de_var 0) de_str)))) (ds_cons (ds_setLc (j := 4) rfl sc_law_around.nd rfl rfl (sw_true rfl rfl rfl (by decide +kernel)) (di_range3 rfl T.b_range (da_cons de_int (da_cons (de_len T.b_len (da_cons (de_var 1) da_nil)) (da_cons de_int da_nil)))) (blkOk_by (own := [("_law_k", 8)]) (N := ["_law_shape", "_law_points", "_law_text", "_law_size", "_law_across", "_law_down", "_law_width_here", "_law_left", "_law_k"]) (sc := defScope s_law_around) (by decide +kernel)) (fun _ _ _ _ _ => pg_name (i := 8) sc_law_around.nd rfl (Or.inl rfl)) (fun _ _ _ _ _ => dts_nil) (fun _ _ _ _ _ => (de_ix (de_var 1) (de_var 8)))) (ds_cons (ds_setLc (j := 5) rfl sc_law_around.nd rfl rfl (sw_true rfl rfl rfl (by decide +kernel)) (di_range3 rfl T.b_range (da_cons de_int (da_cons (de_len T.b_len (da_cons (de_var 1) da_nil)) (da_cons de_int da_nil)))) (blkOk_by (own := [("_law_k", 8)]) (N := ["_law_shape", "_law_points", "_law_text", "_law_size", "_law_across", "_law_down", "_law_width_here", "_law_left", "_law_k"]) (sc := defScope s_law_around) (by decide +kernel)) (fun _ _ _ _ _ => pg_name (i := 8) sc_law_around.nd rfl (Or.inl rfl)) (fun _ _ _ _ _ => dts_nil) (fun _ _ _ _ _ => (de_ix (de_var 1) (de_var 8)))) (ds_one (ds_ret (de_tup (da_cons (de_min rfl T.b_min (da_cons (de_var 4) da_nil)) (da_cons (de_min rfl T.b_min (da_cons (de_var 5) da_nil)) (da_cons (de_add (de_sub (de_max rfl T.b_max (da_cons (de_var 4) da_nil)) (de_min rfl T.b_min (da_cons (de_var 4) da_nil))) de_int) (da_cons (de_add (de_sub (de_max rfl T.b_max (da_cons (de_var 5) da_nil)) (de_min rfl T.b_min (da_cons (de_var 5) da_nil))) de_int) da_nil))))))))) ds_nil) (ds_cons (ds_set 6 sc_law_around.nd rfl (Or.inl rfl) (de_cl (ok_law_width T) hr (da_cons (de_var 2) da_nil))) (ds_cons (ds_set 7 sc_law_around.nd rfl (Or.inl rfl) (de_ix (de_var 1) de_int)) (ds_cons (ds_if (dt_eq (de_var 0) de_str) (ds_one (ds_set 7 sc_law_around.nd rfl (Or.inl rfl) (de_sub (de_var 7) (de_div (de_var 6) de_int)))) ds_nil) (ds_cons (ds_if (dt_eq (de_var 0) de_str) (ds_one (ds_set 7 sc_law_around.nd rfl (Or.inl rfl) (de_sub (de_var 7) (de_var 6)))) ds_nil) (ds_one (ds_ret (de_tup (da_cons (de_var 7) (da_cons (de_ix (de_var 1) de_int) (da_cons (de_var 6) (da_cons de_int da_nil))))))))))))))
theorem sc_law_on_line : FnScope ["_law_ends", "_law_x", "_law_y", "_law_wide", "_law_high"] ["_law_ends", "_law_x", "_law_y"] (defScope s_law_on_line) := ⟨rfl, rfl, rfl, by decide +kernel, rfl, by decide +kernel, by decide +kernel⟩
theorem bo_law_on_line : BindOk "_law_on_line" s_law_on_line ["_law_ends", "_law_x", "_law_y"] := fun _ _ _ _ _ _ us hl => match us, hl with | [_, _, _], _ => rfl
def F_law_on_line : Sl → Option Out := (dSeq (dSet 3 (dBin gSub (dBin gIx (dVar 0) (dC (.int 2))) (dBin gIx (dVar 0) (dC (.int 0))))) (dSeq (dSet 4 (dBin gSub (dBin gIx (dVar 0) (dC (.int 3))) (dBin gIx (dVar 0) (dC (.int 1))))) (dSeq (dIf (tOrF (dTest (dBin gLt (dVar 1) (dCall gMin [(dBin gIx (dVar 0) (dC (.int 0))), (dBin gIx (dVar 0) (dC (.int 2)))]))) (dTest (dBin gGt (dVar 1) (dCall gMax [(dBin gIx (dVar 0) (dC (.int 0))), (dBin gIx (dVar 0) (dC (.int 2)))])))) (dRet (dC (.bool false))) dSkip) (dSeq (dIf (tOrF (dTest (dBin gLt (dVar 2) (dCall gMin [(dBin gIx (dVar 0) (dC (.int 1))), (dBin gIx (dVar 0) (dC (.int 3)))]))) (dTest (dBin gGt (dVar 2) (dCall gMax [(dBin gIx (dVar 0) (dC (.int 1))), (dBin gIx (dVar 0) (dC (.int 3)))])))) (dRet (dC (.bool false))) dSkip) (dRet (dBin gLe (dBin gMul (dC (.int 2)) (dCall gAbs [(dBin gSub (dBin gMul (dBin gSub (dVar 2) (dBin gIx (dVar 0) (dC (.int 1)))) (dVar 3)) (dBin gMul (dBin gSub (dVar 1) (dBin gIx (dVar 0) (dC (.int 0)))) (dVar 4)))])) (dCall gMax [(dCall gAbs [(dVar 3)]), (dCall gAbs [(dVar 4)])])))))))
def f_law_on_line : List PyData → Option PyData := runF F_law_on_line 5
theorem ok_law_on_line [Wd] (T : Tx K mg) : Ok Wd.P Wd.w K mg base "_law_on_line" 1 ["_law_ends", "_law_x", "_law_y"] (spP f_law_on_line 3) := T.law_on_line.pure (F := F_law_on_line) sc_law_on_line bo_law_on_line rfl rfl fun f cdv A outer s H E hr => (ds_cons (ds_set 3 sc_law_on_line.nd rfl (Or.inl rfl) (de_sub (de_ix (de_var 0) de_int) (de_ix (de_var 0) de_int))) (ds_cons (ds_set 4 sc_law_on_line.nd rfl (Or.inl rfl) (de_sub (de_ix (de_var 0) de_int) (de_ix (de_var 0) de_int))) (ds_cons (ds_if (PW.pt (dw_or (dt_lt (de_var 1) (de_min rfl T.b_min (da_cons (de_ix (de_var 0) de_int) (da_cons (de_ix (de_var 0) de_int) da_nil)))) (dw_or1 (dt_gt (de_var 1) (de_max rfl T.b_max (da_cons (de_ix (de_var 0) de_int) (da_cons (de_ix (de_var 0) de_int) da_nil))))))) (ds_one (ds_ret de_bl)) ds_nil) (ds_cons (ds_if (PW.pt (dw_or (dt_lt (de_var 2) (de_min rfl T.b_min (da_cons (de_ix (de_var 0) de_int) (da_cons (de_ix (de_var 0) de_int) da_nil)))) (dw_or1 (dt_gt (de_var 2) (de_max rfl T.b_max (da_cons (de_ix (de_var 0) de_int) (da_cons (de_ix (de_var 0) de_int) da_nil))))))) (ds_one (ds_ret de_bl)) ds_nil) (ds_one (ds_ret (de_le (de_mul de_int (de_abs T.b_abs (da_cons (de_sub (de_mul (de_sub (de_var 2) (de_ix (de_var 0) de_int)) (de_var 3)) (de_mul (de_sub (de_var 1) (de_ix (de_var 0) de_int)) (de_var 4))) da_nil))) (de_max rfl T.b_max (da_cons (de_abs T.b_abs (da_cons (de_var 3) da_nil)) (da_cons (de_abs T.b_abs (da_cons (de_var 4) da_nil)) da_nil))))))))))
theorem sc_law_covers : FnScope ["_law_shape", "_law_points", "_law_text", "_law_x", "_law_y", "_law_last", "_law_k", "_law_end", "_law_rectangle"] ["_law_shape", "_law_points", "_law_text", "_law_x", "_law_y"] (defScope s_law_covers) := ⟨rfl, rfl, rfl, by decide +kernel, rfl, by decide +kernel, by decide +kernel⟩
theorem bo_law_covers : BindOk "_law_covers" s_law_covers ["_law_shape", "_law_points", "_law_text", "_law_x", "_law_y"] := fun _ _ _ _ _ _ us hl => match us, hl with | [_, _, _, _, _], _ => rfl
def L0_law_covers : Sl → Option Out := (dSeq (dSet 7 (dCall gMin [(dBin gAdd (dVar 6) (dC (.int 2))), (dVar 5)])) (dIf (dTest (dCall f_law_on_line [(dTup [(dBin gIx (dVar 1) (dVar 6)), (dBin gIx (dVar 1) (dBin gAdd (dVar 6) (dC (.int 1)))), (dBin gIx (dVar 1) (dVar 7)), (dBin gIx (dVar 1) (dBin gAdd (dVar 7) (dC (.int 1))))]), (dVar 3), (dVar 4)])) (dRet (dC (.bool true))) dSkip))
def F_law_covers : Sl → Option Out := (dSeq (dIf (dTest (dBin gEq (dVar 0) (dC (.str "rectangle")))) (dRet (dCall f_law_holds [(dVar 1), (dVar 3), (dVar 4)])) dSkip) (dSeq (dIf (dTest (dBin gEq (dVar 0) (dC (.str "circle")))) (dRet (dBin gLe (dBin gAdd (dBin gPow (dBin gSub (dVar 3) (dBin gIx (dVar 1) (dC (.int 0)))) (dC (.int 2))) (dBin gPow (dBin gSub (dVar 4) (dBin gIx (dVar 1) (dC (.int 1)))) (dC (.int 2)))) (dBin gAdd (dBin gMul (dBin gIx (dVar 1) (dC (.int 2))) (dBin gIx (dVar 1) (dC (.int 2)))) (dBin gIx (dVar 1) (dC (.int 2)))))) dSkip) (dSeq (dIf (tOrF (dTest (dBin gEq (dVar 0) (dC (.str "line")))) (dTest (dBin gEq (dVar 0) (dC (.str "polyline"))))) (dSeq (dSet 5 (dBin gSub (dCall gLen [(dVar 1)]) (dC (.int 2)))) (dSeq (dFor 6 (iRg3 (evs [(dC (.int 0)), (dCall gMax [(dVar 5), (dC (.int 1))]), (dC (.int 2))])) L0_law_covers) (dRet (dC (.bool false))))) dSkip) (dSeq (dSet 8 (dCall f_law_around [(dVar 0), (dVar 1), (dVar 2)])) (dRet (dCall f_law_inked [(dVar 2), (dBin gSub (dVar 3) (dBin gIx (dVar 8) (dC (.int 0)))), (dBin gSub (dVar 4) (dBin gIx (dVar 8) (dC (.int 1))))]))))))
def f_law_covers : List PyData → Option PyData := runF F_law_covers 9
theorem ok_law_covers [Wd] (T : Tx K mg) : Ok Wd.P Wd.w K mg base "_law_covers" 4 ["_law_shape", "_law_points", "_law_text", "_law_x", "_law_y"] (spP f_law_covers 5) := T.law_covers.pure (F := F_law_covers) sc_law_covers bo_law_covers rfl rfl fun f cdv A outer s H E hr => (ds_cons (ds_if (dt_eq (de_var 0) de_str) (ds_one (ds_ret (de_cl (ok_law_holds T) hr (da_cons (de_var 1) (da_cons (de_var 3) (da_cons (de_var 4) da_nil)))))) ds_nil) (ds_cons (ds_if (dt_eq (de_var 0) de_str) (ds_one (ds_ret (de_le (de_add (de_pow (de_sub (de_var 3) (de_ix (de_var 1) de_int)) de_int) (de_pow (de_sub (de_var 4) (de_ix (de_var 1) de_int)) de_int)) (de_add (de_mul (de_ix (de_var 1) de_int) (de_ix (de_var 1) de_int)) (de_ix (de_var 1) de_int))))) ds_nil) (ds_cons (ds_if (PW.pt (dw_or (dt_eq (de_var 0) de_str) (dw_or1 (dt_eq (de_var 0) de_str)))) (ds_cons (ds_set 5 sc_law_covers.nd rfl (Or.inl rfl) (de_sub (de_len T.b_len (da_cons (de_var 1) da_nil)) de_int)) (ds_cons (ds_for (i := 6) PassesOwn.never rfl (di_range3 rfl T.b_range (da_cons de_int (da_cons (de_max rfl T.b_max (da_cons (de_var 5) (da_cons de_int da_nil))) (da_cons de_int da_nil)))) (pg_name (i := 6) sc_law_covers.nd rfl (Or.inl rfl)) (ds_cons (ds_set 7 sc_law_covers.nd rfl (Or.inl rfl) (de_min rfl T.b_min (da_cons (de_add (de_var 6) de_int) (da_cons (de_var 5) da_nil)))) (ds_one (ds_if (dt_val (de_cl (ok_law_on_line T) hr (da_cons (de_tup (da_cons (de_ix (de_var 1) (de_var 6)) (da_cons (de_ix (de_var 1) (de_add (de_var 6) de_int)) (da_cons (de_ix (de_var 1) (de_var 7)) (da_cons (de_ix (de_var 1) (de_add (de_var 7) de_int)) da_nil))))) (da_cons (de_var 3) (da_cons (de_var 4) da_nil))))) (ds_one (ds_ret de_bl)) ds_nil)))) (ds_one (ds_ret de_bl)))) ds_nil) (ds_cons (ds_set 8 sc_law_covers.nd rfl (Or.inl rfl) (de_cl (ok_law_around T) hr (da_cons (de_var 0) (da_cons (de_var 1) (da_cons (de_var 2) da_nil))))) (ds_one (ds_ret (de_cl (ok_law_inked T) hr (da_cons (de_var 2) (da_cons (de_sub (de_var 3) (de_ix (de_var 8) de_int)) (da_cons (de_sub (de_var 4) (de_ix (de_var 8) de_int)) da_nil))))))))))
theorem sc_law_paint : FnScope ["_law_item", "_law_x", "_law_y", "_law_color_here"] ["_law_item", "_law_x", "_law_y"] (defScope s_law_paint) := ⟨rfl, rfl, rfl, by decide +kernel, rfl, by decide +kernel, by decide +kernel⟩
theorem bo_law_paint : BindOk "_law_paint" s_law_paint ["_law_item", "_law_x", "_law_y"] := fun _ _ _ _ _ _ us hl => match us, hl with | [_, _, _], _ => rfl
def F_law_paint : Sl → Option Out := (dSeq (dSet 3 (dBin gIx (dVar 0) (dC (.int 6)))) (dSeq (dIf (tOrF (dTest (dBin gEq (dBin gIx (dVar 0) (dC (.int 3))) (dC (.str "line")))) (dTest (dBin gEq (dBin gIx (dVar 0) (dC (.int 3))) (dC (.str "polyline"))))) (dSet 3 (dBin gIx (dVar 0) (dC (.int 7)))) dSkip) (dSeq (dIf (tOrF (dTest (dBin gIs (dVar 3) (dC .none))) (tNotF (dTest (dCall f_law_covers [(dBin gIx (dVar 0) (dC (.int 3))), (dBin gIx (dVar 0) (dC (.int 4))), (dBin gIx (dVar 0) (dC (.int 5))), (dVar 1), (dVar 2)])))) (dRet (dC .none)) dSkip) (dSeq (dIf (tAndF (dTest (dBin gIsNot (dBin gIx (dVar 0) (dC (.int 8))) (dC .none))) (tNotF (dTest (dCall f_law_holds [(dBin gIx (dVar 0) (dC (.int 8))), (dVar 1), (dVar 2)])))) (dRet (dC .none)) dSkip) (dRet (dVar 3))))))
def f_law_paint : List PyData → Option PyData := runF F_law_paint 4
theorem ok_law_paint [Wd] (T : Tx K mg) : Ok Wd.P Wd.w K mg base "_law_paint" 5 ["_law_item", "_law_x", "_law_y"] (spP f_law_paint 3) := T.law_paint.pure (F := F_law_paint) sc_law_paint bo_law_paint rfl rfl fun f cdv A outer s H E hr => (ds_cons (ds_set 3 sc_law_paint.nd rfl (Or.inl rfl) (de_ix (de_var 0) de_int)) (ds_cons (ds_if (PW.pt (dw_or (dt_eq (de_ix (de_var 0) de_int) de_str) (dw_or1 (dt_eq (de_ix (de_var 0) de_int) de_str)))) (ds_one (ds_set 3 sc_law_paint.nd rfl (Or.inl rfl) (de_ix (de_var 0) de_int))) ds_nil) (ds_cons (ds_if (PW.pt (dw_or (dt_is (de_var 3) de_non) (dw_or1 (dt_not (dt_val (de_cl (ok_law_covers T) hr (da_cons (de_ix (de_var 0) de_int) (da_cons (de_ix (de_var 0) de_int) (da_cons (de_ix (de_var 0) de_int) (da_cons (de_var 1) (da_cons (de_var 2) da_nil))))))))))) (ds_one (ds_ret de_non)) ds_nil) (ds_cons (ds_if (PW.pt (dw_and (dt_isnot (de_ix (de_var 0) de_int) de_non) (dw_and1 (dt_not (dt_val (de_cl (ok_law_holds T) hr (da_cons (de_ix (de_var 0) de_int) (da_cons (de_var 1) (da_cons (de_var 2) da_nil))))))))) (ds_one (ds_ret de_non)) ds_nil) (ds_one (ds_ret (de_var 3)))))))
theorem sc_law_color_at : FnScope ["_law_scene_here", "_law_x", "_law_y", "_law_color_here", "_law_item", "_law_paint_here"] ["_law_scene_here", "_law_x", "_law_y"] (defScope s_law_color_at) := ⟨rfl, rfl, rfl, by decide +kernel, rfl, by decide +kernel, by decide +kernel⟩
theorem bo_law_color_at : BindOk "_law_color_at" s_law_color_at ["_law_scene_here", "_law_x", "_law_y"] := fun _ _ _ _ _ _ us hl => match us, hl with | [_, _, _], _ => rfl
def L0_law_color_at : Sl → Option Out := (dSeq (dSet 5 (dCall f_law_paint [(dVar 4), (dVar 1), (dVar 2)])) (dIf (dTest (dBin gIsNot (dVar 5) (dC .none))) (dSet 3 (dVar 5)) dSkip))
def F_law_color_at : Sl → Option Out := (dSeq (dSet 3 (dC (.str "#ffffff"))) (dSeq (dFor 4 (iSeq (dBin gIx (dVar 0) (dC (.int 2)))) L0_law_color_at) (dRet (dVar 3))))
def f_law_color_at : List PyData → Option PyData := runF F_law_color_at 6
theorem ok_law_color_at [Wd] (T : Tx K mg) : Ok Wd.P Wd.w K mg base "_law_color_at" 6 ["_law_scene_here", "_law_x", "_law_y"] (spP f_law_color_at 3) := T.law_color_at.pure (F := F_law_color_at) sc_law_color_at bo_law_color_at rfl rfl fun f cdv A outer s H E hr => (ds_cons (ds_set 3 sc_law_color_at.nd rfl (Or.inl rfl) de_str) (ds_cons (ds_for (i := 4) PassesOwn.never rfl (di_tup (de_ix (de_var 0) de_int)) (pg_name (i := 4) sc_law_color_at.nd rfl (Or.inl rfl)) (ds_cons (ds_set 5 sc_law_color_at.nd rfl (Or.inl rfl) (de_cl (ok_law_paint T) hr (da_cons (de_var 4) (da_cons (de_var 1) (da_cons (de_var 2) da_nil))))) (ds_one (ds_if (dt_isnot (de_var 5) de_non) (ds_one (ds_set 3 sc_law_color_at.nd rfl (Or.inl rfl) (de_var 5))) ds_nil)))) (ds_one (ds_ret (de_var 3)))))
theorem sc_by_identity : FnScope ["scene", "primitive"] ["scene"] (defScope s_by_identity) := ⟨rfl, rfl, rfl, by decide +kernel, rfl, by decide +kernel, by decide +kernel⟩
theorem bo_by_identity : BindOk "by_identity" s_by_identity ["scene"] := fun _ _ _ _ _ _ us hl => match us, hl with | [_], _ => rfl
def F_by_identity : Sl → Option Out := (dRet (dDc 1 (iSeq (dBin gIx (dVar 0) (dC (.int 2)))) dYes (dCall f_identity [(dVar 1)]) (dVar 1)))
def f_by_identity : List PyData → Option PyData := runF F_by_identity 2
theorem ok_by_identity [Wd] (T : Tx K mg) : Ok Wd.P Wd.w K mg base "by_identity" 2 ["scene"] (spP f_by_identity 1) := T.by_identity.pure (F := F_by_identity) sc_by_identity bo_by_identity rfl rfl fun f cdv A outer s H E hr => (ds_one (ds_ret (de_dc hr.units rfl sc_by_identity.nd (di_tup (de_ix (de_var 0) de_int)) (blkOk_by (own := [("primitive", 1)]) (N := ["scene", "primitive"]) (sc := defScope s_by_identity) (by decide +kernel)) (fun _ _ _ _ _ => pg_name (i := 1) sc_by_identity.nd rfl (Or.inl rfl)) (fun _ _ _ _ _ => dts_nil) (fun _ _ _ _ _ => (de_cl (ok_identity T) hr (da_cons (de_var 1) da_nil))) (fun _ _ _ _ _ => (de_var 1)))))
theorem sc_kept_names : FnScope ["first", "second", "other", "primitive"] ["first", "second"] (defScope s_kept_names) := ⟨rfl, rfl, rfl, by decide +kernel, rfl, by decide +kernel, by decide +kernel⟩
theorem bo_kept_names : BindOk "kept_names" s_kept_names ["first", "second"] := fun _ _ _ _ _ _ us hl => match us, hl with | [_, _], _ => rfl
def F_kept_names : Sl → Option Out := (dSeq (dSet 2 (dCall f_by_identity [(dVar 1)])) (dRet (dLc 3 (iSeq (dBin gIx (dVar 0) (dC (.int 2)))) (dTest (dBin gEqD (dBin gGet1 (dVar 2) (dCall f_identity [(dVar 3)])) (dVar 3))) (dCall f_identity [(dVar 3)]))))
def f_kept_names : List PyData → Option PyData := runF F_kept_names 4
theorem ok_kept_names [Wd] (T : Tx K mg) : Ok Wd.P Wd.w K mg base "kept_names" 3 ["first", "second"] (spP f_kept_names 2) := T.kept_names.pure (F := F_kept_names) sc_kept_names bo_kept_names rfl rfl fun f cdv A outer s H E hr => (ds_cons (ds_set 2 sc_kept_names.nd rfl (Or.inr rfl) (de_cl (ok_by_identity T) hr (da_cons (de_var 1) da_nil))) (ds_one (ds_ret (de_lc rfl sc_kept_names.nd (di_tup (de_ix (de_var 0) de_int)) (blkOk_by (own := [("primitive", 3)]) (N := ["first", "second", "other", "primitive"]) (sc := defScope s_kept_names) (by decide +kernel)) (fun _ _ _ _ _ => pg_name (i := 3) sc_kept_names.nd rfl (Or.inl rfl)) (fun _ _ _ _ _ => (dts_one (dt_eqD hr.units (de_get1 hr.units (de_var 2) (de_cl (ok_identity T) hr (da_cons (de_var 3) da_nil))) (de_var 3)))) (fun _ _ _ _ _ => (de_cl (ok_identity T) hr (da_cons (de_var 3) da_nil)))))))
theorem sc_moved : FnScope ["first", "second", "before", "after", "places", "k"] ["first", "second"] (defScope s_moved) := ⟨rfl, rfl, rfl, by decide +kernel, rfl, by decide +kernel, by decide +kernel⟩
theorem bo_moved : BindOk "moved" s_moved ["first", "second"] := fun _ _ _ _ _ _ us hl => match us, hl with | [_, _], _ => rfl
def F_moved : Sl → Option Out := (dSeq (dSet 2 (dCall f_kept_names [(dVar 0), (dVar 1)])) (dSeq (dSet 3 (dCall f_kept_names [(dVar 1), (dVar 0)])) (dSeq (dSet 4 (dLc 5 (iRg1 (evs [(dCall gLen [(dVar 2)])])) (dTest (dBin gNeD (dBin gIx (dVar 2) (dVar 5)) (dBin gIx (dVar 3) (dVar 5)))) (dVar 5))) (dSeq (dIf (tNotF (dTruth (dVar 4))) (dRet (dTup [])) dSkip) (dRet (dCall gTuple [(dSlL (dVar 2) (dPart (dBin gIx (dVar 4) (dC (.int 0)))) (dPart (dBin gAdd (dBin gIx (dVar 4) (dUn gNeg (dC (.int 1)))) (dC (.int 1)))))]))))))
def f_moved : List PyData → Option PyData := runF F_moved 6
theorem ok_moved [Wd] (T : Tx K mg) : Ok Wd.P Wd.w K mg base "moved" 4 ["first", "second"] (spP f_moved 2) := T.moved.pure (F := F_moved) sc_moved bo_moved rfl rfl fun f cdv A outer s H E hr => (ds_cons (ds_set 2 sc_moved.nd rfl (Or.inr rfl) (de_cl (ok_kept_names T) hr (da_cons (de_var 0) (da_cons (de_var 1) da_nil)))) (ds_cons (ds_set 3 sc_moved.nd rfl (Or.inr rfl) (de_cl (ok_kept_names T) hr (da_cons (de_var 1) (da_cons (de_var 0) da_nil)))) (ds_cons (ds_setLc (j := 4) rfl sc_moved.nd rfl rfl (sw_true rfl rfl rfl (by decide +kernel)) (di_range1 rfl T.b_range (da_cons (de_len T.b_len (da_cons (de_var 2) da_nil)) da_nil)) (blkOk_by (own := [("k", 5)]) (N := ["first", "second", "before", "after", "places", "k"]) (sc := defScope s_moved) (by decide +kernel)) (fun _ _ _ _ _ => pg_name (i := 5) sc_moved.nd rfl (Or.inl rfl)) (fun _ _ _ _ _ => (dts_one (dt_neD hr.units (de_ix (de_var 2) (de_var 5)) (de_ix (de_var 3) (de_var 5))))) (fun _ _ _ _ _ => (de_var 5))) (ds_cons (ds_if (dt_not (dt_truth (de_var 4))) (ds_one (ds_ret (de_tup da_nil))) ds_nil) (ds_one (ds_ret (de_tuple T.b_tuple (da_cons (de_sliceL (de_var 2) (do_some (de_ix (de_var 4) de_int)) (do_some (de_add (de_ix (de_var 4) (de_neg de_int)) de_int))) da_nil))))))))
theorem sc_merged_order : FnScope ["scene", "patch", "gone", "known", "new", "name", "primitive"] ["scene", "patch"] (defScope s_merged_order) := ⟨rfl, rfl, rfl, by decide +kernel, rfl, by decide +kernel, by decide +kernel⟩
theorem bo_merged_order : BindOk "merged_order" s_merged_order ["scene", "patch"] := fun _ _ _ _ _ _ us hl => match us, hl with | [_, _], _ => rfl
def F_merged_order : Sl → Option Out := (dSeq (dSet 2 (dDc 5 (iSeq (dBin gIx (dVar 1) (dC (.int 1)))) dYes (dVar 5) (dC (.bool true)))) (dSeq (dSet 3 (dDc 6 (iSeq (dBin gIx (dVar 0) (dC (.int 2)))) dYes (dCall f_identity [(dVar 6)]) (dC (.bool true)))) (dSeq (dSet 4 (dDc 6 (iSeq (dBin gIx (dVar 1) (dC (.int 2)))) (dTest (dBin gNotInK (dCall f_identity [(dVar 6)]) (dVar 3))) (dCall f_identity [(dVar 6)]) (dC (.bool true)))) (dRet (dCall gTuple [(dBin gCat (dLc 5 (iKy (dVar 3)) (dTest (dBin gNotInK (dVar 5) (dVar 2))) (dVar 5)) (dCall gListK [(dVar 4)]))])))))
def f_merged_order : List PyData → Option PyData := runF F_merged_order 7
theorem ok_merged_order [Wd] (T : Tx K mg) : Ok Wd.P Wd.w K mg base "merged_order" 2 ["scene", "patch"] (spP f_merged_order 2) := T.merged_order.pure (F := F_merged_order) sc_merged_order bo_merged_order rfl rfl fun f cdv A outer s H E hr => (ds_cons (ds_set 2 sc_merged_order.nd rfl (Or.inr rfl) (de_dc hr.units rfl sc_merged_order.nd (di_tup (de_ix (de_var 1) de_int)) (blkOk_by (own := [("name", 5)]) (N := ["scene", "patch", "gone", "known", "new", "name", "primitive"]) (sc := defScope s_merged_order) (by decide +kernel)) (fun _ _ _ _ _ => pg_name (i := 5) sc_merged_order.nd rfl (Or.inl rfl)) (fun _ _ _ _ _ => dts_nil) (fun _ _ _ _ _ => (de_var 5)) (fun _ _ _ _ _ => de_bl))) (ds_cons (ds_set 3 sc_merged_order.nd rfl (Or.inr rfl) (de_dc hr.units rfl sc_merged_order.nd (di_tup (de_ix (de_var 0) de_int)) (blkOk_by (own := [("primitive", 6)]) (N := ["scene", "patch", "gone", "known", "new", "name", "primitive"]) (sc := defScope s_merged_order) (by decide +kernel)) (fun _ _ _ _ _ => pg_name (i := 6) sc_merged_order.nd rfl (Or.inl rfl)) (fun _ _ _ _ _ => dts_nil) (fun _ _ _ _ _ => (de_cl (ok_identity T) hr (da_cons (de_var 6) da_nil))) (fun _ _ _ _ _ => de_bl))) (ds_cons (ds_setDc (j := 4) hr.units rfl sc_merged_order.nd rfl rfl (swD_true rfl rfl rfl (by decide +kernel)) (di_tup (de_ix (de_var 1) de_int)) (blkOk_by (own := [("primitive", 6)]) (N := ["scene", "patch", "gone", "known", "new", "name", "primitive"]) (sc := defScope s_merged_order) (by decide +kernel)) (fun _ _ _ _ _ => pg_name (i := 6) sc_merged_order.nd rfl (Or.inl rfl)) (fun _ _ _ _ _ => (dts_one (dt_notInK hr.units (de_cl (ok_identity T) hr (da_cons (de_var 6) da_nil)) (de_var 3)))) (fun _ _ _ _ _ => (de_cl (ok_identity T) hr (da_cons (de_var 6) da_nil))) (fun _ _ _ _ _ => de_bl)) (ds_one (ds_ret (de_tuple T.b_tuple (da_cons (de_catL (de_lc rfl sc_merged_order.nd (di_keys (de_var 3)) (blkOk_by (own := [("name", 5)]) (N := ["scene", "patch", "gone", "known", "new", "name", "primitive"]) (sc := defScope s_merged_order) (by decide +kernel)) (fun _ _ _ _ _ => pg_name (i := 5) sc_merged_order.nd rfl (Or.inl rfl)) (fun _ _ _ _ _ => (dts_one (dt_notInK hr.units (de_var 5) (de_var 2)))) (fun _ _ _ _ _ => (de_var 5))) (de_listK rfl T.b_list (da_cons (de_var 4) da_nil))) da_nil)))))))
end
end Cs
namespace Cs
open PySem PySem.Spec PyProof.Rows L2
local macro_rules | `(tactic| walk_at "ev") => `(tactic| simp [runF, startD, dSeq, dSkip, dSet, dRet, dIf, dUnp, setAll, dVar, dC, dBin, dUn, dTest, tAndF, tOrF, tNotF, dAndV, dTup, evs, dCall, gAdd, gSub, gMul, gDiv2, gPow, gLt, gLe, gGt, gGe, gEq, gNe, gIs, gIsNot, isNone, gIx, atI, ixN, gMax, gMin, gAbs, *])
theorem dSeq_nx {F G : Sl → Option Out} {s s' : Sl} (h : F s = some (.nx s')) : dSeq F G s = G s' := by
  unfold dSeq
  rw [h]
theorem dSeq_rt {F G : Sl → Option Out} {s : Sl} {d : PyData} (h : F s = some (.rt d)) : dSeq F G s = some (.rt d) := by
  unfold dSeq
  rw [h]
/-! ### rectangles -/
abbrev Rc := Int × Int × Int × Int
def rcD (r : Rc) : PyData := .tuple [.int r.1, .int r.2.1, .int r.2.2.1, .int r.2.2.2]
def inR (r : Rc) (x y : Int) : Bool := decide (r.1 ≤ x) && decide (x < r.1 + r.2.2.1) && (decide (r.2.1 ≤ y) && decide (y < r.2.1 + r.2.2.2))
def common (a b : Rc) : Option Rc :=
  if mn (a.1 + a.2.2.1) (b.1 + b.2.2.1) ≤ mx a.1 b.1 ∨ mn (a.2.1 + a.2.2.2) (b.2.1 + b.2.2.2) ≤ mx a.2.1 b.2.1 then none
  else some (mx a.1 b.1, mx a.2.1 b.2.1, mn (a.1 + a.2.2.1) (b.1 + b.2.2.1) - mx a.1 b.1, mn (a.2.1 + a.2.2.2) (b.2.1 + b.2.2.2) - mx a.2.1 b.2.1)
theorem m_contains (r : Rc) (x y : Int) : f_contains [rcD r, .int x, .int y] = some (.bool (inR r x y)) := by
  obtain ⟨l, t, w, h⟩ := r
  unfold inR
  cases h1 : decide (l ≤ x) <;> cases h2 : decide (x < l + w) <;> cases h3 : decide (t ≤ y) <;> cases h4 : decide (y < t + h) <;>
  simp [rcD, f_contains, runF, F_contains, startD, dSeq, dUnp, dVar, setAll, dRet, dAndV, dChain, gLe, gLt, dBin, gAdd, h1, h2, h3, h4]
theorem m_law_holds (r : Rc) (x y : Int) : f_law_holds [rcD r, .int x, .int y] = some (.bool (inR r x y)) := by
  obtain ⟨l, t, w, h⟩ := r
  unfold inR
  cases h1 : decide (l ≤ x) <;> cases h2 : decide (x < l + w) <;> cases h3 : decide (t ≤ y) <;> cases h4 : decide (y < t + h) <;>
  simp [rcD, f_law_holds, runF, F_law_holds, startD, dSeq, dVar, dC, gIx, atI, ixN, dRet, dAndV, gLe, gLt, dBin, gAdd, h1, h2, h3, h4]
theorem m_common (a b : Rc) : f_common [rcD a, rcD b] = some (optD rcD (common a b)) := by
  obtain ⟨l, t, w, h⟩ := a
  obtain ⟨l', t', w', h'⟩ := b
  by_cases h1 : mn (l + w) (l' + w') ≤ mx l l'
  · simp only [common, h1, true_or, if_true, rcD, optD, f_common, F_common]
    walk_at "ev"
  · by_cases h2 : mn (t + h) (t' + h') ≤ mx t t'
    · simp only [common, h1, h2, or_true, if_true, rcD, optD, f_common, F_common]
      walk_at "ev"
    · simp only [common, h1, h2, or_self, if_false, rcD, optD, f_common, F_common]
      walk_at "ev"
theorem isNone_rcD (c : Rc) : isNone (rcD c) = false := rfl
theorem m_overlap (a b : Rc) : f_overlap [rcD a, rcD b] = some (.bool (common a b).isSome) := by
  have e := m_common a b
  simp only [f_overlap, F_overlap]
  cases h : common a b with
  | none => rw [h] at e; simp only [optD] at e; walk_at "ev"
  | some c =>
    rw [h] at e
    simp only [optD] at e
    simp [runF, startD, dSeq, dRet, dVar, dC, dBin, evs, dCall, gIsNot, isNone_rcD, e]
/-! ### lists -/
theorem lcD_map {i : Nat} {f : Sl → Option PyData} {s : Sl} {h : PyData → PyData} : ∀ (ds : List PyData), (∀ d ∈ ds, f (s.set i (some d)) = some (h d) ∧ noL (h d) = true) → lcD i dYes f ds s = some (ds.map h)
  | [], _ => rfl
  | d :: ds, k => by
    obtain ⟨k1, k2⟩ := k d List.mem_cons_self
    unfold lcD
    simp only [dYes, k1, k2, if_true, lcD_map ds fun e he => k e (List.mem_cons_of_mem _ he)]
    rfl
theorem asInts_map : ∀ ns : List Int, asInts (ns.map PyData.int) = some ns
  | [] => rfl
  | n :: ns => by
    show (match asInts (ns.map PyData.int) with | some ms => some (n :: ms) | none => none) = _
    rw [asInts_map ns]
def hull (b : Rc) (bs : List Rc) : Rc :=
  (least b.1 (bs.map (·.1)), least b.2.1 (bs.map (·.2.1)), most (b.1 + b.2.2.1) (bs.map fun r => r.1 + r.2.2.1) - least b.1 (bs.map (·.1)), most (b.2.1 + b.2.2.2) (bs.map fun r => r.2.1 + r.2.2.2) - least b.2.1 (bs.map (·.2.1)))
theorem m_hull (b : Rc) (bs : List Rc) (hl : bs.length < 1000) : f_hull [.list ((b :: bs).map rcD)] = some (rcD (hull b bs)) := by
  have key : ∀ (f : Sl → Option PyData) (g : Rc → Int) (s : Sl), s[0]? = some (some (.list ((b :: bs).map rcD))) → (∀ r : Rc, f (s.set 5 (some (rcD r))) = some (.int (g r))) →
      dLc 5 (iLst (dVar 0)) dYes f s = some (.list ((g b :: bs.map g).map PyData.int)) := by
    intro f g s h0 hf
    have e : lcD 5 dYes f ((b :: bs).map rcD) s = some ((g b :: bs.map g).map PyData.int) := by
      have : ∀ l : List Rc, lcD 5 dYes f (l.map rcD) s = some ((l.map g).map PyData.int) := by
        intro l
        induction l with
        | nil => rfl
        | cons r l ih =>
          rw [List.map_cons]
          unfold lcD
          simp only [dYes, hf r, ih]
          rfl
      exact this (b :: bs)
    have e0 : iLst (dVar 0) s = some ((b :: bs).map rcD) := by
      unfold iLst dVar
      rw [h0]
    have hz : ((b :: bs).map rcD).length ≤ 1000 := by simp; omega
    unfold dLc
    rw [e0]
    simp only [if_pos hz, e]
  have mi : ∀ (n : Int) (ns : List Int), gMin [.list ((n :: ns).map PyData.int)] = some (.int (least n ns)) := fun n ns => by
    show (match asInts ((n :: ns).map PyData.int) with | some (n :: ns) => some (PyData.int (least n ns)) | _ => none) = _
    rw [asInts_map]
  have ma : ∀ (n : Int) (ns : List Int), gMax [.list ((n :: ns).map PyData.int)] = some (.int (most n ns)) := fun n ns => by
    show (match asInts ((n :: ns).map PyData.int) with | some (n :: ns) => some (PyData.int (most n ns)) | _ => none) = _
    rw [asInts_map]
  have c0 : ∀ (g : List PyData → Option PyData) (f : Sl → Option PyData) (s : Sl) (d e : PyData), f s = some d → g [d] = some e → dCall g [f] s = some e := fun g f s d e h1 h2 => by
    unfold dCall evs evs
    rw [h1]
    exact h2
  have st : startD 6 [PyData.list ((b :: bs).map rcD)] = [some (.list ((b :: bs).map rcD)), none, none, none, none, none] := rfl
  unfold f_hull runF F_hull
  rw [st]
  have t0 : dIf (tNotF (dTruth (dVar 0))) (dRet (dC .none)) dSkip [some (.list ((b :: bs).map rcD)), none, none, none, none, none] = some (.nx [some (.list ((b :: bs).map rcD)), none, none, none, none, none]) := rfl
  unfold dSeq
  rw [t0]
  dsimp only
  unfold dSet
  rw [c0 gMin _ _ _ _ (key _ (fun r => r.1) _ rfl fun r => rfl) (mi _ _)]
  dsimp only [List.set]
  rw [c0 gMin _ _ _ _ (key _ (fun r => r.2.1) _ rfl fun r => rfl) (mi _ _)]
  dsimp only [List.set]
  rw [c0 gMax _ _ _ _ (key _ (fun r => r.1 + r.2.2.1) _ rfl fun r => rfl) (ma _ _)]
  dsimp only [List.set]
  rw [c0 gMax _ _ _ _ (key _ (fun r => r.2.1 + r.2.2.2) _ rfl fun r => rfl) (ma _ _)]
  rfl
/-! ### texts -/
def gw (c : Nat) : Int := if c ∈ ("!'.:i|" : Str).cps.toList then 1 else if c ∈ ("(),;[]`jl" : Str).cps.toList then 2 else if c ∈ (" \"*-/1<>I\\^frt{}" : Str).cps.toList then 3 else if c ∈ ("$023456789=?J_abcdeghknopqsuvxyz" : Str).cps.toList then 4 else 5
theorem gw_pos (c : Nat) : 1 ≤ gw c ∧ gw c ≤ 5 := by
  unfold gw
  split
  · omega
  · split
    · omega
    · split
      · omega
      · split <;> omega
theorem m_glyph (c : Nat) : f_glyph_width [.str ⟨#[c]⟩] = some (.int (gw c)) := by
  unfold gw f_glyph_width F_glyph_width
  generalize ("!'.:i|" : Str) = z1
  generalize ("(),;[]`jl" : Str) = z2
  generalize (" \"*-/1<>I\\^frt{}" : Str) = z3
  generalize ("$023456789=?J_abcdeghknopqsuvxyz" : Str) = z4
  by_cases h1 : c ∈ z1.cps.toList
  · simp only [h1, if_true]; simp [runF, startD, dSeq, dSkip, dRet, dIf, dVar, dC, dBin, dTest, gIn]; simp at h1; simp [h1]
  · by_cases h2 : c ∈ z2.cps.toList
    · simp only [h1, h2, if_true, if_false]; simp [runF, startD, dSeq, dSkip, dRet, dIf, dVar, dC, dBin, dTest, gIn]; simp at h1 h2; simp [h1, h2]
    · by_cases h3 : c ∈ z3.cps.toList
      · simp only [h1, h2, h3, if_true, if_false]; simp [runF, startD, dSeq, dSkip, dRet, dIf, dVar, dC, dBin, dTest, gIn]; simp at h1 h2 h3; simp [h1, h2, h3]
      · by_cases h4 : c ∈ z4.cps.toList
        · simp only [h1, h2, h3, h4, if_true, if_false]; simp [runF, startD, dSeq, dSkip, dRet, dIf, dVar, dC, dBin, dTest, gIn]; simp at h1 h2 h3 h4; simp [h1, h2, h3, h4]
        · simp only [h1, h2, h3, h4, if_false]; simp [runF, startD, dSeq, dSkip, dRet, dIf, dVar, dC, dBin, dTest, gIn]; simp at h1 h2 h3 h4; simp [h1, h2, h3, h4]
theorem two_same (c : Nat) : (c ∈ ("(),;[]jl`" : Str).cps.toList) ↔ c ∈ ("(),;[]`jl" : Str).cps.toList := by
  have e1 : ("(),;[]jl`" : Str).cps.toList = [40, 41, 44, 59, 91, 93, 106, 108, 96] := by decide +kernel
  have e2 : ("(),;[]`jl" : Str).cps.toList = [40, 41, 44, 59, 91, 93, 96, 106, 108] := by decide +kernel
  rw [e1, e2]
  simp
  omega
theorem m_law_glyph (c : Nat) : f_law_sign_width [.str ⟨#[c]⟩] = some (.int (gw c)) := by
  have e := two_same c
  unfold gw f_law_sign_width F_law_sign_width
  generalize ("!'.:i|" : Str) = z1
  generalize ("(),;[]`jl" : Str) = z2 at e ⊢
  generalize ("(),;[]jl`" : Str) = z5 at e ⊢
  generalize (" \"*-/1<>I\\^frt{}" : Str) = z3
  generalize ("$023456789=?J_abcdeghknopqsuvxyz" : Str) = z4
  by_cases h1 : c ∈ z1.cps.toList
  · simp only [h1, if_true]; simp [runF, startD, dSeq, dSkip, dRet, dIf, dVar, dC, dBin, dTest, gIn]; simp at h1; simp [h1]
  · by_cases h2 : c ∈ z2.cps.toList
    · have h5 := e.mpr h2
      simp only [h1, h2, if_true, if_false]; simp [runF, startD, dSeq, dSkip, dRet, dIf, dVar, dC, dBin, dTest, gIn]; simp at h1 h5; simp [h1, h5]
    · have h5 := fun k => h2 (e.mp k)
      by_cases h3 : c ∈ z3.cps.toList
      · simp only [h1, h2, h3, if_true, if_false]; simp [runF, startD, dSeq, dSkip, dRet, dIf, dVar, dC, dBin, dTest, gIn]; simp at h1 h5 h3; simp [h1, h5, h3]
      · by_cases h4 : c ∈ z4.cps.toList
        · simp only [h1, h2, h3, h4, if_true, if_false]; simp [runF, startD, dSeq, dSkip, dRet, dIf, dVar, dC, dBin, dTest, gIn]; simp at h1 h5 h3 h4; simp [h1, h5, h3, h4]
        · simp only [h1, h2, h3, h4, if_false]; simp [runF, startD, dSeq, dSkip, dRet, dIf, dVar, dC, dBin, dTest, gIn]; simp at h1 h5 h3 h4; simp [h1, h5, h3, h4]
def tw (z : Str) : Int := if z = "" then 0 else (z.cps.toList.map gw).sum + z.length - 1
end Cs
namespace Cs
open PySem PySem.Spec PyProof.Rows L2
abbrev sg (c : Nat) : PyData := .str ⟨#[c]⟩
theorem signs_eq (z : Str) : signs z = z.cps.toList.map sg := rfl
theorem lc_glyph (s : Sl) : ∀ cs : List Nat, lcD 1 dYes (dCall f_glyph_width [dVar 1]) (cs.map sg) (s) = some ((cs.map gw).map PyData.int) ∨ s.length < 2
  | [] => .inl rfl
  | c :: cs => by
    rcases lc_glyph s cs with h | h
    · by_cases hs : s.length < 2
      · exact .inr hs
      · left
        have e : dCall f_glyph_width [dVar 1] (s.set 1 (some (sg c))) = some (.int (gw c)) := by
          have : (s.set 1 (some (sg c)))[1]? = some (some (sg c)) := by
            rw [List.getElem?_set]
            simp
            omega
          unfold dCall evs evs dVar
          rw [this]
          exact m_glyph c
        rw [List.map_cons]
        unfold lcD
        simp only [dYes, e, h]
        rfl
    · exact .inr h
theorem m_text_width (z : Str) (hz : z.length ≤ 100) : f_text_width [.str z] = some (.int (tw z)) := by
  unfold f_text_width runF F_text_width
  have st : startD 2 [PyData.str z] = [some (.str z), none] := rfl
  rw [st]
  by_cases h : z = ""
  · simp [dSeq, dIf, dTest, dBin, dVar, dC, gEq, h, dRet, tw]
  · have hl : z.cps.toList.length = z.length := by simp [Str.length]
    have e1 : dLc 1 (iTxt (dVar 0)) dYes (dCall f_glyph_width [dVar 1]) [some (.str z), none] = some (.list ((z.cps.toList.map gw).map PyData.int)) := by
      have e0 : iTxt (dVar 0) [some (.str z), none] = some (z.cps.toList.map sg) := rfl
      have hz' : (z.cps.toList.map sg).length ≤ 1000 := by rw [List.length_map, hl]; omega
      unfold dLc
      rw [e0]
      dsimp only
      rw [if_pos hz']
      rcases lc_glyph [some (.str z), none] z.cps.toList with q | q
      · rw [q]
      · simp at q
    have e2 : gSum [.list ((z.cps.toList.map gw).map PyData.int)] = some (.int (z.cps.toList.map gw).sum) := by
      unfold gSum
      dsimp only
      rw [asInts_map]
    have hz2 : z.length ≤ 100000 := by omega
    simp only [dSeq, dIf, dTest, dBin, dVar, dC, gEq, h, dRet, tw, decide_false, dSkip, dCall, evs, e1, e2, gLen, hz2, if_true, if_false, List.getElem?_cons_zero, gAdd, gSub]
def isSp (c : Nat) : Bool := decide ((⟨#[c]⟩ : Str) = " ")
def inkGo : List Nat → Int → Int → Bool
  | [], _, _ => false
  | c :: cs, x, l => if x < l + gw c then decide (l ≤ x) && !isSp c else inkGo cs x (l + gw c + 1)
def inked (z : Str) (x y : Int) : Bool := if x < 0 ∨ y < 0 ∨ 7 ≤ y then false else inkGo z.cps.toList x 0
theorem b_inked (z y : PyData) (x l : Int) (c : Nat) (b : Option PyData) : L0_inked [some z, some (.int x), some y, some (.int l), some (sg c), b] =
    if x < l + gw c then some (.rt (.bool (decide (l ≤ x) && !isSp c))) else some (.nx [some z, some (.int x), some y, some (.int (l + gw c + 1)), some (sg c), some (.int (gw c))]) := by
  have g := m_glyph c
  unfold L0_inked isSp
  generalize (" " : Str) = sp
  by_cases h : x < l + gw c
  · rw [if_pos h]
    cases h2 : decide (l ≤ x) <;> simp [dSeq, dSet, dCall, evs, dVar, g, dIf, dTest, dBin, gLt, gAdd, h, dRet, dAndV, gGe, h2, gNe, dC]
  · rw [if_neg h]
    simp [dSeq, dSet, dCall, evs, dVar, g, dIf, dTest, dBin, gLt, gAdd, h, dC, dSkip]
theorem l_inked (z y : PyData) (x : Int) : ∀ (cs : List Nat) (l : Int) (a b : Option PyData),
    (match dLoop L0_inked 4 (cs.map sg) [some z, some (.int x), some y, some (.int l), a, b] with
    | some (.nx s) => dRet (dC (.bool false)) s
    | some (.rt d) => some (.rt d)
    | none => none) = some (.rt (.bool (inkGo cs x l)))
  | [], l, a, b => rfl
  | c :: cs, l, a, b => by
    rw [List.map_cons]
    unfold dLoop inkGo
    show (match (match L0_inked [some z, some (.int x), some y, some (.int l), some (sg c), b] with | some (.nx s') => dLoop L0_inked 4 (cs.map sg) s' | some (.rt d) => some (.rt d) | none => none) with
    | some (.nx s) => dRet (dC (.bool false)) s
    | some (.rt d) => some (.rt d)
    | none => none) = _
    rw [b_inked]
    by_cases h : x < l + gw c
    · rw [if_pos h, if_pos h]
    · rw [if_neg h, if_neg h]
      exact l_inked z y x cs _ _ _
theorem m_inked (z : Str) (x y : Int) : f_inked [.str z, .int x, .int y] = some (.bool (inked z x y)) := by
  unfold f_inked runF F_inked inked
  have st : startD 6 [PyData.str z, .int x, .int y] = [some (.str z), some (.int x), some (.int y), none, none, none] := rfl
  rw [st]
  have key : dSeq (dSet 3 (dC (.int 0))) (dSeq (dFor 4 (iTxt (dVar 0)) L0_inked) (dRet (dC (.bool false)))) [some (.str z), some (.int x), some (.int y), none, none, none] = some (.rt (.bool (inkGo z.cps.toList x 0))) :=
    l_inked (.str z) (.int y) x z.cps.toList 0 none none
  by_cases h1 : x < 0
  · rw [if_pos (.inl h1)]
    simp [dSeq, dIf, tOrF, dTest, dBin, dVar, dC, gLt, h1, dRet]
  · by_cases h2 : y < 0
    · rw [if_pos (.inr (.inl h2))]
      simp [dSeq, dIf, tOrF, dTest, dBin, dVar, dC, gLt, h1, h2, dRet]
    · by_cases h3 : 7 ≤ y
      · rw [if_pos (.inr (.inr h3))]
        simp [dSeq, dIf, tOrF, dTest, dBin, dVar, dC, gLt, gGe, h1, h2, h3, dRet]
      · rw [if_neg (by omega)]
        have e : dIf (tOrF (dTest (dBin gLt (dVar 1) (dC (.int 0)))) (tOrF (dTest (dBin gLt (dVar 2) (dC (.int 0)))) (dTest (dBin gGe (dVar 2) (dC (.int 7)))))) (dRet (dC (.bool false))) dSkip [some (.str z), some (.int x), some (.int y), none, none, none] = some (.nx [some (.str z), some (.int x), some (.int y), none, none, none]) := by
          simp [dIf, tOrF, dTest, dBin, dVar, dC, gLt, gGe, h1, h2, h3, dSkip]
        rw [dSeq_nx e, key]
/-! the law's own -/
def lw : List Nat → Int
  | [] => 0
  | c :: cs => 1 + gw c + lw cs
theorem l_width (z : PyData) : ∀ (cs : List Nat) (t : Int) (a : Option PyData), ∃ o, dLoop L0_law_width 2 (cs.map sg) [some z, some (.int t), a] = some (.nx [some z, some (.int (t + lw cs)), o])
  | [], t, a => ⟨a, by simp [dLoop, lw]⟩
  | c :: cs, t, a => by
    have g := m_law_glyph c
    obtain ⟨o, e⟩ := l_width z cs (t + 1 + gw c) (some (sg c))
    refine ⟨o, ?_⟩
    rw [List.map_cons]
    unfold dLoop
    have b : L0_law_width ([some z, some (.int t), a].set 2 (some (sg c))) = some (.nx [some z, some (.int (t + 1 + gw c)), some (sg c)]) := by
      simp [L0_law_width, dSet, dBin, dVar, dC, gAdd, dCall, evs, g]
    rw [b]
    dsimp only
    rw [e]
    show _ = some (Out.nx [some z, some (.int (t + (1 + gw c + lw cs))), o])
    rw [show t + 1 + gw c + lw cs = t + (1 + gw c + lw cs) by omega]
theorem tw_lw (z : Str) : mx (lw z.cps.toList - 1) 0 = tw z := by
  have hs : ∀ cs : List Nat, lw cs = (cs.map gw).sum + cs.length ∧ (cs.length : Int) ≤ (cs.map gw).sum := by
    intro cs
    induction cs with
    | nil => exact ⟨rfl, Int.le_refl 0⟩
    | cons c cs ih =>
      have := gw_pos c
      unfold lw
      simp only [List.map_cons, List.sum_cons, List.length_cons]
      omega
  obtain ⟨h1, h2⟩ := hs z.cps.toList
  have hl : z.cps.toList.length = z.length := by simp [Str.length]
  unfold tw mx
  by_cases h : z = ""
  · subst h
    have e : ("" : Str).cps.toList = [] := by decide +kernel
    rw [e]
    rfl
  · rw [if_neg h]
    have hp : 0 < z.length := by
      rcases Nat.eq_zero_or_pos z.length with q | q
      · exfalso
        apply h
        obtain ⟨a⟩ := z
        have ha : a = #[] := Array.eq_empty_of_size_eq_zero q
        subst ha
        decide +kernel
      · exact q
    rw [if_neg (by omega), h1, hl]
theorem m_law_width (z : Str) : f_law_width [.str z] = some (.int (tw z)) := by
  unfold f_law_width runF F_law_width
  have st : startD 3 [PyData.str z] = [some (.str z), none, none] := rfl
  rw [st]
  obtain ⟨o, e⟩ := l_width (.str z) z.cps.toList 0 none
  rw [← tw_lw z]
  have e' : dFor 2 (iTxt (dVar 0)) L0_law_width [some (.str z), some (.int 0), none] = some (.nx [some (.str z), some (.int (0 + lw z.cps.toList)), o]) := e
  simp [dSeq, dSet, dC, e', dRet, dCall, evs, dBin, dVar, gSub, gMax]
def lawGo (y : Int) : List Nat → Int → Int → Bool
  | [], _, _ => false
  | c :: cs, x, l => if l ≤ x ∧ x < l + gw c then !isSp c && (decide (0 ≤ y) && decide (y < 7)) else lawGo y cs x (l + gw c + 1)
theorem bl_inked (z : PyData) (x y l : Int) (c : Nat) (b : Option PyData) : L0_law_inked [some z, some (.int x), some (.int y), some (.int l), some (sg c), b] =
    if l ≤ x ∧ x < l + gw c then some (.rt (.bool (!isSp c && (decide (0 ≤ y) && decide (y < 7))))) else some (.nx [some z, some (.int x), some (.int y), some (.int (l + gw c + 1)), some (sg c), some (.int (gw c))]) := by
  have g := m_law_glyph c
  unfold L0_law_inked isSp
  generalize (" " : Str) = sp
  by_cases h1 : l ≤ x
  · by_cases h : x < l + gw c
    · rw [if_pos ⟨h1, h⟩]
      cases h2 : decide ((⟨#[c]⟩ : Str) = sp) <;> cases h3 : decide (0 ≤ y) <;> simp [dSeq, dSet, dCall, evs, dVar, g, dIf, tAndF, dTest, dBin, gLt, gLe, gAdd, h, h1, dRet, dAndV, gGe, h2, h3, gNe, dC]
    · rw [if_neg (fun q => h q.2)]
      simp [dSeq, dSet, dCall, evs, dVar, g, dIf, tAndF, dTest, dBin, gLt, gLe, gAdd, h, h1, dC, dSkip]
  · rw [if_neg (fun q => h1 q.1)]
    simp [dSeq, dSet, dCall, evs, dVar, g, dIf, tAndF, dTest, dBin, gLt, gLe, gAdd, h1, dC, dSkip]
theorem ll_inked (z : PyData) (x y : Int) : ∀ (cs : List Nat) (l : Int) (a b : Option PyData),
    (match dLoop L0_law_inked 4 (cs.map sg) [some z, some (.int x), some (.int y), some (.int l), a, b] with
    | some (.nx s) => dRet (dC (.bool false)) s
    | some (.rt d) => some (.rt d)
    | none => none) = some (.rt (.bool (lawGo y cs x l)))
  | [], l, a, b => rfl
  | c :: cs, l, a, b => by
    rw [List.map_cons]
    unfold dLoop lawGo
    show (match (match L0_law_inked [some z, some (.int x), some (.int y), some (.int l), some (sg c), b] with | some (.nx s') => dLoop L0_law_inked 4 (cs.map sg) s' | some (.rt d) => some (.rt d) | none => none) with
    | some (.nx s) => dRet (dC (.bool false)) s
    | some (.rt d) => some (.rt d)
    | none => none) = _
    rw [bl_inked]
    by_cases h : l ≤ x ∧ x < l + gw c
    · rw [if_pos h, if_pos h]
    · rw [if_neg h, if_neg h]
      exact ll_inked z x y cs _ _ _
theorem lawGo_low (y : Int) : ∀ (cs : List Nat) (x l : Int), x < l → lawGo y cs x l = false
  | [], _, _, _ => rfl
  | c :: cs, x, l, h => by
    have := gw_pos c
    unfold lawGo
    rw [if_neg (by omega)]
    exact lawGo_low y cs x _ (by omega)
theorem lawGo_same (y : Int) : ∀ (cs : List Nat) (x l : Int), lawGo y cs x l = (inkGo cs x l && (decide (0 ≤ y) && decide (y < 7)))
  | [], _, _ => rfl
  | c :: cs, x, l => by
    have := gw_pos c
    unfold lawGo inkGo
    by_cases h1 : l ≤ x
    · by_cases h : x < l + gw c
      · rw [if_pos ⟨h1, h⟩, if_pos h, decide_eq_true h1]
        simp
      · rw [if_neg (fun q => h q.2), if_neg h]
        exact lawGo_same y cs x _
    · rw [if_neg (fun q => h1 q.1), if_pos (by omega), decide_eq_false h1, lawGo_low y cs x _ (by omega)]
      simp
theorem m_law_inked (z : Str) (x y : Int) : f_law_inked [.str z, .int x, .int y] = some (.bool (inked z x y)) := by
  have key : dSeq (dSet 3 (dC (.int 0))) (dSeq (dFor 4 (iTxt (dVar 0)) L0_law_inked) (dRet (dC (.bool false)))) [some (.str z), some (.int x), some (.int y), none, none, none] = some (.rt (.bool (lawGo y z.cps.toList x 0))) :=
    ll_inked (.str z) x y z.cps.toList 0 none none
  have e : inked z x y = lawGo y z.cps.toList x 0 := by
    unfold inked
    by_cases h1 : x < 0
    · rw [if_pos (.inl h1), lawGo_low _ _ _ _ h1]
    · rw [lawGo_same]
      by_cases h2 : y < 0 ∨ 7 ≤ y
      · rw [if_pos (.inr h2)]
        have : (decide (0 ≤ y) && decide (y < 7)) = false := by
          rcases h2 with h | h
          · rw [decide_eq_false (show ¬ 0 ≤ y by omega)]; rfl
          · rw [decide_eq_false (show ¬ y < 7 by omega)]; simp
        rw [this]
        simp
      · rw [if_neg (by omega), decide_eq_true (show 0 ≤ y by omega), decide_eq_true (show y < 7 by omega)]
        simp
  rw [e]
  unfold f_law_inked runF F_law_inked
  have st : startD 6 [PyData.str z, .int x, .int y] = [some (.str z), some (.int x), some (.int y), none, none, none] := rfl
  rw [st, key]
end Cs
namespace Cs
open PySem PySem.Spec PyProof.Rows L2
/-! ### lines -/
def lineCov (x1 y1 x2 y2 x y : Int) : Bool :=
  if x < mn x1 x2 ∨ mx x1 x2 < x ∨ y < mn y1 y2 ∨ mx y1 y2 < y then false
  else decide (2 * iabs ((y - y1) * (x2 - x1) - (x - x1) * (y2 - y1)) ≤ mx (iabs (x2 - x1)) (iabs (y2 - y1)))
def bd (i : Int) : Prop := -1000 ≤ i ∧ i ≤ 1000
theorem gMul_ok {i j : Int} (h1 : -1000000 < i) (h2 : i < 1000000) : gMul (.int i) (.int j) = some (.int (i * j)) := if_pos ⟨h1, h2⟩
theorem m_line {x1 y1 x2 y2 x y : Int} (b1 : bd x1) (b2 : bd y1) (b5 : bd x) (b6 : bd y) :
    f_line_covers [.tuple [.int x1, .int y1, .int x2, .int y2], .int x, .int y] = some (.bool (lineCov x1 y1 x2 y2 x y)) := by
  obtain ⟨a1, c1⟩ := b1
  obtain ⟨a2, c2⟩ := b2
  obtain ⟨a5, c5⟩ := b5
  obtain ⟨a6, c6⟩ := b6
  have e1 : gMul (.int (y - y1)) (.int (x2 - x1)) = some (.int ((y - y1) * (x2 - x1))) := gMul_ok (by omega) (by omega)
  have e2 : gMul (.int (x - x1)) (.int (y2 - y1)) = some (.int ((x - x1) * (y2 - y1))) := gMul_ok (by omega) (by omega)
  have e3 : ∀ j, gMul (.int 2) (.int j) = some (.int (2 * j)) := fun j => gMul_ok (by decide) (by decide)
  unfold f_line_covers runF F_line_covers lineCov
  have st : startD 8 [PyData.tuple [.int x1, .int y1, .int x2, .int y2], .int x, .int y] = [some (.tuple [.int x1, .int y1, .int x2, .int y2]), some (.int x), some (.int y), none, none, none, none, none] := rfl
  rw [st]
  have u : dUnp [3, 4, 5, 6] (dVar 0) [some (.tuple [.int x1, .int y1, .int x2, .int y2]), some (.int x), some (.int y), none, none, none, none, none] = some (.nx [some (.tuple [.int x1, .int y1, .int x2, .int y2]), some (.int x), some (.int y), some (.int x1), some (.int y1), some (.int x2), some (.int y2), none]) := rfl
  rw [dSeq_nx u]
  by_cases h1 : x < mn x1 x2
  · rw [if_pos (.inl h1), dSeq_rt (d := .bool false) (by simp [dIf, tOrF, dTest, dBin, dVar, dC, gLt, gGt, dCall, evs, gMin, gMax, h1, dRet])]
  · by_cases h2 : mx x1 x2 < x
    · rw [if_pos (.inr (.inl h2)), dSeq_rt (d := .bool false) (by simp [dIf, tOrF, dTest, dBin, dVar, dC, gLt, gGt, dCall, evs, gMin, gMax, h1, h2, dRet])]
    · by_cases h3 : y < mn y1 y2
      · rw [if_pos (.inr (.inr (.inl h3))), dSeq_rt (d := .bool false) (by simp [dIf, tOrF, dTest, dBin, dVar, dC, gLt, gGt, dCall, evs, gMin, gMax, h1, h2, h3, dRet])]
      · by_cases h4 : mx y1 y2 < y
        · rw [if_pos (.inr (.inr (.inr h4))), dSeq_rt (d := .bool false) (by simp [dIf, tOrF, dTest, dBin, dVar, dC, gLt, gGt, dCall, evs, gMin, gMax, h1, h2, h3, h4, dRet])]
        · rw [if_neg (fun q => by rcases q with q | q | q | q; exact h1 q; exact h2 q; exact h3 q; exact h4 q)]
          rw [dSeq_nx (s' := [some (.tuple [.int x1, .int y1, .int x2, .int y2]), some (.int x), some (.int y), some (.int x1), some (.int y1), some (.int x2), some (.int y2), none]) (by simp [dIf, tOrF, dTest, dBin, dVar, dC, gLt, gGt, dCall, evs, gMin, gMax, h1, h2, h3, h4, dSkip])]
          simp [dSeq, dSet, dCall, evs, dBin, dVar, dC, gSub, e1, e2, e3, gAbs, dRet, gLe, gMax]
theorem m_law_line {x1 y1 x2 y2 x y : Int} (b1 : bd x1) (b2 : bd y1) (b5 : bd x) (b6 : bd y) :
    f_law_on_line [.tuple [.int x1, .int y1, .int x2, .int y2], .int x, .int y] = some (.bool (lineCov x1 y1 x2 y2 x y)) := by
  obtain ⟨a1, c1⟩ := b1
  obtain ⟨a2, c2⟩ := b2
  obtain ⟨a5, c5⟩ := b5
  obtain ⟨a6, c6⟩ := b6
  have e1 : gMul (.int (y - y1)) (.int (x2 - x1)) = some (.int ((y - y1) * (x2 - x1))) := gMul_ok (by omega) (by omega)
  have e2 : gMul (.int (x - x1)) (.int (y2 - y1)) = some (.int ((x - x1) * (y2 - y1))) := gMul_ok (by omega) (by omega)
  have e3 : ∀ j, gMul (.int 2) (.int j) = some (.int (2 * j)) := fun j => gMul_ok (by decide) (by decide)
  unfold f_law_on_line runF F_law_on_line lineCov
  have st : startD 5 [PyData.tuple [.int x1, .int y1, .int x2, .int y2], .int x, .int y] = [some (.tuple [.int x1, .int y1, .int x2, .int y2]), some (.int x), some (.int y), none, none] := rfl
  rw [st]
  have i0 : gIx (.tuple [.int x1, .int y1, .int x2, .int y2]) (.int 0) = some (.int x1) := rfl
  have i1 : gIx (.tuple [.int x1, .int y1, .int x2, .int y2]) (.int 1) = some (.int y1) := rfl
  have i2 : gIx (.tuple [.int x1, .int y1, .int x2, .int y2]) (.int 2) = some (.int x2) := rfl
  have i3 : gIx (.tuple [.int x1, .int y1, .int x2, .int y2]) (.int 3) = some (.int y2) := rfl
  rw [dSeq_nx (s' := [some (.tuple [.int x1, .int y1, .int x2, .int y2]), some (.int x), some (.int y), some (.int (x2 - x1)), none]) rfl]
  rw [dSeq_nx (s' := [some (.tuple [.int x1, .int y1, .int x2, .int y2]), some (.int x), some (.int y), some (.int (x2 - x1)), some (.int (y2 - y1))]) rfl]
  by_cases h1 : x < mn x1 x2
  · rw [if_pos (.inl h1), dSeq_rt (d := .bool false) (by simp [dIf, tOrF, dTest, dBin, dVar, dC, gLt, gGt, dCall, evs, gMin, gMax, i0, i1, i2, i3, h1, dRet])]
  · by_cases h2 : mx x1 x2 < x
    · rw [if_pos (.inr (.inl h2)), dSeq_rt (d := .bool false) (by simp [dIf, tOrF, dTest, dBin, dVar, dC, gLt, gGt, dCall, evs, gMin, gMax, i0, i1, i2, i3, h1, h2, dRet])]
    · rw [dSeq_nx (s' := [some (.tuple [.int x1, .int y1, .int x2, .int y2]), some (.int x), some (.int y), some (.int (x2 - x1)), some (.int (y2 - y1))]) (by simp [dIf, tOrF, dTest, dBin, dVar, dC, gLt, gGt, dCall, evs, gMin, gMax, i0, i1, i2, i3, h1, h2, dSkip])]
      by_cases h3 : y < mn y1 y2
      · rw [if_pos (.inr (.inr (.inl h3))), dSeq_rt (d := .bool false) (by simp [dIf, tOrF, dTest, dBin, dVar, dC, gLt, gGt, dCall, evs, gMin, gMax, i0, i1, i2, i3, h3, dRet])]
      · by_cases h4 : mx y1 y2 < y
        · rw [if_pos (.inr (.inr (.inr h4))), dSeq_rt (d := .bool false) (by simp [dIf, tOrF, dTest, dBin, dVar, dC, gLt, gGt, dCall, evs, gMin, gMax, i0, i1, i2, i3, h3, h4, dRet])]
        · rw [if_neg (fun q => by rcases q with q | q | q | q; exact h1 q; exact h2 q; exact h3 q; exact h4 q)]
          rw [dSeq_nx (s' := [some (.tuple [.int x1, .int y1, .int x2, .int y2]), some (.int x), some (.int y), some (.int (x2 - x1)), some (.int (y2 - y1))]) (by simp [dIf, tOrF, dTest, dBin, dVar, dC, gLt, gGt, dCall, evs, gMin, gMax, i0, i1, i2, i3, h3, h4, dSkip])]
          simp [dCall, evs, dBin, dVar, dC, gSub, i0, i1, e1, e2, e3, gAbs, dRet, gLe, gMax]
/-- within the rectangle between its ends -/
theorem lineCov_in {x1 y1 x2 y2 x y : Int} (h : lineCov x1 y1 x2 y2 x y = true) : mn x1 x2 ≤ x ∧ x ≤ mx x1 x2 ∧ mn y1 y2 ≤ y ∧ y ≤ mx y1 y2 := by
  unfold lineCov at h
  split at h
  · cases h
  · rename_i q
    refine ⟨?_, ?_, ?_, ?_⟩
    · exact Int.not_lt.mp fun z => q (.inl z)
    · exact Int.not_lt.mp fun z => q (.inr (.inl z))
    · exact Int.not_lt.mp fun z => q (.inr (.inr (.inl z)))
    · exact Int.not_lt.mp fun z => q (.inr (.inr (.inr z)))
/-- one pixel -/
theorem lineCov_dot (a b x y : Int) : lineCov a b a b x y = decide (a = x ∧ b = y) := by
  have e1 : mn a a = a := by unfold mn; rw [if_neg (by omega)]
  have e2 : mx a a = a := by unfold mx; rw [if_neg (by omega)]
  have e3 : mn b b = b := by unfold mn; rw [if_neg (by omega)]
  have e4 : mx b b = b := by unfold mx; rw [if_neg (by omega)]
  unfold lineCov
  rw [e1, e2, e3, e4]
  by_cases h : a = x ∧ b = y
  · obtain ⟨rfl, rfl⟩ := h
    rw [if_neg (by omega)]
    simp [mx, iabs]
  · rw [if_pos (by omega), decide_eq_false h]
/-! ### forms -/
inductive Kd where
  | st | mid | en
inductive Form where
  | rect (r : Rc)
  | line (a b c d : Int)
  | poly (p : Int × Int) (ps : List (Int × Int))
  | circ (x y r : Int)
  | text (k : Kd) (x y : Int) (z : Str)
def shapeS : Form → Str
  | .rect _ => "rectangle"
  | .line _ _ _ _ => "line"
  | .poly _ _ => "polyline"
  | .circ _ _ _ => "circle"
  | .text .st _ _ _ => "text start"
  | .text .mid _ _ _ => "text middle"
  | .text .en _ _ _ => "text end"
def flat : List (Int × Int) → List Int
  | [] => []
  | p :: ps => p.1 :: p.2 :: flat ps
def pts : Form → List Int
  | .rect r => [r.1, r.2.1, r.2.2.1, r.2.2.2]
  | .line a b c d => [a, b, c, d]
  | .poly p ps => p.1 :: p.2 :: flat ps
  | .circ x y r => [x, y, r]
  | .text _ x y _ => [x, y]
def txt : Form → Str
  | .text _ _ _ z => z
  | _ => ""
def segs : Int × Int → List (Int × Int) → Int → Int → Bool
  | _, [], _, _ => false
  | p, q :: qs, x, y => lineCov p.1 p.2 q.1 q.2 x y || segs q qs x y
def around : Form → Rc
  | .rect r => r
  | .line a b c d => (mn a c, mn b d, mx a c - mn a c + 1, mx b d - mn b d + 1)
  | .poly p ps => (least p.1 (ps.map (·.1)), least p.2 (ps.map (·.2)), most p.1 (ps.map (·.1)) - least p.1 (ps.map (·.1)) + 1, most p.2 (ps.map (·.2)) - least p.2 (ps.map (·.2)) + 1)
  | .circ x y r => (x - r, y - r, 2 * r + 1, 2 * r + 1)
  | .text .st x y z => (x, y, tw z, 7)
  | .text .mid x y z => (x - tw z / 2, y, tw z, 7)
  | .text .en x y z => (x - tw z, y, tw z, 7)
def covers (f : Form) (x y : Int) : Bool := match f with
  | .rect r => inR r x y
  | .line a b c d => lineCov a b c d x y
  | .poly p [] => decide (p.1 = x ∧ p.2 = y)
  | .poly p (q :: qs) => segs p (q :: qs) x y
  | .circ a b r => decide ((x - a) * (x - a) + (y - b) * (y - b) ≤ r * r + r)
  | .text k a b z => inked z (x - (around (.text k a b z)).1) (y - (around (.text k a b z)).2.1)
structure WfF (f : Form) : Prop where
  bd : ∀ i ∈ pts f, bd i
  len : ∀ p ps, f = .poly p ps → ps.length ≤ 3
  rad : ∀ x y r, f = .circ x y r → 0 ≤ r
  txt : (txt f).length ≤ 100
end Cs
namespace Cs
open PySem PySem.Spec PyProof.Rows L2
theorem sn01 : ((("rectangle" : Str) = "line") = False) := by simp only [eq_iff_iff, iff_false]; decide +kernel
theorem sn02 : ((("rectangle" : Str) = "polyline") = False) := by simp only [eq_iff_iff, iff_false]; decide +kernel
theorem sn03 : ((("rectangle" : Str) = "circle") = False) := by simp only [eq_iff_iff, iff_false]; decide +kernel
theorem sn05 : ((("rectangle" : Str) = "text middle") = False) := by simp only [eq_iff_iff, iff_false]; decide +kernel
theorem sn06 : ((("rectangle" : Str) = "text end") = False) := by simp only [eq_iff_iff, iff_false]; decide +kernel
theorem sn10 : ((("line" : Str) = "rectangle") = False) := by simp only [eq_iff_iff, iff_false]; decide +kernel
theorem sn12 : ((("line" : Str) = "polyline") = False) := by simp only [eq_iff_iff, iff_false]; decide +kernel
theorem sn13 : ((("line" : Str) = "circle") = False) := by simp only [eq_iff_iff, iff_false]; decide +kernel
theorem sn15 : ((("line" : Str) = "text middle") = False) := by simp only [eq_iff_iff, iff_false]; decide +kernel
theorem sn16 : ((("line" : Str) = "text end") = False) := by simp only [eq_iff_iff, iff_false]; decide +kernel
theorem sn20 : ((("polyline" : Str) = "rectangle") = False) := by simp only [eq_iff_iff, iff_false]; decide +kernel
theorem sn21 : ((("polyline" : Str) = "line") = False) := by simp only [eq_iff_iff, iff_false]; decide +kernel
theorem sn23 : ((("polyline" : Str) = "circle") = False) := by simp only [eq_iff_iff, iff_false]; decide +kernel
theorem sn25 : ((("polyline" : Str) = "text middle") = False) := by simp only [eq_iff_iff, iff_false]; decide +kernel
theorem sn26 : ((("polyline" : Str) = "text end") = False) := by simp only [eq_iff_iff, iff_false]; decide +kernel
theorem sn30 : ((("circle" : Str) = "rectangle") = False) := by simp only [eq_iff_iff, iff_false]; decide +kernel
theorem sn31 : ((("circle" : Str) = "line") = False) := by simp only [eq_iff_iff, iff_false]; decide +kernel
theorem sn32 : ((("circle" : Str) = "polyline") = False) := by simp only [eq_iff_iff, iff_false]; decide +kernel
theorem sn35 : ((("circle" : Str) = "text middle") = False) := by simp only [eq_iff_iff, iff_false]; decide +kernel
theorem sn36 : ((("circle" : Str) = "text end") = False) := by simp only [eq_iff_iff, iff_false]; decide +kernel
theorem sn40 : ((("text start" : Str) = "rectangle") = False) := by simp only [eq_iff_iff, iff_false]; decide +kernel
theorem sn41 : ((("text start" : Str) = "line") = False) := by simp only [eq_iff_iff, iff_false]; decide +kernel
theorem sn42 : ((("text start" : Str) = "polyline") = False) := by simp only [eq_iff_iff, iff_false]; decide +kernel
theorem sn43 : ((("text start" : Str) = "circle") = False) := by simp only [eq_iff_iff, iff_false]; decide +kernel
theorem sn45 : ((("text start" : Str) = "text middle") = False) := by simp only [eq_iff_iff, iff_false]; decide +kernel
theorem sn46 : ((("text start" : Str) = "text end") = False) := by simp only [eq_iff_iff, iff_false]; decide +kernel
theorem sn50 : ((("text middle" : Str) = "rectangle") = False) := by simp only [eq_iff_iff, iff_false]; decide +kernel
theorem sn51 : ((("text middle" : Str) = "line") = False) := by simp only [eq_iff_iff, iff_false]; decide +kernel
theorem sn52 : ((("text middle" : Str) = "polyline") = False) := by simp only [eq_iff_iff, iff_false]; decide +kernel
theorem sn53 : ((("text middle" : Str) = "circle") = False) := by simp only [eq_iff_iff, iff_false]; decide +kernel
theorem sn56 : ((("text middle" : Str) = "text end") = False) := by simp only [eq_iff_iff, iff_false]; decide +kernel
theorem sn60 : ((("text end" : Str) = "rectangle") = False) := by simp only [eq_iff_iff, iff_false]; decide +kernel
theorem sn61 : ((("text end" : Str) = "line") = False) := by simp only [eq_iff_iff, iff_false]; decide +kernel
theorem sn62 : ((("text end" : Str) = "polyline") = False) := by simp only [eq_iff_iff, iff_false]; decide +kernel
theorem sn63 : ((("text end" : Str) = "circle") = False) := by simp only [eq_iff_iff, iff_false]; decide +kernel
theorem sn65 : ((("text end" : Str) = "text middle") = False) := by simp only [eq_iff_iff, iff_false]; decide +kernel
local macro_rules | `(tactic| walk_at "sh") => `(tactic| simp [sn01, sn02, sn03, sn05, sn06, sn10, sn12, sn13, sn15, sn16, sn20, sn21, sn23, sn25, sn26, sn30, sn31, sn32, sn35, sn36, sn40, sn41, sn42, sn43, sn45, sn46, sn50, sn51, sn52, sn53, sn56, sn60, sn61, sn62, sn63, sn65, shapeS, pts, txt, flat, runF, startD, dSeq, dSkip, dSet, dRet, dIf, dUnp, setAll, dVar, dC, dBin, dTest, tOrF, tAndF, tNotF, evs, dCall, gEq, gAdd, gSub, gIx, atI, ixN, dTup, gLe, *])
theorem mul2 (j : Int) : gMul (.int 2) (.int j) = some (.int (2 * j)) := gMul_ok (by decide) (by decide)
theorem div2 (j : Int) : gDiv2 (.int j) (.int 2) = some (.int (j / 2)) := rfl
abbrev ptsD (f : Form) : PyData := .tuple ((pts f).map PyData.int)
theorem step_ev (a b : Int) (ps : List (Int × Int)) (h : ps.length ≤ 3) : CsLow.step2 ((a :: b :: flat ps).map PyData.int) none none = (a :: ps.map (·.1)).map PyData.int := by
  match ps, h with
  | [], _ => simp [CsLow.step2, Builtin.Slice.sliceAdjust, Builtin.Slice.slicePlaces, flat, List.range, List.range.loop, show (min 1 2 : Int) = 1 from rfl, show (min 1 4 : Int) = 1 from rfl, show (min 1 6 : Int) = 1 from rfl, show (min 1 8 : Int) = 1 from rfl]
  | [(c, d)], _ => simp [CsLow.step2, Builtin.Slice.sliceAdjust, Builtin.Slice.slicePlaces, flat, List.range, List.range.loop, show (min 1 2 : Int) = 1 from rfl, show (min 1 4 : Int) = 1 from rfl, show (min 1 6 : Int) = 1 from rfl, show (min 1 8 : Int) = 1 from rfl]
  | [(c, d), (e, f)], _ => simp [CsLow.step2, Builtin.Slice.sliceAdjust, Builtin.Slice.slicePlaces, flat, List.range, List.range.loop, show (min 1 2 : Int) = 1 from rfl, show (min 1 4 : Int) = 1 from rfl, show (min 1 6 : Int) = 1 from rfl, show (min 1 8 : Int) = 1 from rfl]
  | [(c, d), (e, f), (g, i)], _ => simp [CsLow.step2, Builtin.Slice.sliceAdjust, Builtin.Slice.slicePlaces, flat, List.range, List.range.loop, show (min 1 2 : Int) = 1 from rfl, show (min 1 4 : Int) = 1 from rfl, show (min 1 6 : Int) = 1 from rfl, show (min 1 8 : Int) = 1 from rfl]
theorem step_od (a b : Int) (ps : List (Int × Int)) (h : ps.length ≤ 3) : CsLow.step2 ((a :: b :: flat ps).map PyData.int) (some 1) none = (b :: ps.map (·.2)).map PyData.int := by
  match ps, h with
  | [], _ => simp [CsLow.step2, Builtin.Slice.sliceAdjust, Builtin.Slice.slicePlaces, flat, List.range, List.range.loop, show (min 1 2 : Int) = 1 from rfl, show (min 1 4 : Int) = 1 from rfl, show (min 1 6 : Int) = 1 from rfl, show (min 1 8 : Int) = 1 from rfl]
  | [(c, d)], _ => simp [CsLow.step2, Builtin.Slice.sliceAdjust, Builtin.Slice.slicePlaces, flat, List.range, List.range.loop, show (min 1 2 : Int) = 1 from rfl, show (min 1 4 : Int) = 1 from rfl, show (min 1 6 : Int) = 1 from rfl, show (min 1 8 : Int) = 1 from rfl]
  | [(c, d), (e, f)], _ => simp [CsLow.step2, Builtin.Slice.sliceAdjust, Builtin.Slice.slicePlaces, flat, List.range, List.range.loop, show (min 1 2 : Int) = 1 from rfl, show (min 1 4 : Int) = 1 from rfl, show (min 1 6 : Int) = 1 from rfl, show (min 1 8 : Int) = 1 from rfl]
  | [(c, d), (e, f), (g, i)], _ => simp [CsLow.step2, Builtin.Slice.sliceAdjust, Builtin.Slice.slicePlaces, flat, List.range, List.range.loop, show (min 1 2 : Int) = 1 from rfl, show (min 1 4 : Int) = 1 from rfl, show (min 1 6 : Int) = 1 from rfl, show (min 1 8 : Int) = 1 from rfl]
theorem min_t (n : Int) (ns : List Int) : gMin [.tuple ((n :: ns).map PyData.int)] = some (.int (least n ns)) := by
  show (match asInts ((n :: ns).map PyData.int) with | some (n :: ns) => some (PyData.int (least n ns)) | _ => none) = _
  rw [asInts_map]
theorem max_t (n : Int) (ns : List Int) : gMax [.tuple ((n :: ns).map PyData.int)] = some (.int (most n ns)) := by
  show (match asInts ((n :: ns).map PyData.int) with | some (n :: ns) => some (PyData.int (most n ns)) | _ => none) = _
  rw [asInts_map]
theorem m_around (f : Form) (wf : WfF f) : f_around [.str (shapeS f), ptsD f, .str (txt f)] = some (rcD (around f)) := by
  unfold f_around F_around
  have box : ∀ (z t : Str) (a b : Int) (ps : List (Int × Int)), ps.length ≤ 3 → (dSeq (dSet 3 (dSl2 (dVar 1) (fun _ => some none) (fun _ => some none))) (dSeq (dSet 4 (dSl2 (dVar 1) (dPart (dC (.int 1))) (fun _ => some none))) (dSeq (dSet 5 (dCall gMin [(dVar 3)])) (dSeq (dSet 6 (dCall gMin [(dVar 4)])) (dRet (dTup [(dVar 5), (dVar 6), (dBin gAdd (dBin gSub (dCall gMax [(dVar 3)]) (dVar 5)) (dC (.int 1))), (dBin gAdd (dBin gSub (dCall gMax [(dVar 4)]) (dVar 6)) (dC (.int 1)))]))))))
      [some (.str z), some (.tuple ((a :: b :: flat ps).map PyData.int)), some (.str t), none, none, none, none, none, none, none, none] = some (.rt (rcD (around (.poly (a, b) ps)))) := by
    intro z t a b ps h
    have l1 : ((a :: ps.map (·.1)).map PyData.int).length ≤ 1000 := by simp; omega
    have l2 : ((b :: ps.map (·.2)).map PyData.int).length ≤ 1000 := by simp; omega
    have e1 : dSl2 (dVar 1) (fun _ => some none) (fun _ => some none) [some (.str z), some (.tuple ((a :: b :: flat ps).map PyData.int)), some (.str t), none, none, none, none, none, none, none, none] = some (.tuple ((a :: ps.map (·.1)).map PyData.int)) := by
      unfold dSl2 dVar
      dsimp only [List.getElem?_cons_succ, List.getElem?_cons_zero]
      rw [step_ev a b ps h, if_pos l1]
    have e2 : ∀ o, dSl2 (dVar 1) (dPart (dC (.int 1))) (fun _ => some none) [some (.str z), some (.tuple ((a :: b :: flat ps).map PyData.int)), some (.str t), o, none, none, none, none, none, none, none] = some (.tuple ((b :: ps.map (·.2)).map PyData.int)) := fun o => by
      unfold dSl2 dVar dPart dC
      dsimp only [List.getElem?_cons_succ, List.getElem?_cons_zero]
      rw [step_od a b ps h, if_pos l2]
    rw [dSeq_nx (s' := [some (.str z), some (.tuple ((a :: b :: flat ps).map PyData.int)), some (.str t), some (.tuple ((a :: ps.map (·.1)).map PyData.int)), none, none, none, none, none, none, none]) (by unfold dSet; rw [e1]; rfl)]
    rw [dSeq_nx (s' := [some (.str z), some (.tuple ((a :: b :: flat ps).map PyData.int)), some (.str t), some (.tuple ((a :: ps.map (·.1)).map PyData.int)), some (.tuple ((b :: ps.map (·.2)).map PyData.int)), none, none, none, none, none, none]) (by unfold dSet; rw [e2]; rfl)]
    have m1 := min_t a (ps.map (·.1))
    have m2 := min_t b (ps.map (·.2))
    have m3 := max_t a (ps.map (·.1))
    have m4 := max_t b (ps.map (·.2))
    generalize hA : (PyData.tuple ((a :: ps.map (·.1)).map PyData.int)) = A at m1 m3 ⊢
    generalize hB : (PyData.tuple ((b :: ps.map (·.2)).map PyData.int)) = B at m2 m4 ⊢
    simp [dSeq, dSet, dCall, evs, dVar, m1, m2, m3, m4, dRet, dTup, dBin, gAdd, gSub, dC, rcD, around]
  cases f with
  | rect r => walk_at "sh"; rfl
  | line a b c d =>
    have e := box "line" "" a b [(c, d)] (by simp)
    have e0 : around (.poly (a, b) [(c, d)]) = around (.line a b c d) := by
      simp only [around, List.map_cons, List.map_nil, least, most, List.foldl_cons, List.foldl_nil]
      have h1 : min a c = mn a c := by unfold mn; split <;> omega
      have h2 : min b d = mn b d := by unfold mn; split <;> omega
      have h3 : max a c = mx a c := by unfold mx; split <;> omega
      have h4 : max b d = mx b d := by unfold mx; split <;> omega
      rw [h1, h2, h3, h4]
    rw [e0] at e
    unfold runF
    rw [show startD 11 [PyData.str (shapeS (.line a b c d)), ptsD (.line a b c d), .str (txt (.line a b c d))] = [some (.str "line"), some (.tuple ((a :: b :: flat [(c, d)]).map PyData.int)), some (.str ""), none, none, none, none, none, none, none, none] from rfl]
    rw [dSeq_nx (s' := [some (.str "line"), some (.tuple ((a :: b :: flat [(c, d)]).map PyData.int)), some (.str ""), none, none, none, none, none, none, none, none]) (by simp [dIf, dTest, dBin, dVar, dC, gEq, sn10, dSkip])]
    rw [dSeq_rt (d := rcD (around (.line a b c d))) (by unfold dIf; rw [show tOrF (dTest (dBin gEq (dVar 0) (dC (.str "line")))) (dTest (dBin gEq (dVar 0) (dC (.str "polyline")))) _ = some true by simp [tOrF, dTest, dBin, dVar, dC, gEq]]; exact e)]
  | poly p ps =>
    obtain ⟨a, b⟩ := p
    have e := box "polyline" "" a b ps (wf.len _ _ rfl)
    unfold runF
    rw [show startD 11 [PyData.str (shapeS (.poly (a, b) ps)), ptsD (.poly (a, b) ps), .str (txt (.poly (a, b) ps))] = [some (.str "polyline"), some (.tuple ((a :: b :: flat ps).map PyData.int)), some (.str ""), none, none, none, none, none, none, none, none] from rfl]
    rw [dSeq_nx (s' := [some (.str "polyline"), some (.tuple ((a :: b :: flat ps).map PyData.int)), some (.str ""), none, none, none, none, none, none, none, none]) (by simp [dIf, dTest, dBin, dVar, dC, gEq, sn20, dSkip])]
    rw [dSeq_rt (d := rcD (around (.poly (a, b) ps))) (by unfold dIf; rw [show tOrF (dTest (dBin gEq (dVar 0) (dC (.str "line")))) (dTest (dBin gEq (dVar 0) (dC (.str "polyline")))) _ = some true by simp [tOrF, dTest, dBin, dVar, dC, gEq, sn21]]; exact e)]
  | circ x y r =>
    have m := mul2 r
    walk_at "sh"
    rfl
  | text k x y z =>
    have t := m_text_width z wf.txt
    cases k with
    | st => walk_at "sh"; rfl
    | mid =>
      have m := div2 (tw z)
      walk_at "sh"
      rfl
    | en => walk_at "sh"; rfl
theorem m_law_around (k : Kd) (x y : Int) (z : Str) : f_law_around [.str (shapeS (.text k x y z)), ptsD (.text k x y z), .str z] = some (rcD (around (.text k x y z))) := by
  unfold f_law_around F_law_around
  have t := m_law_width z
  cases k with
  | st => walk_at "sh"; rfl
  | mid =>
    have m := div2 (tw z)
    walk_at "sh"
    rfl
  | en => walk_at "sh"; rfl
end Cs
namespace Cs
open PySem PySem.Spec PyProof.Rows L2
local macro_rules | `(tactic| walk_at "sh") => `(tactic| simp [sn01, sn02, sn03, sn05, sn06, sn10, sn12, sn13, sn15, sn16, sn20, sn21, sn23, sn25, sn26, sn30, sn31, sn32, sn35, sn36, sn40, sn41, sn42, sn43, sn45, sn46, sn50, sn51, sn52, sn53, sn56, sn60, sn61, sn62, sn63, sn65, shapeS, pts, txt, flat, runF, startD, dSeq, dSkip, dSet, dRet, dIf, dUnp, setAll, dVar, dC, dBin, dTest, tOrF, tAndF, tNotF, evs, dCall, gEq, gAdd, gSub, gIx, atI, ixN, dTup, gLe, *])
theorem dFor_eq {i : Nat} {it : Sl → Option (List PyData)} {F : Sl → Option Out} {s : Sl} {ds : List PyData} (h : it s = some ds) : dFor i it F s = dLoop F i ds s := by
  unfold dFor
  rw [h]
theorem rg3 (n : Int) (h : small n) (s : Sl) (f : Sl → Option PyData) (e : f s = some (.int n)) : iRg3 (evs [(dC (.int 0)), f, (dC (.int 2))]) s = some (intsD 0 2 ((n + 1) / 2).toNat) := by
  unfold iRg3 evs evs evs evs dC
  rw [e]
  dsimp only
  rw [if_pos ⟨⟨by decide, h⟩, rfl⟩, show n - 0 + 1 = n + 1 by omega]
theorem m_poly (p : Int × Int) (ps : List (Int × Int)) (x y : Int) (wf : WfF (.poly p ps)) (bx : bd x) (by' : bd y) :
    f_polyline_covers [ptsD (.poly p ps), .int x, .int y] = some (.bool (covers (.poly p ps) x y)) := by
  obtain ⟨a, b⟩ := p
  have hb := wf.bd
  have hl := wf.len _ _ rfl
  have ln : ∀ a b c d : Int, a ∈ pts (.poly (a, b) ps) ∨ bd a → True := fun _ _ _ _ _ => trivial
  unfold f_polyline_covers runF F_polyline_covers
  match ps, hl, hb with
  | [], _, _ =>
    have st : startD 4 [ptsD (.poly (a, b) []), .int x, .int y] = [some (.tuple [.int a, .int b]), some (.int x), some (.int y), none] := rfl
    have e : gEqD (.tuple [.int a, .int b]) (.tuple [.int x, .int y]) = some (.bool (decide (a = x ∧ b = y))) := by
      unfold gEqD
      rw [if_pos ⟨rfl, rfl⟩]
      show some (PyData.bool (a == x && (b == y && true))) = _
      rw [Bool.and_true]
      congr 2
      by_cases h1 : a = x <;> by_cases h2 : b = y <;> simp [h1, h2]
    rw [st]
    simp [dSeq, dIf, dTest, dBin, dCall, evs, dVar, gLen, gEq, dC, dRet, dTup, e, covers]
  | [(c, d)], _, hb =>
    have m1 : f_line_covers [.tuple [.int a, .int b, .int c, .int d], .int x, .int y] = some (.bool (lineCov a b c d x y)) := m_line (hb a (by simp [pts])) (hb b (by simp [pts])) bx by'
    rw [show startD 4 [ptsD (.poly (a, b) [(c, d)]), .int x, .int y] = [some (.tuple [.int a, .int b, .int c, .int d]), some (.int x), some (.int y), none] from rfl]
    rw [dSeq_nx (s' := [some (.tuple [.int a, .int b, .int c, .int d]), some (.int x), some (.int y), none]) (by simp [dIf, dTest, dBin, dCall, evs, dVar, gLen, gEq, dC, dSkip])]
    have it := rg3 2 (by decide) [some (.tuple [.int a, .int b, .int c, .int d]), some (.int x), some (.int y), none] (dBin gSub (dCall gLen [dVar 0]) (dC (.int 2))) (by simp [dBin, dCall, evs, dVar, gLen, dC, gSub])
    rw [show intsD 0 2 ((2 + 1) / 2 : Int).toNat = [.int 0] from rfl] at it
    unfold dSeq
    rw [dFor_eq it]
    cases h1 : lineCov a b c d x y <;>
    simp [dLoop, L0_polyline_covers, dIf, dTest, dCall, evs, dSl, dVar, dPart, dBin, gAdd, dC, cutD, HT.sIx, m1, h1, dRet, dSkip, covers, segs]
  | [(c, d), (e, f)], _, hb =>
    have m1 : f_line_covers [.tuple [.int a, .int b, .int c, .int d], .int x, .int y] = some (.bool (lineCov a b c d x y)) := m_line (hb a (by simp [pts])) (hb b (by simp [pts])) bx by'
    have m2 : f_line_covers [.tuple [.int c, .int d, .int e, .int f], .int x, .int y] = some (.bool (lineCov c d e f x y)) := m_line (hb c (by simp [pts, flat])) (hb d (by simp [pts, flat])) bx by'
    rw [show startD 4 [ptsD (.poly (a, b) [(c, d), (e, f)]), .int x, .int y] = [some (.tuple [.int a, .int b, .int c, .int d, .int e, .int f]), some (.int x), some (.int y), none] from rfl]
    rw [dSeq_nx (s' := [some (.tuple [.int a, .int b, .int c, .int d, .int e, .int f]), some (.int x), some (.int y), none]) (by simp [dIf, dTest, dBin, dCall, evs, dVar, gLen, gEq, dC, dSkip])]
    have it := rg3 4 (by decide) [some (.tuple [.int a, .int b, .int c, .int d, .int e, .int f]), some (.int x), some (.int y), none] (dBin gSub (dCall gLen [dVar 0]) (dC (.int 2))) (by simp [dBin, dCall, evs, dVar, gLen, dC, gSub])
    rw [show intsD 0 2 ((4 + 1) / 2 : Int).toNat = [.int 0, .int 2] from rfl] at it
    unfold dSeq
    rw [dFor_eq it]
    cases h1 : lineCov a b c d x y <;> cases h2 : lineCov c d e f x y <;>
    simp [dLoop, L0_polyline_covers, dIf, dTest, dCall, evs, dSl, dVar, dPart, dBin, gAdd, dC, cutD, HT.sIx, m1, m2, h1, h2, dRet, dSkip, covers, segs]
  | [(c, d), (e, f), (g, i)], _, hb =>
    have m1 : f_line_covers [.tuple [.int a, .int b, .int c, .int d], .int x, .int y] = some (.bool (lineCov a b c d x y)) := m_line (hb a (by simp [pts])) (hb b (by simp [pts])) bx by'
    have m2 : f_line_covers [.tuple [.int c, .int d, .int e, .int f], .int x, .int y] = some (.bool (lineCov c d e f x y)) := m_line (hb c (by simp [pts, flat])) (hb d (by simp [pts, flat])) bx by'
    have m3 : f_line_covers [.tuple [.int e, .int f, .int g, .int i], .int x, .int y] = some (.bool (lineCov e f g i x y)) := m_line (hb e (by simp [pts, flat])) (hb f (by simp [pts, flat])) bx by'
    rw [show startD 4 [ptsD (.poly (a, b) [(c, d), (e, f), (g, i)]), .int x, .int y] = [some (.tuple [.int a, .int b, .int c, .int d, .int e, .int f, .int g, .int i]), some (.int x), some (.int y), none] from rfl]
    rw [dSeq_nx (s' := [some (.tuple [.int a, .int b, .int c, .int d, .int e, .int f, .int g, .int i]), some (.int x), some (.int y), none]) (by simp [dIf, dTest, dBin, dCall, evs, dVar, gLen, gEq, dC, dSkip])]
    have it := rg3 6 (by decide) [some (.tuple [.int a, .int b, .int c, .int d, .int e, .int f, .int g, .int i]), some (.int x), some (.int y), none] (dBin gSub (dCall gLen [dVar 0]) (dC (.int 2))) (by simp [dBin, dCall, evs, dVar, gLen, dC, gSub])
    rw [show intsD 0 2 ((6 + 1) / 2 : Int).toNat = [.int 0, .int 2, .int 4] from rfl] at it
    unfold dSeq
    rw [dFor_eq it]
    cases h1 : lineCov a b c d x y <;> cases h2 : lineCov c d e f x y <;> cases h3 : lineCov e f g i x y <;>
    simp [dLoop, L0_polyline_covers, dIf, dTest, dCall, evs, dSl, dVar, dPart, dBin, gAdd, dC, cutD, HT.sIx, m1, m2, m3, h1, h2, h3, dRet, dSkip, covers, segs]
theorem m_covers (f : Form) (x y : Int) (wf : WfF f) (bx : bd x) (by' : bd y) : f_covers [.str (shapeS f), ptsD f, .str (txt f), .int x, .int y] = some (.bool (covers f x y)) := by
  cases f with
  | rect r =>
    have m := m_contains r x y
    have e : ptsD (.rect r) = rcD r := rfl
    rw [e]
    unfold f_covers F_covers
    walk_at "sh"
    rfl
  | line a b c d =>
    have m : f_line_covers [ptsD (.line a b c d), .int x, .int y] = some (.bool (lineCov a b c d x y)) := m_line (wf.bd a (by simp [pts])) (wf.bd b (by simp [pts])) bx by'
    generalize ptsD (.line a b c d) = z at m ⊢
    unfold f_covers F_covers
    walk_at "sh"
    rfl
  | poly p ps =>
    have m := m_poly p ps x y wf bx by'
    generalize covers (.poly p ps) x y = r at m ⊢
    generalize ptsD (.poly p ps) = z at m ⊢
    unfold f_covers F_covers
    walk_at "sh"
  | circ a b r =>
    have h1 := wf.bd a (by simp [pts])
    have h2 := wf.bd b (by simp [pts])
    have h3 := wf.bd r (by simp [pts])
    unfold bd at h1 h2 h3 bx by'
    have e1 : gMul (.int (x - a)) (.int (x - a)) = some (.int ((x - a) * (x - a))) := gMul_ok (by omega) (by omega)
    have e2 : gMul (.int (y - b)) (.int (y - b)) = some (.int ((y - b) * (y - b))) := gMul_ok (by omega) (by omega)
    have e3 : gMul (.int r) (.int r) = some (.int (r * r)) := gMul_ok (by omega) (by omega)
    clear h1 h2 h3 bx by' wf
    unfold f_covers F_covers
    walk_at "sh"
    rfl
  | text k a b z =>
    have m := m_around (.text k a b z) wf
    have m2 := m_inked z (x - (around (.text k a b z)).1) (y - (around (.text k a b z)).2.1)
    have e : covers (.text k a b z) x y = inked z (x - (around (.text k a b z)).1) (y - (around (.text k a b z)).2.1) := rfl
    rw [e]
    generalize around (.text k a b z) = r at m m2 ⊢
    generalize ptsD (.text k a b z) = pp at m ⊢
    obtain ⟨l, t, w, h⟩ := r
    dsimp only [rcD] at m m2 ⊢
    have et : txt (.text k a b z) = z := rfl
    rw [et] at m ⊢
    clear wf bx by' e et
    unfold f_covers F_covers
    cases k <;> simp only [shapeS] at m ⊢ <;> walk_at "sh"
theorem m_law_covers (f : Form) (x y : Int) (wf : WfF f) (bx : bd x) (by' : bd y) : f_law_covers [.str (shapeS f), ptsD f, .str (txt f), .int x, .int y] = some (.bool (covers f x y)) := by
  have seq : ∀ (z t : Str) (ps : List PyData) (n : Int) (r : Bool), small n → gLen [.tuple ps] = some (.int (n + 2)) →
      (∀ s : Sl, s = [some (.str z), some (.tuple ps), some (.str t), some (.int x), some (.int y), some (.int n), none, none, none] →
        (match dLoop L0_law_covers 6 (intsD 0 2 ((mx n 1 + 1) / 2).toNat) s with | some (.nx s') => dRet (dC (.bool false)) s' | some (.rt d) => some (.rt d) | none => none) = some (.rt (.bool r))) →
      (dSeq (dSet 5 (dBin gSub (dCall gLen [(dVar 1)]) (dC (.int 2)))) (dSeq (dFor 6 (iRg3 (evs [(dC (.int 0)), (dCall gMax [(dVar 5), (dC (.int 1))]), (dC (.int 2))])) L0_law_covers) (dRet (dC (.bool false)))))
        [some (.str z), some (.tuple ps), some (.str t), some (.int x), some (.int y), none, none, none, none] = some (.rt (.bool r)) := by
    intro z t ps n r hn hl hr
    have e5 : (n + 2 - 2 : Int) = n := by omega
    rw [dSeq_nx (s' := [some (.str z), some (.tuple ps), some (.str t), some (.int x), some (.int y), some (.int n), none, none, none]) (by simp [dSet, dBin, dCall, evs, dVar, hl, dC, gSub, e5])]
    have hm : small (mx n 1) := by
      obtain ⟨h1, h2⟩ := hn
      unfold mx small
      split <;> omega
    have it := rg3 (mx n 1) hm [some (.str z), some (.tuple ps), some (.str t), some (.int x), some (.int y), some (.int n), none, none, none] (dCall gMax [(dVar 5), (dC (.int 1))]) (by simp [dCall, evs, dVar, dC, gMax])
    have q := hr _ rfl
    unfold dSeq
    rw [dFor_eq it]
    exact q
  have way : ∀ (g : Form) (r : Bool), (∃ a b c d, g = .line a b c d) ∨ (∃ p ps, g = .poly p ps) →
      ((dSeq (dSet 5 (dBin gSub (dCall gLen [(dVar 1)]) (dC (.int 2)))) (dSeq (dFor 6 (iRg3 (evs [(dC (.int 0)), (dCall gMax [(dVar 5), (dC (.int 1))]), (dC (.int 2))])) L0_law_covers) (dRet (dC (.bool false)))))
        [some (.str (shapeS g)), some (ptsD g), some (.str (txt g)), some (.int x), some (.int y), none, none, none, none] = some (.rt (.bool r))) → f_law_covers [.str (shapeS g), ptsD g, .str (txt g), .int x, .int y] = some (.bool r) := by
    intro g r hg h
    unfold f_law_covers F_law_covers runF
    have st : startD 9 [.str (shapeS g), ptsD g, .str (txt g), .int x, .int y] = [some (.str (shapeS g)), some (ptsD g), some (.str (txt g)), some (.int x), some (.int y), none, none, none, none] := rfl
    rw [st]
    generalize hp : ptsD g = pp at h ⊢
    generalize txt g = tt at h ⊢
    have hs : shapeS g = "line" ∨ shapeS g = "polyline" := by
      rcases hg with ⟨a, b, c, d, rfl⟩ | ⟨p, ps, rfl⟩
      · exact .inl rfl
      · exact .inr rfl
    rcases hs with hs | hs
    · rw [hs] at h ⊢
      rw [dSeq_nx (s' := [some (.str "line"), some pp, some (.str tt), some (.int x), some (.int y), none, none, none, none]) (by simp [dIf, dTest, dBin, dVar, dC, gEq, sn10, dSkip])]
      rw [dSeq_nx (s' := [some (.str "line"), some pp, some (.str tt), some (.int x), some (.int y), none, none, none, none]) (by simp [dIf, dTest, dBin, dVar, dC, gEq, sn13, dSkip])]
      rw [dSeq_rt (d := .bool r) (by unfold dIf; rw [show tOrF (dTest (dBin gEq (dVar 0) (dC (.str "line")))) (dTest (dBin gEq (dVar 0) (dC (.str "polyline")))) _ = some true by simp [tOrF, dTest, dBin, dVar, dC, gEq]]; exact h)]
    · rw [hs] at h ⊢
      rw [dSeq_nx (s' := [some (.str "polyline"), some pp, some (.str tt), some (.int x), some (.int y), none, none, none, none]) (by simp [dIf, dTest, dBin, dVar, dC, gEq, sn20, dSkip])]
      rw [dSeq_nx (s' := [some (.str "polyline"), some pp, some (.str tt), some (.int x), some (.int y), none, none, none, none]) (by simp [dIf, dTest, dBin, dVar, dC, gEq, sn23, dSkip])]
      rw [dSeq_rt (d := .bool r) (by unfold dIf; rw [show tOrF (dTest (dBin gEq (dVar 0) (dC (.str "line")))) (dTest (dBin gEq (dVar 0) (dC (.str "polyline")))) _ = some true by simp [tOrF, dTest, dBin, dVar, dC, gEq, sn21]]; exact h)]
  cases f with
  | rect r =>
    have m := m_law_holds r x y
    have e : ptsD (.rect r) = rcD r := rfl
    rw [e]
    unfold f_law_covers F_law_covers
    walk_at "sh"
    rfl
  | circ a b r =>
    have h1 := wf.bd a (by simp [pts])
    have h2 := wf.bd b (by simp [pts])
    have h3 := wf.bd r (by simp [pts])
    unfold bd at h1 h2 h3 bx by'
    have e1 : gPow (.int (x - a)) (.int 2) = some (.int ((x - a) ^ 2)) := if_pos ⟨by decide, by omega⟩
    have e2 : gPow (.int (y - b)) (.int 2) = some (.int ((y - b) ^ 2)) := if_pos ⟨by decide, by omega⟩
    have e3 : gMul (.int r) (.int r) = some (.int (r * r)) := gMul_ok (by omega) (by omega)
    have e4 : covers (.circ a b r) x y = decide ((x - a) ^ 2 + (y - b) ^ 2 ≤ r * r + r) := by
      show decide ((x - a) * (x - a) + (y - b) * (y - b) ≤ r * r + r) = _
      rw [Int.pow_succ, Int.pow_succ, Int.pow_zero, Int.one_mul, Int.pow_succ, Int.pow_succ, Int.pow_zero, Int.one_mul]
    rw [e4]
    clear h1 h2 h3 bx by' wf e4 seq way
    unfold f_law_covers F_law_covers
    walk_at "sh"
  | text k a b z =>
    have m := m_law_around k a b z
    have m2 := m_law_inked z (x - (around (.text k a b z)).1) (y - (around (.text k a b z)).2.1)
    have e : covers (.text k a b z) x y = inked z (x - (around (.text k a b z)).1) (y - (around (.text k a b z)).2.1) := rfl
    rw [e]
    generalize around (.text k a b z) = r at m m2 ⊢
    generalize ptsD (.text k a b z) = pp at m ⊢
    obtain ⟨l, t, w, h⟩ := r
    dsimp only [rcD] at m m2 ⊢
    have et : txt (.text k a b z) = z := rfl
    rw [et]
    clear wf bx by' e et seq way
    unfold f_law_covers F_law_covers
    cases k <;> simp only [shapeS] at m ⊢ <;> walk_at "sh"
  | line a b c d =>
    refine way _ _ (.inl ⟨a, b, c, d, rfl⟩) (seq _ _ [.int a, .int b, .int c, .int d] 2 _ (by decide) rfl fun s hs => ?_)
    subst hs
    have m : f_law_on_line [.tuple [.int a, .int b, .int c, .int d], .int x, .int y] = some (.bool (lineCov a b c d x y)) := m_law_line (wf.bd a (by simp [pts])) (wf.bd b (by simp [pts])) bx by'
    rw [show intsD 0 2 ((mx 2 1 + 1) / 2).toNat = [.int 0] from rfl]
    have k2 : mn 2 2 = 2 := rfl
    cases h1 : lineCov a b c d x y <;> simp [dLoop, L0_law_covers, dSeq, dSet, dIf, dTest, dCall, evs, dVar, dBin, gAdd, gMin, gIx, atI, ixN, dC, dTup, m, h1, k2, dRet, dSkip, covers]
  | poly p ps =>
    obtain ⟨a, b⟩ := p
    have hb := wf.bd
    have hl := wf.len _ _ rfl
    match ps, hl, hb with
    | [], _, hb =>
      refine way (.poly (a, b) []) _ (.inr ⟨_, _, rfl⟩) (seq _ _ [.int a, .int b] 0 _ (by decide) rfl fun s hs => ?_)
      · subst hs
        have m : f_law_on_line [.tuple [.int a, .int b, .int a, .int b], .int x, .int y] = some (.bool (lineCov a b a b x y)) := m_law_line (hb a (by simp [pts])) (hb b (by simp [pts])) bx by'
        rw [lineCov_dot] at m
        rw [show intsD 0 2 ((mx 0 1 + 1) / 2).toNat = [.int 0] from rfl]
        have k2 : mn 2 0 = 0 := rfl
        have ec : covers (.poly (a, b) []) x y = decide (a = x ∧ b = y) := rfl
        rw [ec]
        cases h1 : decide (a = x ∧ b = y) <;> rw [h1] at m <;> simp [dLoop, L0_law_covers, dSeq, dSet, dIf, dTest, dCall, evs, dVar, dBin, gAdd, gMin, gIx, atI, ixN, dC, dTup, m, k2, dRet, dSkip]
    | [(c, d)], _, hb =>
      refine way (.poly (a, b) [(c, d)]) _ (.inr ⟨_, _, rfl⟩) (seq _ _ [.int a, .int b, .int c, .int d] 2 _ (by decide) rfl fun s hs => ?_)
      subst hs
      have m1 : f_law_on_line [.tuple [.int a, .int b, .int c, .int d], .int x, .int y] = some (.bool (lineCov a b c d x y)) := m_law_line (hb a (by simp [pts])) (hb b (by simp [pts])) bx by'
      rw [show intsD 0 2 ((mx 2 1 + 1) / 2).toNat = [.int 0] from rfl]
      have k2 : mn 2 2 = 2 := rfl
      cases h1 : lineCov a b c d x y <;> simp [dLoop, L0_law_covers, dSeq, dSet, dIf, dTest, dCall, evs, dVar, dBin, gAdd, gMin, gIx, atI, ixN, dC, dTup, m1, h1, k2, dRet, dSkip, covers, segs]
    | [(c, d), (e, f)], _, hb =>
      refine way (.poly (a, b) [(c, d), (e, f)]) _ (.inr ⟨_, _, rfl⟩) (seq _ _ [.int a, .int b, .int c, .int d, .int e, .int f] 4 _ (by decide) rfl fun s hs => ?_)
      subst hs
      have m1 : f_law_on_line [.tuple [.int a, .int b, .int c, .int d], .int x, .int y] = some (.bool (lineCov a b c d x y)) := m_law_line (hb a (by simp [pts])) (hb b (by simp [pts])) bx by'
      have m2 : f_law_on_line [.tuple [.int c, .int d, .int e, .int f], .int x, .int y] = some (.bool (lineCov c d e f x y)) := m_law_line (hb c (by simp [pts, flat])) (hb d (by simp [pts, flat])) bx by'
      rw [show intsD 0 2 ((mx 4 1 + 1) / 2).toNat = [.int 0, .int 2] from rfl]
      have k2 : mn 2 4 = 2 := rfl
      have k4 : mn 4 4 = 4 := rfl
      cases h1 : lineCov a b c d x y <;> cases h2 : lineCov c d e f x y <;> simp [dLoop, L0_law_covers, dSeq, dSet, dIf, dTest, dCall, evs, dVar, dBin, gAdd, gMin, gIx, atI, ixN, dC, dTup, m1, m2, h1, h2, k2, k4, dRet, dSkip, covers, segs]
    | [(c, d), (e, f), (g, i)], _, hb =>
      refine way (.poly (a, b) [(c, d), (e, f), (g, i)]) _ (.inr ⟨_, _, rfl⟩) (seq _ _ [.int a, .int b, .int c, .int d, .int e, .int f, .int g, .int i] 6 _ (by decide) rfl fun s hs => ?_)
      subst hs
      have m1 : f_law_on_line [.tuple [.int a, .int b, .int c, .int d], .int x, .int y] = some (.bool (lineCov a b c d x y)) := m_law_line (hb a (by simp [pts])) (hb b (by simp [pts])) bx by'
      have m2 : f_law_on_line [.tuple [.int c, .int d, .int e, .int f], .int x, .int y] = some (.bool (lineCov c d e f x y)) := m_law_line (hb c (by simp [pts, flat])) (hb d (by simp [pts, flat])) bx by'
      have m3 : f_law_on_line [.tuple [.int e, .int f, .int g, .int i], .int x, .int y] = some (.bool (lineCov e f g i x y)) := m_law_line (hb e (by simp [pts, flat])) (hb f (by simp [pts, flat])) bx by'
      rw [show intsD 0 2 ((mx 6 1 + 1) / 2).toNat = [.int 0, .int 2, .int 4] from rfl]
      have k2 : mn 2 6 = 2 := rfl
      have k4 : mn 4 6 = 4 := rfl
      have k6 : mn 6 6 = 6 := rfl
      cases h1 : lineCov a b c d x y <;> cases h2 : lineCov c d e f x y <;> cases h3 : lineCov e f g i x y <;> simp [dLoop, L0_law_covers, dSeq, dSet, dIf, dTest, dCall, evs, dVar, dBin, gAdd, gMin, gIx, atI, ixN, dC, dTup, m1, m2, m3, h1, h2, h3, k2, k4, k6, dRet, dSkip, covers, segs]
end Cs
namespace Cs
open PySem PySem.Spec PyProof.Rows L2
structure Prim where
  plot : Option Int
  role : Str
  key : Str
  form : Form
  fill : Option Str
  stroke : Option Str
  clip : Option Rc
abbrev strD : Option Str → PyData := optD PyData.str
def primD (p : Prim) : PyData := .tuple [optD .int p.plot, .str p.role, .str p.key, .str (shapeS p.form), ptsD p.form, .str (txt p.form), strD p.fill, strD p.stroke, optD rcD p.clip]
def isL : Form → Bool
  | .line _ _ _ _ => true
  | .poly _ _ => true
  | _ => false
theorem isL_eq (f : Form) : (decide (shapeS f = "line") || decide (shapeS f = "polyline")) = isL f := by
  cases f with
  | text k a b z => cases k <;> simp [shapeS, isL, sn41, sn42, sn51, sn52, sn61, sn62]
  | _ => simp [shapeS, isL, sn01, sn02, sn31, sn32]
def clipOk (clip : Option Rc) (x y : Int) : Bool := match clip with
  | none => true
  | some r => inR r x y
def paintG (c : Option Str) (clip : Option Rc) (cv : Bool) (x y : Int) : Option Str := match c with
  | none => none
  | some c => if clipOk clip x y && cv then some c else none
def colr (p : Prim) : Option Str := if isL p.form then p.stroke else p.fill
def paint (p : Prim) (x y : Int) : Option Str := paintG (colr p) p.clip (covers p.form x y) x y
theorem gen_paint (z t : Str) (pd pl : PyData) (role key : Str) (fill stroke : Option Str) (clip : Option Rc) (x y : Int) (cv l : Bool) (hl : (decide (z = "line") || decide (z = "polyline")) = l)
    (m : f_covers [.str z, pd, .str t, .int x, .int y] = some (.bool cv)) :
    f_paint_of [.tuple [pl, .str role, .str key, .str z, pd, .str t, strD fill, strD stroke, optD rcD clip], .int x, .int y] = some (strD (paintG (if l then stroke else fill) clip cv x y)) := by
  unfold f_paint_of runF F_paint_of
  generalize hP : PyData.tuple [pl, .str role, .str key, .str z, pd, .str t, strD fill, strD stroke, optD rcD clip] = pr
  have i3 : gIx pr (.int 3) = some (.str z) := by rw [← hP]; rfl
  have i4 : gIx pr (.int 4) = some pd := by rw [← hP]; rfl
  have i5 : gIx pr (.int 5) = some (.str t) := by rw [← hP]; rfl
  have i6 : gIx pr (.int 6) = some (strD fill) := by rw [← hP]; rfl
  have i7 : gIx pr (.int 7) = some (strD stroke) := by rw [← hP]; rfl
  have i8 : gIx pr (.int 8) = some (optD rcD clip) := by rw [← hP]; rfl
  have st : startD 4 [pr, .int x, .int y] = [some pr, some (.int x), some (.int y), none] := rfl
  rw [st]
  rw [dSeq_nx (s' := [some pr, some (.int x), some (.int y), some (strD fill)]) (by simp [dSet, dBin, dVar, dC, i6])]
  have e1 : dIf (tOrF (dTest (dBin gEq (dBin gIx (dVar 0) (dC (.int 3))) (dC (.str "line")))) (dTest (dBin gEq (dBin gIx (dVar 0) (dC (.int 3))) (dC (.str "polyline"))))) (dSet 3 (dBin gIx (dVar 0) (dC (.int 7)))) dSkip [some pr, some (.int x), some (.int y), some (strD fill)] = some (.nx [some pr, some (.int x), some (.int y), some (strD (if l then stroke else fill))]) := by
    have t1 : tOrF (dTest (dBin gEq (dBin gIx (dVar 0) (dC (.int 3))) (dC (.str "line")))) (dTest (dBin gEq (dBin gIx (dVar 0) (dC (.int 3))) (dC (.str "polyline")))) [some pr, some (.int x), some (.int y), some (strD fill)] = some l := by
      cases h1 : decide (z = "line") <;> rw [h1] at hl <;> simp [tOrF, dTest, dBin, dVar, dC, i3, gEq, h1]
      · simpa using hl
      · simpa using hl
    unfold dIf
    rw [t1]
    cases l <;> simp [dSet, dSkip, dBin, dVar, dC, i7]
  rw [dSeq_nx e1]
  generalize (if l then stroke else fill) = c
  cases c with
  | none => simp [dSeq, dIf, dTest, dBin, dVar, dC, strD, optD, gIs, isNone, dRet, paintG]
  | some c =>
    have n1 : dIf (dTest (dBin gIs (dVar 3) (dC .none))) (dRet (dC .none)) dSkip [some pr, some (.int x), some (.int y), some (strD (some c))] = some (.nx [some pr, some (.int x), some (.int y), some (.str c)]) := by
      simp [dIf, dTest, dBin, dVar, dC, strD, optD, gIs, isNone, dSkip]
    rw [dSeq_nx n1]
    have n3 : dSeq (dIf (dTest (dCall f_covers [(dBin gIx (dVar 0) (dC (.int 3))), (dBin gIx (dVar 0) (dC (.int 4))), (dBin gIx (dVar 0) (dC (.int 5))), (dVar 1), (dVar 2)])) (dRet (dVar 3)) dSkip) (dRet (dC .none)) [some pr, some (.int x), some (.int y), some (.str c)] = some (.rt (strD (if cv then some c else none))) := by
      cases cv <;> simp [dSeq, dIf, dTest, dCall, evs, dBin, dVar, dC, i3, i4, i5, m, dRet, dSkip, strD, optD]
    cases clip with
    | none =>
      rw [dSeq_nx (s' := [some pr, some (.int x), some (.int y), some (.str c)]) (by simp [dIf, tAndF, dTest, dBin, dVar, dC, i8, optD, gIsNot, isNone, dSkip])]
      rw [n3]
      simp [paintG, clipOk]
    | some r =>
      have k := m_contains r x y
      cases h : inR r x y with
      | false =>
        rw [h] at k
        rw [dSeq_rt (d := .none) (by simp [dIf, tAndF, tNotF, dTest, dBin, dVar, dC, i8, optD, gIsNot, isNone_rcD, dCall, evs, k, dRet])]
        simp [paintG, clipOk, h, strD, optD]
      | true =>
        rw [h] at k
        rw [dSeq_nx (s' := [some pr, some (.int x), some (.int y), some (.str c)]) (by simp [dIf, tAndF, tNotF, dTest, dBin, dVar, dC, i8, optD, gIsNot, isNone_rcD, dCall, evs, k, dSkip])]
        rw [n3]
        simp [paintG, clipOk, h]
theorem m_paint_of (p : Prim) (x y : Int) (wf : WfF p.form) (bx : bd x) (by' : bd y) : f_paint_of [primD p, .int x, .int y] = some (strD (paint p x y)) :=
  gen_paint _ _ _ _ _ _ _ _ _ x y _ _ (isL_eq p.form) (m_covers p.form x y wf bx by')
theorem gen_law_paint (z t : Str) (pd pl : PyData) (role key : Str) (fill stroke : Option Str) (clip : Option Rc) (x y : Int) (cv l : Bool) (hl : (decide (z = "line") || decide (z = "polyline")) = l)
    (m : f_law_covers [.str z, pd, .str t, .int x, .int y] = some (.bool cv)) :
    f_law_paint [.tuple [pl, .str role, .str key, .str z, pd, .str t, strD fill, strD stroke, optD rcD clip], .int x, .int y] = some (strD (paintG (if l then stroke else fill) clip cv x y)) := by
  unfold f_law_paint runF F_law_paint
  generalize hP : PyData.tuple [pl, .str role, .str key, .str z, pd, .str t, strD fill, strD stroke, optD rcD clip] = pr
  have i3 : gIx pr (.int 3) = some (.str z) := by rw [← hP]; rfl
  have i4 : gIx pr (.int 4) = some pd := by rw [← hP]; rfl
  have i5 : gIx pr (.int 5) = some (.str t) := by rw [← hP]; rfl
  have i6 : gIx pr (.int 6) = some (strD fill) := by rw [← hP]; rfl
  have i7 : gIx pr (.int 7) = some (strD stroke) := by rw [← hP]; rfl
  have i8 : gIx pr (.int 8) = some (optD rcD clip) := by rw [← hP]; rfl
  have st : startD 4 [pr, .int x, .int y] = [some pr, some (.int x), some (.int y), none] := rfl
  rw [st]
  rw [dSeq_nx (s' := [some pr, some (.int x), some (.int y), some (strD fill)]) (by simp [dSet, dBin, dVar, dC, i6])]
  have e1 : dIf (tOrF (dTest (dBin gEq (dBin gIx (dVar 0) (dC (.int 3))) (dC (.str "line")))) (dTest (dBin gEq (dBin gIx (dVar 0) (dC (.int 3))) (dC (.str "polyline"))))) (dSet 3 (dBin gIx (dVar 0) (dC (.int 7)))) dSkip [some pr, some (.int x), some (.int y), some (strD fill)] = some (.nx [some pr, some (.int x), some (.int y), some (strD (if l then stroke else fill))]) := by
    have t1 : tOrF (dTest (dBin gEq (dBin gIx (dVar 0) (dC (.int 3))) (dC (.str "line")))) (dTest (dBin gEq (dBin gIx (dVar 0) (dC (.int 3))) (dC (.str "polyline")))) [some pr, some (.int x), some (.int y), some (strD fill)] = some l := by
      cases h1 : decide (z = "line") <;> rw [h1] at hl <;> simp [tOrF, dTest, dBin, dVar, dC, i3, gEq, h1]
      · simpa using hl
      · simpa using hl
    unfold dIf
    rw [t1]
    cases l <;> simp [dSet, dSkip, dBin, dVar, dC, i7]
  rw [dSeq_nx e1]
  generalize (if l then stroke else fill) = c
  cases c with
  | none => simp [dSeq, dIf, tOrF, dTest, dBin, dVar, dC, strD, optD, gIs, isNone, dRet, paintG]
  | some c =>
    cases cv with
    | false =>
      rw [dSeq_rt (d := .none) (by simp [dIf, tOrF, tNotF, dTest, dBin, dVar, dC, strD, optD, gIs, isNone, dCall, evs, i3, i4, i5, m, dRet])]
      simp [paintG, strD, optD]
    | true =>
      rw [dSeq_nx (s' := [some pr, some (.int x), some (.int y), some (.str c)]) (by simp [dIf, tOrF, tNotF, dTest, dBin, dVar, dC, strD, optD, gIs, isNone, dCall, evs, i3, i4, i5, m, dSkip])]
      cases clip with
      | none =>
        rw [dSeq_nx (s' := [some pr, some (.int x), some (.int y), some (.str c)]) (by simp [dIf, tAndF, dTest, dBin, dVar, dC, i8, optD, gIsNot, isNone, dSkip])]
        simp [paintG, clipOk, dRet, dVar, strD, optD]
      | some r =>
        have k := m_law_holds r x y
        cases h : inR r x y with
        | false =>
          rw [h] at k
          rw [dSeq_rt (d := .none) (by simp [dIf, tAndF, tNotF, dTest, dBin, dVar, dC, i8, optD, gIsNot, isNone_rcD, dCall, evs, k, dRet])]
          simp [paintG, clipOk, h, strD, optD]
        | true =>
          rw [h] at k
          rw [dSeq_nx (s' := [some pr, some (.int x), some (.int y), some (.str c)]) (by simp [dIf, tAndF, tNotF, dTest, dBin, dVar, dC, i8, optD, gIsNot, isNone_rcD, dCall, evs, k, dSkip])]
          simp [paintG, clipOk, h, dRet, dVar, strD, optD]
theorem m_law_paint (p : Prim) (x y : Int) (wf : WfF p.form) (bx : bd x) (by' : bd y) : f_law_paint [primD p, .int x, .int y] = some (strD (paint p x y)) :=
  gen_law_paint _ _ _ _ _ _ _ _ _ x y _ _ (isL_eq p.form) (m_law_covers p.form x y wf bx by')
/-! ### reach, visible part -/
def reach (p : Prim) : Option Rc := match p.clip with
  | none => common (around p.form) (around p.form)
  | some c => common (around p.form) c
theorem m_reach (p : Prim) (wf : WfF p.form) : f_reach [primD p] = some (optD rcD (reach p)) := by
  have m := m_around p.form wf
  unfold f_reach runF F_reach
  have i3 : gIx (primD p) (.int 3) = some (.str (shapeS p.form)) := rfl
  have i4 : gIx (primD p) (.int 4) = some (ptsD p.form) := rfl
  have i5 : gIx (primD p) (.int 5) = some (.str (txt p.form)) := rfl
  have i8 : gIx (primD p) (.int 8) = some (optD rcD p.clip) := rfl
  have st : startD 2 [primD p] = [some (primD p), none] := rfl
  rw [st]
  generalize primD p = pr at i3 i4 i5 i8 ⊢
  rw [dSeq_nx (s' := [some pr, some (rcD (around p.form))]) (by simp [dSet, dCall, evs, dBin, dVar, dC, i3, i4, i5, m])]
  unfold reach
  cases h : p.clip with
  | none =>
    rw [h] at i8
    rw [dSeq_rt (d := optD rcD (common (around p.form) (around p.form))) (by simp [dIf, dTest, dBin, dVar, dC, i8, optD, gIs, isNone, dRet, dCall, evs, m_common])]
  | some c =>
    rw [h] at i8
    rw [dSeq_nx (s' := [some pr, some (rcD (around p.form))]) (by simp [dIf, dTest, dBin, dVar, dC, i8, optD, gIs, isNone_rcD, dSkip])]
    have k := m_common (around p.form) c
    simp [dRet, dCall, evs, dBin, dVar, dC, i8, optD] at k ⊢
    simp [k]
def sceneD (w h : Int) (items : List PyData) : PyData := .tuple [.int w, .int h, .tuple items]
theorem m_page (w h : Int) (items : List PyData) : f_page_of [sceneD w h items] = some (rcD (0, 0, w, h)) := by
  simp [f_page_of, runF, F_page_of, startD, dRet, dTup, evs, dC, dBin, dVar, sceneD, gIx, atI, ixN, rcD]
def visible (w h : Int) (p : Prim) : Option Rc := match reach p with
  | none => none
  | some b => common b (0, 0, w, h)
theorem m_visible (w h : Int) (items : List PyData) (p : Prim) (wf : WfF p.form) : f_visible_part [sceneD w h items, primD p] = some (optD rcD (visible w h p)) := by
  have m := m_reach p wf
  have pg := m_page w h items
  unfold f_visible_part runF F_visible_part visible
  have st : startD 3 [sceneD w h items, primD p] = [some (sceneD w h items), some (primD p), none] := rfl
  rw [st]
  generalize primD p = pr at m ⊢
  generalize sceneD w h items = sc at pg ⊢
  rw [dSeq_nx (s' := [some sc, some pr, some (optD rcD (reach p))]) (by simp [dSet, dCall, evs, dVar, m])]
  cases reach p with
  | none => simp [dSeq, dIf, dTest, dBin, dVar, dC, optD, gIs, isNone, dRet]
  | some b =>
    rw [dSeq_nx (s' := [some sc, some pr, some (rcD b)]) (by simp [dIf, dTest, dBin, dVar, dC, optD, gIs, isNone_rcD, dSkip])]
    have k := m_common b (0, 0, w, h)
    simp [dRet, dCall, evs, dVar, pg, k]
/-! ### identities -/
def idOf (p : Prim) : Nid := ⟨p.plot, p.role, p.key⟩
theorem m_identity (p : Prim) : f_identity [primD p] = some (nidD (idOf p)) := by
  simp [f_identity, runF, F_identity, startD, dRet, dSl, dVar, primD, dPart, dC, cutD, HT.sIx, nidD, idOf]
/-! ### colors -/
def over (a : Str) : Option Str → Str
  | none => a
  | some c => c
def colorAt (items : List Prim) (x y : Int) : Str := items.foldl (fun a p => over a (paint p x y)) "#ffffff"
theorem l_color (sc : PyData) (x y : Int) (bx : bd x) (by' : bd y) : ∀ (items : List Prim), (∀ p ∈ items, WfF p.form) → ∀ (a : Str) (u v : Option PyData), ∃ u' v',
    dLoop L0_law_color_at 4 (items.map primD) [some sc, some (.int x), some (.int y), some (.str a), u, v] = some (.nx [some sc, some (.int x), some (.int y), some (.str (items.foldl (fun a p => over a (paint p x y)) a)), u', v'])
  | [], _, a, u, v => ⟨u, v, rfl⟩
  | p :: ps, hw, a, u, v => by
    have m := m_law_paint p x y (hw p List.mem_cons_self) bx by'
    have body : L0_law_color_at ([some sc, some (.int x), some (.int y), some (.str a), u, v].set 4 (some (primD p))) = some (.nx [some sc, some (.int x), some (.int y), some (.str (over a (paint p x y))), some (primD p), some (strD (paint p x y))]) := by
      generalize primD p = pr at m ⊢
      cases h : paint p x y <;> rw [h] at m <;> simp [L0_law_color_at, dSeq, dSet, dCall, evs, dVar, m, dIf, dTest, dBin, dC, strD, optD, gIsNot, isNone, dSkip, over]
    obtain ⟨u', v', e⟩ := l_color sc x y bx by' ps (fun q hq => hw q (List.mem_cons_of_mem _ hq)) (over a (paint p x y)) (some (primD p)) (some (strD (paint p x y)))
    refine ⟨u', v', ?_⟩
    rw [List.map_cons]
    unfold dLoop
    rw [body]
    exact e
theorem m_color_at (w h : Int) (items : List Prim) (x y : Int) (hw : ∀ p ∈ items, WfF p.form) (bx : bd x) (by' : bd y) : f_law_color_at [sceneD w h (items.map primD), .int x, .int y] = some (.str (colorAt items x y)) := by
  unfold f_law_color_at runF F_law_color_at colorAt
  have st : startD 6 [sceneD w h (items.map primD), .int x, .int y] = [some (sceneD w h (items.map primD)), some (.int x), some (.int y), none, none, none] := rfl
  rw [st]
  have i2 : iSeq (dBin gIx (dVar 0) (dC (.int 2))) [some (sceneD w h (items.map primD)), some (.int x), some (.int y), some (.str "#ffffff"), none, none] = some (items.map primD) := rfl
  rw [dSeq_nx (s' := [some (sceneD w h (items.map primD)), some (.int x), some (.int y), some (.str "#ffffff"), none, none]) rfl]
  obtain ⟨u', v', e⟩ := l_color (sceneD w h (items.map primD)) x y bx by' items hw "#ffffff" none none
  rw [dSeq_nx (by rw [dFor_eq i2]; exact e)]
  rfl
end Cs
namespace Cs
open PySem PySem.Spec PyProof.Rows L2
theorem inR_iff {r : Rc} {x y : Int} : inR r x y = true ↔ r.1 ≤ x ∧ x < r.1 + r.2.2.1 ∧ r.2.1 ≤ y ∧ y < r.2.1 + r.2.2.2 := by
  simp [inR, and_assoc]
theorem mn_le (a b : Int) : mn a b ≤ a ∧ mn a b ≤ b := by
  unfold mn
  split <;> omega
theorem le_mx (a b : Int) : a ≤ mx a b ∧ b ≤ mx a b := by
  unfold mx
  split <;> omega
theorem mx_lt {a b c : Int} : mx a b ≤ c ↔ a ≤ c ∧ b ≤ c := by
  unfold mx
  split <;> omega
theorem lt_mn {a b c : Int} : c < mn a b ↔ c < a ∧ c < b := by
  unfold mn
  split <;> omega
/-- a pixel in both -/
theorem common_in {a b : Rc} {x y : Int} (h1 : inR a x y = true) (h2 : inR b x y = true) : ∃ c, common a b = some c ∧ inR c x y = true := by
  rw [inR_iff] at h1 h2
  obtain ⟨a1, a2, a3, a4⟩ := h1
  obtain ⟨b1, b2, b3, b4⟩ := h2
  have m1 : mx a.1 b.1 ≤ x := mx_lt.mpr ⟨a1, b1⟩
  have m2 : mx a.2.1 b.2.1 ≤ y := mx_lt.mpr ⟨a3, b3⟩
  have m3 : x < mn (a.1 + a.2.2.1) (b.1 + b.2.2.1) := lt_mn.mpr ⟨a2, b2⟩
  have m4 : y < mn (a.2.1 + a.2.2.2) (b.2.1 + b.2.2.2) := lt_mn.mpr ⟨a4, b4⟩
  unfold common
  rw [if_neg (by rintro (z | z) <;> omega)]
  refine ⟨_, rfl, ?_⟩
  rw [inR_iff]
  exact ⟨m1, by dsimp only; omega, m2, by dsimp only; omega⟩
theorem in_common {a b c : Rc} {x y : Int} (h : common a b = some c) (hc : inR c x y = true) : inR a x y = true ∧ inR b x y = true := by
  unfold common at h
  split at h
  · cases h
  · cases h
    rw [inR_iff] at hc
    dsimp only at hc
    obtain ⟨a1, a2, a3, a4⟩ := hc
    have m1 := mx_lt.mp a1
    have m2 := mx_lt.mp a3
    have m3 : x < mn (a.1 + a.2.2.1) (b.1 + b.2.2.1) := by omega
    have m4 : y < mn (a.2.1 + a.2.2.2) (b.2.1 + b.2.2.2) := by omega
    have m3 := lt_mn.mp m3
    have m4 := lt_mn.mp m4
    exact ⟨inR_iff.mpr ⟨m1.1, m3.1, m2.1, m4.1⟩, inR_iff.mpr ⟨m1.2, m3.2, m2.2, m4.2⟩⟩
theorem common_pos {a b c : Rc} (h : common a b = some c) : 0 < c.2.2.1 ∧ 0 < c.2.2.2 ∧ b.1 ≤ c.1 ∧ c.1 + c.2.2.1 ≤ b.1 + b.2.2.1 ∧ b.2.1 ≤ c.2.1 ∧ c.2.1 + c.2.2.2 ≤ b.2.1 + b.2.2.2 := by
  unfold common at h
  split at h
  · cases h
  · rename_i n
    cases h
    have h1 := le_mx a.1 b.1
    have h2 := le_mx a.2.1 b.2.1
    have h3 := mn_le (a.1 + a.2.2.1) (b.1 + b.2.2.1)
    have h4 := mn_le (a.2.1 + a.2.2.2) (b.2.1 + b.2.2.2)
    dsimp only
    refine ⟨?_, ?_, h1.2, ?_, h2.2, ?_⟩ <;> omega
theorem least_mem {n m : Int} {ns : List Int} (h : m ∈ n :: ns) : least n ns ≤ m := by
  obtain ⟨h1, h2, _⟩ := least_le ns n
  rcases List.mem_cons.mp h with rfl | h
  · exact h1
  · exact h2 m h
theorem mem_most {n m : Int} {ns : List Int} (h : m ∈ n :: ns) : m ≤ most n ns := by
  obtain ⟨h1, h2, _⟩ := le_most ns n
  rcases List.mem_cons.mp h with rfl | h
  · exact h1
  · exact h2 m h
theorem segs_in : ∀ (ps : List (Int × Int)) (p : Int × Int) (x y : Int), segs p ps x y = true → ∃ u v, u ∈ p :: ps ∧ v ∈ p :: ps ∧ lineCov u.1 u.2 v.1 v.2 x y = true
  | [], _, _, _, h => by cases h
  | q :: qs, p, x, y, h => by
    unfold segs at h
    rcases Bool.or_eq_true_iff.mp h with h | h
    · exact ⟨p, q, List.mem_cons_self, List.mem_cons_of_mem _ List.mem_cons_self, h⟩
    · obtain ⟨u, v, h1, h2, h3⟩ := segs_in qs q x y h
      exact ⟨u, v, List.mem_cons_of_mem _ h1, List.mem_cons_of_mem _ h2, h3⟩
theorem sq_out {d r : Int} (hr : 0 ≤ r) (h : r + 1 ≤ d ∨ d ≤ -(r + 1)) : r * r + r < d * d := by
  have key : ∀ d : Int, r + 1 ≤ d → r * r + r < d * d := by
    intro d hd
    have h1 : (r + 1) * (r + 1) ≤ d * d := Int.mul_le_mul hd hd (by omega) (by omega)
    have h2 : (r + 1) * (r + 1) = r * r + 2 * r + 1 := by
      rw [Int.add_mul, Int.mul_add]
      omega
    omega
  rcases h with h | h
  · exact key d h
  · have := key (-d) (by omega)
    rw [Int.neg_mul_neg] at this
    exact this
theorem lw_pos : ∀ cs : List Nat, 0 ≤ lw cs
  | [] => Int.le_refl 0
  | c :: cs => by
    have := lw_pos cs
    have := (gw_pos c).1
    show 0 ≤ 1 + gw c + lw cs
    omega
theorem inkGo_in : ∀ (cs : List Nat) (x l : Int), inkGo cs x l = true → l ≤ x ∧ x < l + (lw cs - 1)
  | [], _, _, h => by cases h
  | c :: cs, x, l, h => by
    unfold inkGo at h
    have hp := lw_pos cs
    have g := (gw_pos c).1
    show l ≤ x ∧ x < l + (1 + gw c + lw cs - 1)
    split at h
    · rename_i h1
      have := (Bool.and_eq_true_iff.mp h).1
      simp at this
      exact ⟨this, by omega⟩
    · rename_i h1
      obtain ⟨h2, h3⟩ := inkGo_in cs x _ h
      exact ⟨by omega, by omega⟩
theorem inked_in {z : Str} {x y : Int} (h : inked z x y = true) : 0 ≤ x ∧ x < tw z ∧ 0 ≤ y ∧ y < 7 := by
  unfold inked at h
  split at h
  · cases h
  · rename_i n
    obtain ⟨h1, h2⟩ := inkGo_in _ _ _ h
    have e := tw_lw z
    have := (le_mx (lw z.cps.toList - 1) 0).1
    rw [e] at this
    refine ⟨h1, by omega, by omega, by omega⟩
theorem covers_in (f : Form) (wf : WfF f) (x y : Int) (h : covers f x y = true) : inR (around f) x y = true := by
  rw [inR_iff]
  cases f with
  | rect r => exact inR_iff.mp h
  | line a b c d =>
    obtain ⟨h1, h2, h3, h4⟩ := lineCov_in (show lineCov a b c d x y = true from h)
    show mn a c ≤ x ∧ x < mn a c + (mx a c - mn a c + 1) ∧ mn b d ≤ y ∧ y < mn b d + (mx b d - mn b d + 1)
    omega
  | poly p ps =>
    have key : ∀ u v, u ∈ p :: ps → v ∈ p :: ps → mn u.1 v.1 ≤ x → x ≤ mx u.1 v.1 → mn u.2 v.2 ≤ y → y ≤ mx u.2 v.2 → (around (.poly p ps)).1 ≤ x ∧ x < (around (.poly p ps)).1 + (around (.poly p ps)).2.2.1 ∧ (around (.poly p ps)).2.1 ≤ y ∧ y < (around (.poly p ps)).2.1 + (around (.poly p ps)).2.2.2 := by
      intro u v hu hv h1 h2 h3 h4
      have m1 : ∀ u ∈ p :: ps, u.1 ∈ p.1 :: ps.map (·.1) := fun u hu => List.mem_map_of_mem (f := fun q : Int × Int => q.1) hu
      have m2 : ∀ u ∈ p :: ps, u.2 ∈ p.2 :: ps.map (·.2) := fun u hu => List.mem_map_of_mem (f := fun q : Int × Int => q.2) hu
      have a1 := least_mem (m1 u hu)
      have a2 := least_mem (m1 v hv)
      have a3 := mem_most (m1 u hu)
      have a4 := mem_most (m1 v hv)
      have b1 := least_mem (m2 u hu)
      have b2 := least_mem (m2 v hv)
      have b3 := mem_most (m2 u hu)
      have b4 := mem_most (m2 v hv)
      have c1 : least p.1 (ps.map (·.1)) ≤ mn u.1 v.1 := by unfold mn; split <;> omega
      have c2 : mx u.1 v.1 ≤ most p.1 (ps.map (·.1)) := by unfold mx; split <;> omega
      have c3 : least p.2 (ps.map (·.2)) ≤ mn u.2 v.2 := by unfold mn; split <;> omega
      have c4 : mx u.2 v.2 ≤ most p.2 (ps.map (·.2)) := by unfold mx; split <;> omega
      show least p.1 (ps.map (·.1)) ≤ x ∧ x < least p.1 (ps.map (·.1)) + (most p.1 (ps.map (·.1)) - least p.1 (ps.map (·.1)) + 1) ∧ least p.2 (ps.map (·.2)) ≤ y ∧ y < least p.2 (ps.map (·.2)) + (most p.2 (ps.map (·.2)) - least p.2 (ps.map (·.2)) + 1)
      omega
    cases ps with
    | nil =>
      have h' : p.1 = x ∧ p.2 = y := of_decide_eq_true h
      refine key p p List.mem_cons_self List.mem_cons_self ?_ ?_ ?_ ?_
      · rw [← h'.1]; exact (mn_le _ _).1
      · rw [← h'.1]; exact (le_mx _ _).1
      · rw [← h'.2]; exact (mn_le _ _).1
      · rw [← h'.2]; exact (le_mx _ _).1
    | cons q qs =>
      obtain ⟨u, v, hu, hv, hl⟩ := segs_in (q :: qs) p x y h
      obtain ⟨h1, h2, h3, h4⟩ := lineCov_in hl
      exact key u v hu hv h1 h2 h3 h4
  | circ a b r =>
    have hr := wf.rad _ _ _ rfl
    have h' : (x - a) * (x - a) + (y - b) * (y - b) ≤ r * r + r := of_decide_eq_true h
    have sq : ∀ d : Int, 0 ≤ d * d := fun d => by
      rcases Int.le_total 0 d with z | z
      · exact Int.mul_nonneg z z
      · have := Int.mul_nonneg (Int.neg_nonneg.mpr z) (Int.neg_nonneg.mpr z)
        rwa [Int.neg_mul_neg] at this
    have s1 := sq (x - a)
    have s2 := sq (y - b)
    have nx : ¬ (r + 1 ≤ x - a ∨ x - a ≤ -(r + 1)) := fun z => by have := sq_out hr z; omega
    have ny : ¬ (r + 1 ≤ y - b ∨ y - b ≤ -(r + 1)) := fun z => by have := sq_out hr z; omega
    show a - r ≤ x ∧ x < a - r + (2 * r + 1) ∧ b - r ≤ y ∧ y < b - r + (2 * r + 1)
    omega
  | text k a b z =>
    have h' : inked z (x - (around (.text k a b z)).1) (y - (around (.text k a b z)).2.1) = true := h
    obtain ⟨h1, h2, h3, h4⟩ := inked_in h'
    have e1 : (around (.text k a b z)).2.2.1 = tw z := by cases k <;> rfl
    have e2 : (around (.text k a b z)).2.2.2 = 7 := by cases k <;> rfl
    rw [e1, e2]
    omega
/-- what paints reaches -/
theorem paint_reach {p : Prim} (wf : WfF p.form) {x y : Int} {c : Str} (h : paint p x y = some c) : ∃ b, reach p = some b ∧ inR b x y = true := by
  unfold paint paintG at h
  cases hc : colr p with
  | none => rw [hc] at h; cases h
  | some c0 =>
    rw [hc] at h
    dsimp only at h
    split at h
    · rename_i hk
      obtain ⟨k1, k2⟩ := Bool.and_eq_true_iff.mp hk
      have a := covers_in p.form wf x y k2
      unfold reach
      cases hcl : p.clip with
      | none => exact common_in a a
      | some r =>
        rw [hcl] at k1
        exact common_in a k1
    · cases h
/-! ### a part of the page, painted -/
def need (r : Rc) (p : Prim) : Bool := match reach p with
  | none => false
  | some b => (common b r).isSome
def partOf (r : Rc) (p : Prim) : Rc := match reach p with
  | none => r
  | some b => (common b r).getD r
theorem paint_need {p : Prim} (wf : WfF p.form) {r : Rc} {x y : Int} (hr : inR r x y = true) : need r p = false → paint p x y = none := fun h => by
  cases hp : paint p x y with
  | none => rfl
  | some c =>
    obtain ⟨b, h1, h2⟩ := paint_reach wf hp
    obtain ⟨d, h3, h4⟩ := common_in h2 hr
    unfold need at h
    rw [h1] at h
    dsimp only at h
    rw [h3] at h
    cases h
theorem paint_partOf {p : Prim} (wf : WfF p.form) {r : Rc} {x y : Int} (hr : inR r x y = true) (hn : need r p = true) (a : Str) : (if inR (partOf r p) x y then over a (paint p x y) else a) = over a (paint p x y) := by
  cases hp : paint p x y with
  | none => split <;> rfl
  | some c =>
    obtain ⟨b, h1, h2⟩ := paint_reach wf hp
    obtain ⟨d, h3, h4⟩ := common_in h2 hr
    have e : partOf r p = d := by unfold partOf; rw [h1]; dsimp only; rw [h3]; rfl
    rw [e, h4]
    rfl
/-- the needed ones alone paint the part -/
theorem fold_need {r : Rc} {x y : Int} (hr : inR r x y = true) : ∀ (items : List Prim), (∀ p ∈ items, WfF p.form) → ∀ a : Str,
    (items.filter (need r)).foldl (fun a p => if inR (partOf r p) x y then over a (paint p x y) else a) a = items.foldl (fun a p => over a (paint p x y)) a
  | [], _, _ => rfl
  | p :: ps, hw, a => by
    have wf := hw p List.mem_cons_self
    have ih := fun a => fold_need hr ps (fun q hq => hw q (List.mem_cons_of_mem _ hq)) a
    cases hn : need r p with
    | true =>
      rw [List.filter_cons_of_pos hn, List.foldl_cons, List.foldl_cons, paint_partOf wf hr hn, ih]
    | false =>
      rw [List.filter_cons_of_neg (by rw [hn]; exact Bool.false_ne_true), List.foldl_cons, paint_need wf hr hn]
      exact ih a
end Cs
namespace Cs
open PySem PySem.Spec PyProof.Rows L2
/-! ### rows of signs -/
def rowV (w : Nat) (f : Nat → Str) : List V := (List.range w).map fun j => V.str (f j)
def rowD (w : Nat) (f : Nat → Str) : List PyData := (List.range w).map fun j => PyData.str (f j)
def gridD (h w : Nat) (g : Nat → Nat → Str) : PyData := .tuple ((List.range h).map fun i => .tuple (rowD w (g i)))
theorem rowV_len (w : Nat) (f : Nat → Str) : (rowV w f).length = w := by simp [rowV]
theorem rowV_get {w : Nat} {f : Nat → Str} {j : Nat} : (rowV w f)[j]? = if j < w then some (.str (f j)) else none := by
  unfold rowV
  rw [List.getElem?_map]
  by_cases h : j < w
  · rw [if_pos h, List.getElem?_range h]; rfl
  · rw [if_neg h, List.getElem?_eq_none (by simpa using h)]; rfl
theorem rowV_set {w : Nat} {f : Nat → Str} {j : Nat} {c : Str} (h : j < w) : (rowV w f).set j (.str c) = rowV w (fun k => if k = j then c else f k) := by
  apply List.ext_getElem?
  intro k
  by_cases e : j = k
  · subst e
    have e1 : (rowV w fun k => if k = j then c else f k)[j]? = some (.str c) := by rw [rowV_get, if_pos h, if_pos rfl]
    rw [e1, List.getElem?_set]
    simp [rowV_len, h]
  · rw [List.getElem?_set_ne e, rowV_get, rowV_get, if_neg (Ne.symm e)]
theorem rowV_congr {w : Nat} {f f' : Nat → Str} (h : ∀ j, j < w → f j = f' j) : rowV w f = rowV w f' := by
  unfold rowV
  apply List.map_congr_left
  intro j hj
  rw [h j (List.mem_range.mp hj)]
theorem rowV_R [Wd] {H : Hp} {w : Nat} {f : Nat → Str} : RAll H (rowV w f) (rowD w f) := by
  unfold rowV rowD
  generalize List.range w = l
  induction l with
  | nil => exact ra_nil
  | cons a r ih => exact ra_cons r_str ih
theorem noLs_all {ds : List PyData} : noLs ds = true ↔ ∀ d ∈ ds, noL d = true := by
  induction ds with
  | nil => exact ⟨fun _ d hd => (nomatch hd), fun _ => rfl⟩
  | cons a r ih =>
    show (noL a && noLs r) = true ↔ _
    rw [Bool.and_eq_true_iff, ih]
    constructor
    · rintro ⟨h1, h2⟩ d hd
      rcases List.mem_cons.mp hd with rfl | hd
      · exact h1
      · exact h2 d hd
    · exact fun h => ⟨h a List.mem_cons_self, fun d hd => h d (List.mem_cons_of_mem _ hd)⟩
theorem rowD_noL (w : Nat) (f : Nat → Str) : noLs (rowD w f) = true := by
  unfold rowD
  generalize List.range w = l
  induction l with
  | nil => rfl
  | cons a r ih =>
    show (noL (.str (f a)) && noLs _) = true
    rw [ih]
    rfl
structure Grid (H : Hp) (a : Addr) (rs : List Addr) (w : Nat) (g : Nat → Nat → Str) : Prop where
  top : H a = some (.lst (rs.map V.ref))
  nd : rs.Nodup
  na : a ∉ rs
  row : ∀ (i : Nat) (r : Addr), rs[i]? = some r → H r = some (.lst (rowV w (g i)))
theorem Grid.mono {H H' : Hp} {a : Addr} {rs : List Addr} {w : Nat} {g : Nat → Nat → Str} (G : Grid H a rs w g) (s : Same H H') : Grid H' a rs w g := ⟨s _ _ G.top, G.nd, G.na, fun i r e => s _ _ (G.row i r e)⟩
theorem Grid.congr {H : Hp} {a : Addr} {rs : List Addr} {w : Nat} {g g' : Nat → Nat → Str} (G : Grid H a rs w g) (h : ∀ i j, i < rs.length → j < w → g i j = g' i j) : Grid H a rs w g' :=
  ⟨G.top, G.nd, G.na, fun i r e => by
    have hi : i < rs.length := by
      rcases List.getElem?_eq_some_iff.mp e with ⟨z, _⟩
      exact z
    rw [G.row i r e, rowV_congr fun j hj => h i j hi hj]⟩
theorem nodup_ix {rs : List Addr} (nd : rs.Nodup) {i j : Nat} {r : Addr} (hi : rs[i]? = some r) (hj : rs[j]? = some r) : i = j := by
  obtain ⟨h1, e1⟩ := List.getElem?_eq_some_iff.mp hi
  obtain ⟨h2, e2⟩ := List.getElem?_eq_some_iff.mp hj
  exact (List.getElem_inj nd).mp (e1.trans e2.symm)
theorem Grid.rowSet {H : Hp} {a : Addr} {rs : List Addr} {w : Nat} {g : Nat → Nat → Str} (G : Grid H a rs w g) {i0 : Nat} {r : Addr} (e : rs[i0]? = some r) (f : Nat → Str) : Grid (upd H r (.lst (rowV w f))) a rs w (fun i j => if i = i0 then f j else g i j) := by
  have hr : r ∈ rs := List.mem_of_getElem? e
  refine ⟨by rw [upd_ne (fun z => G.na (by rw [z]; exact hr))]; exact G.top, G.nd, G.na, fun i r' e' => ?_⟩
  by_cases hi : i = i0
  · subst hi
    rw [e] at e'
    cases e'
    rw [upd_same]
    congr 2
    exact rowV_congr fun j _ => by rw [if_pos rfl]
  · rw [upd_ne (fun z => hi (nodup_ix G.nd e' (by rw [z]; exact e)))]
    rw [G.row i r' e']
    congr 2
    exact rowV_congr fun j _ => by rw [if_neg hi]
/-! ### loops over a range -/
def iR2 [Wd] (fa : Sl → Option (List PyData)) : TI := fun σ H Q => ∃ sd i j, RS H σ sd ∧ fa sd = some [.int i, .int j] ∧ small i ∧ small j ∧ ∀ H', Same H H' → Q (Itr i (j - i).toNat) H'
def iR1 [Wd] (fa : Sl → Option (List PyData)) : TI := fun σ H Q => ∃ sd j, RS H σ sd ∧ fa sd = some [.int j] ∧ small j ∧ ∀ H', Same H H' → Q (Itr 0 j.toNat) H'
section
variable [Wd] {X : Cx} {tg a b : Expr} {fa : Sl → Option (List PyData)} {p pos : Pos}
theorem ir_range2 (hg : Gl X "range") (hm : X.mg "range" = none) (ha : PA X [a, b] (tDA fa)) (hs : starEach [a, b] X.env = [(false, eval a X.env), (false, eval b X.env)] := by rfl) (hs2 : starEach [b] X.env = [(false, eval b X.env)] := by rfl) :
    PI X tg (.Call (.Name "range" p) [a, b] [] pos) (iR2 fa) :=
  PI.sub (pi_range2 hg hm ha hs hs2) fun σ H Q ⟨sd, i, j, rs, e, hi, hj, q⟩ => by
    refine ⟨sd, _, rs, e, fun H1 vs s1 r1 => ?_⟩
    obtain ⟨x, r, rfl, h1, h2⟩ := r1.cons
    obtain ⟨y, r, rfl, h3, h4⟩ := h2.cons
    rw [h4.nil, h1.int, h3.int]
    obtain ⟨a1, a2⟩ := hi
    obtain ⟨b1, b2⟩ := hj
    exact ⟨i, j, rfl, ⟨by omega, by omega, by omega, by omega⟩, q H1 s1⟩
theorem ir_range1 (hg : Gl X "range") (hm : X.mg "range" = none) (ha : PA X [a] (tDA fa)) (hs : starEach [a] X.env = [(false, eval a X.env)] := by rfl) : PI X tg (.Call (.Name "range" p) [a] [] pos) (iR1 fa) :=
  PI.sub (pi_range1 hg hm ha hs) fun σ H Q ⟨sd, j, rs, e, hj, q⟩ => by
    refine ⟨sd, _, rs, e, fun H1 vs s1 r1 => ?_⟩
    obtain ⟨x, r, rfl, h1, h2⟩ := r1.cons
    rw [h2.nil, h1.int]
    exact ⟨j, rfl, by have := hj.1; omega, by have := hj.2; omega, q H1 s1⟩
theorem for_R2 {k : Nat} {tb : TS} {D : Ends} {σ : L2.St} {H : Hp} {sd : Sl} {i j : Int} (rs : RS H σ sd) (e : fa sd = some [.int i, .int j]) (hi : small i) (hj : small j) (Pv : Nat → L2.St → Hp → Prop) (h0 : ∀ H', Same H H' → Pv 0 σ H')
    (hs : ∀ n σ' H', n < (j - i).toNat → Pv n σ' H' → tb { D with nx := Pv (n + 1), ct := Pv (n + 1), bk := D.nx } (σ'.set k (some (.int (i + (n : Nat))))) H') (hd : ∀ σ' H', Pv (j - i).toNat σ' H' → D.nx σ' H') : tFor (iR2 fa) (gName k) tb D σ H := by
  refine ⟨sd, i, j, rs, e, hi, hj, fun H1 s1 => ⟨fun n m σ' H' => n + m = (j - i).toNat ∧ Pv n σ' H', ⟨(j - i).toNat, by simp, h0 H1 s1⟩, ?_⟩⟩
  rintro n m σ' H' ⟨hn, p⟩
  by_cases hlt : n < (j - i).toNat
  · refine .inr ⟨hlt, Pv (n + 1), fun σ2 H2 p2 => ⟨m - 1, by omega, by omega, p2⟩, ?_⟩
    rintro x H2 ⟨rfl, rfl⟩
    exact hs n σ' H2 hlt p
  · have en : n = (j - i).toNat := by omega
    subst en
    exact .inl ⟨Nat.le_refl _, hd σ' H' p⟩
theorem for_R1 {k : Nat} {tb : TS} {D : Ends} {σ : L2.St} {H : Hp} {sd : Sl} {j : Int} (rs : RS H σ sd) (e : fa sd = some [.int j]) (hj : small j) (Pv : Nat → L2.St → Hp → Prop) (h0 : ∀ H', Same H H' → Pv 0 σ H')
    (hs : ∀ n σ' H', n < j.toNat → Pv n σ' H' → tb { D with nx := Pv (n + 1), ct := Pv (n + 1), bk := D.nx } (σ'.set k (some (.int (n : Nat)))) H') (hd : ∀ σ' H', Pv j.toNat σ' H' → D.nx σ' H') : tFor (iR1 fa) (gName k) tb D σ H := by
  refine ⟨sd, j, rs, e, hj, fun H1 s1 => ⟨fun n m σ' H' => n + m = j.toNat ∧ Pv n σ' H', ⟨j.toNat, by simp, h0 H1 s1⟩, ?_⟩⟩
  rintro n m σ' H' ⟨hn, p⟩
  by_cases hlt : n < j.toNat
  · refine .inr ⟨hlt, Pv (n + 1), fun σ2 H2 p2 => ⟨m - 1, by omega, by omega, p2⟩, ?_⟩
    rintro x H2 ⟨rfl, rfl⟩
    have := hs n σ' H2 hlt p
    rw [show (0 : Int) + (n : Nat) = (n : Nat) by omega]
    exact this
  · have en : n = j.toNat := by omega
    subst en
    exact .inl ⟨Nat.le_refl _, hd σ' H' p⟩
end
/-! ### the walk of a def that paints into rows -/
structure PP [Wd] (H0 H : Hp) (a : Addr) (rs : List Addr) (w : Nat) (g : Nat → Nat → Str) (k : Nat) (σ : L2.St) (sd : Sl) : Prop where
  re : RS H σ sd
  nl : ∀ (i : Nat) d, sd[i]? = some (some d) → noL d = true
  s0 : σ[k]? = some (some (.ref a))
  gr : Grid H a rs w g
  fr : ∀ b o, b ∉ rs → H0 b = some o → H b = some o
section
variable [Wd] {H0 H H' : Hp} {a : Addr} {rs : List Addr} {w : Nat} {g : Nat → Nat → Str} {k : Nat} {σ : L2.St} {sd : Sl}
theorem PP.mono (h : PP H0 H a rs w g k σ sd) (s : Same H H') : PP H0 H' a rs w g k σ sd := ⟨h.re.mono s, h.nl, h.s0, h.gr.mono s, fun b o n e => s _ _ (h.fr b o n e)⟩
theorem PP.set (h : PP H0 H a rs w g k σ sd) {i : Nat} (hi : i ≠ k) {v : V} {d : PyData} (n : noL d = true) (r : R H v d) : PP H0 H a rs w g k (σ.set i (some v)) (sd.set i (some d)) :=
  ⟨h.re.set i r, fun j d' e => by
    rcases set_get e with ⟨_, rfl⟩ | ⟨_, e⟩
    · exact n
    · exact h.nl j d' e, by rw [List.getElem?_set_ne hi]; exact h.s0, h.gr, h.fr⟩
theorem RS.put {H : Hp} {σ : L2.St} {sd : Sl} (h : RS H σ sd) {i : Nat} (hi : ∀ d, sd[i]? ≠ some (some d)) (v : V) : RS H (σ.set i (some v)) sd :=
  ⟨by simp [h.len], fun j d e => by
    have hij : i ≠ j := fun z => hi d (by rw [z]; exact e)
    rw [List.getElem?_set_ne hij]
    exact h.get j d e⟩
theorem PP.put (h : PP H0 H a rs w g k σ sd) {i : Nat} (hk : i ≠ k) (hi : ∀ d, sd[i]? ≠ some (some d)) (v : V) : PP H0 H a rs w g k (σ.set i (some v)) sd :=
  ⟨h.re.put hi v, h.nl, by rw [List.getElem?_set_ne hk]; exact h.s0, h.gr, h.fr⟩
theorem PP.row (h : PP H0 H a rs w g k σ sd) {i0 : Nat} {r : Addr} (e : rs[i0]? = some r) (f : Nat → Str) : PP H0 (upd H r (.lst (rowV w f))) a rs w (fun i j => if i = i0 then f j else g i j) k σ sd := by
  have gr : Grow H (upd H r (.lst (rowV w f))) := grow_upd (h.gr.row i0 r e)
  refine ⟨⟨h.re.len, fun i d q => ?_⟩, h.nl, h.s0, h.gr.rowSet e f, fun b o n q => ?_⟩
  · obtain ⟨v, a1, a2⟩ := h.re.get i d q
    exact ⟨v, a1, a2.grow gr (h.nl i d q)⟩
  · rw [upd_ne (fun z => n (by rw [z]; exact List.mem_of_getElem? e))]
    exact h.fr b o n q
theorem PP.congr (h : PP H0 H a rs w g k σ sd) {g' : Nat → Nat → Str} (e : ∀ i j, i < rs.length → j < w → g i j = g' i j) : PP H0 H a rs w g' k σ sd := ⟨h.re, h.nl, h.s0, h.gr.congr e, h.fr⟩
end
/-- one primitive painted in a part, from the corner on -/
def paintIn (P : Prim) (prt : Rc) (cx cy : Int) (g : Nat → Nat → Str) (i j : Nat) : Str := if inR prt (cx + j) (cy + i) then over (g i j) (paint P (cx + j) (cy + i)) else g i j
def spPart [Wd] : Sp := fun vs H Q _ => ∃ a rs w g cx cy P prt vc vp vq, vs = [.ref a, vc, vp, vq] ∧ R H vc (.tuple [.int cx, .int cy]) ∧ R H vp (primD P) ∧ WfF P.form ∧ R H vq (rcD prt) ∧ Grid H a rs w g ∧
  (0 ≤ cx ∧ 0 ≤ cy ∧ cx + w ≤ 1000 ∧ cy + rs.length ≤ 1000) ∧ (cx ≤ prt.1 ∧ prt.1 + prt.2.2.1 ≤ cx + w ∧ cy ≤ prt.2.1 ∧ prt.2.1 + prt.2.2.2 ≤ cy + rs.length) ∧ (0 ≤ prt.2.2.1 ∧ 0 ≤ prt.2.2.2) ∧
  ∀ H', (∀ b o, b ∉ rs → H b = some o → H' b = some o) → Grid H' a rs w (paintIn P prt cx cy g) → Q .non H'
theorem primD_noL (P : Prim) : noL (primD P) = true := by
  have o1 : noL (optD PyData.int P.plot) = true := by cases P.plot <;> rfl
  have o2 : noL (strD P.fill) = true := by cases P.fill <;> rfl
  have o3 : noL (strD P.stroke) = true := by cases P.stroke <;> rfl
  have o4 : noL (optD rcD P.clip) = true := by cases P.clip <;> rfl
  have o5 : noL (ptsD P.form) = true := by
    unfold ptsD
    show noLs (List.map PyData.int (pts P.form)) = true
    generalize pts P.form = l
    induction l with
    | nil => rfl
    | cons a r ih => show (noL (.int a) && noLs _) = true; rw [ih]; rfl
  show (noL _ && (noL _ && (noL _ && (noL _ && (noL _ && (noL _ && (noL _ && (noL _ && (noL _ && noLs []))))))))) = true
  rw [o1, o2, o3, o4, o5]
  rfl
theorem rcD_noL (r : Rc) : noL (rcD r) = true := rfl
/-! ### a promise by a relation -/
def spR [Wd] (G : List PyData → PyData → Prop) (n : Nat) : Sp := fun vs H Q _ => ∃ ds d, RAll H vs ds ∧ G ds d ∧ ds.length = n ∧ ∀ H' v, Same H H' → R H' v d → Q v H'
theorem spR.len [Wd] {G : List PyData → PyData → Prop} {n : Nat} {vs : List V} {H : Hp} {Q : VK} {E : XK} (h : spR G n vs H Q E) : vs.length = n := by
  obtain ⟨ds, d, r, _, e, _⟩ := h
  rw [r.length, e]
theorem DefAt.ownR [Wd] {P : Program} {w : World} {K : PySem.W.Frag} {mg : Str → Option Value} {base : Heap} {x : Str} {st : Stmt} {N ps : List Str} {k : Nat} {F : Sl → Nd Out} {n : Nat} {G : List PyData → PyData → Prop} {own : List Nat} (D : DefAt K mg x st) (S : FnScope N ps (defScope st)) (b : BindOk x st ps) (hn : ps.length = n)
    (hg : ∀ ds d, G ds d → ds.length = n → (F (startD N.length ds)).wp fun o => outN o = d) (hown : ∀ i ∈ own, ps.length ≤ i)
    (hbody : ∀ (f : Addr) (cdv : Value) (A : Around) (outer : List Env) (s : Shared) (H : Hp) (E : XK), Room k (A.deeper (envOfC x (defScope st) s.heap.objs.size f cdv)) →
      PSs (cxOf CX0 P w K mg base N x (defScope st) f cdv A outer s H E).nox (defBody st) (tNS ⟨none, H, own, 1000⟩ F)) : Ok P w K mg base x (k + 1) ps (spR G n) := by
  refine D.ok S b (fun vs H Q E h => by rw [h.len, hn]) fun f cdv A outer s H vs Q E hr h => ?_
  obtain ⟨ds, d, r, e, hl, q⟩ := h
  refine ⟨_, hbody f cdv A outer s H E hr, startD N.length ds, ?_, (F _).mono (fun o wo => ?_) (hg ds d e hl)⟩
  · have rs : RS H (L2.start N vs) (startD N.length ds) := start_R r
    have key : ∀ (i : Nat) (d : PyData), (startD N.length ds)[i]? = some (some d) → i < n := fun i d e => by
      unfold startD at e
      by_cases hi : i < ds.length
      · omega
      · rw [List.getElem?_append_right (by simpa using hi), List.getElem?_replicate] at e
        split at e <;> cases e
    refine ⟨by rw [pun_none]; exact rs, TapeOk.none, fun T' e => (nomatch e), fun T' e => (nomatch e), Same.refl _, fun i hi d e => ?_, fun i hi j hj hij d d' e e' => ?_, fun i d hi e => ?_⟩
    · have := key i d e
      have := hown i hi
      omega
    · have := key i d e
      have := hown i hi
      omega
    · rw [pun_none]
      exact .inr (rs.get i d e)
  · cases o with
    | rt z =>
      intro H' v t' s' r'
      rw [pun_none] at s' r'
      rw [pun_none] at s'
      have : z = d := wo
      rw [← this] at q
      exact q H' v s' r'
    | nx s' =>
      intro σ' H' _ rs
      have : PyData.none = d := wo
      rw [← this] at q
      have s2 := rs.ef
      rw [pun_none, pun_none] at s2
      exact q H' _ s2 r_non
/-! ### new rows; rows made tuples -/
def rTupOf (K : PySem.W.Frag) : List V → Hp → VK → Prop := fun xs H Q => ∃ p ys, xs = [.ref p] ∧ ((SqL K H p ys ∧ ∀ l, H l = none → Q (.ref l) (upd H l (.tup ys))) ∨ (SqT K H p ys ∧ Q (.ref p) H))
def rLstOf (K : PySem.W.Frag) : List V → Hp → VK → Prop := fun xs H Q => ∃ p ys, xs = [.ref p] ∧ (SqL K H p ys ∨ SqT K H p ys) ∧ ∀ l, H l = none → Q (.ref l) (upd H l (.lst ys))
theorem pe_tupOf {X : Cx} {e : Expr} {te : TE} {p pos : Pos} (hm : X.mg "tuple" = none) (ha : PE X e te) (hg : Gl X "tuple" := by rfl) (hs : starEach [e] X.env = (false, eval e X.env) :: starEach [] X.env := by rfl) (hpl : (backTo pos (starEach [] X.env)).any (·.1) = false := by rfl) :
    PE X (.Call (.Name "tuple" p) [e] [] pos) (tCB (rTupOf X.K) (tCons te tNil)) := pe_callTy call_tuple_of hg hm (by decide +kernel) (pa_cons ha pa_nil hs) (by decide) (by decide) hs hpl
theorem pe_lstOf {X : Cx} {e : Expr} {te : TE} {p pos : Pos} (hm : X.mg "list" = none) (ha : PE X e te) (hg : Gl X "list" := by rfl) (hs : starEach [e] X.env = (false, eval e X.env) :: starEach [] X.env := by rfl) (hpl : (backTo pos (starEach [] X.env)).any (·.1) = false := by rfl) :
    PE X (.Call (.Name "list" p) [e] [] pos) (tCB (rLstOf X.K) (tCons te tNil)) := pe_callTy call_list_of hg hm (by decide +kernel) (pa_cons ha pa_nil hs) (by decide) (by decide) hs hpl
theorem lc_rows [Wd] {i : Nat} {it : Sl → Option (List PyData)} {te : TE} {σ : L2.St} {H : Hp} {sd : Sl} {ds : List PyData} (rs0 : RS H σ sd) (e : it sd = some ds) (hz : ds.length ≤ 1000) (w : Nat) (g : Nat → Nat → Str)
    (hrow : ∀ k d (H3 : Hp) (σ3 : L2.St), ds[k]? = some d → RS H3 σ3 (sd.set i (some d)) → ∀ Q : VK, (∀ H4 q, Same H3 H4 → H3 q = none → H4 q = some (.lst (rowV w (g k))) → Q (.ref q) H4) → te σ3 H3 Q)
    {Q : VK} (q : ∀ H' a rs, Same H H' → H a = none → Grid H' a rs w g → rs.length = ds.length → (∀ r ∈ rs, H r = none) → Q (.ref a) H') : tLc (iD it) (gName i) tYes te [i] σ H Q := by
  refine ⟨sd, ds, rs0, e, fun J H1 Gd s1 g1 fd D hD => ?_⟩
  have toH : ∀ r, H1 r = none → H r = none := fun r hr => by
    cases e : H r with
    | none => rfl
    | some o => rw [s1 _ _ e] at hr; cases hr
  refine ⟨fun k m H' => k + m = ds.length ∧ Same H1 H' ∧ ∃ rs : List Addr, H' D = some (.lst (rs.map V.ref)) ∧ rs.length = k ∧ rs.Nodup ∧ D ∉ rs ∧ (∀ r ∈ rs, H1 r = none) ∧ ∀ (j : Nat) r, rs[j]? = some r → H' r = some (.lst (rowV w (g j))),
    ⟨ds.length, by simp, same_upd hD, [], upd_same, rfl, List.nodup_nil, by simp, by simp, by simp⟩, ?_⟩
  rintro k m H' ⟨hk, s2, rs, hacc, hlen, nd, na, fr, row⟩
  have g2 : Gd H' := fd.keep _ _ g1 s2
  by_cases hlt : k < ds.length
  · refine .inr ⟨fd.go k H' hlt g2, fun H3 => Same H1 H3 ∧ ∃ rs : List Addr, H3 D = some (.lst (rs.map V.ref)) ∧ rs.length = k + 1 ∧ rs.Nodup ∧ D ∉ rs ∧ (∀ r ∈ rs, H1 r = none) ∧ ∀ (j : Nat) r, rs[j]? = some r → H3 r = some (.lst (rowV w (g j))), ?_, ?_⟩
    · rintro H3 ⟨s3, r3⟩
      exact ⟨m - 1, by omega, by omega, s3, r3⟩
    · intro x H3 hy
      obtain ⟨rfl, d, hd, r⟩ := fd.yld k H' x H3 hlt g2 hy
      have hset : (sd.set i none).set i (some d) = sd.set i (some d) := List.set_set ..
      have rs' : RS H3 ((wipe σ [i]).set i (some x)) (sd.set i (some d)) := by
        rw [← hset]
        exact ((rs0.mono (s1.trans s2)).wipe i).set i r
      refine ⟨wipe_back, ?_⟩
      unfold tYes
      refine iteT ?_
      refine hrow k d H3 _ hd rs' _ fun H4 qn s4 hn hq => ?_
      have hqD : qn ≠ D := fun z => by rw [z, hacc] at hn; cases hn
      have hq1 : H1 qn = none := by
        cases e : H1 qn with
        | none => rfl
        | some o => rw [s2 _ _ e] at hn; cases hn
      have nq : qn ∉ rs := fun z => by
        obtain ⟨j, hj, ej⟩ := List.getElem_of_mem z
        have := row j qn (by rw [List.getElem?_eq_getElem hj, ej])
        rw [this] at hn
        cases hn
      refine ⟨rs.map V.ref, s4 _ _ hacc, by rw [List.length_map, hlen]; exact Nat.lt_of_lt_of_le hlt (Nat.le_trans hz (by decide)), fun b o e => ?_, rs ++ [qn], by rw [upd_same, List.map_append]; rfl, by simp [hlen], ?_, ?_, fun r hr => ?_, fun j r hr => ?_⟩
      · rw [upd_ne (ne_of_none e hD)]
        exact s4 _ _ (s2 _ _ e)
      · rw [List.nodup_append]
        refine ⟨nd, by simp, fun a ha b hb => ?_⟩
        have : b = qn := by simpa using hb
        rw [this]
        exact fun z => nq (z ▸ ha)
      · intro z
        rcases List.mem_append.mp z with z | z
        · exact na z
        · exact hqD (List.mem_singleton.mp z).symm
      · rcases List.mem_append.mp hr with z | z
        · exact fr r z
        · have : r = qn := by simpa using z
          rw [this]
          exact hq1
      · by_cases hj : j < rs.length
        · rw [List.getElem?_append_left hj] at hr
          have hrm := List.mem_of_getElem? hr
          have hrD : r ≠ D := fun z => na (by rw [← z]; exact hrm)
          rw [upd_ne hrD]
          exact s4 _ _ (row j r hr)
        · rw [List.getElem?_append_right (by omega)] at hr
          have hj2 : j - rs.length = 0 := by
            cases h : j - rs.length with
            | zero => rfl
            | succ n => rw [h] at hr; simp at hr
          rw [hj2] at hr
          have er : qn = r := by simpa using hr
          have ej : j = k := by omega
          rw [← er, upd_ne hqD, ej]
          exact hq
  · have ek : k = ds.length := by omega
    subst ek
    exact .inl ⟨fd.stop H' g2, q H' D rs (s1.trans s2) (toH D hD) ⟨hacc, nd, na, row⟩ hlen fun r hr => toH r (fr r hr)⟩
theorem lc_tup [Wd] {K : PySem.W.Frag} {i k : Nat} {σ : L2.St} {H : Hp} {a : Addr} {rs : List Addr} {w : Nat} {g : Nat → Nat → Str} (s0 : σ[k]? = some (some (.ref a))) (hi : i < σ.length) (G : Grid H a rs w g) (hz : rs.length ≤ 1000)
    {Q : VK} (q : ∀ H' v, Same H H' → R H' v (gridD rs.length w g) → Q v H') :
    tCB (rTupOf K)
      (tCons (tLc (iList K (tVar k)) (gName i) tYes (tCB (rTupOf K) (tCons (tVar i) tNil)) [i]) tNil) σ H Q := by
  refine ⟨_, s0, a, rfl, ⟨_, SqL.of G.top⟩, fun D hD => ?_⟩
  have hDa : D ≠ a := fun z => by rw [z, G.top] at hD; cases hD
  refine ⟨fun n m H' => n + m = rs.length ∧ Same H H' ∧ ∃ acc : List V, H' D = some (.lst acc) ∧ RAll H' acc ((List.range n).map fun i => .tuple (rowD w (g i))), ⟨rs.length, by simp, same_upd hD, [], upd_same, ra_nil⟩, ?_⟩
  rintro n m H' ⟨hn, s2, acc, hacc, ra⟩
  have G' := G.mono s2
  by_cases hlt : n < rs.length
  · have hr : rs[n]? = some rs[n] := List.getElem?_eq_getElem hlt
    generalize rs[n] = r at hr
    refine .inr ⟨⟨rs.map V.ref, .ref r, SqL.of G'.top, by rw [List.getElem?_map, hr]; rfl⟩, fun H3 => Same H H3 ∧ ∃ acc : List V, H3 D = some (.lst acc) ∧ RAll H3 acc ((List.range (n + 1)).map fun i => .tuple (rowD w (g i))), ?_, ?_⟩
    · rintro H3 ⟨s3, r3⟩
      exact ⟨m - 1, by omega, by omega, s3, r3⟩
    · rintro x H3 ⟨rfl, hx⟩
      have hx2 := hx _ (SqL.of G'.top)
      rw [List.getElem?_map, hr] at hx2
      cases hx2
      refine ⟨wipe_back, ?_⟩
      unfold tYes
      refine iteT ?_
      refine ⟨.ref r, by rw [List.getElem?_set]; simp [wipe_length, hi], r, rowV w (g n), rfl, .inl ⟨SqL.of (G'.row n r hr), fun l hl => ?_⟩⟩
      have s3 := same_upd (o := .tup (rowV w (g n))) hl
      have hDl : D ≠ l := fun z => by rw [← z, hacc] at hl; cases hl
      have rl : R (upd H3 l (.tup (rowV w (g n)))) (.ref l) (.tuple (rowD w (g n))) := r_tup upd_same rowV_R
      have hD3 : (upd H3 l (.tup (rowV w (g n)))) D = some (.lst acc) := by rw [upd_ne hDl]; exact hacc
      have gr := grow_upd (o := .lst (acc ++ [V.ref l])) hD3
      have nl : noLs ((List.range (n + 1)).map fun i => PyData.tuple (rowD w (g i))) = true := by
        rw [noLs_all]
        intro d hd
        obtain ⟨i, _, rfl⟩ := List.mem_map.mp hd
        exact rowD_noL w (g i)
      refine ⟨acc, hD3, ?_, fun b o e => ?_, acc ++ [.ref l], upd_same, ?_⟩
      · rw [ra.length]
        simp
        exact Nat.lt_of_lt_of_le hlt (Nat.le_trans hz (by decide))
      · rw [upd_ne (ne_of_none e hD)]
        exact s3 _ _ (s2 _ _ e)
      · refine RAll.grow gr nl ?_
        rw [List.range_succ, List.map_append]
        exact (ra.mono s3).snoc rl
  · have en : n = rs.length := by omega
    subst en
    refine .inl ⟨⟨_, SqL.of G'.top, by simp⟩, D, acc, rfl, .inl ⟨SqL.of hacc, fun l hl => ?_⟩⟩
    have s3 := same_upd (o := .tup acc) hl
    exact q _ _ (s2.trans s3) (r_tup upd_same (ra.mono s3))
end Cs
namespace Cs
open PySem PySem.Spec PyProof.Rows L2
section
variable {K : PySem.W.Frag} {mg : Str → Option Value} {base : Heap}
theorem sc_law_draw : FnScope ["_law_tape_here", "_law_many", "_law_place", "_law_number"] ["_law_tape_here", "_law_many"] (defScope s_law_draw) := ⟨rfl, rfl, rfl, by decide +kernel, rfl, by decide +kernel, by decide +kernel⟩
theorem bo_law_draw : BindOk "_law_draw" s_law_draw ["_law_tape_here", "_law_many"] := fun _ _ _ _ _ _ us hl => match us, hl with | [_, _], _ => rfl
def F_law_draw : Sl → Option Out := (dSeq (dIf (dTest (dBin gEq (dBin gIx (dVar 0) (dC (.int 2))) (dC (.int 0)))) (dSeq (dSetK 2 (dBin gIx (dVar 0) (dC (.int 1)))) (dSeq (dSetK 3 (dC (.int 0))) (dSeq (dIf (dTest (dBin gLt (dVar 2) (dCall gLen [(dBin gIx (dVar 0) (dC (.int 0)))]))) (dSetK 3 (dCall gAbs [(dCall gInt [(dBin gIx (dBin gIx (dVar 0) (dC (.int 0))) (dVar 2))])])) (dSeq (dItem 3 (dBin gMod (dCall gInt [(dBin gAdd (dBin gAdd (dBin gMulR (dBin gIx (dVar 0) (dC (.int 3))) (dC (.int 48271))) (dVar 2)) (dC (.int 1)))]) (dC (.int 2147483647)))) (dSetK 3 (dBin gIx (dVar 0) (dC (.int 3)))))) (dSeq (dItem 1 (dBin gAdd (dVar 2) (dC (.int 1)))) (dSeq (dIf (dTest (dBin gLt (dVar 3) (dBin gPow (dC (.int 10)) (dC (.int 18))))) (dSeq (dSetK 3 (dBin gMod (dCall gInt [(dBin gAdd (dBin gAdd (dBin gMulR (dVar 3) (dC (.int 48271))) (dBin gMulR (dVar 2) (dC (.int 69621)))) (dC (.int 5)))]) (dC (.int 2147483647)))) (dSeq (dSetK 3 (dBin gMod (dCall gInt [(dBin gMulR (dVar 3) (dC (.int 69621)))]) (dC (.int 2147483629)))) (dRet (dBin gMod (dCall gInt [(dVar 3)]) (dCall gMax [(dVar 1), (dC (.int 1))]))))) dSkip) (dItem 2 (dVar 3))))))) dSkip) (dSeq (dSetK 3 (dBin gIx (dVar 0) (dC (.int 2)))) (dSeq (dItem 2 (dBin gDiv2 (dVar 3) (dCall gMax [(dVar 1), (dC (.int 2))]))) (dRet (dBin gMod (dCall gInt [(dVar 3)]) (dCall gMax [(dVar 1), (dC (.int 1))]))))))
theorem okk_law_draw [Wd] (T : Tx K mg) {g : List PyData → Nd PyData} (hg : ∀ (ds : List PyData) (Q : PyData → Prop), ds.length = 1 → (g ds).wp Q → noLs ds = true ∧ ∀ (zs : List Int) (p h m : Int), 0 ≤ p → 0 ≤ h → 0 ≤ m → zs.length ≤ 1000 → ∃ d, F_law_draw (startD 4 (tapeD zs p h m :: ds)) = some (.rt d) ∧ noL d = true ∧ Q d) : Ok Wd.P Wd.w K mg base "_law_draw" 1 ["_law_tape_here", "_law_many"] (spN g 1) := T.law_draw.taper (F := F_law_draw) sc_law_draw bo_law_draw rfl (by decide) hg fun f cdv A outer s H E U hr => (ks_cons (ks_if (dt_eq (de_ix (de_var 0) de_int) de_int) (ks_cons (ks_set 2 sc_law_draw.nd rfl (Or.inl rfl) (de_ix (de_var 0) de_int)) (ks_cons (ks_set 3 sc_law_draw.nd rfl (Or.inl rfl) de_int) (ks_cons (ks_if (dt_lt (de_var 2) (de_len T.b_len (da_cons (de_ix (de_var 0) de_int) da_nil))) (ks_one (ks_set 3 sc_law_draw.nd rfl (Or.inl rfl) (de_abs T.b_abs (da_cons (de_toInt T.b_int (da_cons (de_ix (de_ix (de_var 0) de_int) (de_var 2)) da_nil)) da_nil)))) (ks_cons (ks_item (k := 3) (by decide) rfl (de_mod (de_toInt T.b_int (da_cons (de_add (de_add (de_mulR (de_ix (de_var 0) de_int) de_int) (de_var 2)) de_int) da_nil)) de_int)) (ks_one (ks_set 3 sc_law_draw.nd rfl (Or.inl rfl) (de_ix (de_var 0) de_int))))) (ks_cons (ks_item (k := 1) (by decide) rfl (de_add (de_var 2) de_int)) (ks_cons (ks_if (dt_lt (de_var 3) (de_pow de_int de_int)) (ks_cons (ks_set 3 sc_law_draw.nd rfl (Or.inl rfl) (de_mod (de_toInt T.b_int (da_cons (de_add (de_add (de_mulR (de_var 3) de_int) (de_mulR (de_var 2) de_int)) de_int) da_nil)) de_int)) (ks_cons (ks_set 3 sc_law_draw.nd rfl (Or.inl rfl) (de_mod (de_toInt T.b_int (da_cons (de_mulR (de_var 3) de_int) da_nil)) de_int)) (ks_one (ks_ret (de_mod (de_toInt T.b_int (da_cons (de_var 3) da_nil)) (de_max rfl T.b_max (da_cons (de_var 1) (da_cons de_int da_nil)))))))) ks_nil) (ks_one (ks_item (k := 2) (by decide) rfl (de_var 3)))))))) ks_nil) (ks_cons (ks_set 3 sc_law_draw.nd rfl (Or.inl rfl) (de_ix (de_var 0) de_int)) (ks_cons (ks_item (k := 2) (by decide) rfl (de_div (de_var 3) (de_max rfl T.b_max (da_cons (de_var 1) (da_cons de_int da_nil))))) (ks_one (ks_ret (de_mod (de_toInt T.b_int (da_cons (de_var 3) da_nil)) (de_max rfl T.b_max (da_cons (de_var 1) (da_cons de_int da_nil)))))))))
/-- any number below the bound -/
def f_law_draw : List PyData → Nd PyData := fun ds => match ds with
  | [.int m] => if m ≤ 1000000000 then (Nd.any fun k : Int => 0 ≤ k ∧ k < max m 1).bnd fun k => Nd.ret (.int k) else Nd.fail
  | _ => Nd.fail
theorem iabs_nn (i : Int) : 0 ≤ iabs i := by
  unfold iabs
  split <;> omega
theorem tix0 (zs : List Int) (p h n : Int) : gIx (tapeD zs p h n) (.int 0) = some (.list (zs.map .int)) := rfl
theorem tix1 (zs : List Int) (p h n : Int) : gIx (tapeD zs p h n) (.int 1) = some (.int p) := rfl
theorem tix2 (zs : List Int) (p h n : Int) : gIx (tapeD zs p h n) (.int 2) = some (.int h) := rfl
theorem tix3 (zs : List Int) (p h n : Int) : gIx (tapeD zs p h n) (.int 3) = some (.int n) := rfl
theorem tset1 (zs : List Int) (p h n i : Int) (r : Sl) (f : Sl → Option PyData) (e : f (some (tapeD zs p h n) :: r) = some (.int i)) (hi : 0 ≤ i) : dItem 1 f (some (tapeD zs p h n) :: r) = some (.nx (some (tapeD zs i h n) :: r)) := by
  unfold dItem
  rw [e]
  simp [hi, getL, tapeD]
theorem tset2 (zs : List Int) (p h n i : Int) (r : Sl) (f : Sl → Option PyData) (e : f (some (tapeD zs p h n) :: r) = some (.int i)) (hi : 0 ≤ i) : dItem 2 f (some (tapeD zs p h n) :: r) = some (.nx (some (tapeD zs p i n) :: r)) := by
  unfold dItem
  rw [e]
  simp [hi, getL, tapeD]
theorem tset3 (zs : List Int) (p h n i : Int) (r : Sl) (f : Sl → Option PyData) (e : f (some (tapeD zs p h n) :: r) = some (.int i)) (hi : 0 ≤ i) : dItem 3 f (some (tapeD zs p h n) :: r) = some (.nx (some (tapeD zs p h i) :: r)) := by
  unfold dItem
  rw [e]
  simp [hi, getL, tapeD]
theorem dSeq_of {F G : Sl → Option Out} {s s' : Sl} {o : Out} (h : F s = some (.nx s')) (k : G s' = some o) : dSeq F G s = some o := by
  unfold dSeq
  rw [h]
  exact k
theorem dIf_of {c : Sl → Option Bool} {F G : Sl → Option Out} {s : Sl} {b : Bool} (h : c s = some b) : dIf c F G s = if b then F s else G s := by
  unfold dIf
  rw [h]
  cases b <;> rfl
theorem max_D (a b : Int) : gMax [.int a, .int b] = some (.int (max a b)) := by
  unfold gMax
  show some (PyData.int (if b > a then b else a)) = _
  congr 2
  split <;> omega
theorem div2_D (i j : Int) (h1 : 0 < j) (h2 : j < 1073741824) : gDiv2 (.int i) (.int j) = some (.int (i / j)) := by
  show (if 0 < j ∧ j < 1073741824 then some (PyData.int (i / j)) else none) = _
  rw [if_pos ⟨h1, h2⟩]
theorem ixz (zs : List Int) (p : Int) (h0 : 0 ≤ p) (h1 : p.toNat < zs.length) : gIx (.list (zs.map .int)) (.int p) = some (.int zs[p.toNat]) := by
  show atI (zs.map PyData.int) p = _
  unfold atI ixN
  rw [if_pos h0, List.length_map, if_pos (by omega)]
  show (zs.map PyData.int)[p.toNat]? = _
  rw [List.getElem?_map, List.getElem?_eq_getElem h1]
  rfl
theorem fin_D (k m : Int) (hm : 0 < m) : gMod (.int k) (.int m) = some (.int (k % m)) := by
  unfold gMod
  simp [hm]
theorem draw_D (zs : List Int) (p h n m : Int) (hp : 0 ≤ p) (hh : 0 ≤ h) (hn : 0 ≤ n) (hz : zs.length ≤ 1000) (hm : m ≤ 1000000000) : ∃ k, F_law_draw (startD 4 [tapeD zs p h n, .int m]) = some (.rt (.int k)) ∧ 0 ≤ k ∧ k < max m 1 := by
  have rest : ∀ (p h n : Int) (x y : Option PyData), 0 ≤ h → ∃ k, dSeq (dSetK 3 (dBin gIx (dVar 0) (dC (.int 2)))) (dSeq (dItem 2 (dBin gDiv2 (dVar 3) (dCall gMax [(dVar 1), (dC (.int 2))]))) (dRet (dBin gMod (dCall gInt [(dVar 3)]) (dCall gMax [(dVar 1), (dC (.int 1))])))) [some (tapeD zs p h n), some (.int m), x, y] = some (.rt (.int k)) ∧ 0 ≤ k ∧ k < max m 1 := by
    intro p h n x y hh
    refine ⟨h % max m 1, ?_, Int.emod_nonneg _ (by omega), Int.emod_lt_of_pos _ (by omega)⟩
    refine dSeq_of (s' := [some (tapeD zs p h n), some (.int m), x, some (.int h)]) (by simp [dSetK, dBin, dVar, dC, tix2, noL]) ?_
    refine dSeq_of (tset2 zs p h n (h / max m 2) _ _ ?_ (Int.ediv_nonneg hh (by omega))) ?_
    · simp only [dBin, dCall, evs, dVar, dC, List.getElem?_cons_succ, List.getElem?_cons_zero, max_D]
      exact div2_D _ _ (by omega) (by omega)
    · simp only [dRet, dBin, dCall, evs, dVar, dC, gInt, List.getElem?_cons_succ, List.getElem?_cons_zero, max_D]
      rw [fin_D _ _ (by omega)]
  have st : startD 4 [tapeD zs p h n, .int m] = [some (tapeD zs p h n), some (.int m), none, none] := rfl
  rw [st]
  unfold F_law_draw
  by_cases h0 : h = 0
  · subst h0
    -- the number
    have tail : ∀ (n i : Int), 0 ≤ i → ∃ k, dSeq (dItem 1 (dBin gAdd (dVar 2) (dC (.int 1)))) (dSeq (dIf (dTest (dBin gLt (dVar 3) (dBin gPow (dC (.int 10)) (dC (.int 18))))) (dSeq (dSetK 3 (dBin gMod (dCall gInt [(dBin gAdd (dBin gAdd (dBin gMulR (dVar 3) (dC (.int 48271))) (dBin gMulR (dVar 2) (dC (.int 69621)))) (dC (.int 5)))]) (dC (.int 2147483647)))) (dSeq (dSetK 3 (dBin gMod (dCall gInt [(dBin gMulR (dVar 3) (dC (.int 69621)))]) (dC (.int 2147483629)))) (dRet (dBin gMod (dCall gInt [(dVar 3)]) (dCall gMax [(dVar 1), (dC (.int 1))]))))) dSkip) (dItem 2 (dVar 3))) [some (tapeD zs p 0 n), some (.int m), some (.int p), some (.int i)] = some (.rt (.int k)) ∧ 0 ≤ k ∧ k < max m 1 ∨
        dSeq (dItem 1 (dBin gAdd (dVar 2) (dC (.int 1)))) (dSeq (dIf (dTest (dBin gLt (dVar 3) (dBin gPow (dC (.int 10)) (dC (.int 18))))) (dSeq (dSetK 3 (dBin gMod (dCall gInt [(dBin gAdd (dBin gAdd (dBin gMulR (dVar 3) (dC (.int 48271))) (dBin gMulR (dVar 2) (dC (.int 69621)))) (dC (.int 5)))]) (dC (.int 2147483647)))) (dSeq (dSetK 3 (dBin gMod (dCall gInt [(dBin gMulR (dVar 3) (dC (.int 69621)))]) (dC (.int 2147483629)))) (dRet (dBin gMod (dCall gInt [(dVar 3)]) (dCall gMax [(dVar 1), (dC (.int 1))]))))) dSkip) (dItem 2 (dVar 3))) [some (tapeD zs p 0 n), some (.int m), some (.int p), some (.int i)] = some (.nx [some (tapeD zs (p + 1) i n), some (.int m), some (.int p), some (.int i)]) := by
      intro n i hi
      have s1 : dItem 1 (dBin gAdd (dVar 2) (dC (.int 1))) [some (tapeD zs p 0 n), some (.int m), some (.int p), some (.int i)] = some (.nx [some (tapeD zs (p + 1) 0 n), some (.int m), some (.int p), some (.int i)]) := tset1 zs p 0 n (p + 1) _ _ (by simp [dBin, dVar, dC, gAdd]) (by omega)
      have c1 : dTest (dBin gLt (dVar 3) (dBin gPow (dC (.int 10)) (dC (.int 18)))) [some (tapeD zs (p + 1) 0 n), some (.int m), some (.int p), some (.int i)] = some (decide (i < 10 ^ 18)) := by
        simp [dTest, dBin, dVar, dC, gPow, gLt]
      by_cases hlt : i < 10 ^ 18
      · refine ⟨((i * 48271 + p * 69621 + 5) % 2147483647 * 69621 % 2147483629) % max m 1, .inl ⟨?_, Int.emod_nonneg _ (by omega), Int.emod_lt_of_pos _ (by omega)⟩⟩
        refine dSeq_of s1 (dSeq_rt ?_)
        rw [dIf_of c1, decide_eq_true hlt]
        rw [if_pos rfl]
        refine dSeq_of (s' := [some (tapeD zs (p + 1) 0 n), some (.int m), some (.int p), some (.int ((i * 48271 + p * 69621 + 5) % 2147483647))]) (by simp [dSetK, dBin, dVar, dC, dCall, evs, gMulR, gAdd, gInt, gMod, noL]) ?_
        refine dSeq_of (s' := [some (tapeD zs (p + 1) 0 n), some (.int m), some (.int p), some (.int ((i * 48271 + p * 69621 + 5) % 2147483647 * 69621 % 2147483629))]) (by simp [dSetK, dBin, dVar, dC, dCall, evs, gMulR, gAdd, gInt, gMod, noL]) ?_
        simp only [dRet, dBin, dCall, evs, dVar, dC, gInt, List.getElem?_cons_succ, List.getElem?_cons_zero, max_D]
        rw [fin_D _ _ (by omega)]
      · refine ⟨0, .inr (dSeq_of s1 ?_)⟩
        refine dSeq_of (s' := [some (tapeD zs (p + 1) 0 n), some (.int m), some (.int p), some (.int i)]) ?_ (tset2 zs (p + 1) 0 n i _ _ (by simp [dVar]) hi)
        rw [dIf_of c1, decide_eq_false hlt]
        rfl
    have c0 : dTest (dBin gEq (dBin gIx (dVar 0) (dC (.int 2))) (dC (.int 0))) [some (tapeD zs p 0 n), some (.int m), none, none] = some true := by
      simp [dTest, dBin, dVar, dC, tix2, gEq]
    have start : ∃ n' i, 0 ≤ i ∧ ∀ G o, G [some (tapeD zs p 0 n'), some (.int m), some (.int p), some (.int i)] = some o → dSeq (dSetK 2 (dBin gIx (dVar 0) (dC (.int 1)))) (dSeq (dSetK 3 (dC (.int 0))) (dSeq (dIf (dTest (dBin gLt (dVar 2) (dCall gLen [(dBin gIx (dVar 0) (dC (.int 0)))]))) (dSetK 3 (dCall gAbs [(dCall gInt [(dBin gIx (dBin gIx (dVar 0) (dC (.int 0))) (dVar 2))])])) (dSeq (dItem 3 (dBin gMod (dCall gInt [(dBin gAdd (dBin gAdd (dBin gMulR (dBin gIx (dVar 0) (dC (.int 3))) (dC (.int 48271))) (dVar 2)) (dC (.int 1)))]) (dC (.int 2147483647)))) (dSetK 3 (dBin gIx (dVar 0) (dC (.int 3)))))) G)) [some (tapeD zs p 0 n), some (.int m), none, none] = some o := by
      have g1 : dSetK 2 (dBin gIx (dVar 0) (dC (.int 1))) [some (tapeD zs p 0 n), some (.int m), none, none] = some (.nx [some (tapeD zs p 0 n), some (.int m), some (.int p), none]) := by simp [dSetK, dBin, dVar, dC, tix1, noL]
      have g2 : dSetK 3 (dC (.int 0)) [some (tapeD zs p 0 n), some (.int m), some (.int p), none] = some (.nx [some (tapeD zs p 0 n), some (.int m), some (.int p), some (.int 0)]) := by simp [dSetK, dC, noL]
      have c2 : dTest (dBin gLt (dVar 2) (dCall gLen [(dBin gIx (dVar 0) (dC (.int 0)))])) [some (tapeD zs p 0 n), some (.int m), some (.int p), some (.int 0)] = some (decide (p < zs.length)) := by
        simp [dTest, dBin, dVar, dC, dCall, evs, tix0, gLen, gLt]
      by_cases hlt : p < zs.length
      · have hz : p.toNat < zs.length := by omega
        refine ⟨n, iabs zs[p.toNat], iabs_nn _, fun G o hG => dSeq_of g1 (dSeq_of g2 (dSeq_of (s' := [some (tapeD zs p 0 n), some (.int m), some (.int p), some (.int (iabs zs[p.toNat]))]) ?_ hG))⟩
        rw [dIf_of c2, decide_eq_true hlt, if_pos rfl]
        simp only [dSetK, dBin, dCall, evs, dVar, dC, List.getElem?_cons_succ, List.getElem?_cons_zero, tix0, ixz zs p hp hz, gInt, gAbs]
        rfl
      · refine ⟨(n * 48271 + p + 1) % 2147483647, (n * 48271 + p + 1) % 2147483647, Int.emod_nonneg _ (by omega), fun G o hG => dSeq_of g1 (dSeq_of g2 (dSeq_of (s' := [some (tapeD zs p 0 ((n * 48271 + p + 1) % 2147483647)), some (.int m), some (.int p), some (.int ((n * 48271 + p + 1) % 2147483647))]) ?_ hG))⟩
        rw [dIf_of c2, decide_eq_false hlt, if_neg (by decide)]
        refine dSeq_of (tset3 zs p 0 n ((n * 48271 + p + 1) % 2147483647) _ _ ?_ (Int.emod_nonneg _ (by omega))) ?_
        · simp [dBin, dVar, dC, dCall, evs, tix3, gMulR, gAdd, gInt, gMod]
        · simp [dSetK, dBin, dVar, dC, tix3, noL]
    obtain ⟨n', i, hi, st⟩ := start
    obtain ⟨k, h1 | h1⟩ := tail n' i hi
    · obtain ⟨e, a, b⟩ := h1
      refine ⟨k, ?_, a, b⟩
      refine dSeq_rt ?_
      rw [dIf_of c0, if_pos rfl]
      exact st _ _ e
    · obtain ⟨k, e, a, b⟩ := rest (p + 1) i n' (some (.int p)) (some (.int i)) hi
      refine ⟨k, ?_, a, b⟩
      refine dSeq_of (s' := [some (tapeD zs (p + 1) i n'), some (.int m), some (.int p), some (.int i)]) ?_ e
      rw [dIf_of c0, if_pos rfl]
      exact st _ _ h1
  · have c0 : dTest (dBin gEq (dBin gIx (dVar 0) (dC (.int 2))) (dC (.int 0))) [some (tapeD zs p h n), some (.int m), none, none] = some false := by
      simp [dTest, dBin, dVar, dC, tix2, gEq, h0]
    obtain ⟨k, e, a, b⟩ := rest p h n none none hh
    refine ⟨k, dSeq_of (s' := [some (tapeD zs p h n), some (.int m), none, none]) ?_ e, a, b⟩
    rw [dIf_of c0]
    rfl
theorem ok_law_draw [Wd] (T : Tx K mg) : Ok Wd.P Wd.w K mg base "_law_draw" 1 ["_law_tape_here", "_law_many"] (spN f_law_draw 1) := okk_law_draw T fun ds Q hl w => by
  unfold f_law_draw at w
  split at w
  · rename_i m
    by_cases hm : m ≤ 1000000000
    · rw [if_pos hm] at w
      refine ⟨rfl, fun zs p h n hp hh hn hz => ?_⟩
      obtain ⟨k, e, a, b⟩ := draw_D zs p h n m hp hh hn hz hm
      exact ⟨_, e, rfl, w k ⟨a, b⟩⟩
    · rw [if_neg hm] at w
      exact w.elim
  · exact w.elim
theorem sc_law_tape : FnScope ["_law_script", "_law_total", "_law_cell"] ["_law_script"] (defScope s_law_tape) := ⟨rfl, rfl, rfl, by decide +kernel, rfl, by decide +kernel, by decide +kernel⟩
theorem bo_law_tape : BindOk "_law_tape" s_law_tape ["_law_script"] := fun _ _ _ _ _ _ us hl => match us, hl with | [_], _ => rfl
def L0_law_tape : Sl → Option Out := (dSet 1 (dBin gMod (dCall gInt [(dBin gAdd (dBin gMul (dVar 1) (dC (.int 31))) (dCall gAbs [(dCall gInt [(dVar 2)])]))]) (dC (.int 2147483647))))
def F_law_tape : Sl → Option Out := (dSeq (dSet 1 (dC (.int 7))) (dSeq (dFor 2 (iLst (dVar 0)) L0_law_tape) (dRet (dLst [(dCall gList [(dVar 0)]), (dC (.int 0)), (dC (.int 0)), (dVar 1)]))))
def f_law_tape : List PyData → Option PyData := runF F_law_tape 3
theorem ok_law_tape [Wd] (T : Tx K mg) : Ok Wd.P Wd.w K mg base "_law_tape" 1 ["_law_script"] (spP f_law_tape 1) := T.law_tape.pure (F := F_law_tape) sc_law_tape bo_law_tape rfl rfl fun f cdv A outer s H E hr => (ds_cons (ds_set 1 sc_law_tape.nd rfl (Or.inl rfl) de_int) (ds_cons (ds_for (i := 2) PassesOwn.never rfl (di_lst (de_var 0)) (pg_name (i := 2) sc_law_tape.nd rfl (Or.inl rfl)) (ds_one (ds_set 1 sc_law_tape.nd rfl (Or.inl rfl) (de_mod (de_toInt T.b_int (da_cons (de_add (de_mul (de_var 1) de_int) (de_abs T.b_abs (da_cons (de_toInt T.b_int (da_cons (de_var 2) da_nil)) da_nil))) da_nil)) de_int)))) (ds_one (ds_ret (de_lst (da_cons (de_list T.b_list (da_cons (de_var 0) da_nil)) (da_cons de_int (da_cons de_int (da_cons (de_var 1) da_nil)))))))))
theorem sc_law_identities : FnScope ["_law_items", "_law_item"] ["_law_items"] (defScope s_law_identities) := ⟨rfl, rfl, rfl, by decide +kernel, rfl, by decide +kernel, by decide +kernel⟩
theorem bo_law_identities : BindOk "_law_identities" s_law_identities ["_law_items"] := fun _ _ _ _ _ _ us hl => match us, hl with | [_], _ => rfl
def F_law_identities : Sl → Option Out := (dRet (dLc 1 (iLst (dVar 0)) dYes (dSl (dVar 1) (fun _ => some none) (dPart (dC (.int 3))))))
def f_law_identities : List PyData → Option PyData := runF F_law_identities 2
theorem ok_law_identities [Wd] (T : Tx K mg) : Ok Wd.P Wd.w K mg base "_law_identities" 1 ["_law_items"] (spP f_law_identities 1) := T.law_identities.pure (F := F_law_identities) sc_law_identities bo_law_identities rfl rfl fun f cdv A outer s H E hr => (ds_one (ds_ret (de_lc rfl sc_law_identities.nd (di_lst (de_var 0)) (blkOk_by (own := [("_law_item", 1)]) (N := ["_law_items", "_law_item"]) (sc := defScope s_law_identities) (by decide +kernel)) (fun _ _ _ _ _ => pg_name (i := 1) sc_law_identities.nd rfl (Or.inl rfl)) (fun _ _ _ _ _ => dts_nil) (fun _ _ _ _ _ => (de_slice (de_var 1) do_none (do_some de_int))))))
theorem sc_law_word : FnScope ["_law_tape_here", "_law_signs", "_law_word_here", "_law_k"] ["_law_tape_here"] (defScope s_law_word) := ⟨rfl, rfl, rfl, by decide +kernel, rfl, by decide +kernel, by decide +kernel⟩
theorem bo_law_word : BindOk "_law_word" s_law_word ["_law_tape_here"] := fun _ _ _ _ _ _ us hl => match us, hl with | [_], _ => rfl
def L0_law_word : Sl → Nd Out := (nSet 2 (nBin gAdd (nP (dVar 2)) (nBin gIx (nP (dVar 1)) (nTc f_law_draw 1 (nCons (nP (dC (.int 94))) nNil)))))
def F_law_word : Sl → Nd Out := (nSeq (nSet 1 (nP (dC (.str " !\"#$&'()*+,-./0123456789:;<=>?@ABCDEFGHIJKLMNOPQRSTUVWXYZ[\\]^_`")))) (nSeq (nSet 1 (nP (dBin gAdd (dVar 1) (dC (.str "abcdefghijklmnopqrstuvwxyz{|}~"))))) (nSeq (nSet 2 (nP (dC (.str "")))) (nSeq (nFor 3 (nRg1 (nCons (nBin gIx (nP (dLst [(dC (.int 0)), (dC (.int 1)), (dC (.int 1)), (dC (.int 2)), (dC (.int 3)), (dC (.int 5))])) (nTc f_law_draw 1 (nCons (nP (dC (.int 6))) nNil))) nNil)) L0_law_word) (nRet (nP (dVar 2)))))))
def f_law_word : List PyData → Nd PyData := runN F_law_word 4
theorem ok_law_word [Wd] (T : Tx K mg) : Ok Wd.P Wd.w K mg base "_law_word" 2 ["_law_tape_here"] (spN f_law_word 0) := T.law_word.tape (F := F_law_word) (own := []) sc_law_word bo_law_word rfl rfl (by decide) (by decide) fun f cdv A outer s H E U hr => (ns_cons (ns_set 1 sc_law_word.nd rfl (Or.inl rfl) (ne_pure de_str) (by show (1 : Nat) ∉ ([] : List Nat); decide) (by show (1 : Nat) ≠ 0; decide)) (ns_cons (ns_set 1 sc_law_word.nd rfl (Or.inl rfl) (ne_pure (de_add (de_var 1) de_str)) (by show (1 : Nat) ∉ ([] : List Nat); decide) (by show (1 : Nat) ≠ 0; decide)) (ns_cons (ns_set 2 sc_law_word.nd rfl (Or.inl rfl) (ne_pure de_str) (by show (2 : Nat) ∉ ([] : List Nat); decide) (by show (2 : Nat) ≠ 0; decide)) (ns_cons (ns_for (i := 3) PassesOwn.never rfl (ni_range1 rfl T.b_range (na_cons (ne_ix (ne_pure (de_lst (da_cons de_int (da_cons de_int (da_cons de_int (da_cons de_int (da_cons de_int (da_cons de_int da_nil)))))))) (ne_tcl (ok_law_draw T) hr (na_tape rfl rfl (na_cons (ne_pure de_int) na_nil)))) na_nil)) (pg_name (i := 3) sc_law_word.nd rfl (Or.inl rfl)) (ns_one (ns_set 2 sc_law_word.nd rfl (Or.inl rfl) (ne_add (ne_pure (de_var 2)) (ne_ix (ne_pure (de_var 1)) (ne_tcl (ok_law_draw T) hr (na_tape rfl rfl (na_cons (ne_pure de_int) na_nil))))) (by show (2 : Nat) ∉ ([] : List Nat); decide) (by show (2 : Nat) ≠ 0; decide))) (by show (3 : Nat) ∉ ([] : List Nat); decide) (by show (3 : Nat) ≠ 0; decide)) (ns_one (ns_ret (ne_pure (de_var 2))))))))
theorem sc_law_color : FnScope ["_law_tape_here", "_law_number", "_law_digits", "_law_k"] ["_law_tape_here"] (defScope s_law_color) := ⟨rfl, rfl, rfl, by decide +kernel, rfl, by decide +kernel, by decide +kernel⟩
theorem bo_law_color : BindOk "_law_color" s_law_color ["_law_tape_here"] := fun _ _ _ _ _ _ us hl => match us, hl with | [_], _ => rfl
def L0_law_color : Sl → Nd Out := (nSeq (nSet 2 (nP (dBin gAdd (dBin gIx (dC (.str "0123456789abcdef")) (dBin gMod (dCall gInt [(dVar 1)]) (dC (.int 16)))) (dVar 2)))) (nSet 1 (nP (dBin gDiv2 (dVar 1) (dC (.int 16))))))
def F_law_color : Sl → Nd Out := (nSeq (nSet 1 (nTc f_law_draw 1 (nCons (nP (dC (.int 16777216))) nNil))) (nSeq (nSet 2 (nP (dC (.str "")))) (nSeq (nFor 3 (nRg1 (nCons (nP (dC (.int 6))) nNil)) L0_law_color) (nRet (nBin gIx (nP (dLst [(dBin gAdd (dC (.str "#")) (dVar 2)), (dC (.str "#ffffff")), (dC (.str "#000000")), (dC (.str "#3a6ea8")), (dC .none)])) (nTc f_law_draw 1 (nCons (nP (dC (.int 5))) nNil)))))))
def f_law_color : List PyData → Nd PyData := runN F_law_color 4
theorem ok_law_color [Wd] (T : Tx K mg) : Ok Wd.P Wd.w K mg base "_law_color" 2 ["_law_tape_here"] (spN f_law_color 0) := T.law_color.tape (F := F_law_color) (own := []) sc_law_color bo_law_color rfl rfl (by decide) (by decide) fun f cdv A outer s H E U hr => (ns_cons (ns_set 1 sc_law_color.nd rfl (Or.inl rfl) (ne_tcl (ok_law_draw T) hr (na_tape rfl rfl (na_cons (ne_pure de_int) na_nil))) (by show (1 : Nat) ∉ ([] : List Nat); decide) (by show (1 : Nat) ≠ 0; decide)) (ns_cons (ns_set 2 sc_law_color.nd rfl (Or.inl rfl) (ne_pure de_str) (by show (2 : Nat) ∉ ([] : List Nat); decide) (by show (2 : Nat) ≠ 0; decide)) (ns_cons (ns_for (i := 3) PassesOwn.never rfl (ni_range1 rfl T.b_range (na_cons (ne_pure de_int) na_nil)) (pg_name (i := 3) sc_law_color.nd rfl (Or.inl rfl)) (ns_cons (ns_set 2 sc_law_color.nd rfl (Or.inl rfl) (ne_pure (de_add (de_ix de_str (de_mod (de_toInt T.b_int (da_cons (de_var 1) da_nil)) de_int)) (de_var 2))) (by show (2 : Nat) ∉ ([] : List Nat); decide) (by show (2 : Nat) ≠ 0; decide)) (ns_one (ns_set 1 sc_law_color.nd rfl (Or.inl rfl) (ne_pure (de_div (de_var 1) de_int)) (by show (1 : Nat) ∉ ([] : List Nat); decide) (by show (1 : Nat) ≠ 0; decide)))) (by show (3 : Nat) ∉ ([] : List Nat); decide) (by show (3 : Nat) ≠ 0; decide)) (ns_one (ns_ret (ne_ix (ne_pure (de_lst (da_cons (de_add de_str (de_var 2)) (da_cons de_str (da_cons de_str (da_cons de_str (da_cons de_non da_nil))))))) (ne_tcl (ok_law_draw T) hr (na_tape rfl rfl (na_cons (ne_pure de_int) na_nil)))))))))
theorem sc_law_form : FnScope ["_law_tape_here", "_law_room", "_law_x", "_law_y", "_law_kind", "_law_points", "_law_k"] ["_law_tape_here", "_law_room"] (defScope s_law_form) := ⟨rfl, rfl, rfl, by decide +kernel, rfl, by decide +kernel, by decide +kernel⟩
theorem bo_law_form : BindOk "_law_form" s_law_form ["_law_tape_here", "_law_room"] := fun _ _ _ _ _ _ us hl => match us, hl with | [_, _], _ => rfl
def L0_law_form : Sl → Nd Out := (nSet 5 (nBin gAdd (nP (dVar 5)) (nTup (nCons (nBin gSub (nTc f_law_draw 1 (nCons (nP (dBin gAdd (dVar 1) (dC (.int 8)))) nNil)) (nP (dC (.int 4)))) (nCons (nBin gSub (nTc f_law_draw 1 (nCons (nP (dBin gAdd (dVar 1) (dC (.int 8)))) nNil)) (nP (dC (.int 4)))) nNil)))))
def F_law_form : Sl → Nd Out := (nSeq (nSet 2 (nBin gSub (nTc f_law_draw 1 (nCons (nP (dBin gAdd (dVar 1) (dC (.int 8)))) nNil)) (nP (dC (.int 4))))) (nSeq (nSet 3 (nBin gSub (nTc f_law_draw 1 (nCons (nP (dBin gAdd (dVar 1) (dC (.int 8)))) nNil)) (nP (dC (.int 4))))) (nSeq (nSet 4 (nTc f_law_draw 1 (nCons (nP (dC (.int 8))) nNil))) (nSeq (nIf (nPT (dTest (dBin gLt (dVar 4) (dC (.int 2))))) (nRet (nTup (nCons (nP (dC (.str "rectangle"))) (nCons (nTup (nCons (nP (dVar 2)) (nCons (nP (dVar 3)) (nCons (nTc f_law_draw 1 (nCons (nP (dVar 1)) nNil)) (nCons (nTc f_law_draw 1 (nCons (nP (dVar 1)) nNil)) nNil))))) (nCons (nP (dC (.str ""))) nNil))))) nSkip) (nSeq (nIf (nPT (dTest (dBin gEq (dVar 4) (dC (.int 2))))) (nRet (nTup (nCons (nP (dC (.str "line"))) (nCons (nTup (nCons (nP (dVar 2)) (nCons (nP (dVar 3)) (nCons (nBin gSub (nTc f_law_draw 1 (nCons (nP (dBin gAdd (dVar 1) (dC (.int 8)))) nNil)) (nP (dC (.int 4)))) (nCons (nBin gSub (nTc f_law_draw 1 (nCons (nP (dBin gAdd (dVar 1) (dC (.int 8)))) nNil)) (nP (dC (.int 4)))) nNil))))) (nCons (nP (dC (.str ""))) nNil))))) nSkip) (nSeq (nIf (nPT (dTest (dBin gEq (dVar 4) (dC (.int 3))))) (nSeq (nSet 5 (nP (dTup [(dVar 2), (dVar 3)]))) (nSeq (nFor 6 (nRg1 (nCons (nTc f_law_draw 1 (nCons (nP (dC (.int 4))) nNil)) nNil)) L0_law_form) (nRet (nP (dTup [(dC (.str "polyline")), (dVar 5), (dC (.str ""))]))))) nSkip) (nSeq (nIf (nPT (dTest (dBin gEq (dVar 4) (dC (.int 4))))) (nRet (nTup (nCons (nP (dC (.str "circle"))) (nCons (nTup (nCons (nP (dVar 2)) (nCons (nP (dVar 3)) (nCons (nTc f_law_draw 1 (nCons (nP (dBin gAdd (dBin gDiv2 (dVar 1) (dC (.int 3))) (dC (.int 1)))) nNil)) nNil)))) (nCons (nP (dC (.str ""))) nNil))))) nSkip) (nRet (nTup (nCons (nP (dBin gIx (dLst [(dC (.str "text start")), (dC (.str "text middle")), (dC (.str "text end"))]) (dBin gSub (dVar 4) (dC (.int 5))))) (nCons (nP (dTup [(dVar 2), (dVar 3)])) (nCons (nTc f_law_word 0 nNil) nNil))))))))))))
def f_law_form : List PyData → Nd PyData := runN F_law_form 7
theorem ok_law_form [Wd] (T : Tx K mg) : Ok Wd.P Wd.w K mg base "_law_form" 3 ["_law_tape_here", "_law_room"] (spN f_law_form 1) := T.law_form.tape (F := F_law_form) (own := []) sc_law_form bo_law_form rfl rfl (by decide) (by decide) fun f cdv A outer s H E U hr => (ns_cons (ns_set 2 sc_law_form.nd rfl (Or.inl rfl) (ne_sub (ne_tcl (ok_law_draw T) hr (na_tape rfl rfl (na_cons (ne_pure (de_add (de_var 1) de_int)) na_nil))) (ne_pure de_int)) (by show (2 : Nat) ∉ ([] : List Nat); decide) (by show (2 : Nat) ≠ 0; decide)) (ns_cons (ns_set 3 sc_law_form.nd rfl (Or.inl rfl) (ne_sub (ne_tcl (ok_law_draw T) hr (na_tape rfl rfl (na_cons (ne_pure (de_add (de_var 1) de_int)) na_nil))) (ne_pure de_int)) (by show (3 : Nat) ∉ ([] : List Nat); decide) (by show (3 : Nat) ≠ 0; decide)) (ns_cons (ns_set 4 sc_law_form.nd rfl (Or.inl rfl) (ne_tcl (ok_law_draw T) hr (na_tape rfl rfl (na_cons (ne_pure de_int) na_nil))) (by show (4 : Nat) ∉ ([] : List Nat); decide) (by show (4 : Nat) ≠ 0; decide)) (ns_cons (ns_if (nt_pure (dt_lt (de_var 4) de_int)) (ns_one (ns_ret (ne_tup (na_cons (ne_pure de_str) (na_cons (ne_tup (na_cons (ne_pure (de_var 2)) (na_cons (ne_pure (de_var 3)) (na_cons (ne_tcl (ok_law_draw T) hr (na_tape rfl rfl (na_cons (ne_pure (de_var 1)) na_nil))) (na_cons (ne_tcl (ok_law_draw T) hr (na_tape rfl rfl (na_cons (ne_pure (de_var 1)) na_nil))) na_nil))))) (na_cons (ne_pure de_str) na_nil)))))) ns_nil) (ns_cons (ns_if (nt_pure (dt_eq (de_var 4) de_int)) (ns_one (ns_ret (ne_tup (na_cons (ne_pure de_str) (na_cons (ne_tup (na_cons (ne_pure (de_var 2)) (na_cons (ne_pure (de_var 3)) (na_cons (ne_sub (ne_tcl (ok_law_draw T) hr (na_tape rfl rfl (na_cons (ne_pure (de_add (de_var 1) de_int)) na_nil))) (ne_pure de_int)) (na_cons (ne_sub (ne_tcl (ok_law_draw T) hr (na_tape rfl rfl (na_cons (ne_pure (de_add (de_var 1) de_int)) na_nil))) (ne_pure de_int)) na_nil))))) (na_cons (ne_pure de_str) na_nil)))))) ns_nil) (ns_cons (ns_if (nt_pure (dt_eq (de_var 4) de_int)) (ns_cons (ns_set 5 sc_law_form.nd rfl (Or.inl rfl) (ne_pure (de_tup (da_cons (de_var 2) (da_cons (de_var 3) da_nil)))) (by show (5 : Nat) ∉ ([] : List Nat); decide) (by show (5 : Nat) ≠ 0; decide)) (ns_cons (ns_for (i := 6) PassesOwn.never rfl (ni_range1 rfl T.b_range (na_cons (ne_tcl (ok_law_draw T) hr (na_tape rfl rfl (na_cons (ne_pure de_int) na_nil))) na_nil)) (pg_name (i := 6) sc_law_form.nd rfl (Or.inl rfl)) (ns_one (ns_set 5 sc_law_form.nd rfl (Or.inl rfl) (ne_add (ne_pure (de_var 5)) (ne_tup (na_cons (ne_sub (ne_tcl (ok_law_draw T) hr (na_tape rfl rfl (na_cons (ne_pure (de_add (de_var 1) de_int)) na_nil))) (ne_pure de_int)) (na_cons (ne_sub (ne_tcl (ok_law_draw T) hr (na_tape rfl rfl (na_cons (ne_pure (de_add (de_var 1) de_int)) na_nil))) (ne_pure de_int)) na_nil)))) (by show (5 : Nat) ∉ ([] : List Nat); decide) (by show (5 : Nat) ≠ 0; decide))) (by show (6 : Nat) ∉ ([] : List Nat); decide) (by show (6 : Nat) ≠ 0; decide)) (ns_one (ns_ret (ne_pure (de_tup (da_cons de_str (da_cons (de_var 5) (da_cons de_str da_nil))))))))) ns_nil) (ns_cons (ns_if (nt_pure (dt_eq (de_var 4) de_int)) (ns_one (ns_ret (ne_tup (na_cons (ne_pure de_str) (na_cons (ne_tup (na_cons (ne_pure (de_var 2)) (na_cons (ne_pure (de_var 3)) (na_cons (ne_tcl (ok_law_draw T) hr (na_tape rfl rfl (na_cons (ne_pure (de_add (de_div (de_var 1) de_int) de_int)) na_nil))) na_nil)))) (na_cons (ne_pure de_str) na_nil)))))) ns_nil) (ns_one (ns_ret (ne_tup (na_cons (ne_pure (de_ix (de_lst (da_cons de_str (da_cons de_str (da_cons de_str da_nil)))) (de_sub (de_var 4) de_int))) (na_cons (ne_pure (de_tup (da_cons (de_var 2) (da_cons (de_var 3) da_nil)))) (na_cons (ne_tcl (ok_law_word T) hr (na_tape rfl rfl na_nil)) na_nil)))))))))))))
theorem sc_law_clip : FnScope ["_law_tape_here", "_law_room"] ["_law_tape_here", "_law_room"] (defScope s_law_clip) := ⟨rfl, rfl, rfl, by decide +kernel, rfl, by decide +kernel, by decide +kernel⟩
theorem bo_law_clip : BindOk "_law_clip" s_law_clip ["_law_tape_here", "_law_room"] := fun _ _ _ _ _ _ us hl => match us, hl with | [_, _], _ => rfl
def F_law_clip : Sl → Nd Out := (nSeq (nIf (nTest (nBin gEq (nTc f_law_draw 1 (nCons (nP (dC (.int 2))) nNil)) (nP (dC (.int 0))))) (nRet (nP (dC .none))) nSkip) (nRet (nTup (nCons (nBin gSub (nTc f_law_draw 1 (nCons (nP (dVar 1)) nNil)) (nP (dC (.int 2)))) (nCons (nBin gSub (nTc f_law_draw 1 (nCons (nP (dVar 1)) nNil)) (nP (dC (.int 2)))) (nCons (nTc f_law_draw 1 (nCons (nP (dVar 1)) nNil)) (nCons (nTc f_law_draw 1 (nCons (nP (dVar 1)) nNil)) nNil)))))))
def f_law_clip : List PyData → Nd PyData := runN F_law_clip 2
theorem ok_law_clip [Wd] (T : Tx K mg) : Ok Wd.P Wd.w K mg base "_law_clip" 2 ["_law_tape_here", "_law_room"] (spN f_law_clip 1) := T.law_clip.tape (F := F_law_clip) (own := []) sc_law_clip bo_law_clip rfl rfl (by decide) (by decide) fun f cdv A outer s H E U hr => (ns_cons (ns_if (nt_eq (ne_tcl (ok_law_draw T) hr (na_tape rfl rfl (na_cons (ne_pure de_int) na_nil))) (ne_pure de_int)) (ns_one (ns_ret (ne_pure de_non))) ns_nil) (ns_one (ns_ret (ne_tup (na_cons (ne_sub (ne_tcl (ok_law_draw T) hr (na_tape rfl rfl (na_cons (ne_pure (de_var 1)) na_nil))) (ne_pure de_int)) (na_cons (ne_sub (ne_tcl (ok_law_draw T) hr (na_tape rfl rfl (na_cons (ne_pure (de_var 1)) na_nil))) (ne_pure de_int)) (na_cons (ne_tcl (ok_law_draw T) hr (na_tape rfl rfl (na_cons (ne_pure (de_var 1)) na_nil))) (na_cons (ne_tcl (ok_law_draw T) hr (na_tape rfl rfl (na_cons (ne_pure (de_var 1)) na_nil))) na_nil))))))))
theorem sc_law_identity : FnScope ["_law_tape_here", "_law_plot", "_law_role", "_law_key"] ["_law_tape_here"] (defScope s_law_identity) := ⟨rfl, rfl, rfl, by decide +kernel, rfl, by decide +kernel, by decide +kernel⟩
theorem bo_law_identity : BindOk "_law_identity" s_law_identity ["_law_tape_here"] := fun _ _ _ _ _ _ us hl => match us, hl with | [_], _ => rfl
def F_law_identity : Sl → Nd Out := (nSeq (nSet 1 (nBin gIx (nP (dLst [(dC .none), (dC (.int 0)), (dC (.int 0)), (dC (.int 1)), (dC (.int 1)), (dC (.int 2)), (dC (.int 99))])) (nTc f_law_draw 1 (nCons (nP (dC (.int 7))) nNil)))) (nSeq (nSet 2 (nBin gIx (nP (dLst [(dC (.str "mark 0")), (dC (.str "mark 0")), (dC (.str "mark 1")), (dC (.str "label 0")), (dC (.str "x tick label")), (dC (.str "mark 0 ")), (dC (.str ""))])) (nTc f_law_draw 1 (nCons (nP (dC (.int 7))) nNil)))) (nSeq (nSet 3 (nBin gIx (nP (dLst [(dC (.str "")), (dC (.str "1")), (dC (.str "1")), (dC (.str "2")), (dC (.str "10")), (dC (.str "\"a\",-"))])) (nTc f_law_draw 1 (nCons (nP (dC (.int 6))) nNil)))) (nSeq (nIf (nTest (nBin gEq (nTc f_law_draw 1 (nCons (nP (dC (.int 5))) nNil)) (nP (dC (.int 0))))) (nSet 3 (nBin gAdd (nP (dVar 3)) (nTc f_law_word 0 nNil))) nSkip) (nRet (nP (dTup [(dVar 1), (dVar 2), (dVar 3)])))))))
def f_law_identity : List PyData → Nd PyData := runN F_law_identity 4
theorem ok_law_identity [Wd] (T : Tx K mg) : Ok Wd.P Wd.w K mg base "_law_identity" 3 ["_law_tape_here"] (spN f_law_identity 0) := T.law_identity.tape (F := F_law_identity) (own := []) sc_law_identity bo_law_identity rfl rfl (by decide) (by decide) fun f cdv A outer s H E U hr => (ns_cons (ns_set 1 sc_law_identity.nd rfl (Or.inl rfl) (ne_ix (ne_pure (de_lst (da_cons de_non (da_cons de_int (da_cons de_int (da_cons de_int (da_cons de_int (da_cons de_int (da_cons de_int da_nil))))))))) (ne_tcl (ok_law_draw T) hr (na_tape rfl rfl (na_cons (ne_pure de_int) na_nil)))) (by show (1 : Nat) ∉ ([] : List Nat); decide) (by show (1 : Nat) ≠ 0; decide)) (ns_cons (ns_set 2 sc_law_identity.nd rfl (Or.inl rfl) (ne_ix (ne_pure (de_lst (da_cons de_str (da_cons de_str (da_cons de_str (da_cons de_str (da_cons de_str (da_cons de_str (da_cons de_str da_nil))))))))) (ne_tcl (ok_law_draw T) hr (na_tape rfl rfl (na_cons (ne_pure de_int) na_nil)))) (by show (2 : Nat) ∉ ([] : List Nat); decide) (by show (2 : Nat) ≠ 0; decide)) (ns_cons (ns_set 3 sc_law_identity.nd rfl (Or.inl rfl) (ne_ix (ne_pure (de_lst (da_cons de_str (da_cons de_str (da_cons de_str (da_cons de_str (da_cons de_str (da_cons de_str da_nil)))))))) (ne_tcl (ok_law_draw T) hr (na_tape rfl rfl (na_cons (ne_pure de_int) na_nil)))) (by show (3 : Nat) ∉ ([] : List Nat); decide) (by show (3 : Nat) ≠ 0; decide)) (ns_cons (ns_if (nt_eq (ne_tcl (ok_law_draw T) hr (na_tape rfl rfl (na_cons (ne_pure de_int) na_nil))) (ne_pure de_int)) (ns_one (ns_set 3 sc_law_identity.nd rfl (Or.inl rfl) (ne_add (ne_pure (de_var 3)) (ne_tcl (ok_law_word T) hr (na_tape rfl rfl na_nil))) (by show (3 : Nat) ∉ ([] : List Nat); decide) (by show (3 : Nat) ≠ 0; decide))) ns_nil) (ns_one (ns_ret (ne_pure (de_tup (da_cons (de_var 1) (da_cons (de_var 2) (da_cons (de_var 3) da_nil)))))))))))
theorem sc_law_new_identity : FnScope ["_law_tape_here", "_law_taken", "_law_one"] ["_law_tape_here", "_law_taken"] (defScope s_law_new_identity) := ⟨rfl, rfl, rfl, by decide +kernel, rfl, by decide +kernel, by decide +kernel⟩
theorem bo_law_new_identity : BindOk "_law_new_identity" s_law_new_identity ["_law_tape_here", "_law_taken"] := fun _ _ _ _ _ _ us hl => match us, hl with | [_, _], _ => rfl
def L0_law_new_identity : Sl → Nd Out := (nSet 2 (nP (dTup [(dBin gIx (dVar 2) (dC (.int 0))), (dBin gIx (dVar 2) (dC (.int 1))), (dBin gAdd (dBin gIx (dVar 2) (dC (.int 2))) (dCall gStr [(dCall gLen [(dVar 1)])]))])))
def F_law_new_identity : Sl → Nd Out := (nSeq (nSet 2 (nTc f_law_identity 0 nNil)) (nSeq (nWhile (nPT (dTest (dBin gInL (dVar 2) (dVar 1)))) L0_law_new_identity) (nRet (nP (dVar 2)))))
def f_law_new_identity : List PyData → Nd PyData := runN F_law_new_identity 3
theorem ok_law_new_identity [Wd] (T : Tx K mg) : Ok Wd.P Wd.w K mg base "_law_new_identity" 4 ["_law_tape_here", "_law_taken"] (spN f_law_new_identity 1) := T.law_new_identity.tape (F := F_law_new_identity) (own := []) sc_law_new_identity bo_law_new_identity rfl rfl (by decide) (by decide) fun f cdv A outer s H E U hr => (ns_cons (ns_set 2 sc_law_new_identity.nd rfl (Or.inl rfl) (ne_tcl (ok_law_identity T) hr (na_tape rfl rfl na_nil)) (by show (2 : Nat) ∉ ([] : List Nat); decide) (by show (2 : Nat) ≠ 0; decide)) (ns_cons (ns_while PassesOwn.never (nt_pure (dt_inL (Room.units65 hr) (de_var 2) (de_var 1))) (ns_one (ns_set 2 sc_law_new_identity.nd rfl (Or.inl rfl) (ne_pure (de_tup (da_cons (de_ix (de_var 2) de_int) (da_cons (de_ix (de_var 2) de_int) (da_cons (de_add (de_ix (de_var 2) de_int) (de_strI T.b_str (da_cons (de_len T.b_len (da_cons (de_var 1) da_nil)) da_nil))) da_nil))))) (by show (2 : Nat) ∉ ([] : List Nat); decide) (by show (2 : Nat) ≠ 0; decide)))) (ns_one (ns_ret (ne_pure (de_var 2))))))
theorem sc_law_primitive : FnScope ["_law_tape_here", "_law_who", "_law_room", "_law_form_here", "_law_fill", "_law_stroke"] ["_law_tape_here", "_law_who", "_law_room"] (defScope s_law_primitive) := ⟨rfl, rfl, rfl, by decide +kernel, rfl, by decide +kernel, by decide +kernel⟩
theorem bo_law_primitive : BindOk "_law_primitive" s_law_primitive ["_law_tape_here", "_law_who", "_law_room"] := fun _ _ _ _ _ _ us hl => match us, hl with | [_, _, _], _ => rfl
def F_law_primitive : Sl → Nd Out := (nSeq (nSet 3 (nTc f_law_form 1 (nCons (nP (dVar 2)) nNil))) (nSeq (nSet 4 (nTc f_law_color 0 nNil)) (nSeq (nSet 5 (nTc f_law_color 0 nNil)) (nRet (nBin gAdd (nP (dBin gAdd (dVar 1) (dVar 3))) (nTup (nCons (nP (dVar 4)) (nCons (nP (dVar 5)) (nCons (nTc f_law_clip 1 (nCons (nP (dVar 2)) nNil)) nNil)))))))))
def f_law_primitive : List PyData → Nd PyData := runN F_law_primitive 6
theorem ok_law_primitive [Wd] (T : Tx K mg) : Ok Wd.P Wd.w K mg base "_law_primitive" 4 ["_law_tape_here", "_law_who", "_law_room"] (spN f_law_primitive 2) := T.law_primitive.tape (F := F_law_primitive) (own := []) sc_law_primitive bo_law_primitive rfl rfl (by decide) (by decide) fun f cdv A outer s H E U hr => (ns_cons (ns_set 3 sc_law_primitive.nd rfl (Or.inl rfl) (ne_tcl (ok_law_form T) hr (na_tape rfl rfl (na_cons (ne_pure (de_var 2)) na_nil))) (by show (3 : Nat) ∉ ([] : List Nat); decide) (by show (3 : Nat) ≠ 0; decide)) (ns_cons (ns_set 4 sc_law_primitive.nd rfl (Or.inl rfl) (ne_tcl (ok_law_color T) hr (na_tape rfl rfl na_nil)) (by show (4 : Nat) ∉ ([] : List Nat); decide) (by show (4 : Nat) ≠ 0; decide)) (ns_cons (ns_set 5 sc_law_primitive.nd rfl (Or.inl rfl) (ne_tcl (ok_law_color T) hr (na_tape rfl rfl na_nil)) (by show (5 : Nat) ∉ ([] : List Nat); decide) (by show (5 : Nat) ≠ 0; decide)) (ns_one (ns_ret (ne_add (ne_pure (de_add (de_var 1) (de_var 3))) (ne_tup (na_cons (ne_pure (de_var 4)) (na_cons (ne_pure (de_var 5)) (na_cons (ne_tcl (ok_law_clip T) hr (na_tape rfl rfl (na_cons (ne_pure (de_var 2)) na_nil))) na_nil))))))))))
theorem sc_law_changed_item : FnScope ["_law_tape_here", "_law_item", "_law_room", "_law_part", "_law_at"] ["_law_tape_here", "_law_item", "_law_room"] (defScope s_law_changed_item) := ⟨rfl, rfl, rfl, by decide +kernel, rfl, by decide +kernel, by decide +kernel⟩
theorem bo_law_changed_item : BindOk "_law_changed_item" s_law_changed_item ["_law_tape_here", "_law_item", "_law_room"] := fun _ _ _ _ _ _ us hl => match us, hl with | [_, _, _], _ => rfl
def F_law_changed_item : Sl → Nd Out := (nSeq (nSet 3 (nTc f_law_draw 1 (nCons (nP (dC (.int 6))) nNil))) (nSeq (nIf (nPT (dTest (dBin gEq (dVar 3) (dC (.int 0))))) (nRet (nBin gAdd (nBin gAdd (nP (dSl (dVar 1) (fun _ => some none) (dPart (dC (.int 3))))) (nTc f_law_form 1 (nCons (nP (dVar 2)) nNil))) (nP (dSl (dVar 1) (dPart (dC (.int 6))) (fun _ => some none))))) nSkip) (nSeq (nIf (nPT (tOrF (dTest (dBin gEq (dVar 3) (dC (.int 1)))) (dTest (dBin gEq (dVar 3) (dC (.int 2)))))) (nSeq (nSet 4 (nTc f_law_draw 1 (nCons (nP (dCall gLen [(dBin gIx (dVar 1) (dC (.int 4)))])) nNil))) (nRet (nP (dBin gAdd (dBin gAdd (dSl (dVar 1) (fun _ => some none) (dPart (dC (.int 4)))) (dTup [(dBin gAdd (dBin gAdd (dSl (dBin gIx (dVar 1) (dC (.int 4))) (fun _ => some none) (dPart (dVar 4))) (dTup [(dBin gAdd (dBin gIx (dBin gIx (dVar 1) (dC (.int 4))) (dVar 4)) (dC (.int 1)))])) (dSl (dBin gIx (dVar 1) (dC (.int 4))) (dPart (dBin gAdd (dVar 4) (dC (.int 1)))) (fun _ => some none)))])) (dSl (dVar 1) (dPart (dC (.int 5))) (fun _ => some none)))))) nSkip) (nSeq (nIf (nPT (dTest (dBin gEq (dVar 3) (dC (.int 3))))) (nRet (nBin gAdd (nBin gAdd (nP (dSl (dVar 1) (fun _ => some none) (dPart (dC (.int 6))))) (nTup (nCons (nTc f_law_color 0 nNil) nNil))) (nP (dSl (dVar 1) (dPart (dC (.int 7))) (fun _ => some none))))) nSkip) (nSeq (nIf (nPT (dTest (dBin gEq (dVar 3) (dC (.int 4))))) (nRet (nBin gAdd (nBin gAdd (nP (dSl (dVar 1) (fun _ => some none) (dPart (dC (.int 7))))) (nTup (nCons (nTc f_law_color 0 nNil) nNil))) (nP (dSl (dVar 1) (dPart (dC (.int 8))) (fun _ => some none))))) nSkip) (nRet (nBin gAdd (nP (dSl (dVar 1) (fun _ => some none) (dPart (dC (.int 8))))) (nTup (nCons (nTc f_law_clip 1 (nCons (nP (dVar 2)) nNil)) nNil)))))))))
def f_law_changed_item : List PyData → Nd PyData := runN F_law_changed_item 5
theorem ok_law_changed_item [Wd] (T : Tx K mg) : Ok Wd.P Wd.w K mg base "_law_changed_item" 4 ["_law_tape_here", "_law_item", "_law_room"] (spN f_law_changed_item 2) := T.law_changed_item.tape (F := F_law_changed_item) (own := []) sc_law_changed_item bo_law_changed_item rfl rfl (by decide) (by decide) fun f cdv A outer s H E U hr => (ns_cons (ns_set 3 sc_law_changed_item.nd rfl (Or.inl rfl) (ne_tcl (ok_law_draw T) hr (na_tape rfl rfl (na_cons (ne_pure de_int) na_nil))) (by show (3 : Nat) ∉ ([] : List Nat); decide) (by show (3 : Nat) ≠ 0; decide)) (ns_cons (ns_if (nt_pure (dt_eq (de_var 3) de_int)) (ns_one (ns_ret (ne_add (ne_add (ne_pure (de_slice (de_var 1) do_none (do_some de_int))) (ne_tcl (ok_law_form T) hr (na_tape rfl rfl (na_cons (ne_pure (de_var 2)) na_nil)))) (ne_pure (de_slice (de_var 1) (do_some de_int) do_none))))) ns_nil) (ns_cons (ns_if (nt_pure (PW.pt (dw_or (dt_eq (de_var 3) de_int) (dw_or1 (dt_eq (de_var 3) de_int))))) (ns_cons (ns_set 4 sc_law_changed_item.nd rfl (Or.inl rfl) (ne_tcl (ok_law_draw T) hr (na_tape rfl rfl (na_cons (ne_pure (de_len T.b_len (da_cons (de_ix (de_var 1) de_int) da_nil))) na_nil))) (by show (4 : Nat) ∉ ([] : List Nat); decide) (by show (4 : Nat) ≠ 0; decide)) (ns_one (ns_ret (ne_pure (de_add (de_add (de_slice (de_var 1) do_none (do_some de_int)) (de_tup (da_cons (de_add (de_add (de_slice (de_ix (de_var 1) de_int) do_none (do_some (de_var 4))) (de_tup (da_cons (de_add (de_ix (de_ix (de_var 1) de_int) (de_var 4)) de_int) da_nil))) (de_slice (de_ix (de_var 1) de_int) (do_some (de_add (de_var 4) de_int)) do_none)) da_nil))) (de_slice (de_var 1) (do_some de_int) do_none)))))) ns_nil) (ns_cons (ns_if (nt_pure (dt_eq (de_var 3) de_int)) (ns_one (ns_ret (ne_add (ne_add (ne_pure (de_slice (de_var 1) do_none (do_some de_int))) (ne_tup (na_cons (ne_tcl (ok_law_color T) hr (na_tape rfl rfl na_nil)) na_nil))) (ne_pure (de_slice (de_var 1) (do_some de_int) do_none))))) ns_nil) (ns_cons (ns_if (nt_pure (dt_eq (de_var 3) de_int)) (ns_one (ns_ret (ne_add (ne_add (ne_pure (de_slice (de_var 1) do_none (do_some de_int))) (ne_tup (na_cons (ne_tcl (ok_law_color T) hr (na_tape rfl rfl na_nil)) na_nil))) (ne_pure (de_slice (de_var 1) (do_some de_int) do_none))))) ns_nil) (ns_one (ns_ret (ne_add (ne_pure (de_slice (de_var 1) do_none (do_some de_int))) (ne_tup (na_cons (ne_tcl (ok_law_clip T) hr (na_tape rfl rfl (na_cons (ne_pure (de_var 2)) na_nil))) na_nil))))))))))
theorem sc_law_scene : FnScope ["_law_tape_here", "_law_width_here", "_law_height", "_law_room", "_law_many", "_law_items", "_law_k"] ["_law_tape_here", "_law_width_here", "_law_height", "_law_room", "_law_many"] (defScope s_law_scene) := ⟨rfl, rfl, rfl, by decide +kernel, rfl, by decide +kernel, by decide +kernel⟩
theorem bo_law_scene : BindOk "_law_scene" s_law_scene ["_law_tape_here", "_law_width_here", "_law_height", "_law_room", "_law_many"] := fun _ _ _ _ _ _ us hl => match us, hl with | [_, _, _, _, _], _ => rfl
def L0_law_scene : Sl → Nd Out := (nApp 5 (nTc f_law_primitive 2 (nCons (nTc f_law_new_identity 1 (nCons (nP (dCall f_law_identities [(dVar 5)])) nNil)) (nCons (nP (dVar 3)) nNil))))
def F_law_scene : Sl → Nd Out := (nSeq (nNew 5) (nSeq (nFor 6 (nRg1 (nCons (nP (dVar 4)) nNil)) L0_law_scene) (nRet (nP (dTup [(dVar 1), (dVar 2), (dCall gTuple [(dVar 5)])])))))
def f_law_scene : List PyData → Nd PyData := runN F_law_scene 7
theorem ok_law_scene [Wd] (T : Tx K mg) : Ok Wd.P Wd.w K mg base "_law_scene" 5 ["_law_tape_here", "_law_width_here", "_law_height", "_law_room", "_law_many"] (spN f_law_scene 4) := T.law_scene.tape (F := F_law_scene) (own := [5]) sc_law_scene bo_law_scene rfl rfl (by decide) (by decide) fun f cdv A outer s H E U hr => (ns_cons (ns_new 5 sc_law_scene.nd rfl (Or.inl rfl) (by show (5 : Nat) ∈ ([5] : List Nat); decide) (by show (5 : Nat) ≠ 0; decide)) (ns_cons (ns_for (i := 6) PassesOwn.never rfl (ni_range1 rfl T.b_range (na_cons (ne_pure (de_var 4)) na_nil)) (pg_name (i := 6) sc_law_scene.nd rfl (Or.inl rfl)) (ns_one (ns_app 5 rfl (by show (5 : Nat) ∈ ([5] : List Nat); decide) (ne_tcl (ok_law_primitive T) hr (na_tape rfl rfl (na_cons (ne_tcl (ok_law_new_identity T) hr (na_tape rfl rfl (na_cons (ne_pure (de_cl (ok_law_identities T) hr (da_cons (de_var 5) da_nil))) na_nil))) (na_cons (ne_pure (de_var 3)) na_nil)))))) (by show (6 : Nat) ∉ ([5] : List Nat); decide) (by show (6 : Nat) ≠ 0; decide)) (ns_one (ns_ret (ne_pure (de_tup (da_cons (de_var 1) (da_cons (de_var 2) (da_cons (de_tuple T.b_tuple (da_cons (de_var 5) da_nil)) da_nil)))))))))
end
end Cs
/-! ### a list made from reversed(a list), at the library's level -/
namespace CsLow
open PySem PySem.Spec PyProof.Rows
section
variable {prog : Program} {w : World} {A : Around} {E : Value → Shared → Prop} {s : Shared} {it l : Addr} {items : Array Value}
theorem rev_hint {Q : Bool → Shared → Prop} (hT : s.TypeIs (.ref it) "list_reverseiterator") (h : Q false s) : wpAny (model prog w) A (Builtin.List.listLengthHint (.ref it)) Q E s := by
  unfold Builtin.List.listLengthHint
  refine wpAny_bind (wpAny_specialOf hT RT.nolen_lri ?_)
  show wpAny _ A (specialOf (Value.ref it) (Str.ofString "__length_hint__") >>= _) _ _ _
  refine wpAny_bind (wpAny_specialOf hT RT.hint_lri ?_)
  generalize hid : ("list_reverseiterator.__length_hint__" : String) = id0
  wp_delta
  rw [show splitId id0 = some ("list_reverseiterator", "__length_hint__") from by subst hid; decide +kernel]
  subst hid
  refine wpAny_bind (wpAny_isInstance (b := true) hT (by rw [isSubtype_type]; kernel_rfl) ?_)
  exact wpAny_pure h
theorem rev_extend {R : Result → Shared → Prop} (hh : A.handled = none) (hit : s.heap.IsRevIter it l ((items.size : Int) - 1)) (hl : s.heap.IsList l items) (hne : l ≠ it) (hn : items.size ≤ sizeLine) (S : Addr) (hSi : S ≠ it) (hSl : S ≠ l) (res : Value) (c₀ : Nat)
    (hS : s.heap.get? S = some { cls := .type "list", data := .seq #[] c₀ })
    (hR : ∀ h' tk acc' c', (∀ b o, b ≠ S → b ≠ it → s.heap.get? b = some o → h'.get? b = some o) → h'.get? S = some { cls := .type "list", dict := none, data := .seq acc' c', slots := #[] } → ItemsOf (fun i v => items[items.size - 1 - i]? = some v) acc' items.size → R (.ok (.ret res)) { s with heap := h', toks := tk }) :
    wpAny (model prog w) A.in1 (Builtin.List.listExtendWith (.ref S) (.ref it) res)
      (fun fin s' => match fin with | .done f => R (.ok f) s' | .again c' => c'.quiet = true ∧ codeAny (model prog w) A c' R s') (fun e s' => R (.error e) s') s := by
  have W := (Walks.listRev (prog := prog) (w := w) (A := A.in1) hh it l hne items).toS
  have hSf : S ∉ [it, l] := by simp only [List.mem_cons, List.not_mem_nil, or_false, not_or]; exact ⟨hSi, hSl⟩
  have hT : s.TypeIs (.ref it) "list_reverseiterator" := hit.typeIs
  have h1 : Builtin.List.listSameRef (.ref S) (.ref it) = false := by simp [Builtin.List.listSameRef, hSi]
  have e0 : ((items.size : Nat) : Int) - 1 - ((0 : Nat) : Int) = (items.size : Int) - 1 := by omega
  unfold Builtin.List.listExtendWith
  refine wpAny_bind (wpAny_typeOf hT ?_)
  rw [if_neg (by rw [h1]; decide)]
  refine wpAny_bind (wpAny_pyIter_revIter hit ?_)
  refine wpAny_bind (wpAny_holding (rev_hint hT ?_))
  rw [if_neg (by decide)]
  refine wpAny_pure ⟨plainId_quiet F.plain_extend_loop _, codeAny_extend_loopS W hn S hSf res items.size 0 _ #[] c₀ rfl (Nat.zero_le _) ⟨Nat.zero_le _, by rw [e0]; exact hit, hl⟩ hS (ItemsOf.nil _) fun s' acc' c' hm hS' hacc => ?_⟩
  rw [Moved.eq_with hm]
  refine hR s'.heap s'.toks acc' c' (fun b o hb hb2 e => hm.heap b o (fun hmem => ?_) e) hS' hacc
  rcases List.mem_cons.mp hmem with e' | hmem
  · exact hb e'
  · exact hb2 (List.mem_singleton.mp hmem)
theorem rev_init {R : Result → Shared → Prop} (hh : A.handled = none) (hit : s.heap.IsRevIter it l ((items.size : Int) - 1)) (hl : s.heap.IsList l items) (hne : l ≠ it) (hn : items.size ≤ sizeLine) (S : Addr) (hSi : S ≠ it) (hSl : S ≠ l)
    (hS : s.heap.get? S = some { cls := .type "list", data := .seq #[] })
    (hR : ∀ h' tk acc' c', (∀ b o, b ≠ S → b ≠ it → s.heap.get? b = some o → h'.get? b = some o) → h'.get? S = some { cls := .type "list", dict := none, data := .seq acc' c', slots := #[] } → ItemsOf (fun i v => items[items.size - 1 - i]? = some v) acc' items.size → R (.ok (.ret .none)) { s with heap := h', toks := tk }) :
    wpAny (model prog w) A.in1 (Builtin.«list.__init__» ⟨[.ref S, .ref it], []⟩)
      (fun fin s' => match fin with | .done f => R (.ok f) s' | .again c' => c'.quiet = true ∧ codeAny (model prog w) A c' R s') (fun e s' => R (.error e) s') s := by
  show wpAny _ _ (do let old ← Builtin.List.listItems (.ref S); Builtin.List.listUpdate (.ref S) (fun _ => #[]); letGo old.toList.reverse; Builtin.List.listExtendWith (.ref S) (.ref it) .none) _ _ s
  refine wpAny_bind ?_
  unfold Builtin.List.listItems
  refine wpAny_bind (wpAny_seqItems hS rfl (wpAny_pure ?_))
  show wpAny _ _ (updateSeq S (fun _ => #[]) >>= fun _ => letGo (#[] : Array Value).toList.reverse >>= fun _ => Builtin.List.listExtendWith (.ref S) (.ref it) .none) _ _ s
  refine wpAny_bind (wpAny_updateSeq hS rfl ?_)
  have hS₂ := Heap.get?_update_self (Obj.mapSeq (fun _ => (#[] : Array Value))) hS rfl
  have oth : ∀ b o, b ≠ S → s.heap.get? b = some o → (s.heap.update S (Obj.mapSeq (fun _ => (#[] : Array Value)))).get? b = some o :=
    fun b o hb e => (Heap.get?_update_other _ _ (Ne.symm hb)).trans e
  refine wpAny_bind (wpAny_letGo ?_)
  refine rev_extend (s := { s with heap := s.heap.update S (Obj.mapSeq (fun _ => (#[] : Array Value))) }) hh (hit.at fun o e => oth it o (Ne.symm hSi) e) ?_ hne hn S hSi hSl .none _ hS₂ fun h' tk acc' c' hk hS' hacc => ?_
  · obtain ⟨o, e, r⟩ := hl
    exact ⟨o, oth l o (Ne.symm hSl) e, r⟩
  · exact hR h' tk acc' c' (fun b o hb hb2 e => hk b o hb hb2 (oth b o hb e)) hS' hacc
theorem call_list_rev {Q : Value → Shared → Prop} (hh : A.handled = none) (hit : s.heap.IsRevIter it l ((items.size : Int) - 1)) (hl : s.heap.IsList l items) (hne : l ≠ it) (hn : items.size ≤ sizeLine)
    (hQ : ∀ h' tk acc' c', (∀ b o, b ≠ it → s.heap.get? b = some o → h'.get? b = some o) → h'.get? s.heap.objs.size = some { cls := .type "list", dict := none, data := .seq acc' c', slots := #[] } → ItemsOf (fun i v => items[items.size - 1 - i]? = some v) acc' items.size → Q (.ref s.heap.objs.size) { s with heap := h', toks := tk }) :
    wpAny (model prog w) A (call (.type "list") [.ref it]) Q E s := by
  refine callType_codes (Q₁ := fun obj s₁ => obj = .ref s.heap.objs.size ∧ s₁ = { s with heap := s.heap.push { cls := .type "list", data := .seq #[] } }) PySem.F.called_list (PySem.F.typeCall_list_1 _) PySem.F.entry_list_init
    (code_list_new _ ⟨rfl, rfl⟩) fun obj s₁ h₁ => ?_
  obtain ⟨rfl, rfl⟩ := h₁
  have hS : (s.heap.push { cls := .type "list", data := .seq #[] }).get? s.heap.objs.size = some { cls := .type "list", data := .seq #[] } := Heap.get?_push_size _ rfl
  obtain ⟨oi, hoi, _⟩ := id hit
  obtain ⟨ol, hol, _⟩ := id hl
  have hSi : s.heap.objs.size ≠ it := Nat.ne_of_gt (Heap.lt_size hoi)
  have hSl : s.heap.objs.size ≠ l := Nat.ne_of_gt (Heap.lt_size hol)
  refine ⟨⟨_, hS, rfl⟩, PySem.F.args_list_init_2 _ _, rev_init (s := { s with heap := s.heap.push { cls := .type "list", data := .seq #[] } }) (A := A.in1) hh (hit.at fun o e => Heap.get?_push_of_some _ e) (hl.push _) hne hn _ hSi hSl hS fun h' tk acc' c' hk hS' hacc => ?_⟩
  exact ⟨rfl, hQ h' tk acc' c' (fun b o hb e => hk b o (Nat.ne_of_lt (Heap.lt_size e)) hb (Heap.get?_push_of_some _ e)) hS' hacc⟩
end
end CsLow
namespace Cs
open PySem PySem.Spec PyProof.Rows L2
/-- list(reversed(x)), x a list -/
def tLstRev (K : PySem.W.Frag) (te : TE) : TE := fun σ H Q => te σ H fun v H1 => ∃ (a : Addr) (xs : List V), v = .ref a ∧ SqL K H1 a xs ∧ ∀ q, H1 q = none → Q (.ref q) (upd H1 q (.lst xs.reverse))
theorem pe_lstRev {X : Cx} {e : Expr} {te : TE} {p p2 pos pos2 : Pos} (hc : X.calm = true) (hm : X.mg "list" = none) (hm2 : X.mg "reversed" = none) (he : PE X e te) (hg : Gl X "list" := by rfl) (hg2 : Gl X "reversed" := by rfl)
    (hs : starEach [e] X.env = (false, eval e X.env) :: starEach [] X.env := by rfl)
    (hs2 : starEach [.Call (.Name "reversed" p2) [e] [] pos2] X.env = (false, eval (.Call (.Name "reversed" p2) [e] [] pos2) X.env) :: starEach [] X.env := by rfl) :
    PE X (.Call (.Name "list" p) [.Call (.Name "reversed" p2) [e] [] pos2] [] pos) (tLstRev X.K te) := by
  refine ⟨fun pins s σ H Q I h => ?_⟩
  refine Call_ (ld_blt I hg hm boot_list (PyProof.Rows.callWith_type1 (args_cons (Call_ (ld_blt I hg2 hm2 PyProof.Rows.boot_reversed (PyProof.Rows.callWith_type1 (args_cons (thn (he.run pins s σ H _ I h) fun u s1 ⟨v, H1, I1, r1, q1⟩ => args_nil ?_) hs) hs rfl))) hs2) hs2 rfl))
  obtain ⟨a, xs, ev, hq, q⟩ := q1
  subst ev
  obtain rfl : u = Value.ref a := r1
  obtain ⟨its, rv, p', hz⟩ := I1.list hq
  refine call_reversed_list p'.isList (args_nil ?_)
  have k0 : ∀ b o, s1.heap.get? b = some o → (s1.heap.push (revObj a ((its.toArray.size : Int) - 1))).get? b = some o := fun b o e => Heap.get?_push_of_some _ e
  have I2 : Inv X pins σ H1 { s1 with heap := s1.heap.push (revObj a ((its.toArray.size : Int) - 1)) } := I1.kept (t' := s1.toks) k0
  obtain ⟨f0, f1, f2, f3, f4, f5⟩ := I1.fpOk (H' := H1) (b := s1.heap.objs.size) (Nat.le_refl _) (I1.hok.fresh (Nat.le_refl _))
  have hl := p'.isList
  obtain ⟨ol, hol, _⟩ := id hl
  have hne : a ≠ s1.heap.objs.size := Nat.ne_of_lt (Heap.lt_size hol)
  have hn : its.toArray.size ≤ sizeLine := by rw [List.size_toArray, ← rv.length]; exact hz
  have hz2 : (s1.heap.push (revObj a ((its.toArray.size : Int) - 1))).objs.size = s1.heap.objs.size + 1 := Heap.size_push ..
  refine CsLow.call_list_rev (s := { s1 with heap := s1.heap.push (revObj a ((its.toArray.size : Int) - 1)) }) (I1.ok.hd hc) ⟨_, Heap.get?_push_size _ rfl, rfl, rfl⟩ (hl.push _) hne hn fun h' tk acc c' hk hS hi => ?_
  have hfr : H1 (s1.heap.push (revObj a ((its.toArray.size : Int) - 1))).objs.size = none := I2.hok.fresh (Nat.le_refl _)
  refine ⟨.ref _, upd H1 (s1.heap.push (revObj a ((its.toArray.size : Int) - 1))).objs.size (.lst xs.reverse), I2.turnedNew (t' := tk) (ch := [s1.heap.objs.size]) (fun b o hb e => hk b o (by simpa using hb) e) (fun b hb => ?_) (Nat.le_refl _) (show ObjOk X.prog X.w _ _ _ (.lst xs.reverse) from ⟨by rw [List.length_reverse]; exact hz, acc.toList, c', RT.vals_rev rv hi, ?_⟩), rfl, q _ hfr⟩
  · have e : b = s1.heap.objs.size := by simpa using hb
    subst e
    exact ⟨f0, f1, f2, f3, f4, f5⟩
  · rw [Array.toArray_toList]
    exact hS
end Cs
namespace Cs
open PySem PySem.Spec PyProof.Rows L2
/-! ### pop, and the list that is turned -/
def nPop (i j : Nat) (f : Sl → Nd PyData) : Sl → Nd Out := fun s => match getL i s with
  | some ds => (f s).bnd fun k => match k with
    | .int k => if 0 ≤ k ∧ k < ds.length ∧ k < 1000000 then (match ds[k.toNat]? with
      | some d => Nd.ret (.nx ((s.set i (some (.list (ds.eraseIdx k.toNat)))).set j (some d)))
      | none => Nd.fail) else Nd.fail
    | _ => Nd.fail
  | none => Nd.fail
theorem RAll.erase [Wd] {H : Hp} : ∀ {ds : List PyData} {xs : List V} (k : Nat), RAll H xs ds → RAll H (xs.eraseIdx k) (ds.eraseIdx k)
  | [], _, k, h => by rw [h.nil]; exact ra_nil
  | d :: ds, _, 0, h => by
    obtain ⟨x, r, rfl, h1, h2⟩ := h.cons
    exact h2
  | d :: ds, _, k + 1, h => by
    obtain ⟨x, r, rfl, h1, h2⟩ := h.cons
    exact ra_cons h1 (RAll.erase k h2)
theorem noLs_erase : ∀ {ds : List PyData} (k : Nat), noLs ds = true → noLs (ds.eraseIdx k) = true
  | [], _, _ => rfl
  | a :: r, 0, n => by
    unfold noLs at n
    exact (Bool.and_eq_true_iff.mp n).2
  | a :: r, k + 1, n => by
    unfold noLs at n
    obtain ⟨n1, n2⟩ := Bool.and_eq_true_iff.mp n
    show (noL a && noLs (r.eraseIdx k)) = true
    rw [n1, noLs_erase k n2]
    rfl
section
variable [Wd] {X : Cx} {Z : Fr} {e : Expr} {f' : Sl → Nd PyData} {pos : Pos}
theorem ns_pop (i j : Nat) {x y : Str} {px py apos cpos : Pos} (hN : X.N.Nodup) (hi : X.N[i]? = some x) (hj : X.N[j]? = some y) (hy : Loc X.env.scope y) (ho : i ∈ Z.own) (hoj : j ∉ Z.own) (htj : j ≠ Z.ti) (he : PE X e (tN Z f')) (hv : Vis X.env.scope x := by first | exact Or.inl rfl | exact Or.inr (Or.inl rfl) | exact Or.inr (Or.inr rfl)) (hd : (x == ("__debug__" : Str)) = false := by decide)
    (hcd : (x == ("__classdict__" : Str)) = false := by decide) (hs : starEach [e] X.env = (false, eval e X.env) :: starEach [] X.env := by rfl)
    (hbase : attributeBase (.Name x px) "pop" X.env (eval (.Name x px) X.env) = eval (.Name x px) X.env := by rfl)
    (hfew : ((backTo cpos (starEach [e] X.env)).all (fun x => !x.1) && (backToKw cpos (keywordEach [] X.env)).all (fun x => x.1.isSome) && decide (([e] : List Expr).length + ([] : List Keyword).length + (if ([] : List Keyword).isEmpty then 0 else 1) < 30)) = true := by rfl)
    (hline : (apos.endLine == cpos.line) = true := by rfl) (hsw : swapsWith (.Call (.Attribute (.Name x px) "pop" apos) [e] [] cpos) (some (.Name y py)) pos.line X.env = pure false := by rfl) (hf : X.fn y = true ∨ X.env.scope.names.lookup y = some .local := by first | exact .inl rfl | exact .inr rfl | assumption) :
    PS X (.Assign [.Name y py] (.Call (.Attribute (.Name x px) "pop" apos) [e] [] cpos) pos) (tNS Z (nPop i j f')) :=
  PS.sub (ps_set hN hj hy (pe_bm PySem.F.plainAttrs_list PySem.F.slot_list_pop PySem.F.type_list_pop mt_popAt (pe_var hi hv hd hcd) (pa_cons he pa_nil hs) hbase hfew hline hs rfl) hsw hf) fun D σ H ⟨sd, rs, w⟩ => by
    unfold nPop at w
    cases e1 : getL i sd with
    | none => rw [e1] at w; exact w.elim
    | some ds =>
      rw [e1] at w
      have hsd := getL_some e1
      obtain ⟨q, xs, us, h1, h2, h3, h4, h5⟩ := rs.ow i ho _ hsd
      cases h1
      refine ⟨_, h3, .inl ⟨rfl, xs, SqL.of (pun_le _ _ h4)⟩, sd, rs, (f' sd).mono (fun d wd H1 v e2 r2 => ?_) w⟩
      try dsimp only at wd
      split at wd
      · rename_i k
        by_cases n : 0 ≤ k ∧ k < ds.length ∧ k < 1000000
        · rw [if_pos n] at wd
          have rs1 := rs.mono e2
          obtain ⟨q', xs', us', g1, g2, g3, g4, g5⟩ := rs1.ow i ho _ hsd
          cases g1
          rw [h3] at g3
          cases g3
          obtain ⟨np, g6⟩ := pun_some g4
          obtain ⟨v0, k1, k2⟩ := rs1.rs.get i _ hsd
          rw [h3] at k1
          cases k1
          obtain ⟨q2, xs2, k3, k4, k5⟩ := k2.lst
          cases k3
          rw [g4] at k4
          cases k4
          have hk : ds[k.toNat]? = some ds[k.toNat] := List.getElem?_eq_getElem (by omega)
          rw [hk] at wd
          obtain ⟨y, y1, y2⟩ := k5.get hk
          have gr : Grow H1 (upd H1 q (.lst (xs'.eraseIdx k.toNat))) := grow_upd g6
          have rs2 := rs1.write ho hsd h3 g6 np g5 (k5.erase k.toNat) (noLs_erase k.toNat g2)
          have nd := noLs_get g2 hk
          have n1 := n.1
          have n3 := n.2.2
          refine ⟨q, xs', k, k.toNat, y, rfl, by rw [r2.int], g6, by clear wd; omega, by clear wd; omega, ?_, y1, ?_⟩
          · have := k5.length
            have ek : k = ((k.toNat : Nat) : Int) := by omega
            rw [ek]
            exact seqIndex_of (by omega) (by omega)
          · refine wd _ _ ((e2.grow rs.tp).trans gr) (rs2.set hoj htj nd ?_)
            have y3 : R H1 y ds[k.toNat] := y2.mono pun_le
            exact (y3.grow gr nd).pun rs2.tp (tidy_noL nd)
        · rw [if_neg n] at wd
          exact wd.elim
      · exact wd.elim
end
theorem erase_perm : ∀ {l : List PyData} {k : Nat} (h : k < l.length), (l[k] :: l.eraseIdx k).Perm l
  | a :: r, 0, _ => List.Perm.refl _
  | a :: r, k + 1, h => by
    have h' : k < r.length := by simpa using h
    show (r[k] :: (a :: r.eraseIdx k)).Perm (a :: r)
    exact (List.Perm.swap a r[k] _).trans ((erase_perm h').cons a)
theorem ins_perm (l : List PyData) (k : Nat) (d : PyData) : (l.take k ++ [d] ++ l.drop k).Perm (d :: l) := by
  have e : l.take k ++ [d] ++ l.drop k = l.take k ++ d :: l.drop k := by simp
  rw [e]
  have p := List.perm_middle (a := d) (l₁ := l.take k) (l₂ := l.drop k)
  rw [List.take_append_drop] at p
  exact p
theorem draw_wp {m : Int} (hm : m ≤ 1000000000) {Q : PyData → Prop} (h : ∀ k : Int, 0 ≤ k → k < max m 1 → Q (.int k)) : (f_law_draw [.int m]).wp Q := by
  show (if m ≤ 1000000000 then (Nd.any fun k : Int => 0 ≤ k ∧ k < max m 1).bnd fun k => Nd.ret (.int k) else Nd.fail).wp Q
  rw [if_pos hm]
  exact fun k hk => h k hk.1 hk.2
theorem draw_at {f : Sl → Option PyData} {s : Sl} {m : Int} (e : f s = some (.int m)) (hm : m ≤ 1000000000) {Q : PyData → Prop} (h : ∀ k : Int, 0 ≤ k → k < max m 1 → Q (.int k)) : (nTc f_law_draw 1 (nCons (nP f) nNil) s).wp Q := by
  refine ⟨.int m, e, rfl, ?_⟩
  show (if ([PyData.int m] : List PyData).length = 1 then f_law_draw [.int m] else Nd.fail).wp Q
  rw [if_pos (show ([PyData.int m] : List PyData).length = 1 from rfl)]
  exact draw_wp hm h
def nTurn (i : Nat) : Sl → Nd Out := fun s => match getL i s with
  | some ds => if ds.length ≤ 100 then (Nd.any fun es : List PyData => es.Perm ds).bnd fun es => Nd.ret (.nx (s.set i (some (.list es)))) else Nd.fail
  | none => Nd.fail
/-- a list goes in; it, or a new one, comes out with the same items -/
def spTn [Wd] : Sp := fun vs H Q _ => ∃ T p xs ds, vs = [.ref T.a, .ref p] ∧ TapeOk (some T) H ∧ p ≠ T.a ∧ p ≠ T.sl ∧ H p = some (.lst xs) ∧ RAll (pun H (some T)) xs ds ∧ noLs ds = true ∧ ds.length ≤ 100 ∧
  ∀ (H' : Hp) (q : Addr) (ys : List V) (es : List PyData), TapeOk (some T) H' → (∀ b o, b ≠ p → b ≠ T.a → H b = some o → H' b = some o) → H' q = some (.lst ys) → q ≠ T.a → (q = p ∨ H q = none) → RAll (pun H' (some T)) ys es → noLs es = true → es.Perm ds → Q (.ref q) H'
theorem noLs_mem {ds : List PyData} : noLs ds = true ↔ ∀ d ∈ ds, noL d = true := by
  induction ds with
  | nil => exact ⟨fun _ d hd => (nomatch hd), fun _ => rfl⟩
  | cons a r ih =>
    show (noL a && noLs r) = true ↔ _
    rw [Bool.and_eq_true_iff, ih]
    constructor
    · rintro ⟨h1, h2⟩ d hd
      rcases List.mem_cons.mp hd with rfl | hd
      · exact h1
      · exact h2 d hd
    · exact fun h => ⟨h a List.mem_cons_self, fun d hd => h d (List.mem_cons_of_mem _ hd)⟩
section
variable [Wd] {X : Cx} {Z : Fr} {pos : Pos}
theorem ns_turn (i : Nat) {x y g : Str} {pt px py pg cp : Pos} {k j : Nat} {ps : List Str} (F : Ok X.prog X.w X.K X.mg X.base g k ps spTn) (hr : Room j X.A) (hN : X.N.Nodup) (hi : X.N[i]? = some y) (hT : X.N[Z.ti]? = some x) (ht : Z.t.isSome = true) (hx : X.env.scope.names.lookup y = some .local) (ho : i ∈ Z.own) (hti : i ≠ Z.ti) (hkj : k ≤ j := by decide) (hg : Gl X g := by rfl)
    (hvx : Vis X.env.scope x := by first | exact Or.inl rfl | exact Or.inr (Or.inl rfl) | exact Or.inr (Or.inr rfl)) (hdx : (x == ("__debug__" : Str)) = false := by decide) (hcx : (x == ("__classdict__" : Str)) = false := by decide) (hdy : (y == ("__debug__" : Str)) = false := by decide) (hcy : (y == ("__classdict__" : Str)) = false := by decide) (hdb : (g == ("__debug__" : Str)) = false := by decide)
    (h1 : starEach [.Name x pt, .Name y px] X.env = (false, eval (.Name x pt) X.env) :: starEach [.Name y px] X.env := by rfl) (h2 : starEach [.Name y px] X.env = (false, eval (.Name y px) X.env) :: starEach [] X.env := by rfl) (hpl : (backTo cp (starEach [.Name y px] X.env)).any (·.1) = false := by rfl)
    (hs : swapsWith (.Call (.Name g pg) [.Name x pt, .Name y px] [] cp) (some (.Name y py)) pos.line X.env = pure false := by rfl) :
    PS X (.Assign [.Name y py] (.Call (.Name g pg) [.Name x pt, .Name y px] [] cp) pos) (tNS Z (nTurn i)) :=
  PS.sub (ps_set hN hi (.inl hx) (pe_cl F hr (pa_cons (pe_var hT hvx hdx hcx) (pa_cons (pe_var hi (.inl hx) hdy hcy) pa_nil h2) h1) hkj hg hdb h1 hpl) hs (.inr hx)) fun D σ H ⟨sd, rs, w⟩ => by
    unfold nTurn at w
    cases e1 : getL i sd with
    | none => rw [e1] at w; exact w.elim
    | some ds =>
      rw [e1] at w
      dsimp only at w
      by_cases hl : ds.length ≤ 100
      · rw [if_pos hl] at w
        have hsd := getL_some e1
        obtain ⟨p, xs, us, g1, g2, g3, g4, g5⟩ := rs.ow i ho _ hsd
        cases g1
        obtain ⟨T, hT⟩ := Option.isSome_iff_exists.mp ht
        obtain ⟨np, g6⟩ := pun_some g4
        have hpa : p ≠ T.a := fun z => np ⟨T, hT, z.symm⟩
        obtain ⟨q0, hh, m, a1, a2, a3, a4⟩ := rs.tp T hT
        have hps : p ≠ T.sl := fun z => by
          have z2 := g5
          rw [z, pun_ne (fun ⟨T', e', z'⟩ => by rw [hT] at e'; cases e'; exact a2 z'.symm)] at z2
          exact rs.sl T hT z2
        obtain ⟨v0, k1, k2⟩ := rs.rs.get i _ hsd
        rw [g3] at k1
        cases k1
        obtain ⟨p2, xs2, k3, k4, k5⟩ := k2.lst
        cases k3
        rw [g4] at k4
        cases k4
        have tp := rs.tp
        rw [hT] at tp k5
        refine ⟨_, rs.tv T hT, _, g3, T, p, xs, ds, rfl, tp, hpa, hps, g6, k5, g2, hl, fun H' q ys es t' fr hq hqa hqp r' nl pe => ?_⟩
        have gr : Grow H H' := fun b zs e => fr b _ (fun z => by rw [z, g6] at e; cases e) (fun z => by rw [z, a1] at e; cases e) e
        have sm0 : Same (pun Z.H0 Z.t) (pun H' Z.t) := fun b o e => by
          obtain ⟨n1, c⟩ := pun_some (rs.ef b o e)
          rw [pun_ne n1]
          refine fr b o (fun z => ?_) (fun z => n1 ⟨T, hT, z.symm⟩) c
          rw [z, g5] at e
          cases e
        have own : ∀ j ∈ Z.own, j ≠ i → ∀ d, sd[j]? = some (some d) → ∃ q zs us, d = .list us ∧ noLs us = true ∧ σ[j]? = some (some (.ref q)) ∧ pun H' Z.t q = some (.lst zs) ∧ pun Z.H0 Z.t q = none ∧ pun H Z.t q = some (.lst zs) ∧ q ≠ p := fun j hj hij d hd' => by
          obtain ⟨q, zs, us, h1, h2, h3, h4, h5⟩ := rs.ow j hj d hd'
          have hqp : q ≠ p := fun e => rs.sep i ho j hj (Ne.symm hij) _ _ hsd hd' (by rw [g3, h3, e])
          obtain ⟨a, c⟩ := pun_some h4
          exact ⟨q, zs, us, h1, h2, h3, by rw [pun_ne a]; exact fr q _ hqp (fun z => a ⟨T, hT, z.symm⟩) c, h5, h4, hqp⟩
        have base : ∀ (j : Nat) (d : PyData), j ≠ i → sd[j]? = some (some d) → ∃ v, σ[j]? = some (some v) ∧ R (pun H' Z.t) v d := fun j d hij e => by
          by_cases hj : j ∈ Z.own
          · obtain ⟨q, zs, us, h1, h2, h3, h4, h5, h6, _⟩ := own j hj hij d e
            obtain ⟨v, e1, e2⟩ := rs.rs.get j d e
            rw [h3] at e1
            cases e1
            subst h1
            obtain ⟨q', zs', e3, e4, e5⟩ := e2.lst
            cases e3
            rw [h6] at e4
            cases e4
            refine ⟨_, h3, r_lst h4 ?_⟩
            have e6 : RAll H' zs us := (RAll.mono pun_le e5).grow gr h2
            have tpo : TapeOk Z.t H' := by rw [hT]; exact t'
            exact e6.grow (grow_pun tpo) h2
          · obtain ⟨v, e1, e2⟩ := rs.rs.get j d e
            rcases rs.st j d hj e with nl | ⟨v', e3, e4⟩
            · have tpo : TapeOk Z.t H' := by rw [hT]; exact t'
              exact ⟨v, e1, ((e2.mono pun_le).grow gr nl).pun tpo (tidy_noL nl)⟩
            · exact ⟨v', e3, e4.mono sm0⟩
        have li : i < sd.length := by
          by_cases hl : i < sd.length
          · exact hl
          · rw [List.getElem?_eq_none (by simpa using hl)] at hsd; cases hsd
        have q0' : pun Z.H0 Z.t q = none := by
          rcases hqp with rfl | hn
          · exact g5
          · cases e : pun Z.H0 Z.t q with
            | none => rfl
            | some o =>
              have := pun_le _ _ (rs.ef _ _ e)
              rw [hn] at this
              cases this
        have hqT : pun H' Z.t q = some (.lst ys) := by rw [pun_ne (fun ⟨T', e', z'⟩ => by rw [hT] at e'; cases e'; exact hqa z'.symm)]; exact hq
        have rq : RAll (pun H' Z.t) ys es := by rw [hT]; exact r'
        have nodata : ∀ (j : Nat) (d : PyData), (sd.set i none)[j]? = some (some d) → j ≠ i ∧ sd[j]? = some (some d) := fun j d e => by
          by_cases hij : i = j
          · subst hij
            rw [List.getElem?_set] at e
            simp [li] at e
          · rw [List.getElem?_set_ne hij] at e
            exact ⟨Ne.symm hij, e⟩
        have rs0 : RSt Z H' σ (sd.set i none) := by
          refine ⟨⟨by simp [rs.rs.len], fun j d e => ?_⟩, by rw [hT]; exact t', rs.tv, rs.sl, sm0, fun j hj d e => ?_, fun j hj k hk hjk d1 d2 e e' => ?_, fun j d hj e => ?_⟩
          · obtain ⟨hij, e⟩ := nodata j d e
            exact base j d hij e
          · obtain ⟨hij, e⟩ := nodata j d e
            obtain ⟨q, zs, us, h1, h2, h3, h4, h5, h6, _⟩ := own j hj hij d e
            exact ⟨q, zs, us, h1, h2, h3, h4, h5⟩
          · obtain ⟨_, e⟩ := nodata j d1 e
            obtain ⟨_, e'⟩ := nodata k d2 e'
            exact rs.sep j hj k hk hjk d1 d2 e e'
          · obtain ⟨_, e⟩ := nodata j d e
            exact rs.st j d hj e
        have rs1 := rs0.ownSet ho hti hqT rq nl q0' fun j hj hij d e => by
          obtain ⟨_, e⟩ := nodata j d e
          obtain ⟨q1, zs, us, h1, h2, h3, h4, h5, h6, h7⟩ := own j hj hij d e
          rw [h3]
          intro z
          cases z
          rcases hqp with rfl | hn
          · exact h7 rfl
          · have := pun_le _ _ h6
            rw [hn] at this
            cases this
        rw [List.set_set] at rs1
        exact w es pe _ _ gr rs1
      · rw [if_neg hl] at w
        exact w.elim
end
section
variable {K : PySem.W.Frag} {mg : Str → Option Value} {base : Heap}
theorem sc_law_turned_items : FnScope ["_law_tape_here", "_law_items", "_law_turn", "_law_one"] ["_law_tape_here", "_law_items"] (defScope s_law_turned_items) := ⟨rfl, rfl, rfl, by decide +kernel, rfl, by decide +kernel, by decide +kernel⟩
theorem bo_law_turned_items : BindOk "_law_turned_items" s_law_turned_items ["_law_tape_here", "_law_items"] := fun _ _ _ _ _ _ us hl => match us, hl with | [_, _], _ => rfl
theorem ok_law_turned_items [Wd] (T : Tx K mg) : Ok Wd.P Wd.w K mg base "_law_turned_items" 2 ["_law_tape_here", "_law_items"] spTn :=
  T.law_turned_items.ok sc_law_turned_items bo_law_turned_items (fun vs H Q E h => by obtain ⟨_, _, _, _, rfl, _⟩ := h; rfl) fun f cdv A outer s H vs Q E hr h => by
    obtain ⟨U, p, xs, ds, rfl, tp, hpa, hps, hp, r, nl, hl, q⟩ := h
    generalize hZ : ({ t := some U, H0 := (fun b => if b = p then none else H b), own := [1], ti := 0 } : Fr) = Z
    have ho : (1 : Nat) ∈ Z.own := by rw [← hZ]; exact List.mem_singleton.mpr rfl
    have hti : (1 : Nat) ≠ Z.ti := by rw [← hZ]; show (1 : Nat) ≠ 0; decide
    have hN0 : (["_law_tape_here", "_law_items", "_law_turn", "_law_one"] : List Str)[Z.ti]? = some ("_law_tape_here" : Str) := by rw [← hZ]; rfl
    have ht : Z.t.isSome = true := by rw [← hZ]; rfl
    have h2 : (2 : Nat) ∉ Z.own ∧ (2 : Nat) ≠ Z.ti := by rw [← hZ]; exact ⟨by show (2 : Nat) ∉ ([1] : List Nat); decide, by show (2 : Nat) ≠ 0; decide⟩
    have h3 : (3 : Nat) ∉ Z.own ∧ (3 : Nat) ≠ Z.ti := by rw [← hZ]; exact ⟨by show (3 : Nat) ∉ ([1] : List Nat); decide, by show (3 : Nat) ≠ 0; decide⟩
    refine ⟨_, pss_cons (ns_set (Z := Z) 2 sc_law_turned_items.nd rfl (Or.inl rfl) (ne_tcl (ok_law_draw T) hr (na_tape hN0 ht (na_cons (ne_pure de_int) na_nil))) h2.1 h2.2)
      (pss_cons (ps_if (nt_pure (Z := Z) (dt_eq (de_var 2) de_int)) (pss_one (ps_ret (pe_lstRev rfl T.b_list T.b_reversed (pe_var (i := 1) rfl (Or.inl rfl))))) pss_nil)
      (pss_cons (ns_if (Z := Z) (nt_pure (PW.pt (dw_and (dt_lt (de_var 2) de_int) (dw_and1 (dt_truth (de_var 1))))))
        (ns_cons (ns_pop 1 3 sc_law_turned_items.nd rfl rfl (Or.inl rfl) ho h3.1 h3.2 (ne_tcl (ok_law_draw T) hr (na_tape hN0 ht (na_cons (ne_pure (de_len T.b_len (da_cons (de_var 1) da_nil))) na_nil))))
          (ns_one (ns_ins 1 rfl ho (na_cons (ne_tcl (ok_law_draw T) hr (na_tape hN0 ht (na_cons (ne_pure (de_add (de_len T.b_len (da_cons (de_var 1) da_nil)) de_int)) na_nil))) (na_cons (ne_pure (de_var 3)) na_nil))))) ns_nil)
      (pss_one (ps_ret (pe_var (i := 1) rfl (Or.inl rfl)))))), ?_⟩
    -- what it says
    have hZt : Z.t = some U := by rw [← hZ]
    have hZH : Z.H0 = (fun b => if b = p then none else H b) := by rw [← hZ]
    have fin : ∀ (σ' : L2.St) (H' : Hp) (sd' : Sl) (es : List PyData), RSt Z H' σ' sd' → sd'[1]? = some (some (.list es)) → es.Perm ds → ∃ v, σ'[1]? = some (some v) ∧ Q v H' := by
      intro σ' H' sd' es rs he pe
      obtain ⟨q', ys, us, g1, g2, g3, g4, g5⟩ := rs.ow 1 ho _ he
      cases g1
      refine ⟨_, g3, ?_⟩
      obtain ⟨np, g6⟩ := pun_some g4
      have hqa : q' ≠ U.a := fun z => np ⟨U, hZt, z.symm⟩
      obtain ⟨v0, k1, k2⟩ := rs.rs.get 1 _ he
      rw [g3] at k1
      cases k1
      obtain ⟨q2, xs2, k3, k4, k5⟩ := k2.lst
      cases k3
      rw [g4] at k4
      cases k4
      have tp' := rs.tp
      rw [hZt] at tp' k5
      refine q H' q' ys es tp' (fun b o hb1 hb2 e => ?_) g6 hqa ?_ k5 g2 pe
      · have z : pun Z.H0 Z.t b = some o := by
          rw [pun_ne (fun ⟨T', e', z'⟩ => by rw [hZt] at e'; cases e'; exact hb2 z'.symm), hZH]
          show (if b = p then none else H b) = some o
          rw [if_neg hb1]
          exact e
        exact pun_le _ _ (rs.ef _ _ z)
      · rw [pun_ne np, hZH] at g5
        replace g5 : (if q' = p then none else H q') = none := g5
        by_cases e : q' = p
        · exact .inl e
        · exact .inr (by rw [if_neg e] at g5; exact g5)
    have hpt : ¬ At Z.t p := fun ⟨T', e', z'⟩ => by rw [hZt] at e'; cases e'; exact hpa z'.symm
    obtain ⟨q1, q2, q3, t1, t2, t3, t4⟩ := tp U rfl
    have rs0 : RSt Z H (L2.start ["_law_tape_here", "_law_items", "_law_turn", "_law_one"] [.ref U.a, .ref p]) [none, some (.list ds), none, none] := by
      refine ⟨⟨rfl, fun i d e => ?_⟩, by rw [hZt]; exact tp, fun T' e => ?_, fun T' e => ?_, fun b o e => ?_, fun i hi d e => ?_, fun i hi j hj hij d d' e e' => ?_, fun i d hi e => ?_⟩
      · match i, e with
        | 0, e => cases e
        | 1, e =>
          cases e
          refine ⟨_, rfl, r_lst (by rw [pun_ne hpt]; exact hp) (by rw [hZt]; exact r)⟩
        | 2, e => cases e
        | 3, e => cases e
        | i + 4, e => cases e
      · rw [hZt] at e
        cases e
        rw [← hZ]
        rfl
      · rw [hZt] at e
        cases e
        rw [hZH]
        show (if U.sl = p then none else H U.sl) ≠ none
        rw [if_neg (Ne.symm hps), t3]
        exact fun z => nomatch z
      · obtain ⟨n1, c⟩ := pun_some e
        rw [pun_ne n1]
        rw [hZH] at c
        replace c : (if b = p then none else H b) = some o := c
        by_cases z : b = p
        · rw [if_pos z] at c; cases c
        · rw [if_neg z] at c; exact c
      · have z : i = 1 := by rw [← hZ] at hi; exact List.mem_singleton.mp hi
        subst z
        cases e
        refine ⟨p, xs, ds, rfl, nl, rfl, by rw [pun_ne hpt]; exact hp, ?_⟩
        rw [pun_ne hpt, hZH]
        exact if_pos rfl
      · have z : i = 1 := by rw [← hZ] at hi; exact List.mem_singleton.mp hi
        have z2 : j = 1 := by rw [← hZ] at hj; exact List.mem_singleton.mp hj
        exact absurd (z.trans z2.symm) hij
      · match i, e with
        | 0, e => cases e
        | 1, e => exact absurd ho hi
        | 2, e => cases e
        | 3, e => cases e
        | i + 4, e => cases e
    refine ⟨_, rs0, ?_⟩
    show (nSet 2 (nTc f_law_draw 1 (nCons (nP (dC (.int 6))) nNil)) [none, some (.list ds), none, none]).wp _
    refine draw_at rfl (by decide) fun k hk0 hk1 => ?_
    intro σ1 H1 gr1 rs1
    refine ⟨_, rs1, ?_⟩
    refine ⟨decide (k = 0), rfl, fun H2 e2 => ?_⟩
    have rs2 := rs1.mono e2
    by_cases k0 : k = 0
    · rw [decide_eq_true k0]
      refine iteT ?_
      have he : ([none, some (PyData.list ds), some (.int k), none] : Sl)[1]? = some (some (.list ds)) := rfl
      obtain ⟨q', ys, us, g1, g2, g3, g4, g5⟩ := rs2.ow 1 ho _ he
      cases g1
      obtain ⟨np, g6⟩ := pun_some g4
      obtain ⟨v0, k1, k2⟩ := rs2.rs.get 1 _ he
      rw [g3] at k1
      cases k1
      obtain ⟨q2, xs2, k3, k4, k5⟩ := k2.lst
      cases k3
      rw [g4] at k4
      cases k4
      refine ⟨_, g3, q', ys, rfl, SqL.of g6, fun qn hn => ?_⟩
      have s := same_upd (o := .lst ys.reverse) hn
      have e3 := Ef.of rs2.tp s
      have rs3 := rs2.mono e3
      have nq : ¬ At Z.t qn := fun ⟨T', e', z'⟩ => by
        obtain ⟨_, _, _, z1, _⟩ := rs2.tp T' e'
        rw [z', hn] at z1
        cases z1
      have rev : RAll (pun (upd H2 qn (.lst ys.reverse)) Z.t) ys.reverse ds.reverse := by
        have key : ∀ {xs : List V} {us : List PyData} {H : Hp}, RAll H xs us → RAll H xs.reverse us.reverse := by
          intro xs us H h
          induction us generalizing xs with
          | nil => rw [h.nil]; exact ra_nil
          | cons d us ih =>
            obtain ⟨x, r, rfl, h1, h2⟩ := h.cons
            rw [List.reverse_cons, List.reverse_cons]
            exact (ih h2).snoc h1
        exact key (k5.mono (pun_mono s))
      have tp' := rs3.tp
      rw [hZt] at tp' rev
      refine q _ qn ys.reverse ds.reverse tp' (fun b o hb1 hb2 e => ?_) upd_same (fun z => nq ⟨U, hZt, z.symm⟩) ?_ rev ?_ (List.reverse_perm ds)
      · have z : pun Z.H0 Z.t b = some o := by
          rw [pun_ne (fun ⟨T', e', z'⟩ => by rw [hZt] at e'; cases e'; exact hb2 z'.symm), hZH]
          show (if b = p then none else H b) = some o
          rw [if_neg hb1]
          exact e
        exact pun_le _ _ (rs3.ef _ _ z)
      · by_cases z : qn = p
        · exact .inl z
        · refine .inr ?_
          cases z2 : H qn with
          | none => rfl
          | some o =>
            have z3 : pun Z.H0 Z.t qn = some o := by
              rw [pun_ne nq, hZH]
              show (if qn = p then none else H qn) = some o
              rw [if_neg z]
              exact z2
            have := pun_le _ _ (rs2.ef _ _ z3)
            rw [hn] at this
            cases this
      · rw [noLs_mem]
        intro d hd
        exact noLs_mem.mp nl d (List.mem_reverse.mp hd)
    · rw [decide_eq_false k0]
      refine iteF ?_
      refine ⟨_, rs2, ?_⟩
      show (nIf _ _ _ [none, some (.list ds), some (.int k), none]).wp _
      refine ⟨decide (k < 3) && !ds.isEmpty, ?_, ?_⟩
      · unfold tAndF
        show (match some (decide (k < 3)) with | some true => some (!ds.isEmpty) | some false => some false | none => none) = _
        cases decide (k < 3) <;> rfl
      · by_cases hc : (decide (k < 3) && !ds.isEmpty) = true
        · rw [hc]
          have hne : 0 < ds.length := by
            have := (Bool.and_eq_true_iff.mp hc).2
            cases ds with
            | nil => cases this
            | cons _ _ => simp
          show (nSeq (nPop 1 3 (nTc f_law_draw 1 (nCons (nP (dCall gLen [dVar 1])) nNil))) (nIns 1 (nCons (nTc f_law_draw 1 (nCons (nP (dBin gAdd (dCall gLen [dVar 1]) (dC (.int 1)))) nNil)) (nCons (nP (dVar 3)) nNil))) [none, some (.list ds), some (.int k), none]).wp _
          refine draw_at (m := ds.length) rfl (by omega) fun j hj0 hj1 => ?_
          have hj2 : j < ds.length := by omega
          show (if 0 ≤ j ∧ j < ds.length ∧ j < 1000000 then (match ds[j.toNat]? with
            | some d => Nd.ret (Out.nx (([none, some (.list ds), some (.int k), none] : Sl).set 1 (some (.list (ds.eraseIdx j.toNat))) |>.set 3 (some d)))
            | none => Nd.fail) else Nd.fail : Nd Out).wp _
          rw [if_pos ⟨hj0, hj2, by omega⟩]
          have hjl : j.toNat < ds.length := by omega
          rw [List.getElem?_eq_getElem hjl]
          show (nIns 1 (nCons (nTc f_law_draw 1 (nCons (nP (dBin gAdd (dCall gLen [dVar 1]) (dC (.int 1)))) nNil)) (nCons (nP (dVar 3)) nNil)) [none, some (.list (ds.eraseIdx j.toNat)), some (.int k), some ds[j.toNat]]).wp _
          have nd := noLs_mem.mp nl _ (List.getElem_mem hjl)
          have le := List.length_eraseIdx_of_lt hjl
          show ((nTc f_law_draw 1 (nCons (nP (dBin gAdd (dCall gLen [dVar 1]) (dC (.int 1)))) nNil) [none, some (.list (ds.eraseIdx j.toNat)), some (.int k), some ds[j.toNat]]).bnd _).wp _
          refine draw_at (m := ((ds.eraseIdx j.toNat).length : Int) + 1) rfl (by omega) fun m hm0 hm1 => ?_
          refine ⟨ds[j.toNat], rfl, tidy_noL nd, ?_⟩
          show (if noL ds[j.toNat] = true ∧ (ds.eraseIdx j.toNat).length < 1000 ∧ 0 ≤ m ∧ m < 1000000 then Nd.ret (Out.nx _) else Nd.fail : Nd Out).wp _
          rw [if_pos ⟨nd, by omega, hm0, by omega⟩]
          intro σ4 H4 gr4 rs4
          refine fin σ4 H4 _ _ rs4 rfl ?_
          exact (ins_perm _ m.toNat _).trans (erase_perm hjl)
        · rw [Bool.not_eq_true] at hc
          rw [hc]
          intro σ4 H4 gr4 rs4
          exact fin σ4 H4 _ _ rs4 rfl (List.Perm.refl _)
theorem sc_law_next_scene : FnScope ["_law_tape_here", "_law_scene_here", "_law_room", "_law_items", "_law_item", "_law_fate", "_law_k", "_law_one", "_law_size"] ["_law_tape_here", "_law_scene_here", "_law_room"] (defScope s_law_next_scene) := ⟨rfl, rfl, rfl, by decide +kernel, rfl, by decide +kernel, by decide +kernel⟩
theorem bo_law_next_scene : BindOk "_law_next_scene" s_law_next_scene ["_law_tape_here", "_law_scene_here", "_law_room"] := fun _ _ _ _ _ _ us hl => match us, hl with | [_, _, _], _ => rfl
def L0_law_next_scene : Sl → Nd Out := (nSeq (nSet 5 (nTc f_law_draw 1 (nCons (nP (dC (.int 8))) nNil))) (nSeq (nIf (nPT (tOrF (dTest (dBin gEq (dVar 5) (dC (.int 1)))) (dTest (dBin gEq (dVar 5) (dC (.int 2)))))) (nSet 4 (nTc f_law_changed_item 2 (nCons (nP (dVar 4)) (nCons (nP (dVar 2)) nNil)))) nSkip) (nIf (nPT (dTest (dBin gGt (dVar 5) (dC (.int 0))))) (nApp 3 (nP (dVar 4))) nSkip)))
def L1_law_next_scene : Sl → Nd Out := (nSeq (nSet 7 (nTc f_law_primitive 2 (nCons (nTc f_law_new_identity 1 (nCons (nP (dCall f_law_identities [(dVar 3)])) nNil)) (nCons (nP (dVar 2)) nNil)))) (nIns 3 (nCons (nBin gIx (nLst (nCons (nP (dCall gLen [(dVar 3)])) (nCons (nTc f_law_draw 1 (nCons (nP (dBin gAdd (dCall gLen [(dVar 3)]) (dC (.int 1)))) nNil)) nNil))) (nTc f_law_draw 1 (nCons (nP (dC (.int 2))) nNil))) (nCons (nP (dVar 7)) nNil))))
def F_law_next_scene : Sl → Nd Out := (nSeq (nNew 3) (nSeq (nFor 4 (nSeqI (dBin gIx (dVar 1) (dC (.int 2)))) L0_law_next_scene) (nSeq (nTurn 3) (nSeq (nFor 6 (nRg1 (nCons (nBin gIx (nP (dLst [(dC (.int 0)), (dC (.int 0)), (dC (.int 1)), (dC (.int 2))])) (nTc f_law_draw 1 (nCons (nP (dC (.int 4))) nNil))) nNil)) L1_law_next_scene) (nSeq (nSet 8 (nP (dTup [(dBin gIx (dVar 1) (dC (.int 0))), (dBin gIx (dVar 1) (dC (.int 1)))]))) (nSeq (nIf (nTest (nBin gEq (nTc f_law_draw 1 (nCons (nP (dC (.int 5))) nNil)) (nP (dC (.int 0))))) (nSet 8 (nBin gIx (nP (dLst [(dTup [(dBin gIx (dVar 1) (dC (.int 1))), (dBin gIx (dVar 1) (dC (.int 0)))]), (dTup [(dBin gAdd (dBin gIx (dVar 1) (dC (.int 0))) (dC (.int 1))), (dBin gIx (dVar 1) (dC (.int 1)))]), (dTup [(dBin gIx (dVar 1) (dC (.int 0))), (dC (.int 0))])])) (nTc f_law_draw 1 (nCons (nP (dC (.int 3))) nNil)))) nSkip) (nRet (nP (dTup [(dBin gIx (dVar 8) (dC (.int 0))), (dBin gIx (dVar 8) (dC (.int 1))), (dCall gTuple [(dVar 3)])])))))))))
def f_law_next_scene : List PyData → Nd PyData := runN F_law_next_scene 9
theorem ok_law_next_scene [Wd] (T : Tx K mg) : Ok Wd.P Wd.w K mg base "_law_next_scene" 5 ["_law_tape_here", "_law_scene_here", "_law_room"] (spN f_law_next_scene 2) := T.law_next_scene.tape (F := F_law_next_scene) (own := [3]) sc_law_next_scene bo_law_next_scene rfl rfl (by decide) (by decide) fun f cdv A outer s H E U hr => (ns_cons (ns_new 3 sc_law_next_scene.nd rfl (Or.inl rfl) (by show (3 : Nat) ∈ ([3] : List Nat); decide) (by show (3 : Nat) ≠ 0; decide)) (ns_cons (ns_for (i := 4) PassesOwn.never rfl (ni_tup (de_ix (de_var 1) de_int)) (pg_name (i := 4) sc_law_next_scene.nd rfl (Or.inl rfl)) (ns_cons (ns_set 5 sc_law_next_scene.nd rfl (Or.inl rfl) (ne_tcl (ok_law_draw T) hr (na_tape rfl rfl (na_cons (ne_pure de_int) na_nil))) (by show (5 : Nat) ∉ ([3] : List Nat); decide) (by show (5 : Nat) ≠ 0; decide)) (ns_cons (ns_if (nt_pure (PW.pt (dw_or (dt_eq (de_var 5) de_int) (dw_or1 (dt_eq (de_var 5) de_int))))) (ns_one (ns_set 4 sc_law_next_scene.nd rfl (Or.inl rfl) (ne_tcl (ok_law_changed_item T) hr (na_tape rfl rfl (na_cons (ne_pure (de_var 4)) (na_cons (ne_pure (de_var 2)) na_nil)))) (by show (4 : Nat) ∉ ([3] : List Nat); decide) (by show (4 : Nat) ≠ 0; decide))) ns_nil) (ns_one (ns_if (nt_pure (dt_gt (de_var 5) de_int)) (ns_one (ns_app 3 rfl (by show (3 : Nat) ∈ ([3] : List Nat); decide) (ne_pure (de_var 4)))) ns_nil)))) (by show (4 : Nat) ∉ ([3] : List Nat); decide) (by show (4 : Nat) ≠ 0; decide)) (ns_cons (ns_turn 3 (ok_law_turned_items T) hr sc_law_next_scene.nd rfl rfl rfl rfl (by show (3 : Nat) ∈ ([3] : List Nat); decide) (by show (3 : Nat) ≠ 0; decide)) (ns_cons (ns_for (i := 6) PassesOwn.never rfl (ni_range1 rfl T.b_range (na_cons (ne_ix (ne_pure (de_lst (da_cons de_int (da_cons de_int (da_cons de_int (da_cons de_int da_nil)))))) (ne_tcl (ok_law_draw T) hr (na_tape rfl rfl (na_cons (ne_pure de_int) na_nil)))) na_nil)) (pg_name (i := 6) sc_law_next_scene.nd rfl (Or.inl rfl)) (ns_cons (ns_set 7 sc_law_next_scene.nd rfl (Or.inl rfl) (ne_tcl (ok_law_primitive T) hr (na_tape rfl rfl (na_cons (ne_tcl (ok_law_new_identity T) hr (na_tape rfl rfl (na_cons (ne_pure (de_cl (ok_law_identities T) hr (da_cons (de_var 3) da_nil))) na_nil))) (na_cons (ne_pure (de_var 2)) na_nil)))) (by show (7 : Nat) ∉ ([3] : List Nat); decide) (by show (7 : Nat) ≠ 0; decide)) (ns_one (ns_ins 3 rfl (by show (3 : Nat) ∈ ([3] : List Nat); decide) (na_cons (ne_ix (ne_lst (na_cons (ne_pure (de_len T.b_len (da_cons (de_var 3) da_nil))) (na_cons (ne_tcl (ok_law_draw T) hr (na_tape rfl rfl (na_cons (ne_pure (de_add (de_len T.b_len (da_cons (de_var 3) da_nil)) de_int)) na_nil))) na_nil))) (ne_tcl (ok_law_draw T) hr (na_tape rfl rfl (na_cons (ne_pure de_int) na_nil)))) (na_cons (ne_pure (de_var 7)) na_nil))))) (by show (6 : Nat) ∉ ([3] : List Nat); decide) (by show (6 : Nat) ≠ 0; decide)) (ns_cons (ns_set 8 sc_law_next_scene.nd rfl (Or.inl rfl) (ne_pure (de_tup (da_cons (de_ix (de_var 1) de_int) (da_cons (de_ix (de_var 1) de_int) da_nil)))) (by show (8 : Nat) ∉ ([3] : List Nat); decide) (by show (8 : Nat) ≠ 0; decide)) (ns_cons (ns_if (nt_eq (ne_tcl (ok_law_draw T) hr (na_tape rfl rfl (na_cons (ne_pure de_int) na_nil))) (ne_pure de_int)) (ns_one (ns_set 8 sc_law_next_scene.nd rfl (Or.inl rfl) (ne_ix (ne_pure (de_lst (da_cons (de_tup (da_cons (de_ix (de_var 1) de_int) (da_cons (de_ix (de_var 1) de_int) da_nil))) (da_cons (de_tup (da_cons (de_add (de_ix (de_var 1) de_int) de_int) (da_cons (de_ix (de_var 1) de_int) da_nil))) (da_cons (de_tup (da_cons (de_ix (de_var 1) de_int) (da_cons de_int da_nil))) da_nil))))) (ne_tcl (ok_law_draw T) hr (na_tape rfl rfl (na_cons (ne_pure de_int) na_nil)))) (by show (8 : Nat) ∉ ([3] : List Nat); decide) (by show (8 : Nat) ≠ 0; decide))) ns_nil) (ns_one (ns_ret (ne_pure (de_tup (da_cons (de_ix (de_var 8) de_int) (da_cons (de_ix (de_var 8) de_int) (da_cons (de_tuple T.b_tuple (da_cons (de_var 3) da_nil)) da_nil)))))))))))))
end
end Cs
namespace Cs
open PySem PySem.Spec PyProof.Rows L2
section
variable {K : PySem.W.Frag} {mg : Str → Option Value} {base : Heap}
theorem sc_paint_part : FnScope ["rows", "corner", "primitive", "part", "y", "row", "x", "color"] ["rows", "corner", "primitive", "part"] (defScope s_paint_part) := ⟨rfl, rfl, rfl, by decide +kernel, rfl, by decide +kernel, by decide +kernel⟩
theorem bo_paint_part : BindOk "paint_part" s_paint_part ["rows", "corner", "primitive", "part"] := fun _ _ _ _ _ _ us hl => match us, hl with | [_, _, _, _], _ => rfl
theorem ok_paint_part [Wd] (T : Tx K mg) : Ok Wd.P Wd.w K mg base "paint_part" 6 ["rows", "corner", "primitive", "part"] spPart :=
  T.paint_part.ok sc_paint_part bo_paint_part (fun vs H Q E h => by obtain ⟨_, _, _, _, _, _, _, _, _, _, _, rfl, _⟩ := h; rfl) fun f cdv A outer s H vs Q E hr h => by
    obtain ⟨a, rs, w, g, cx, cy, P, ⟨qx, qy, qw, qh⟩, vc, vp, vq, rfl, rc, rp, wf, rq, G, ⟨c1, c2, c3, c4⟩, ⟨d1, d2, d3, d4⟩, ⟨n1, n2⟩, q⟩ := h
    dsimp only at d1 d2 d3 d4 n1 n2
    refine ⟨_, pss_one (ps_for PassesOwn.never rfl (ir_range2 rfl T.b_range (da_cons (de_ix (de_var 3) de_int) (da_cons (de_add (de_ix (de_var 3) de_int) (de_ix (de_var 3) de_int)) da_nil))) (pg_name (i := 4) sc_paint_part.nd rfl (Or.inl rfl))
      (pss_cons (ps_set (i := 5) sc_paint_part.nd rfl (Or.inl rfl) (pe_ix ix_seq (pe_var (i := 0) rfl (Or.inl rfl)) (de_sub (de_var 4) (de_ix (de_var 1) de_int)) (by intro _ _; rfl)))
        (pss_one (ps_for PassesOwn.never rfl (ir_range2 rfl T.b_range (da_cons (de_ix (de_var 3) de_int) (da_cons (de_add (de_ix (de_var 3) de_int) (de_ix (de_var 3) de_int)) da_nil))) (pg_name (i := 6) sc_paint_part.nd rfl (Or.inl rfl))
          (pss_cons (ps_set (i := 7) sc_paint_part.nd rfl (Or.inl rfl) (de_cl (ok_paint_of T) hr (da_cons (de_var 2) (da_cons (de_var 6) (da_cons (de_var 4) da_nil)))))
            (pss_one (ps_if (dt_isnot (de_var 7) de_non) (pss_one (ps_asg (de_var 7) (pg_sub (pe_var (i := 5) rfl (Or.inl rfl)) (de_sub (de_var 6) (de_ix (de_var 1) de_int)) set_list))) pss_nil))))))), ?_⟩
    generalize hpr : primD P = pr at rp
    generalize hprt : rcD (qx, qy, qw, qh) = prt at rq
    generalize hcc : PyData.tuple [.int cx, .int cy] = cc at rc
    have ic0 : gIx cc (.int 0) = some (.int cx) := by rw [← hcc]; rfl
    have ic1 : gIx cc (.int 1) = some (.int cy) := by rw [← hcc]; rfl
    have iq0 : gIx prt (.int 0) = some (.int qx) := by rw [← hprt]; rfl
    have iq1 : gIx prt (.int 1) = some (.int qy) := by rw [← hprt]; rfl
    have iq2 : gIx prt (.int 2) = some (.int qw) := by rw [← hprt]; rfl
    have iq3 : gIx prt (.int 3) = some (.int qh) := by rw [← hprt]; rfl
    have nc : noL cc = true := by rw [← hcc]; rfl
    have nq : noL prt = true := by rw [← hprt]; rfl
    have np : noL pr = true := by rw [← hpr]; exact primD_noL P
    -- the state
    have st0 : PP H H a rs w g 0 (L2.start ["rows", "corner", "primitive", "part", "y", "row", "x", "color"] [.ref a, vc, vp, vq]) [none, some cc, some pr, some prt, none, none, none, none] := by
      refine ⟨⟨rfl, fun i d e => ?_⟩, fun i d e => ?_, rfl, G, fun b o _ e => e⟩
      · match i, e with
        | 0, e => cases e
        | 1, e => cases e; exact ⟨_, rfl, rc⟩
        | 2, e => cases e; exact ⟨_, rfl, rp⟩
        | 3, e => cases e; exact ⟨_, rfl, rq⟩
        | 4, e => cases e
        | 5, e => cases e
        | 6, e => cases e
        | 7, e => cases e
        | i + 8, e => cases e
      · match i, e with
        | 0, e => cases e
        | 1, e => cases e; exact nc
        | 2, e => cases e; exact np
        | 3, e => cases e; exact nq
        | 4, e => cases e
        | 5, e => cases e
        | 6, e => cases e
        | 7, e => cases e
        | i + 8, e => cases e
    generalize L2.start ["rows", "corner", "primitive", "part", "y", "row", "x", "color"] [.ref a, vc, vp, vq] = σ0 at st0 ⊢
    let go : Nat → Nat → Nat → Str := fun m i j => if cy + i < qy + m then paintIn P (qx, qy, qw, qh) cx cy g i j else g i j
    refine for_R2 (sd := [none, some cc, some pr, some prt, none, none, none, none]) (i := qy) (j := qy + qh) st0.re (by simp [evs, dBin, dVar, dC, iq1, iq3, gAdd]) ⟨by omega, by omega⟩ ⟨by omega, by omega⟩
      (fun m σ' H' => ∃ yo xo co, PP H H' a rs w (go m) 0 σ' [none, some cc, some pr, some prt, yo, none, xo, co]) (fun H' s => ⟨none, none, none, (st0.mono s).congr fun i j hi hj => ?_⟩) (fun m σ1 H1 hm ⟨yo, xo, co, p1⟩ => ?_) (fun σ1 H1 ⟨yo, xo, co, p1⟩ => ?_)
    · show g i j = if cy + i < qy + (0 : Nat) then paintIn P (qx, qy, qw, qh) cx cy g i j else g i j
      by_cases hc : cy + i < qy + (0 : Nat)
      · rw [if_pos hc]
        unfold paintIn
        rw [if_neg]
        simp [inR]
        intros
        omega
      · rw [if_neg hc]
    · -- a row
      have hm2 : (m : Int) < qh := by omega
      generalize hy : qy + (m : Int) = y
      have p2 := p1.set (i := 4) (by decide) (v := .int y) (d := .int y) rfl r_int
      have hi0 : (y - cy).toNat < rs.length := by omega
      have hri : rs[(y - cy).toNat]? = some rs[(y - cy).toNat] := List.getElem?_eq_getElem hi0
      generalize hr0 : rs[(y - cy).toNat] = r0 at hri
      generalize hi00 : (y - cy).toNat = i0 at hri
      refine ⟨_, p2.s0, [none, some cc, some pr, some prt, some (.int y), none, xo, co], .int (y - cy), p2.re, by simp [dBin, dVar, dC, ic1, gSub], fun H2 v s2 r2 => ?_⟩
      have p3 := p2.mono s2
      refine .inl ⟨a, rs.map V.ref, y - cy, .ref r0, rfl, r2.int, SqL.of p3.gr.top, ?_, ?_⟩
      · unfold atI ixN
        rw [List.length_map, if_pos (by omega), if_pos (by omega)]
        show (rs.map V.ref)[(y - cy).toNat]? = _
        rw [hi00, List.getElem?_map, hri]
        rfl
      have p4 := p3.put (i := 5) (by decide) (fun d e => by cases e) (.ref r0)
      have s5 : ((σ1.set 4 (some (V.int y))).set 5 (some (.ref r0)))[5]? = some (some (.ref r0)) := by
        have hl : 5 < σ1.length := by rw [p1.re.len]; show 5 < 8; decide
        rw [List.getElem?_set]
        simp [hl]
      -- the row's pixels
      let gi : Nat → Nat → Nat → Str := fun n i j => if cy + i < y ∨ (cy + i = y ∧ cx + j < qx + n) then paintIn P (qx, qy, qw, qh) cx cy g i j else g i j
      refine for_R2 (sd := [none, some cc, some pr, some prt, some (.int y), none, xo, co]) (i := qx) (j := qx + qw) p4.re (by simp [evs, dBin, dVar, dC, iq0, iq2, gAdd]) ⟨by omega, by omega⟩ ⟨by omega, by omega⟩
        (fun n σ' H' => σ'[5]? = some (some (.ref r0)) ∧ ∃ xo co, PP H H' a rs w (gi n) 0 σ' [none, some cc, some pr, some prt, some (.int y), none, xo, co]) (fun H' s => ⟨s5, xo, co, (p4.mono s).congr fun i j hi hj => ?_⟩) (fun n σ5 H5 hn ⟨t5, xo5, co5, p5⟩ => ?_) (fun σ5 H5 ⟨t5, xo5, co5, p5⟩ => ?_)
      · show (if cy + i < qy + (m : Int) then paintIn P (qx, qy, qw, qh) cx cy g i j else g i j) = if cy + i < y ∨ (cy + i = y ∧ cx + j < qx + (0 : Nat)) then paintIn P (qx, qy, qw, qh) cx cy g i j else g i j
        rw [hy]
        by_cases h1 : cy + i < y
        · rw [if_pos h1, if_pos (.inl h1)]
        · rw [if_neg h1]
          by_cases h2 : cy + i = y ∧ cx + j < qx + (0 : Nat)
          · rw [if_pos (.inr h2)]
            unfold paintIn
            rw [if_neg]
            simp [inR]
            intros
            omega
          · rw [if_neg (fun z => z.elim h1 h2)]
      · -- a pixel
        have hn2 : (n : Int) < qw := by omega
        generalize hx : qx + (n : Int) = x
        have p6 := p5.set (i := 6) (by decide) (v := .int x) (d := .int x) rfl r_int
        have t6 : (σ5.set 6 (some (V.int x)))[5]? = some (some (.ref r0)) := by rw [List.getElem?_set_ne (by decide)]; exact t5
        have mp : f_paint_of [pr, .int x, .int y] = some (strD (paint P x y)) := by rw [← hpr]; exact m_paint_of P x y wf ⟨by omega, by omega⟩ ⟨by omega, by omega⟩
        refine ⟨[none, some cc, some pr, some prt, some (.int y), none, some (.int x), co5], strD (paint P x y), p6.re, by simp [dCall, evs, dVar, mp], fun H7 v7 s7 r7 => ?_⟩
        have ns : noL (strD (paint P x y)) = true := by cases paint P x y <;> rfl
        have p7 := (p6.mono s7).set (i := 7) (by decide) ns r7
        have t7 : ((σ5.set 6 (some (V.int x))).set 7 (some v7))[5]? = some (some (.ref r0)) := by rw [List.getElem?_set_ne (by decide)]; exact t6
        have ein : cy + i0 = y := by omega
        have hin : inR (qx, qy, qw, qh) x y = true := by simp [inR]; omega
        have step : ∀ i j, i < rs.length → j < w → gi (n + 1) i j = if i = i0 ∧ (j : Int) = x - cx then over (g i j) (paint P x y) else gi n i j := by
          intro i j hi hj
          show (if cy + i < y ∨ (cy + i = y ∧ cx + j < qx + ((n + 1 : Nat) : Int)) then paintIn P (qx, qy, qw, qh) cx cy g i j else g i j) = _
          by_cases he : i = i0 ∧ (j : Int) = x - cx
          · rw [if_pos he, if_pos (.inr ⟨by omega, by omega⟩)]
            unfold paintIn
            rw [show cx + (j : Int) = x by omega, show cy + (i : Int) = y by omega, hin, if_pos rfl]
          · rw [if_neg he]
            show _ = if cy + i < y ∨ (cy + i = y ∧ cx + j < qx + (n : Int)) then paintIn P (qx, qy, qw, qh) cx cy g i j else g i j
            by_cases hc : cy + i < y ∨ (cy + i = y ∧ cx + j < qx + (n : Int))
            · rw [if_pos hc, if_pos]
              rcases hc with z | z
              · exact .inl z
              · exact .inr ⟨z.1, by omega⟩
            · rw [if_neg hc, if_neg]
              rintro (z | z)
              · exact hc (.inl z)
              · apply hc
                refine .inr ⟨z.1, ?_⟩
                rcases Classical.em (cx + (j : Int) = x) with z2 | z2
                · exact absurd ⟨by omega, by omega⟩ he
                · omega
        refine ⟨[none, some cc, some pr, some prt, some (.int y), none, some (.int x), some (strD (paint P x y))], (paint P x y).isSome, p7.re, ?_, fun H8 s8 => ?_⟩
        · cases paint P x y <;> rfl
        have p8 := p7.mono s8
        cases hpt : paint P x y with
        | none =>
          rw [hpt] at p8 step
          refine iteF ⟨t7, _, _, p8.congr fun i j hi hj => ?_⟩
          rw [step i j hi hj]
          by_cases he : i = i0 ∧ (j : Int) = x - cx
          · rw [if_pos he]
            show gi n i j = g i j
            show (if cy + i < y ∨ (cy + i = y ∧ cx + j < qx + (n : Int)) then paintIn P (qx, qy, qw, qh) cx cy g i j else g i j) = g i j
            rw [if_neg]
            rintro (z | z) <;> omega
          · rw [if_neg he]
        | some c =>
          rw [hpt] at p8 step
          refine iteT ?_
          refine ⟨_, .str c, p8.re, by simp [dVar, strD, optD], fun H9 v9 s9 r9 => ?_⟩
          have p9 := p8.mono s9
          refine ⟨_, t7, [none, some cc, some pr, some prt, some (.int y), none, some (.int x), some (strD (some c))], .int (x - cx), p9.re, by simp [dBin, dVar, dC, ic0, gSub], fun HA vA sA rA => ?_⟩
          have pA := p9.mono sA
          have hj0 : (x - cx).toNat < w := by omega
          refine ⟨r0, _, x - cx, (x - cx).toNat, rfl, rA.int, pA.gr.row i0 r0 hri, ?_, ?_⟩
          · unfold ixN
            rw [rowV_len, if_pos (by omega), if_pos (by omega)]
          · rw [(r9.mono sA).str, rowV_set hj0]
            refine ⟨t7, _, _, (pA.row hri _).congr fun i j hi hj => ?_⟩
            rw [step i j hi hj]
            by_cases h1 : i = i0
            · subst h1
              rw [if_pos rfl]
              by_cases h2 : j = (x - cx).toNat
              · rw [if_pos h2, if_pos ⟨rfl, by omega⟩]
                rfl
              · rw [if_neg h2, if_neg (fun z => h2 (by omega))]
            · rw [if_neg h1, if_neg (fun z => h1 z.1)]
      · refine ⟨some (.int y), xo5, co5, p5.congr fun i j hi hj => ?_⟩
        show (if cy + i < y ∨ (cy + i = y ∧ cx + j < qx + ((qx + qw - qx).toNat : Int)) then paintIn P (qx, qy, qw, qh) cx cy g i j else g i j) = if cy + i < qy + ((m + 1 : Nat) : Int) then paintIn P (qx, qy, qw, qh) cx cy g i j else g i j
        by_cases h1 : cy + i < y
        · rw [if_pos (.inl h1), if_pos (by omega)]
        · by_cases h2 : cy + i = y
          · rw [if_pos (show cy + (i : Int) < qy + ((m + 1 : Nat) : Int) by omega)]
            by_cases h3 : cx + j < qx + ((qx + qw - qx).toNat : Int)
            · rw [if_pos (.inr ⟨h2, h3⟩)]
            · rw [if_neg (by rintro (z | z) <;> omega)]
              unfold paintIn
              rw [if_neg]
              simp [inR]
              intros
              omega
          · rw [if_neg (by rintro (z | z) <;> omega), if_neg (by omega)]
    · refine q H1 p1.fr (p1.gr.congr fun i j hi hj => ?_)
      show (if cy + i < qy + ((qy + qh - qy).toNat : Int) then paintIn P (qx, qy, qw, qh) cx cy g i j else g i j) = _
      by_cases h1 : cy + i < qy + ((qy + qh - qy).toNat : Int)
      · rw [if_pos h1]
      · rw [if_neg h1]
        unfold paintIn
        rw [if_neg]
        simp [inR]
        intros
        omega
end
end Cs
namespace Cs
open PySem PySem.Spec PyProof.Rows L2
section
variable {K : PySem.W.Frag} {mg : Str → Option Value} {base : Heap}
theorem sc_needed : FnScope ["scene", "rectangle", "found", "primitive", "box"] ["scene", "rectangle"] (defScope s_needed) := ⟨rfl, rfl, rfl, by decide +kernel, rfl, by decide +kernel, by decide +kernel⟩
theorem bo_needed : BindOk "needed" s_needed ["scene", "rectangle"] := fun _ _ _ _ _ _ us hl => match us, hl with | [_, _], _ => rfl
def L0_needed : Sl → Nd Out := (nSeq (nSet 4 (nP (dCall f_reach [(dVar 3)]))) (nIf (nPT (tAndF (dTest (dBin gIsNot (dVar 4) (dC .none))) (dTest (dCall f_overlap [(dVar 4), (dVar 1)])))) (nApp 2 (nP (dVar 3))) nSkip))
def F_needed : Sl → Nd Out := (nSeq (nNew 2) (nSeq (nFor 3 (nSeqI (dBin gIx (dVar 0) (dC (.int 2)))) L0_needed) (nRet (nP (dCall gTuple [(dVar 2)])))))
theorem okr_needed [Wd] (T : Tx K mg) {G : List PyData → PyData → Prop} (hg : ∀ ds d, G ds d → ds.length = 2 → (F_needed (startD 5 ds)).wp fun o => outN o = d) : Ok Wd.P Wd.w K mg base "needed" 5 ["scene", "rectangle"] (spR G 2) := T.needed.ownR (F := F_needed) (own := [2]) sc_needed bo_needed rfl hg (by decide) fun f cdv A outer s H E hr => (ns_cons (ns_new 2 sc_needed.nd rfl (Or.inl rfl) (by show (2 : Nat) ∈ ([2] : List Nat); decide) (by show (2 : Nat) ≠ 1000; decide)) (ns_cons (ns_for (i := 3) PassesOwn.never rfl (ni_tup (de_ix (de_var 0) de_int)) (pg_name (i := 3) sc_needed.nd rfl (Or.inl rfl)) (ns_cons (ns_set 4 sc_needed.nd rfl (Or.inl rfl) (ne_pure (de_cl (ok_reach T) hr (da_cons (de_var 3) da_nil))) (by show (4 : Nat) ∉ ([2] : List Nat); decide) (by show (4 : Nat) ≠ 1000; decide)) (ns_one (ns_if (nt_pure (PW.pt (dw_and (dt_isnot (de_var 4) de_non) (dw_and1 (dt_val (de_cl (ok_overlap T) hr (da_cons (de_var 4) (da_cons (de_var 1) da_nil)))))))) (ns_one (ns_app 2 rfl (by show (2 : Nat) ∈ ([2] : List Nat); decide) (ne_pure (de_var 3)))) ns_nil))) (by show (3 : Nat) ∉ ([2] : List Nat); decide) (by show (3 : Nat) ≠ 1000; decide)) (ns_one (ns_ret (ne_pure (de_tuple T.b_tuple (da_cons (de_var 2) da_nil)))))))
/-! ### needed -/
def GNeeded (ds : List PyData) (d : PyData) : Prop := ∃ (W Hh : Int) (items : List Prim) (r : Rc), ds = [sceneD W Hh (items.map primD), rcD r] ∧ (∀ p ∈ items, WfF p.form) ∧ items.length ≤ 100 ∧ d = .tuple ((items.filter (need r)).map primD)
theorem l_needed (r : Rc) : ∀ (items : List Prim) (acc : List PyData) (sc : PyData) (u v : Option PyData), (∀ p ∈ items, WfF p.form) → noLs acc = true → acc.length + items.length ≤ 500 → ∀ Q : Out → Prop, (∀ u v, Q (.nx [some sc, some (rcD r), some (.list (acc ++ (items.filter (need r)).map primD)), u, v])) →
    (nLoop L0_needed 3 (items.map primD) [some sc, some (rcD r), some (.list acc), u, v]).wp Q
  | [], acc, sc, u, v, _, _, _, Q, h => by
    have := h u v
    simpa [nLoop, Nd.ret] using this
  | p :: ps, acc, sc, u, v, hw, na, hl, Q, h => by
    have m := m_reach p (hw p List.mem_cons_self)
    have hl' : acc.length + (ps.length + 1) ≤ 500 := hl
    rw [List.map_cons]
    show ((L0_needed [some sc, some (rcD r), some (.list acc), some (primD p), v]).bnd fun o => match o with
      | .nx s' => nLoop L0_needed 3 (ps.map primD) s'
      | .rt d => Nd.ret (.rt d)).wp Q
    have np := primD_noL p
    have fin : (nLoop L0_needed 3 (ps.map primD) [some sc, some (rcD r), some (.list (if need r p then acc ++ [primD p] else acc)), some (primD p), some (optD rcD (reach p))]).wp Q := by
      cases hn : need r p with
      | false =>
        refine l_needed r ps acc sc _ _ (fun q hq => hw q (List.mem_cons_of_mem _ hq)) na (by omega) Q fun u v => ?_
        have := h u v
        rw [List.filter_cons_of_neg (by rw [hn]; exact Bool.false_ne_true)] at this
        exact this
      | true =>
        refine l_needed r ps (acc ++ [primD p]) sc _ _ (fun q hq => hw q (List.mem_cons_of_mem _ hq)) (noLs_app na (noLs_one np)) (by simp; omega) Q fun u v => ?_
        have := h u v
        rw [List.filter_cons_of_pos hn, List.map_cons] at this
        rw [List.append_assoc]
        exact this
    refine nSeq_at (nSet_at (d := optD rcD (reach p)) (by simp [dCall, evs, dVar, m]) (by cases reach p <;> rfl) ?_)
    have nd : need r p = (match reach p with | none => false | some b => (common b r).isSome) := rfl
    cases hr : reach p with
    | none =>
      rw [hr] at nd fin
      rw [nd] at fin
      exact nIf_at (b := false) (by simp [tAndF, dTest, dBin, dVar, dC, gIsNot, isNone, optD]) fin
    | some b =>
      rw [hr] at nd fin
      have ov := m_overlap b r
      dsimp only at nd
      rw [← nd] at ov
      refine nIf_at (b := need r p) (by simp [tAndF, dTest, dBin, dVar, dC, gIsNot, isNone_rcD, dCall, evs, ov, optD]) ?_
      cases hn : need r p with
      | false => rw [hn] at fin; exact fin
      | true =>
        rw [hn] at fin
        rw [if_pos rfl] at fin
        show (nApp 2 (nP (dVar 3)) [some sc, some (rcD r), some (.list acc), some (primD p), some (rcD b)]).wp _
        refine nApp_at (i := 2) (ds := acc) (d := primD p) rfl rfl np (by omega) ?_
        exact fin
theorem prims_noL (items : List Prim) : noLs (items.map primD) = true := by
  rw [noLs_all]
  intro d hd
  obtain ⟨p, _, rfl⟩ := List.mem_map.mp hd
  exact primD_noL p
theorem ok_needed [Wd] (T : Tx K mg) : Ok Wd.P Wd.w K mg base "needed" 5 ["scene", "rectangle"] (spR GNeeded 2) := okr_needed T fun ds d h _ => by
  obtain ⟨W, Hh, items, r, rfl, hw, hl, rfl⟩ := h
  show (nSeq (nNew 2) _ [some (sceneD W Hh (items.map primD)), some (rcD r), none, none, none]).wp _
  show ((nSeqI (dBin gIx (dVar 0) (dC (.int 2))) [some (sceneD W Hh (items.map primD)), some (rcD r), some (.list []), none, none]).bnd _).wp _
  have e : nSeqI (dBin gIx (dVar 0) (dC (.int 2))) [some (sceneD W Hh (items.map primD)), some (rcD r), some (.list []), none, none] = Nd.ret (items.map primD) := by
    show (if noLs (items.map primD) = true then Nd.ret (items.map primD) else Nd.fail) = _
    rw [if_pos (prims_noL items)]
  rw [e]
  refine l_needed r items [] _ none none hw rfl (by simp; omega) _ fun u v => ?_
  refine ⟨.tuple ((items.filter (need r)).map primD), by simp [dCall, evs, dVar, gTuple], ?_, rfl⟩
  exact tidy_noL (prims_noL _)
theorem sc_painted : FnScope ["scene", "rectangle", "rows", "primitive", "part", "k", "row"] ["scene", "rectangle"] (defScope s_painted) := ⟨rfl, rfl, rfl, by decide +kernel, rfl, by decide +kernel, by decide +kernel⟩
theorem bo_painted : BindOk "painted" s_painted ["scene", "rectangle"] := fun _ _ _ _ _ _ us hl => match us, hl with | [_, _], _ => rfl
def GPainted (ds : List PyData) (d : PyData) : Prop := ∃ (W Hh : Int) (items : List Prim) (rx ry rw rh : Int), ds = [sceneD W Hh (items.map primD), rcD (rx, ry, rw, rh)] ∧ (∀ p ∈ items, WfF p.form) ∧ items.length ≤ 100 ∧
  (0 ≤ rx ∧ 0 ≤ ry ∧ 0 ≤ rw ∧ 0 ≤ rh ∧ rx + rw ≤ 100 ∧ ry + rh ≤ 100) ∧ d = gridD rh.toNat rw.toNat fun i j => colorAt items (rx + (j : Int)) (ry + (i : Int))
theorem rep_flat (n : Nat) (x : V) : (List.replicate n [x]).flatten = List.replicate n x := by
  induction n with
  | zero => rfl
  | succ n ih => rw [List.replicate_succ, List.flatten_cons, ih, List.replicate_succ]; rfl
theorem rep_row (n : Nat) (c : Str) : List.replicate n (V.str c) = rowV n (fun _ => c) := by
  apply List.ext_getElem?
  intro j
  rw [rowV_get, List.getElem?_replicate]
theorem gridD_congr {h w : Nat} {g g' : Nat → Nat → Str} (e : ∀ i j, i < h → j < w → g i j = g' i j) : gridD h w g = gridD h w g' := by
  unfold gridD rowD
  congr 1
  apply List.map_congr_left
  intro i hi
  congr 1
  apply List.map_congr_left
  intro j hj
  rw [e i j (List.mem_range.mp hi) (List.mem_range.mp hj)]
theorem PP.after [Wd] {H0 H H' : Hp} {a : Addr} {rs : List Addr} {w : Nat} {g g' : Nat → Nat → Str} {k : Nat} {σ : L2.St} {sd : Sl} (p : PP H0 H a rs w g k σ sd) (fr : ∀ b o, b ∉ rs → H b = some o → H' b = some o) (G : Grid H' a rs w g') : Grow H H' ∧ PP H0 H' a rs w g' k σ sd := by
  have gr : Grow H H' := fun b xs e => fr b _ (fun z => by
    obtain ⟨i, hi, ei⟩ := List.getElem_of_mem z
    have := p.gr.row i b (by rw [List.getElem?_eq_getElem hi, ei])
    rw [e] at this
    cases this) e
  exact ⟨gr, ⟨p.re.len, fun i d e => by
    obtain ⟨v, h1, h2⟩ := p.re.get i d e
    exact ⟨v, h1, h2.grow gr (p.nl i d e)⟩⟩, p.nl, p.s0, G, fun b o n e => fr b o n (p.fr b o n e)⟩
theorem sceneD_noL (W Hh : Int) (items : List Prim) : noL (sceneD W Hh (items.map primD)) = true := by
  show (noL (.int W) && (noL (.int Hh) && (noL (.tuple (items.map primD)) && noLs []))) = true
  have : noL (.tuple (items.map primD)) = true := prims_noL items
  rw [this]
  rfl
theorem ok_painted [Wd] (T : Tx K mg) : Ok Wd.P Wd.w K mg base "painted" 7 ["scene", "rectangle"] (spR GPainted 2) :=
  T.painted.ok sc_painted bo_painted (fun vs H Q E h => h.len) fun f cdv A outer s H vs Q E hr h => by
    obtain ⟨ds, d, ra, ⟨W, Hh, items, rx, ry, rw, rh, rfl, hw, hl, ⟨b1, b2, b3, b4, b5, b6⟩, rfl⟩, _, q⟩ := h
    obtain ⟨v1, r1, rfl, rsc, ra⟩ := ra.cons
    obtain ⟨v2, r2, rfl, rrc, ra⟩ := ra.cons
    have := ra.nil
    subst this
    refine ⟨_, pss_cons (ps_setLc (i := 2) (own := [("k", 5)]) rfl sc_painted.nd rfl rfl (sw_true rfl rfl rfl (by decide +kernel)) (di_range1 rfl T.b_range (da_cons (de_ix (de_var 1) de_int) da_nil)) (blkOk_by (own := [("k", 5)]) (N := ["scene", "rectangle", "rows", "primitive", "part", "k", "row"]) (sc := defScope s_painted) (by decide +kernel))
        (fun _ _ _ _ _ => pg_name (i := 5) sc_painted.nd rfl (Or.inl rfl)) (fun _ _ _ _ _ => pts_nil) (fun _ _ _ _ _ => pe_op op_rep (pe_lst (da_cons (de_gstr T.WHITE) da_nil)) (de_ix (de_var 1) de_int)))
      (pss_cons (ps_for PassesOwn.never rfl (pi_tup (pe_cl (ok_needed T) hr (da_cons (de_var 0) (da_cons (de_var 1) da_nil)))) (pg_name (i := 3) sc_painted.nd rfl (Or.inl rfl))
        (pss_cons (ps_set (i := 4) sc_painted.nd rfl (Or.inl rfl) (de_cl (ok_common T) hr (da_cons (de_cl (ok_reach T) hr (da_cons (de_var 3) da_nil)) (da_cons (de_var 1) da_nil))))
          (pss_one (ps_expr (pe_cl (ok_paint_part T) hr (pa_cons (pe_var (i := 2) rfl (Or.inl rfl)) (da_cons (de_slice (de_var 1) do_none (do_some de_int)) (da_cons (de_var 3) (da_cons (de_var 4) da_nil)))))))))
      (pss_one (ps_ret (pe_tupOf T.b_tuple (pe_lc (te := tCB (rTupOf K) (tCons (tVar 6) tNil)) (own := [("row", 6)]) rfl sc_painted.nd (pi_list (pe_var (i := 2) rfl (Or.inl rfl))) (blkOk_by (own := [("row", 6)]) (N := ["scene", "rectangle", "rows", "primitive", "part", "k", "row"]) (sc := defScope s_painted) (by decide +kernel))
        (fun _ _ _ _ _ => pg_name (i := 6) sc_painted.nd rfl (Or.inl rfl)) (fun _ _ _ _ _ => pts_nil) (fun _ _ _ _ _ => pe_tupOf T.b_tuple (pe_var (i := 6) rfl (Or.inl rfl)))))))), ?_⟩
    have rs0 : RS H (L2.start ["scene", "rectangle", "rows", "primitive", "part", "k", "row"] [v1, v2]) [some (sceneD W Hh (items.map primD)), some (rcD (rx, ry, rw, rh)), none, none, none, none, none] := start_R (ra_cons rsc (ra_cons rrc ra_nil))
    have lσ : (L2.start ["scene", "rectangle", "rows", "primitive", "part", "k", "row"] [v1, v2]).length = 7 := rs0.len
    have nsc := sceneD_noL W Hh items
    have hG : ∀ nd, nd = PyData.tuple ((items.filter (need (rx, ry, rw, rh))).map primD) → GNeeded [sceneD W Hh (items.map primD), rcD (rx, ry, rw, rh)] nd := fun nd e => ⟨W, Hh, items, (rx, ry, rw, rh), rfl, hw, hl, e⟩
    generalize sceneD W Hh (items.map primD) = sc at *
    have i2 : gIx (rcD (rx, ry, rw, rh)) (.int 2) = some (.int rw) := rfl
    have i3 : gIx (rcD (rx, ry, rw, rh)) (.int 3) = some (.int rh) := rfl
    have isl : dSl (dVar 1) (fun _ => some none) (dPart (dC (.int 2))) = dSl (dVar 1) (fun _ => some none) (dPart (dC (.int 2))) := rfl
    have cutr : cutD [PyData.int rx, .int ry, .int rw, .int rh] none (some 2) = [.int rx, .int ry] := rfl
    have nrc : noL (rcD (rx, ry, rw, rh)) = true := rfl
    have hmr : ∀ P b c, reach P = some b → WfF P.form → common b (rx, ry, rw, rh) = some c → f_reach [primD P] = some (rcD b) ∧ f_common [rcD b, rcD (rx, ry, rw, rh)] = some (rcD c) := fun P b c h1 h2 h3 => by
      refine ⟨by rw [m_reach P h2, h1]; rfl, by rw [m_common, h3]; rfl⟩
    have esl : ∀ (s : Sl), s[1]? = some (some (rcD (rx, ry, rw, rh))) → dSl (dVar 1) (fun _ => some none) (dPart (dC (.int 2))) s = some (.tuple [.int rx, .int ry]) := fun s e => by
      unfold dSl dVar
      rw [e]
      rfl
    generalize hrc : rcD (rx, ry, rw, rh) = rc at *
    generalize L2.start ["scene", "rectangle", "rows", "primitive", "part", "k", "row"] [v1, v2] = σ0 at *
    unfold tSeq tAsg
    refine lc_rows (i := 5) (ds := intsD 0 1 rh.toNat) (sd := [some sc, some rc, none, none, none, none, none]) rs0 ?_ (by rw [intsD_len]; omega) rw.toNat (fun _ _ => "#ffffff") ?_ ?_
    · show iRg1 (evs [dBin gIx (dVar 1) (dC (.int 3))]) [some sc, some rc, none, none, none, none, none] = _
      have e : evs [dBin gIx (dVar 1) (dC (.int 3))] [some sc, some rc, none, none, none, none, none] = some [.int rh] := by simp [evs, dBin, dVar, dC, i3]
      unfold iRg1
      rw [e]
      show (if small rh then some (intsD 0 1 rh.toNat) else none) = _
      rw [if_pos ⟨by omega, by omega⟩]
    · intro k d H3 σ3 hk rs3 Q3 q3
      refine ⟨_, [.str "#ffffff"], rs3, rfl, fun H4 xs s4 r4 => ⟨by rw [r4.length]; decide, fun p np => ⟨_, .int rw, (rs3.mono s4).mono (same_upd np), by simp [dBin, dVar, dC, i2], fun H5 v s5 r5 => ?_⟩⟩⟩
      obtain ⟨x, r, rfl, e1, e2⟩ := r4.cons
      have := e2.nil
      subst this
      have hp := s5 _ _ (upd_same (H := H4) (a := p) (o := .lst [x]))
      have hsz : ([x] : List V).length * rw.toNat ≤ sizeLine := by
        have h1 : (100 : Nat) ≤ sizeLine := by decide
        show 1 * rw.toNat ≤ sizeLine
        omega
      refine ⟨p, rw, [x], rfl, r5.int, hp, by omega, by omega, hsz, fun qn nq => ?_⟩
      rw [e1.str, rep_flat, rep_row]
      have sm := ((s4.trans (same_upd np)).trans s5).trans (same_upd (o := .lst (rowV rw.toNat fun _ => "#ffffff")) nq)
      refine q3 _ qn sm ?_ upd_same
      cases z : H3 qn with
      | none => rfl
      | some o =>
        have := ((s4.trans (same_upd np)).trans s5) _ _ z
        rw [nq] at this
        cases this
    · intro H1 a rs s1 ha G hlen fr
      rw [intsD_len] at hlen
      have p0 : PP H H1 a rs rw.toNat (fun _ _ => "#ffffff") 2 (σ0.set 2 (some (.ref a))) [some sc, some rc, none, none, none, none, none] := by
        refine ⟨(rs0.mono s1).put (fun d e => by cases e) _, fun i d e => ?_, by rw [List.getElem?_set]; simp [lσ], G, fun b o _ e => s1 _ _ e⟩
        match i, e with
        | 0, e => cases e; exact nsc
        | 1, e => cases e; exact nrc
        | 2, e => cases e
        | 3, e => cases e
        | 4, e => cases e
        | 5, e => cases e
        | 6, e => cases e
        | i + 7, e => cases e
      refine ⟨_, [sc, rc], p0.re, rfl, fun H2 vs s2 r2 => ⟨[sc, rc], _, by rw [List.append_nil]; exact r2, hG _ rfl, rfl, fun H3 v s3 r3 => ?_⟩⟩
      obtain ⟨b, xs, rfl, hb, rb⟩ := r3.tup
      have p1 := p0.mono (s2.trans s3)
      generalize hfl : items.filter (need (rx, ry, rw, rh)) = fl at rb
      let gk : Nat → Nat → Nat → Str := fun k i j => (fl.take k).foldl (fun a p => if inR (partOf (rx, ry, rw, rh) p) (rx + (j : Int)) (ry + (i : Int)) then over a (paint p (rx + (j : Int)) (ry + (i : Int))) else a) "#ffffff"
      refine ⟨b, rfl, ⟨xs, SqT.of hb⟩, fun k m σ' H' => k + m = fl.length ∧ ∃ po co, PP H H' a rs rw.toNat (gk k) 2 σ' [some sc, some rc, none, po, co, none, none] ∧ H' b = some (.tup xs) ∧ RAll H' xs (fl.map primD), ⟨fl.length, by simp, none, none, p1, hb, rb⟩, ?_⟩
      rintro k m σ' H' ⟨hk, po, co, pk, hb', rb'⟩
      by_cases hlt : k < fl.length
      · obtain ⟨x, hx, rx'⟩ := rb'.get (i := k) (d := primD fl[k]) (by rw [List.getElem?_map, List.getElem?_eq_getElem hlt]; rfl)
        refine .inr ⟨⟨xs, x, SqT.of hb', hx⟩, fun σ2 H2 => ∃ po co, PP H H2 a rs rw.toNat (gk (k + 1)) 2 σ2 [some sc, some rc, none, po, co, none, none] ∧ H2 b = some (.tup xs) ∧ RAll H2 xs (fl.map primD), fun σ2 H2 z => ⟨m - 1, by omega, by omega, z⟩, ?_⟩
        rintro x' H2' ⟨rfl, hx'⟩
        have hx2 := hx' _ (SqT.of hb')
        rw [hx] at hx2
        cases hx2
        have hP : fl[k] ∈ fl := List.getElem_mem hlt
        have gstep : ∀ i j, gk (k + 1) i j = paintIn fl[k] (partOf (rx, ry, rw, rh) fl[k]) rx ry (gk k) i j := fun i j => by
          show (fl.take (k + 1)).foldl _ _ = _
          rw [List.take_succ, List.getElem?_eq_getElem hlt, List.foldl_append]
          rfl
        generalize fl[k] = P at *
        rw [← hfl] at hP
        obtain ⟨hPi, hPn⟩ := List.mem_filter.mp hP
        have wfP := hw P hPi
        have hn2 := hPn
        unfold need at hn2
        obtain ⟨bb, hbb⟩ : ∃ bb, reach P = some bb := by
          cases hrr : reach P with
          | none => rw [hrr] at hn2; cases hn2
          | some bb => exact ⟨bb, rfl⟩
        rw [hbb] at hn2
        obtain ⟨cc, hcc⟩ := Option.isSome_iff_exists.mp hn2
        have hpo : partOf (rx, ry, rw, rh) P = cc := by unfold partOf; rw [hbb]; dsimp only; rw [hcc]; rfl
        obtain ⟨k1, k2⟩ := hmr P bb cc hbb wfP hcc
        have cp := common_pos hcc
        dsimp only at cp
        rw [hpo] at gstep
        have p2 := pk.set (i := 3) (by decide) (primD_noL P) rx'
        refine ⟨[some sc, some rc, none, some (primD P), co, none, none], rcD cc, p2.re, by simp [dCall, evs, dVar, k1, k2], fun H4 v4 s4 r4 => ?_⟩
        have p3 := (p2.mono s4).set (i := 4) (by decide) (rcD_noL cc) r4
        refine ⟨_, p3.s0, [some sc, some rc, none, some (primD P), some (rcD cc), none, none], [.tuple [.int rx, .int ry], primD P, rcD cc], p3.re, by simp [evs, esl, dVar], fun H5 vs5 s5 r5 => ?_⟩
        have p4 := p3.mono s5
        obtain ⟨u1, r6, rfl, q1, r5⟩ := r5.cons
        obtain ⟨u2, r6, rfl, q2, r5⟩ := r5.cons
        obtain ⟨u3, r6, rfl, q3, r5⟩ := r5.cons
        have := r5.nil
        subst this
        refine ⟨a, rs, rw.toNat, gk k, rx, ry, P, cc, u1, u2, u3, rfl, q1, q2, wfP, q3, p4.gr, ⟨by omega, by omega, by omega, by omega⟩, ⟨by omega, by omega, by omega, by omega⟩, ⟨by omega, by omega⟩, fun H6 fr6 G6 => ?_⟩
        obtain ⟨gr6, p5⟩ := p4.after fr6 G6
        have hb6 : H6 b = some (.tup xs) := gr6 _ _ ((s4.trans s5) _ _ hb')
        exact ⟨_, _, p5.congr fun i j _ _ => (gstep i j).symm, hb6, (rb'.mono (s4.trans s5)).grow gr6 (prims_noL fl)⟩
      · have ek : k = fl.length := by omega
        subst ek
        refine .inl ⟨⟨xs, SqT.of hb', by rw [rb'.length]; simp⟩, ?_⟩
        refine lc_tup pk.s0 (by rw [pk.re.len]; show (6 : Nat) < 7; decide) pk.gr (by omega) fun H7 v s7 r7 => ?_
        refine q H7 v (fun b o e => s7 _ _ (pk.fr b o (fun z => by rw [fr b z] at e; cases e) e)) ?_
        rw [hlen] at r7
        rw [gridD_congr (g' := fun i j => gk fl.length i j) fun i j hi hj => ?_]
        · exact r7
        · show colorAt items (rx + (j : Int)) (ry + (i : Int)) = (fl.take fl.length).foldl _ _
          rw [List.take_length, ← hfl]
          exact (fold_need (r := (rx, ry, rw, rh)) (inR_iff.mpr ⟨by dsimp only; omega, by dsimp only; omega, by dsimp only; omega, by dsimp only; omega⟩) items hw "#ffffff").symm
end
end Cs
namespace Cs
open PySem PySem.Spec PyProof.Rows L2
/-! ### xs[a:c] = ys -/
def gSlice (to : TE) (tl th : TO) : TG := fun v σ H Q => to σ H fun x H1 => tl σ H1 fun l H2 => th σ H2 fun u H3 => ∃ p b xs ys a c, x = .ref p ∧ v = .ref b ∧ l = some a ∧ u = some c ∧ H3 p = some (.lst xs) ∧ H3 b = some (.lst ys) ∧ p ≠ b ∧ 0 ≤ a ∧ a ≤ c ∧ c ≤ (xs.length : Int) ∧
  xs.length + ys.length ≤ sizeLine ∧ Q σ (upd H3 p (.lst (xs.take a.toNat ++ ys ++ xs.drop c.toNat)))
theorem part_int {u : Value} {a : Int} (h : IsPart u (some a)) : RelV (.int a) u := by
  cases h with
  | int i t => exact ⟨t, rfl⟩
theorem pg_slice {X : Cx} {o : Expr} {lo hi : Option Expr} {to : TE} {tl th : TO} {p2 pos : Pos} (ho : PE X o to) (hl : PO X lo tl) (hu : PO X hi th)
    (ha : ∀ v, assign (.Subscript o (.Slice lo hi none p2) pos) X.env v = (do
      let ov ← holding [v] (eval o X.env)
      let iv ← holding [v, ov] (eval (.Slice lo hi none p2) X.env)
      standAt pos
      holding [v, ov, iv] (setItem ov iv v)
      release [iv, v, ov] []) := by intro _; rfl) : PG X (.Subscript o (.Slice lo hi none p2) pos) (gSlice to tl th) := by
  refine ⟨fun pins s σ H v u Q I r h => ?_⟩
  rw [ha]
  refine wpAny_bind (wpAny_holding (thn (ho.run pins s σ H _ I h) fun ov s1 ⟨x, H1, I1, r1, q1⟩ => ?_))
  refine wpAny_bind (wpAny_holding (wpAny_Slice (thn (hl.run pins s1 σ H1 _ I1 q1) fun vl s2 ⟨l, H2, I2, pl, q2⟩ => thn (hu.run pins s2 σ H2 _ I2 q2) fun vu s3 ⟨m, H3, I3, pu, q3⟩ => ?_)))
  rw [evalPart_none]
  refine wpAny_pure ?_
  obtain ⟨p, b, xs, ys, a, c, rfl, rfl, rfl, rfl, hp, hb, hne, h0, hac, hc, hz, q⟩ := q3
  cases r1
  cases r
  have I4 : Inv X pins σ H3 { s3 with heap := s3.heap.push { cls := .type "slice", data := .fields #[vl, vu, .none] } } := I3.kept (t' := s3.toks) fun b ob q => Heap.get?_push_of_some _ q
  refine wpAny_bind (wpAny_standAt (wpAny_bind (wpAny_holding (L2.set_slice (sl := s3.heap.objs.size) (vl := vl) (vu := vu) I4 hp hb hne (Heap.IsSliceOf.new ..) (part_int pl) (part_int pu) h0 hac hc hz fun s4 I5 => ?_))))
  exact wpAny_release ⟨σ, _, I5, q⟩
section
variable {K : PySem.W.Frag} {mg : Str → Option Value} {base : Heap}
theorem sc_picture : FnScope ["scene", "pixels"] ["scene"] (defScope s_picture) := ⟨rfl, rfl, rfl, by decide +kernel, rfl, by decide +kernel, by decide +kernel⟩
theorem bo_picture : BindOk "picture" s_picture ["scene"] := fun _ _ _ _ _ _ us hl => match us, hl with | [_], _ => rfl
theorem sc_repainted : FnScope ["colors", "scene", "rectangles", "rows", "rectangle", "part", "fresh", "k", "row"] ["colors", "scene", "rectangles"] (defScope s_repainted) := ⟨rfl, rfl, rfl, by decide +kernel, rfl, by decide +kernel, by decide +kernel⟩
theorem bo_repainted : BindOk "repainted" s_repainted ["colors", "scene", "rectangles"] := fun _ _ _ _ _ _ us hl => match us, hl with | [_, _, _], _ => rfl
theorem mul_small {a b : Int} (h1 : 0 ≤ a) (h2 : a ≤ 50) (h3 : 0 ≤ b) (h4 : b ≤ 50) : a * b ≤ 2500 := by
  have := Int.mul_le_mul h2 h4 h3 (by decide)
  omega
theorem dBin_at {g : PyData → PyData → Option PyData} {f1 f2 : Sl → Option PyData} {s : Sl} {a b d : PyData} (e1 : f1 s = some a) (e2 : f2 s = some b) (e3 : g a b = some d) : dBin g f1 f2 s = some d := by
  unfold dBin
  rw [e1, e2]
  exact e3
theorem gName_at {i : Nat} {v : V} {σ : L2.St} {H : Hp} {Q : L2.St → Hp → Prop} (h : Q (σ.set i (some v)) H) : gName i v σ H Q := h
theorem gt_no {z px : Int} {s : Sl} (e : s[1]? = some (some (.int px))) (h : ¬ z < px) : dTest (dBin gGt (dVar 1) (dC (.int z))) s = some false := by
  simp [dTest, dBin, dVar, dC, e, gGt]
  omega
def GPicture (ds : List PyData) (d : PyData) : Prop := ∃ (w h : Nat) (items : List Prim), ds = [sceneD w h (items.map primD)] ∧ (∀ p ∈ items, WfF p.form) ∧ items.length ≤ 100 ∧ w ≤ 50 ∧ h ≤ 50 ∧ d = gridD h w fun i j => colorAt items j i
theorem ok_picture [Wd] (T : Tx K mg) : Ok Wd.P Wd.w K mg base "picture" 8 ["scene"] (spR GPicture 1) :=
  T.picture.ok sc_picture bo_picture (fun vs H Q E h => h.len) fun f cdv A outer s H vs Q E hr h => by
    obtain ⟨ds, d, ra, ⟨w, h, items, rfl, hw, hl, h1, h2, rfl⟩, _, q⟩ := h
    refine ⟨_, pss_cons (ps_set (i := 1) sc_picture.nd rfl (Or.inl rfl) (de_mul (de_ix (de_var 0) de_int) (de_ix (de_var 0) de_int))) (pss_cons (ps_if (dt_gt (de_var 1) (de_gint T.MOST_PIXELS)) (pss_one ps_never) pss_nil)
      (pss_one (ps_ret (pe_cl (ok_painted T) hr (da_cons (de_var 0) (da_cons (de_cl (ok_page_of T) hr (da_cons (de_var 0) da_nil)) da_nil)))))), ?_⟩
    have rs0 : RS H (L2.start ["scene", "pixels"] vs) [some (sceneD w h (items.map primD)), none] := start_R ra
    have i0 : gIx (sceneD w h (items.map primD)) (.int 0) = some (.int w) := rfl
    have i1 : gIx (sceneD w h (items.map primD)) (.int 1) = some (.int h) := rfl
    have pg := m_page w h (items.map primD)
    have ms := mul_small (a := w) (b := h) (by omega) (by omega) (by omega) (by omega)
    have em : gMul (.int (w : Int)) (.int (h : Int)) = some (.int ((w : Int) * h)) := gMul_ok (by omega) (by omega)
    generalize hpx : ((w : Int) * h) = px at em ms
    refine ⟨_, .int px, rs0, dBin_at (dBin_at rfl rfl i0) (dBin_at rfl rfl i1) em, fun H1 v s1 r1 => ?_⟩
    have rs1 := (rs0.mono s1).set 1 r1
    have dg : ¬ (20000 : Int) < px := by omega
    refine ⟨_, false, rs1, ?_, fun H2 s2 => iteF ?_⟩
    · exact gt_no rfl dg
    refine ⟨_, [sceneD w h (items.map primD), rcD (0, 0, (w : Int), (h : Int))], rs1.mono s2, by simp [evs, dVar, dCall, pg], fun H3 us s3 r3 => ?_⟩
    refine ⟨_, _, by rw [List.append_nil]; exact r3, ⟨w, h, items, 0, 0, w, h, rfl, hw, hl, ⟨by omega, by omega, by omega, by omega, by omega, by omega⟩, rfl⟩, rfl, fun H4 v s4 r4 => q H4 v ((s1.trans s2).trans (s3.trans s4)) ?_⟩
    have e : gridD h w (fun i j => colorAt items (j : Int) (i : Int)) = gridD ((h : Int)).toNat ((w : Int)).toNat fun i j => colorAt items (0 + (j : Int)) (0 + (i : Int)) := by
      rw [Int.toNat_natCast, Int.toNat_natCast]
      exact gridD_congr fun i j _ _ => by rw [Int.zero_add, Int.zero_add]
    rw [e]
    exact r4
def patched (rects : List Rc) (items : List Prim) (g : Nat → Nat → Str) (i j : Nat) : Str := if rects.any (fun r => inR r j i) then colorAt items j i else g i j
def GRepainted (ds : List PyData) (d : PyData) : Prop := ∃ (w h : Nat) (items : List Prim) (rects : List Rc) (g : Nat → Nat → Str), ds = [gridD h w g, sceneD w h (items.map primD), .tuple (rects.map rcD)] ∧ (∀ p ∈ items, WfF p.form) ∧ items.length ≤ 100 ∧ rects.length ≤ 1000 ∧ w ≤ 50 ∧ h ≤ 50 ∧ d = gridD h w (patched rects items g)
theorem R_rowD [Wd] {H : Hp} {w : Nat} {f : Nat → Str} {xs : List V} (h : RAll H xs (rowD w f)) : xs = rowV w f := by
  unfold rowD at h
  unfold rowV
  generalize List.range w = l at h ⊢
  induction l generalizing xs with
  | nil => exact h.nil
  | cons a r ih =>
    obtain ⟨x, t, rfl, h1, h2⟩ := h.cons
    rw [h1.str, ih h2]
    rfl
theorem rects_noL (rects : List Rc) : noLs (rects.map rcD) = true := by
  rw [noLs_all]
  intro d hd
  obtain ⟨r, _, rfl⟩ := List.mem_map.mp hd
  rfl
theorem gridD_noL (h w : Nat) (g : Nat → Nat → Str) : noL (gridD h w g) = true := by
  show noLs _ = true
  rw [noLs_all]
  intro d hd
  obtain ⟨i, _, rfl⟩ := List.mem_map.mp hd
  exact rowD_noL w (g i)
theorem row_splice {w : Nat} {f : Nat → Str} {u : Nat → Str} {a n : Nat} (h : a + n ≤ w) : (rowV w f).take a ++ rowV n u ++ (rowV w f).drop (a + n) = rowV w (fun j => if a ≤ j ∧ j < a + n then u (j - a) else f j) := by
  apply List.ext_getElem?
  intro j
  have l1 : ((rowV w f).take a).length = a := by rw [List.length_take, rowV_len]; omega
  rw [rowV_get]
  by_cases h1 : j < a
  · rw [List.append_assoc, List.getElem?_append_left (by omega), List.getElem?_take_of_lt h1, rowV_get, if_neg (show ¬ (a ≤ j ∧ j < a + n) by omega)]
  · by_cases h2 : j < a + n
    · rw [List.getElem?_append_left (by simp [rowV_len, l1]; omega), List.getElem?_append_right (by omega), l1, rowV_get, if_pos (by omega), if_pos (by omega), if_pos ⟨by omega, h2⟩]
    · rw [List.getElem?_append_right (by simp [rowV_len]; omega), List.getElem?_drop]
      have e : a + n + (j - ((rowV w f).take a ++ rowV n u).length) = j := by simp [rowV_len]; omega
      rw [e, rowV_get, if_neg (show ¬ (a ≤ j ∧ j < a + n) by omega)]
theorem ok_repainted [Wd] (T : Tx K mg) : Ok Wd.P Wd.w K mg base "repainted" 8 ["colors", "scene", "rectangles"] (spR GRepainted 3) :=
  T.repainted.ok sc_repainted bo_repainted (fun vs H Q E h => h.len) fun f cdv A outer s H vs Q E hr h => by
    obtain ⟨ds, d, ra, ⟨w, h, items, rects, g, rfl, hw, hl, hrl, h1, h2, rfl⟩, _, q⟩ := h
    refine ⟨_, pss_cons (ps_setLc (i := 3) (te := tCB (rLstOf K) (tCons (tVar 8) tNil)) (own := [("row", 8)]) rfl sc_repainted.nd rfl rfl (sw_true rfl rfl rfl (by decide +kernel)) (di_tup (de_var 0)) (blkOk_by (own := [("row", 8)]) (N := ["colors", "scene", "rectangles", "rows", "rectangle", "part", "fresh", "k", "row"]) (sc := defScope s_repainted) (by decide +kernel))
        (fun _ _ _ _ _ => pg_name (i := 8) sc_repainted.nd rfl (Or.inl rfl)) (fun _ _ _ _ _ => pts_nil) (fun _ _ _ _ _ => pe_lstOf T.b_list (pe_var (i := 8) rfl (Or.inl rfl))))
      (pss_cons (ps_for PassesOwn.never rfl (pi_tup (de_var 2)) (pg_name (i := 4) sc_repainted.nd rfl (Or.inl rfl))
        (pss_cons (ps_set (i := 5) sc_repainted.nd rfl (Or.inl rfl) (de_cl (ok_common T) hr (da_cons (de_var 4) (da_cons (de_cl (ok_page_of T) hr (da_cons (de_var 1) da_nil)) da_nil))))
          (pss_one (ps_if (dt_isnot (de_var 5) de_non)
            (pss_cons (ps_set (i := 6) sc_repainted.nd rfl (Or.inl rfl) (pe_cl (ok_painted T) hr (da_cons (de_var 1) (da_cons (de_var 5) da_nil))))
              (pss_one (ps_for PassesOwn.never rfl (ir_range1 rfl T.b_range (da_cons (de_ix (de_var 5) de_int) da_nil)) (pg_name (i := 7) sc_repainted.nd rfl (Or.inl rfl))
                (pss_cons (ps_set (i := 8) sc_repainted.nd rfl (Or.inl rfl) (pe_ix ix_seq (pe_var (i := 3) rfl (Or.inl rfl)) (de_add (de_ix (de_var 5) de_int) (de_var 7)) (by intro _ _; rfl)))
                  (pss_one (ps_asg (pe_lstOf T.b_list (de_ix (de_var 6) (de_var 7))) (pg_slice (pe_var (i := 8) rfl (Or.inl rfl)) (do_some (de_ix (de_var 5) de_int)) (do_some (de_add (de_ix (de_var 5) de_int) (de_ix (de_var 5) de_int)))))))))) pss_nil))))
      (pss_one (ps_ret (pe_tupOf T.b_tuple (pe_lc (te := tCB (rTupOf K) (tCons (tVar 8) tNil)) (own := [("row", 8)]) rfl sc_repainted.nd (pi_list (pe_var (i := 3) rfl (Or.inl rfl))) (blkOk_by (own := [("row", 8)]) (N := ["colors", "scene", "rectangles", "rows", "rectangle", "part", "fresh", "k", "row"]) (sc := defScope s_repainted) (by decide +kernel))
        (fun _ _ _ _ _ => pg_name (i := 8) sc_repainted.nd rfl (Or.inl rfl)) (fun _ _ _ _ _ => pts_nil) (fun _ _ _ _ _ => pe_tupOf T.b_tuple (pe_var (i := 8) rfl (Or.inl rfl)))))))), ?_⟩
    obtain ⟨v1, r1, rfl, rg, ra⟩ := ra.cons
    obtain ⟨v2, r2, rfl, rsc, ra⟩ := ra.cons
    obtain ⟨v3, r3, rfl, rr, ra⟩ := ra.cons
    have := ra.nil
    subst this
    have ngd := gridD_noL h w g
    have nsc := sceneD_noL w h items
    have nrt : noL (.tuple (rects.map rcD)) = true := rects_noL rects
    have hpg := m_page w h (items.map primD)
    have hG : ∀ (c : Rc), 0 ≤ c.1 → 0 ≤ c.2.1 → 0 ≤ c.2.2.1 → 0 ≤ c.2.2.2 → c.1 + c.2.2.1 ≤ 100 → c.2.1 + c.2.2.2 ≤ 100 → GPainted [sceneD w h (items.map primD), rcD c] (gridD c.2.2.2.toNat c.2.2.1.toNat fun i j => colorAt items (c.1 + (j : Int)) (c.2.1 + (i : Int))) := fun c k1 k2 k3 k4 k5 k6 => ⟨w, h, items, c.1, c.2.1, c.2.2.1, c.2.2.2, rfl, hw, hl, ⟨k1, k2, k3, k4, k5, k6⟩, rfl⟩
    have rs0 : RS H (L2.start ["colors", "scene", "rectangles", "rows", "rectangle", "part", "fresh", "k", "row"] [v1, v2, v3]) [some (gridD h w g), some (sceneD w h (items.map primD)), some (.tuple (rects.map rcD)), none, none, none, none, none, none] := start_R (ra_cons rg (ra_cons rsc (ra_cons rr ra_nil)))
    have lσ : (L2.start ["colors", "scene", "rectangles", "rows", "rectangle", "part", "fresh", "k", "row"] [v1, v2, v3]).length = 9 := rs0.len
    generalize sceneD w h (items.map primD) = sc at *
    generalize L2.start ["colors", "scene", "rectangles", "rows", "rectangle", "part", "fresh", "k", "row"] [v1, v2, v3] = σ0 at *
    unfold tSeq tAsg
    refine lc_rows (i := 8) (ds := (List.range h).map fun i => .tuple (rowD w (g i))) (sd := [some (gridD h w g), some sc, some (.tuple (rects.map rcD)), none, none, none, none, none, none]) rs0 rfl (by simp; omega) w g ?_ ?_
    · intro k d H3 σ3 hk rs3 Q3 q3
      rw [List.getElem?_map] at hk
      have ek : d = .tuple (rowD w (g k)) := by
        by_cases hkh : k < h
        · rw [List.getElem?_range hkh] at hk
          cases hk
          rfl
        · rw [List.getElem?_eq_none (by simpa using hkh)] at hk
          cases hk
      subst ek
      obtain ⟨v, e1, e2⟩ := rs3.get 8 _ rfl
      obtain ⟨p, xs, rfl, hp, rx⟩ := e2.tup
      refine ⟨_, e1, p, xs, rfl, .inr (SqT.of hp), fun qn nq => ?_⟩
      rw [R_rowD rx]
      exact q3 _ qn (same_upd nq) nq upd_same
    · intro H1 a rs s1 ha G hlen fr
      replace hlen : rs.length = h := by rw [hlen]; simp
      have p0 : PP H H1 a rs w g 3 (σ0.set 3 (some (.ref a))) [some (gridD h w g), some sc, some (.tuple (rects.map rcD)), none, none, none, none, none, none] := by
        refine ⟨(rs0.mono s1).put (fun d e => by cases e) _, fun i d e => ?_, by rw [List.getElem?_set]; simp [lσ], G, fun b o _ e => s1 _ _ e⟩
        match i, e with
        | 0, e => cases e; exact ngd
        | 1, e => cases e; exact nsc
        | 2, e => cases e; exact nrt
        | 3, e => cases e
        | 4, e => cases e
        | 5, e => cases e
        | 6, e => cases e
        | 7, e => cases e
        | 8, e => cases e
        | i + 9, e => cases e
      refine ⟨_, .tuple (rects.map rcD), p0.re, rfl, fun H2 v s2 r2 => ?_⟩
      obtain ⟨b, xs, rfl, hb, rb⟩ := r2.tup
      have p1 := p0.mono s2
      let gk : Nat → Nat → Nat → Str := fun k => patched (rects.take k) items g
      refine ⟨b, rfl, ⟨xs, SqT.of hb⟩, fun k m σ' H' => k + m = rects.length ∧ ∃ ro po fo ko, PP H H' a rs w (gk k) 3 σ' [some (gridD h w g), some sc, some (.tuple (rects.map rcD)), none, ro, po, fo, ko, none] ∧ H' b = some (.tup xs) ∧ RAll H' xs (rects.map rcD),
        ⟨rects.length, by simp, none, none, none, none, p1.congr fun i j _ _ => rfl, hb, rb⟩, ?_⟩
      rintro k m σ' H' ⟨hk, ro, po, fo, ko, pk, hb', rb'⟩
      by_cases hlt : k < rects.length
      · obtain ⟨x, hx, rx'⟩ := rb'.get (i := k) (d := rcD rects[k]) (by rw [List.getElem?_map, List.getElem?_eq_getElem hlt]; rfl)
        refine .inr ⟨⟨xs, x, SqT.of hb', hx⟩, fun σ2 H2 => ∃ ro po fo ko, PP H H2 a rs w (gk (k + 1)) 3 σ2 [some (gridD h w g), some sc, some (.tuple (rects.map rcD)), none, ro, po, fo, ko, none] ∧ H2 b = some (.tup xs) ∧ RAll H2 xs (rects.map rcD), fun σ2 H2 z => ⟨m - 1, by omega, by omega, z⟩, ?_⟩
        rintro x' H2' ⟨rfl, hx'⟩
        have hx2 := hx' _ (SqT.of hb')
        rw [hx] at hx2
        cases hx2
        have gstep : ∀ i j, gk (k + 1) i j = if inR rects[k] j i then colorAt items j i else gk k i j := fun i j => by
          show (if (rects.take (k + 1)).any (fun r => inR r j i) then colorAt items j i else g i j) = if inR rects[k] j i then colorAt items j i else (if (rects.take k).any (fun r => inR r j i) then colorAt items j i else g i j)
          rw [List.take_succ, List.getElem?_eq_getElem hlt, List.any_append]
          cases h1 : inR rects[k] j i <;> cases h2 : (rects.take k).any (fun r => inR r j i) <;> simp [h1]
        generalize rects[k] = r at *
        have mc := m_common r (0, 0, (w : Int), (h : Int))
        have p2 := pk.set (i := 4) (by decide) (rcD_noL r) rx'
        refine ⟨[some (gridD h w g), some sc, some (.tuple (rects.map rcD)), none, some (rcD r), po, fo, ko, none], optD rcD (common r (0, 0, (w : Int), (h : Int))), p2.re, by simp [dCall, evs, dVar, hpg, mc], fun H4 v4 s4 r4 => ?_⟩
        have nop : noL (optD rcD (common r (0, 0, (w : Int), (h : Int)))) = true := by cases common r (0, 0, (w : Int), (h : Int)) <;> rfl
        have p3 := (p2.mono s4).set (i := 5) (by decide) nop r4
        refine ⟨[some (gridD h w g), some sc, some (.tuple (rects.map rcD)), none, some (rcD r), some (optD rcD (common r (0, 0, (w : Int), (h : Int)))), fo, ko, none], (common r (0, 0, (w : Int), (h : Int))).isSome, p3.re, by cases common r (0, 0, (w : Int), (h : Int)) <;> rfl, fun H5 s5 => ?_⟩
        have p4 := p3.mono s5
        cases hc : common r (0, 0, (w : Int), (h : Int)) with
        | none =>
          rw [hc] at p4
          refine iteF ⟨_, _, _, _, p4.congr fun i j hi hj => ?_, (s4.trans s5) _ _ hb', rb'.mono (s4.trans s5)⟩
          rw [gstep]
          cases hin : inR r j i with
          | false => rfl
          | true =>
            obtain ⟨c, hcc, _⟩ := common_in hin (b := (0, 0, (w : Int), (h : Int))) (inR_iff.mpr ⟨by dsimp only; omega, by dsimp only; omega, by dsimp only; omega, by dsimp only; omega⟩)
            rw [hc] at hcc
            cases hcc
        | some c =>
          rw [hc] at p4
          refine iteT ?_
          obtain ⟨cp1, cp2, cp3, cp4, cp5, cp6⟩ := common_pos hc
          have hcin : ∀ x y, inR c x y = true → inR r x y = true := fun x y z => (in_common hc z).1
          have hinc : ∀ x y : Int, inR r x y = true → 0 ≤ x → x < w → 0 ≤ y → y < h → inR c x y = true := fun x y z z1 z2 z3 z4 => by
            obtain ⟨d, hd, hd2⟩ := common_in z (b := (0, 0, (w : Int), (h : Int))) (inR_iff.mpr ⟨z1, by dsimp only; omega, z3, by dsimp only; omega⟩)
            rw [hc] at hd
            cases hd
            exact hd2
          obtain ⟨cx, cy, cw, ch⟩ := c
          dsimp only at cp1 cp2 cp3 cp4 cp5 cp6
          have hGc := hG (cx, cy, cw, ch) (by dsimp only; omega) (by dsimp only; omega) (by dsimp only; omega) (by dsimp only; omega) (by dsimp only; omega) (by dsimp only; omega)
          dsimp only at hGc
          refine ⟨[some (gridD h w g), some sc, some (.tuple (rects.map rcD)), none, some (rcD r), some (rcD (cx, cy, cw, ch)), fo, ko, none], [sc, rcD (cx, cy, cw, ch)], p4.re, rfl, fun H6 us s6 r6 => ⟨[sc, rcD (cx, cy, cw, ch)], _, by rw [List.append_nil]; exact r6, hGc, rfl, fun H7 v7 s7 r7 => ?_⟩⟩
          have p5 := (p4.mono (s6.trans s7)).set (i := 6) (by decide) (gridD_noL _ _ _) r7
          have e0 : optD rcD (some (cx, cy, cw, ch)) = rcD (cx, cy, cw, ch) := rfl
          rw [e0] at p5
          have i50 : gIx (rcD (cx, cy, cw, ch)) (.int 0) = some (.int cx) := rfl
          have i51 : gIx (rcD (cx, cy, cw, ch)) (.int 1) = some (.int cy) := rfl
          have i52 : gIx (rcD (cx, cy, cw, ch)) (.int 2) = some (.int cw) := rfl
          have i53 : gIx (rcD (cx, cy, cw, ch)) (.int 3) = some (.int ch) := rfl
          have ifr : ∀ n : Nat, n < ch.toNat → gIx (gridD ch.toNat cw.toNat fun i j => colorAt items (cx + (j : Int)) (cy + (i : Int))) (.int n) = some (.tuple (rowD cw.toNat fun j => colorAt items (cx + (j : Int)) (cy + (n : Int)))) := fun n hn => by
            show atI ((List.range ch.toNat).map fun (i : Nat) => PyData.tuple (rowD cw.toNat fun j => colorAt items (cx + (j : Int)) (cy + (i : Int)))) (n : Int) = _
            unfold atI ixN
            rw [List.length_map, List.length_range, if_pos (by omega), if_pos (by omega)]
            show ((List.range ch.toNat).map _)[((n : Nat) : Int).toNat]? = _
            rw [Int.toNat_natCast, List.getElem?_map, List.getElem?_range hn]
            rfl
          generalize hfr : gridD ch.toNat cw.toNat (fun i j => colorAt items (cx + (j : Int)) (cy + (i : Int))) = fr0 at *
          generalize hcd : rcD (cx, cy, cw, ch) = cd at *
          have hb7 : H7 b = some (.tup xs) := (((s4.trans s5).trans s6).trans s7) _ _ hb'
          have rb7 := rb'.mono (((s4.trans s5).trans s6).trans s7)
          let gi : Nat → Nat → Nat → Str := fun n i j => if inR (cx, cy, cw, ch) j i = true ∧ (i : Int) < cy + n then colorAt items j i else gk k i j
          refine gName_at ?_
          dsimp only
          refine for_R1 (fa := evs [dBin gIx (dVar 5) (dC (.int 3))]) (k := 7) (σ := ((σ'.set 4 (some x)).set 5 (some v4)).set 6 (some v7)) (H := H7) (sd := [some (gridD h w g), some sc, some (.tuple (rects.map rcD)), none, some (rcD r), some cd, some fr0, ko, none]) (j := ch) p5.re (by simp [evs, dBin, dVar, dC, i53]) ⟨by omega, by omega⟩
            (fun n σ' H' => ∃ ko, PP H H' a rs w (gi n) 3 σ' [some (gridD h w g), some sc, some (.tuple (rects.map rcD)), none, some (rcD r), some cd, some fr0, ko, none] ∧ H' b = some (.tup xs) ∧ RAll H' xs (rects.map rcD)) (fun H' s => ⟨ko, (p5.mono s).congr fun i j hi hj => ?_, s _ _ hb7, rb7.mono s⟩) (fun n σ8 H8 hn ⟨ko8, p8, hb8, rb8⟩ => ?_) (fun σ8 H8 ⟨ko8, p8, hb8, rb8⟩ => ?_)
          · show gk k i j = if inR (cx, cy, cw, ch) j i = true ∧ (i : Int) < cy + (0 : Nat) then colorAt items j i else gk k i j
            rw [if_neg]
            rintro ⟨z1, z2⟩
            have := (inR_iff.mp z1).2.2.1
            dsimp only at this
            omega
          · have p9 := p8.set (i := 7) (by decide) (v := .int (n : Nat)) (d := .int (n : Nat)) rfl r_int
            have hi0 : (cy + (n : Int)).toNat < rs.length := by omega
            have hri : rs[(cy + (n : Int)).toNat]? = some rs[(cy + (n : Int)).toNat] := List.getElem?_eq_getElem hi0
            generalize rs[(cy + (n : Int)).toNat] = r0 at hri
            generalize hi00 : (cy + (n : Int)).toNat = i0 at hri
            refine ⟨_, p9.s0, [some (gridD h w g), some sc, some (.tuple (rects.map rcD)), none, some (rcD r), some cd, some fr0, some (.int (n : Nat)), none], .int (cy + n), p9.re, by simp [dBin, dVar, dC, i51, gAdd], fun H9 v9 s9 r9 => ?_⟩
            have pA := p9.mono s9
            refine .inl ⟨a, rs.map V.ref, cy + n, .ref r0, rfl, r9.int, SqL.of pA.gr.top, ?_, ?_⟩
            · unfold atI ixN
              rw [List.length_map, if_pos (by omega), if_pos (by omega)]
              show (rs.map V.ref)[(cy + (n : Int)).toNat]? = _
              rw [hi00, List.getElem?_map, hri]
              rfl
            have pB := pA.put (i := 8) (by decide) (fun d e => by cases e) (.ref r0)
            have t8 : ((σ8.set 7 (some (V.int (n : Nat)))).set 8 (some (.ref r0)))[8]? = some (some (.ref r0)) := by
              have hl8 : 8 < σ8.length := by rw [p8.re.len]; show 8 < 9; decide
              rw [List.getElem?_set]
              simp [hl8]
            refine ⟨[some (gridD h w g), some sc, some (.tuple (rects.map rcD)), none, some (rcD r), some cd, some fr0, some (.int (n : Nat)), none], _, pB.re, dBin_at rfl rfl (ifr n hn), fun HB vB sB rB => ?_⟩
            obtain ⟨pt, xt, rfl, hpt, rxt⟩ := rB.tup
            refine ⟨pt, xt, rfl, .inr (SqT.of hpt), fun qn nq => ?_⟩
            rw [R_rowD rxt]
            have sC := same_upd (o := .lst (rowV cw.toNat fun j => colorAt items (cx + (j : Int)) (cy + (n : Int)))) nq
            have pC := (pB.mono sB).mono sC
            refine ⟨_, t8, [some (gridD h w g), some sc, some (.tuple (rects.map rcD)), none, some (rcD r), some cd, some fr0, some (.int (n : Nat)), none], some cx, pC.re, by simp [dPart, dBin, dVar, dC, i50], fun HD sD => ⟨[some (gridD h w g), some sc, some (.tuple (rects.map rcD)), none, some (rcD r), some cd, some fr0, some (.int (n : Nat)), none], some (cx + cw), pC.re.mono sD, by simp [dPart, dBin, dVar, dC, i50, i52, gAdd], fun HE sE => ?_⟩⟩
            have pE := (pC.mono sD).mono sE
            have hrow := pE.gr.row i0 r0 hri
            have hq := (sD.trans sE) _ _ (upd_same (H := HB) (a := qn) (o := .lst (rowV cw.toNat fun j => colorAt items (cx + (j : Int)) (cy + (n : Int)))))
            have hne : r0 ≠ qn := fun z => by
              have := (pB.mono sB).gr.row i0 r0 hri
              rw [z, nq] at this
              cases this
            refine ⟨r0, qn, _, _, cx, cx + cw, rfl, rfl, rfl, rfl, hrow, hq, hne, by omega, by omega, by rw [rowV_len]; omega, ?_, ?_⟩
            · rw [rowV_len, rowV_len]
              have : (100 : Nat) ≤ sizeLine := by decide
              omega
            · have ea : (cx + cw).toNat = cx.toNat + cw.toNat := by omega
              rw [ea, row_splice (by omega)]
              have gr := grow_upd (o := .lst (rowV w fun j => if cx.toNat ≤ j ∧ j < cx.toNat + cw.toNat then colorAt items (cx + ((j - cx.toNat : Nat) : Int)) (cy + (n : Int)) else gi n i0 j)) hrow
              refine ⟨_, (pE.row hri _).congr fun i j hi hj => ?_, gr _ _ ((((s9.trans sB).trans sC).trans (sD.trans sE)) _ _ hb8), (rb8.mono (((s9.trans sB).trans sC).trans (sD.trans sE))).grow gr (rects_noL rects)⟩
              show (if i = i0 then (if cx.toNat ≤ j ∧ j < cx.toNat + cw.toNat then colorAt items (cx + ((j - cx.toNat : Nat) : Int)) (cy + (n : Int)) else gi n i0 j) else gi n i j) = if inR (cx, cy, cw, ch) j i = true ∧ (i : Int) < cy + ((n + 1 : Nat) : Int) then colorAt items j i else gk k i j
              by_cases h1 : i = i0
              · subst h1
                rw [if_pos rfl]
                by_cases h2 : cx.toNat ≤ j ∧ j < cx.toNat + cw.toNat
                · rw [if_pos h2, if_pos ⟨inR_iff.mpr ⟨by dsimp only; omega, by dsimp only; omega, by dsimp only; omega, by dsimp only; omega⟩, by omega⟩]
                  congr 1 <;> omega
                · rw [if_neg h2]
                  have nin : ¬ (inR (cx, cy, cw, ch) (j : Int) (i : Int) = true) := fun z => by
                    obtain ⟨z1, z2, _, _⟩ := inR_iff.mp z
                    dsimp only at z1 z2
                    omega
                  show (if inR (cx, cy, cw, ch) j i = true ∧ (i : Int) < cy + n then colorAt items j i else gk k i j) = _
                  rw [if_neg (fun z => nin z.1), if_neg (fun z => nin z.1)]
              · rw [if_neg h1]
                show (if inR (cx, cy, cw, ch) j i = true ∧ (i : Int) < cy + n then colorAt items j i else gk k i j) = _
                by_cases h3 : inR (cx, cy, cw, ch) j i = true ∧ (i : Int) < cy + n
                · rw [if_pos h3, if_pos ⟨h3.1, by omega⟩]
                · rw [if_neg h3, if_neg (fun z => h3 ⟨z.1, by omega⟩)]
          · refine ⟨_, _, _, _, p8.congr fun i j hi hj => ?_, hb8, rb8⟩
            show (if inR (cx, cy, cw, ch) j i = true ∧ (i : Int) < cy + (ch.toNat : Int) then colorAt items j i else gk k i j) = gk (k + 1) i j
            rw [gstep]
            cases hin : inR r j i with
            | false =>
              rw [if_neg (fun z => by rw [hcin _ _ z.1] at hin; cases hin)]
              rfl
            | true =>
              have hc2 := hinc j i hin (by omega) (by omega) (by omega) (by omega)
              have := (inR_iff.mp hc2).2.2.2
              dsimp only at this
              rw [if_pos ⟨hc2, by omega⟩]
              rfl
      · have ek : k = rects.length := by omega
        subst ek
        refine .inl ⟨⟨xs, SqT.of hb', by rw [rb'.length]; simp⟩, ?_⟩
        refine lc_tup pk.s0 (by rw [pk.re.len]; show (8 : Nat) < 9; decide) pk.gr (by omega) fun H7 v s7 r7 => ?_
        refine q H7 v (fun b o e => s7 _ _ (pk.fr b o (fun z => by rw [fr b z] at e; cases e) e)) ?_
        rw [hlen] at r7
        have e : gk rects.length = patched rects items g := by
          show patched (rects.take rects.length) items g = _
          rw [List.take_length]
        rw [e] at r7
        exact r7
end
end Cs
namespace Cs
open PySem PySem.Spec PyProof.Rows L2
/-! ### a dict whose keys are None, ints, texts -/
def PTat (P : Program) (w : World) (a : Addr) (kvs : List (NKey × V)) (h : Heap) : Prop := kvs.length ≤ sizeLine ∧ (a == sysModules) = false ∧ ∃ vs : List (NKey × Value), KV kvs vs ∧ h.DictOf (nKind P w) a vs
def pT (P : Program) (w : World) (a : Addr) (kvs : List (NKey × V)) : HO := .ext (PTat P w a kvs)
theorem PTat.ok {P : Program} {w : World} {H : Hp} {h : Heap} {a : Addr} {kvs : List (NKey × V)} (t : PTat P w a kvs h) : ObjOk P w H h a (pT P w a kvs) := by
  refine ⟨t, ?_, ?_⟩
  · obtain ⟨_, _, vs, _, o, es, ep, e, _⟩ := t
    exact ⟨o, e⟩
  · rintro h1 h2 ⟨z, y, vs, r, dd⟩ k
    exact ⟨z, y, vs, r, dd.at k⟩
section
variable {X : Cx} {pins : List (Addr × Obj)} {σ : L2.St} {H : Hp} {s : Shared} {a : Addr} {u r : Value} {d : V} {k : NKey} {A : Around} {E : Value → Shared → Prop}
theorem pt_of {kvs : List (NKey × V)} (I : Inv X pins σ H s) (e : H a = some (pT X.prog X.w a kvs)) : PTat X.prog X.w a kvs s.heap := (I.hok a _ e).1
theorem p_setd {kvs : List (NKey × V)} {Q : Value → Shared → Prop} (I : Inv X pins σ H s) (e : H a = some (pT X.prog X.w a kvs)) (ry : RelV (nV k) u) (rd : RelV d r) (hl : kvs.length < sizeLine)
    (h1 : ∀ v, valV kvs k = some v → ∀ (w' : Value) (s' : Shared), Inv X pins σ H s' → RelV v w' → Q w' s') (h2 : valV kvs k = none → ∀ (w' : Value) (s' : Shared), Inv X pins σ (upd H a (pT X.prog X.w a (putK kvs k d))) s' → RelV d w' → Q w' s') :
    wpAny (model X.prog X.w) A (call (.builtin "dict.setdefault") [.ref a, u, r]) Q E s := by
  obtain ⟨z, hd, vs, rel, dd⟩ := pt_of I e
  have hz : vs.length ≤ sizeLine := by
    rw [← rel.length]
    exact z
  refine call_meetsIn PySem.F.slot_dict_setdefault dd.typeIs PySem.F.entry_dict_setdefault (PySem.F.args_dict_setdefault_3 _ _ _) (kt_meets_setdefault (nKind X.prog X.w) a (nRel ry) hd r) ⟨vs, dd, hz, fun v hv => ?_, fun hn h' dd' hs => ?_⟩
  · have q := rel.val k
    rw [hv] at q
    cases q0 : valV kvs k with
    | none =>
      rw [q0] at q
      exact (show False from q).elim
    | some v0 =>
      rw [q0] at q
      exact h1 v0 q0 _ _ (I.tok _) q
  · have q := rel.val k
    rw [hn] at q
    cases q0 : valV kvs k with
    | some v0 =>
      rw [q0] at q
      exact (show False from q).elim
    | none =>
      have hl2 : (putK kvs k d).length ≤ sizeLine := by
        have := length_putK kvs k d
        omega
      have he : ∃ q, h'.get? a = some q := let ⟨q, _, _, hq, _⟩ := dd'; ⟨q, hq⟩
      exact h2 q0 _ _ (d_write (t' := s.toks + 1) I (by rw [e]; exact True.intro) hs he (PTat.ok ⟨hl2, hd, _, rel.put k rd, dd'⟩)) rd
end
def tPSetd (P : Program) (w : World) (td ty tx : TE) : TE := fun σ H Q => td σ H fun x H1 => ∃ a kv0, x = .ref a ∧ H1 a = some (pT P w a kv0) ∧ ty σ H1 fun y H2 => tx σ H2 fun z H3 => ∃ (kvs : List (NKey × V)) (k : NKey), H3 a = some (pT P w a kvs) ∧ y = nV k ∧ kvs.length < sizeLine ∧
  (∀ v, valV kvs k = some v → Q v H3) ∧ (valV kvs k = none → Q z (upd H3 a (pT P w a (putK kvs k z))))
def tPNew (P : Program) (w : World) : TE := fun _ H Q => ∀ p, H p = none → Q (.ref p) (upd H p (pT P w p []))
section
variable {X : Cx} {o e f : Expr} {td ty tx : TE} {apos cpos pos : Pos}
theorem pe_psetd (ho : PE X o td) (he : PE X e ty) (hf : PE X f tx) (m : M2 X o "setdefault" apos e f cpos) : PE X (.Call (.Attribute o "setdefault" apos) [e, f] [] cpos) (tPSetd X.prog X.w td ty tx) := by
  refine ⟨fun pins s σ H Q I h => ?_⟩
  refine wpAny_Call_method m.base m.few m.line PySem.F.plainAttrs_dict PySem.F.slot_dict_setdefault PySem.F.type_dict_setdefault (thn (ho.run pins s σ H _ I h) fun u s1 ⟨x, H1, I1, rx, a, kv0, ex, d, q1⟩ => ?_)
  subst ex
  obtain rfl : u = Value.ref a := rx
  obtain ⟨_, _, vs, _, dd⟩ := pt_of I1 d
  refine ⟨dd.typeIs, fun b q => ?_, ?_⟩
  · cases q
    obtain ⟨ob, _, _, h1, h2, _⟩ := dd
    exact ⟨ob, h1, h2.2.1⟩
  rw [m.trees]
  refine Calls.callWith_builtin rfl (Calls.evalArgs_plain (Calls.spliced_cons (thn (he.run pins s1 σ H1 _ I1 q1) fun iv s2 ⟨y, H2, I2, ry, q2⟩ =>
    Calls.spliced_cons (thn (hf.run pins s2 σ H2 _ I2 q2) fun fv s3 ⟨z, H3, I3, rz, kvs, k, ea, ey, hl, q3, q4⟩ => Calls.spliced_nil ?_))))
  subst ey
  exact p_setd I3 ea ry rz hl (fun v hv w' s4 I4 rw' => ⟨v, _, I4, rw', q3 v hv⟩) fun hn w' s4 I4 rw' => ⟨z, _, I4, rw', q4 hn⟩
theorem pe_pnew : PE X (.Dict [] [] pos) (tPNew X.prog X.w) := ⟨fun pins s σ H Q I h =>
  wpAny_Dict_empty ⟨.ref s.heap.objs.size, _, I.laid (a := s.heap.objs.size) (o := pT X.prog X.w s.heap.objs.size []) (t' := s.toks) (fun _ _ q => Heap.get?_push_of_some _ q) (Nat.le_refl _)
    (PTat.ok ⟨Nat.zero_le _, beq_eq_false_iff_ne.mpr (Ne.symm (Nat.ne_of_lt I.big)), [], .nil, Heap.DictOf.new s.heap⟩), rfl, h _ (I.hok.fresh (Nat.le_refl _))⟩⟩
end
/-! its values -/
theorem frzP {X : Cx} {pins : List (Addr × Obj)} {σ : L2.St} {H : Hp} {s : Shared} {d : Addr} {o : Obj} {kvs : List (NKey × V)} (I : Inv X pins σ H s) (h : H d = some (.frz o (pT X.prog X.w d kvs))) :
    (d == sysModules) = false ∧ s.heap.get? d = some o ∧ o.ExactDict ∧ ∃ (es : Array DictEntry) (ep : Nat) (vs : List (NKey × Value)), o.data = .dict es ep ∧ es.size = kvs.length ∧ KV kvs vs ∧ s.heap.DictAt (nKind X.prog X.w) d vs ep := by
  obtain ⟨hd, tdat, _, _⟩ := I.hok d _ h
  obtain ⟨z, hs, vs, kv, o', es, ep, ho, hx, hdt, r⟩ := tdat
  rw [hd] at ho
  cases ho
  refine ⟨hs, hd, hx, es, ep, vs, hdt, ?_, kv, o, es, hd, hx, hdt, r⟩
  have l1 := r.2.1.length
  have l2 : kvs.length = vs.length := Paired.length kv
  rw [Array.length_toList] at l1
  omega
def Itp (P : Program) (w : World) (d : Addr) (o : Obj) (kvs : List (NKey × V)) : It :=
  ⟨fun i H => H d = some (.frz o (pT P w d kvs)) ∧ i < kvs.length, fun i H x H' => H' = H ∧ ∃ k, kvs[i]? = some (k, x), fun i H => H d = some (.frz o (pT P w d kvs)) ∧ kvs.length ≤ i⟩
def iValsP (P : Program) (w : World) (td : TE) : TI := fun σ H R => td σ H fun x H1 => ∃ d o kvs, x = .ref d ∧ H1 d = some (.frz o (pT P w d kvs)) ∧ R (Itp P w d o kvs) H1
theorem turn_valsP {P : Program} {w : World} {K : PySem.W.Frag} {tg : Expr} {d : Addr} {o : Obj} {es : Array DictEntry} {ep : Nat} {kvs : List (NKey × V)} (it : Addr) (hod : o.data = .dict es ep) : Turn P w K tg (Itp P w d o kvs) [it] it (fun i h => h.IsValIter it d i kvs.length ep) where
  mem := by simp
  obj := fun i h st b hb => by
    have e : b = it := by simpa using hb
    subst e
    obtain ⟨oi, e, c, dd⟩ := st
    exact ⟨oi, e, fun v z => by rw [dd] at z; cases z⟩
  keep := fun i h h' st k => st.at fun oi e => k it (by simp) oi e
  item := by
    intro X hP hw hK hc i pins s σ H E I hf st hg
    subst hP hw hK
    obtain ⟨hd, hi⟩ := hg
    obtain ⟨f0, f1, f2, f3, f4, f5⟩ := hf it (by simp)
    obtain ⟨hs, hgd, hx, es', ep', vs, hdt, hsz, kv, hm⟩ := frzP I hd
    obtain ⟨rfl, rfl⟩ := dict_ep hod hdt
    obtain ⟨⟨k, v⟩, hkv⟩ : ∃ p, kvs[i]? = some p := ⟨kvs[i], List.getElem?_eq_getElem hi⟩
    obtain ⟨u, hu, ru⟩ := kv_get kv hkv
    have hl : kvs.length = vs.length := Paired.length kv
    rw [hl] at st
    refine wpAny_pyNext_values_item st hm hu fun h' st' sb => ?_
    have I1 : Inv X pins σ H { s with heap := h' } := I.turned (t' := s.toks) (fun b ob hb e => (sb.2 b hb).trans e) f0 f1 f3 f4 f5
    obtain ⟨oi, e, c, dd⟩ := id st'
    refine ⟨u, rfl, go_of (s := { s with heap := h' }) e c dd (by decide) ⟨v, H, I1, ru, ⟨rfl, k, hkv⟩, ?_, fun b hb => (hf b hb).1⟩⟩
    show h'.IsValIter it d (i + 1) kvs.length _
    rw [hl]
    exact st'
  done := by
    intro X hP hw hK hc i pins s σ H E I hf st hg
    subst hP hw hK
    obtain ⟨hd, hi⟩ := hg
    obtain ⟨f0, f1, f2, f3, f4, f5⟩ := hf it (by simp)
    obtain ⟨hs, hgd, hx, es', ep', vs, hdt, hsz, kv, hm⟩ := frzP I hd
    obtain ⟨rfl, rfl⟩ := dict_ep hod hdt
    have hl : kvs.length = vs.length := Paired.length kv
    rw [hl] at st
    exact wpAny_pyNext_values_end (I.ok.hd hc) st hm (List.getElem?_eq_none (by omega)) fun h' eb => ⟨rfl, I.turned (t' := s.toks) (fun b ob hb e => eb b ob hb e) f0 f1 f3 f4 f5⟩
  self := fun A i s Q E st h => wpAny_pyIter_valiter st h
theorem pi_valuesP {X : Cx} {tg e : Expr} {td : TE} {apos cpos : Pos} (he : PE X e td) (hbase : attributeBase e "values" X.env (eval e X.env) = eval e X.env := by rfl) (hline : (apos.endLine == cpos.line) = true := by rfl) : PI X tg (.Call (.Attribute e "values" apos) [] [] cpos) (iValsP X.prog X.w td) := by
  refine ⟨fun pins s σ H R I h => ?_⟩
  refine wpAny_Call_method (T := "dict") (id := "dict.values") hbase rfl hline F.plainAttrs_dict F.slot_dict_values F.type_dict_values (thn (he.run pins s σ H _ I h) fun u s1 ⟨x, H1, I1, rx, d, o, kvs, ex, hd, q⟩ => ?_)
  subst ex
  obtain rfl : u = Value.ref d := rx
  obtain ⟨hs, hgd, hx, es, ep, vs, hdt, hsz, kv, hm⟩ := frzP I1 hd
  have hl : kvs.length = vs.length := Paired.length kv
  refine ⟨hm.dictOf.typeIs, hm.dictOf.mapOf.noDict, ?_⟩
  have I2 : Inv X pins σ H1 { s1 with heap := s1.heap.push { cls := .type "dict_values", data := .fields #[.ref d] } } := I1.kept (t' := s1.toks) fun b ob q => Heap.get?_push_of_some _ q
  have fin : wpAny (model X.prog X.w) X.A (pyIter (.ref s1.heap.objs.size)) (PIE X pins σ tg R) X.xe { s1 with heap := s1.heap.push { cls := .type "dict_values", data := .fields #[.ref d] } } := by
    refine wpAny_pyIter_values (d := d) (knd := nKind X.prog X.w) ⟨_, Heap.get?_push_size _ rfl, rfl, rfl⟩ (hm.push _) (pi_one (tk := s1.toks) I2 _ (turn_valsP _ hdt) ⟨_, Heap.get?_push_size _ rfl, rfl, ?_⟩ q)
    rw [hl] <;> rfl
  show wpAny _ _ (callWith cpos (.builtin "dict.values") [.ref d] [] []) _ X.xe s1
  exact method_meetsIn F.slot_dict_values F.entry_dict_values rfl (PySem.evalArgs_none ⟨rfl, hm.dictOf.typeIs, F.args_dict_values_1 _, _, meets_dict_values (nKind X.prog X.w) d hs, ⟨vs, hm.dictOf⟩, fin⟩)
/-- still[name] = b -/
def rSetN (P : Program) (w : World) : TSet := fun o i v H Q => ∃ a b n kvs, o = .ref a ∧ i = .ref b ∧ H a = some (nT P w a kvs) ∧ Keys H kvs ∧ H b = some (.tup (nidV n)) ∧ kvs.length < sizeLine ∧ Q (upd H a (nT P w a (put kvs n b v)))
theorem set_N {X : Cx} (hu : X.A.units + 1 < cLine) : PSet X (rSetN X.prog X.w) := by
  intro pins s σ H o i v ov iv u Q I ro ri rv h
  obtain ⟨a, b, n, kvs, rfl, rfl, ha, hk, hb, hl, q⟩ := h
  cases ro
  cases ri
  exact t_set hu I ha hk hb hl rv fun s' I' => ⟨_, I', q⟩
end Cs
namespace Cs
open PySem PySem.Spec PyProof.Rows L2
/-! ### looking up what was put -/
theorem lookD_put {kvs : List (PyData × PyData)} {m n : Nid} {v : PyData} : lookD (putD kvs m v) n = if n = m then some v else lookD kvs n := by
  unfold putD
  by_cases c : (lookD kvs m).isSome = true
  · rw [if_pos c]
    induction kvs with
    | nil => cases c
    | cons e r ih =>
      rw [List.map_cons]
      by_cases h1 : nidOf e.1 = some m
      · rw [if_pos h1]
        by_cases h2 : n = m
        · subst h2
          simp [lookD, List.find?_cons, h1]
        · have h3 : ¬ nidOf e.1 = some n := fun z => h2 (by rw [h1] at z; exact (Option.some.inj z).symm)
          rw [if_neg h2]
          have e1 : lookD (e :: r) n = lookD r n := by simp [lookD, List.find?_cons, h3]
          have e2 : ∀ t, lookD ((e.1, v) :: t) n = lookD t n := fun t => by simp [lookD, List.find?_cons, h3]
          rw [e1, e2]
          clear ih c e1 e2
          induction r with
          | nil => rfl
          | cons f t ih2 =>
            rw [List.map_cons]
            by_cases h4 : nidOf f.1 = some m
            · have h5 : ¬ nidOf f.1 = some n := fun z => h2 (by rw [h4] at z; exact (Option.some.inj z).symm)
              rw [if_pos h4]
              have a1 : lookD (f :: t) n = lookD t n := by simp [lookD, List.find?_cons, h5]
              have a2 : ∀ t, lookD ((f.1, v) :: t) n = lookD t n := fun t => by simp [lookD, List.find?_cons, h5]
              rw [a1, a2, ih2]
            · rw [if_neg h4]
              by_cases h5 : nidOf f.1 = some n
              · simp [lookD, List.find?_cons, h5]
              · have a1 : ∀ t, lookD (f :: t) n = lookD t n := fun t => by simp [lookD, List.find?_cons, h5]
                rw [a1, a1, ih2]
      · rw [if_neg h1]
        have c' : (lookD r m).isSome = true := by
          have a1 : lookD (e :: r) m = lookD r m := by simp [lookD, List.find?_cons, h1]
          rw [a1] at c
          exact c
        by_cases h5 : nidOf e.1 = some n
        · have h2 : ¬ n = m := fun z => h1 (by rw [h5, z])
          rw [if_neg h2]
          simp [lookD, List.find?_cons, h5]
        · have a1 : ∀ t, lookD (e :: t) n = lookD t n := fun t => by simp [lookD, List.find?_cons, h5]
          rw [a1, a1, ih c']
  · rw [if_neg c]
    induction kvs with
    | nil =>
      by_cases h2 : n = m
      · subst h2
        simp [lookD, List.find?_cons, nidOf_D]
      · rw [if_neg h2]
        have : ¬ nidOf (nidD m) = some n := by rw [nidOf_D]; exact fun z => h2 (Option.some.inj z).symm
        simp [lookD, List.find?_cons, this]
    | cons e r ih =>
      have h1 : ¬ nidOf e.1 = some m := fun z => c (by simp [lookD, List.find?_cons, z])
      have c' : ¬ (lookD r m).isSome = true := by
        have a1 : lookD (e :: r) m = lookD r m := by simp [lookD, List.find?_cons, h1]
        rw [a1] at c
        exact c
      by_cases h5 : nidOf e.1 = some n
      · have h2 : ¬ n = m := fun z => h1 (by rw [h5, z])
        rw [if_neg h2]
        simp [lookD, List.find?_cons, h5]
      · have a1 : ∀ t, lookD (e :: t) n = lookD t n := fun t => by simp [lookD, List.find?_cons, h5]
        rw [List.cons_append, a1, a1, ih c']
theorem look_put {kvs : List Ent} {m n : Nid} {q : Addr} {v : V} : look (put kvs m q v) n = if n = m then some v else look kvs n := by
  unfold put
  have pos : ∀ {e : Ent} {t : List Ent}, e.1 = n → look (e :: t) n = some e.2.2 := fun h => by simp [look, List.find?_cons, h]
  have neg : ∀ {e : Ent} {t : List Ent}, ¬ e.1 = n → look (e :: t) n = look t n := fun h => by simp [look, List.find?_cons, h]
  have posm : ∀ {e : Ent} {t : List Ent}, e.1 = m → look (e :: t) m = some e.2.2 := fun h => by simp [look, List.find?_cons, h]
  have negm : ∀ {e : Ent} {t : List Ent}, ¬ e.1 = m → look (e :: t) m = look t m := fun h => by simp [look, List.find?_cons, h]
  by_cases hnm : n = m
  · subst hnm
    rw [if_pos rfl]
    by_cases c : (look kvs n).isSome = true
    · rw [if_pos c]
      induction kvs with
      | nil => cases c
      | cons e r ih =>
        rw [List.map_cons]
        by_cases h1 : e.1 = n
        · rw [if_pos h1, pos (e := (e.1, e.2.1, v)) h1]
        · rw [if_neg h1, neg h1]
          rw [neg h1] at c
          exact ih c
    · rw [if_neg c]
      induction kvs with
      | nil => exact pos rfl
      | cons e r ih =>
        by_cases h1 : e.1 = n
        · rw [pos h1] at c; exact absurd rfl c
        · rw [List.cons_append, neg h1]
          rw [neg h1] at c
          exact ih c
  · rw [if_neg hnm]
    by_cases c : (look kvs m).isSome = true
    · rw [if_pos c]
      clear c
      induction kvs with
      | nil => rfl
      | cons e r ih =>
        rw [List.map_cons]
        by_cases h1 : e.1 = m
        · have h2 : ¬ e.1 = n := fun z => hnm (by rw [← z, h1])
          rw [if_pos h1, neg h2, neg (e := (e.1, e.2.1, v)) h2, ih]
        · rw [if_neg h1]
          by_cases h2 : e.1 = n
          · rw [pos h2, pos h2]
          · rw [neg h2, neg h2, ih]
    · rw [if_neg c]
      clear c
      induction kvs with
      | nil => exact neg (fun z => hnm z.symm)
      | cons e r ih =>
        rw [List.cons_append]
        by_cases h2 : e.1 = n
        · rw [pos h2, pos h2]
        · rw [neg h2, neg h2, ih]
theorem RO_bl [Wd] {H : Hp} {a : Option V} {b : Option PyData} {k : Bool} (h : RO H a b) (e : b = if k then some (.bool true) else none) : a.getD (.bl false) = .bl k := by
  subst e
  cases k with
  | true =>
    cases a with
    | none => exact h.elim
    | some v => exact R.bl (H := H) (v := v) h
  | false =>
    cases a with
    | none => rfl
    | some v => exact h.elim
end Cs
namespace Cs
open PySem PySem.Spec PyProof.Rows L2
/-! ### plain data: == is equality -/
mutual
def pln : PyData → Bool
  | .none => true
  | .int _ => true
  | .str _ => true
  | .tuple ds => plns ds
  | _ => false
def plns : List PyData → Bool
  | [] => true
  | d :: ds => pln d && plns ds
end
mutual
theorem eqv_pln : ∀ {a b : PyData}, pln a = true → pln b = true → (PyData.eqv a b = true ↔ a = b)
  | .none, b, _, hb => by cases b <;> simp_all [PyData.eqv, pln]
  | .int i, b, _, hb => by cases b <;> simp_all [PyData.eqv, pln]
  | .str i, b, _, hb => by cases b <;> simp_all [PyData.eqv, pln]
  | .tuple xs, b, ha, hb => by
    cases b with
    | tuple ys =>
      unfold pln at ha hb
      have := eqvAll_pln ha hb
      simp only [PyData.eqv, PyData.tuple.injEq]
      exact this
    | _ => simp_all [PyData.eqv, pln]
  | .bool _, _, ha, _ => by unfold pln at ha; cases ha
  | .list _, _, ha, _ => by unfold pln at ha; cases ha
  | .dict _, _, ha, _ => by unfold pln at ha; cases ha
theorem eqvAll_pln : ∀ {a b : List PyData}, plns a = true → plns b = true → (PyData.eqvAll a b = true ↔ a = b)
  | [], b, _, hb => by cases b <;> simp [PyData.eqvAll]
  | x :: xs, b, ha, hb => by
    cases b with
    | nil => simp [PyData.eqvAll]
    | cons y ys =>
      unfold plns at ha hb
      obtain ⟨a1, a2⟩ := Bool.and_eq_true_iff.mp ha
      obtain ⟨b1, b2⟩ := Bool.and_eq_true_iff.mp hb
      simp only [PyData.eqvAll, Bool.and_eq_true, List.cons.injEq]
      rw [eqv_pln a1 b1, eqvAll_pln a2 b2]
end
theorem plns_all {ds : List PyData} : plns ds = true ↔ ∀ d ∈ ds, pln d = true := by
  induction ds with
  | nil => exact ⟨fun _ d hd => (nomatch hd), fun _ => rfl⟩
  | cons a r ih =>
    show (pln a && plns r) = true ↔ _
    rw [Bool.and_eq_true_iff, ih]
    constructor
    · rintro ⟨h1, h2⟩ d hd
      rcases List.mem_cons.mp hd with rfl | hd
      · exact h1
      · exact h2 d hd
    · exact fun h => ⟨h a List.mem_cons_self, fun d hd => h d (List.mem_cons_of_mem _ hd)⟩
theorem optI_pln (o : Option Int) : pln (optD .int o) = true := by cases o <;> rfl
theorem strD_pln (o : Option Str) : pln (strD o) = true := by cases o <;> rfl
theorem ints_pln (l : List Int) : pln (.tuple (l.map PyData.int)) = true := by
  show plns _ = true
  rw [plns_all]
  intro d hd
  obtain ⟨i, _, rfl⟩ := List.mem_map.mp hd
  rfl
theorem optR_pln (o : Option Rc) : pln (optD rcD o) = true := by cases o <;> rfl
theorem primD_pln (p : Prim) : pln (primD p) = true := by
  show (pln _ && (pln _ && (pln _ && (pln _ && (pln _ && (pln _ && (pln _ && (pln _ && (pln _ && plns []))))))))) = true
  rw [optI_pln, strD_pln, strD_pln, optR_pln, ints_pln]
  rfl
theorem nidD_pln (n : Nid) : pln (nidD n) = true := by
  show (pln _ && (pln _ && (pln _ && plns []))) = true
  rw [optI_pln]
  rfl
theorem nidD_inj {a b : Nid} (h : nidD a = nidD b) : a = b := by
  have := congrArg nidOf h
  rw [nidOf_D, nidOf_D] at this
  exact Option.some.inj this
/-! ### the dict of a keyed scene -/
def nids (l : List Prim) : List Nid := l.map idOf
def entD (p : Prim) : PyData × PyData := (nidD (idOf p), primD p)
theorem lookD_cons {e : PyData × PyData} {r : List (PyData × PyData)} {n m : Nid} (h : e.1 = nidD m) : lookD (e :: r) n = if m = n then some e.2 else lookD r n := by
  by_cases hm : m = n
  · rw [if_pos hm]
    simp [lookD, List.find?_cons, h, nidOf_D, hm]
  · rw [if_neg hm]
    simp [lookD, List.find?_cons, h, nidOf_D, hm]
theorem lookD_ents : ∀ (l : List Prim) (n : Nid), lookD (l.map entD) n = (l.find? fun p => decide (idOf p = n)).map primD
  | [], _ => rfl
  | p :: ps, n => by
    rw [List.map_cons, lookD_cons (m := idOf p) rfl, lookD_ents ps n, List.find?_cons]
    by_cases h : idOf p = n
    · rw [if_pos h, decide_eq_true h]
      rfl
    · rw [if_neg h, decide_eq_false h]
theorem lookD_app {r s : List (PyData × PyData)} {n : Nid} : lookD (r ++ s) n = (lookD r n).or (lookD s n) := by
  unfold lookD
  rw [List.find?_append]
  cases r.find? fun e => decide (nidOf e.1 = some n) <;> rfl
theorem dcD_prims (i : Nat) : ∀ (l : List Prim) (acc : List (PyData × PyData)) (s : Sl), i < s.length → (nids l).Nodup → (∀ p ∈ l, lookD acc (idOf p) = none) → dcD i dYes (dCall f_identity [dVar i]) (dVar i) (l.map primD) s acc = some (acc ++ l.map entD)
  | [], acc, s, _, _, _ => by simp [dcD]
  | p :: ps, acc, s, hs, nd, hacc => by
    have hv : dVar i (s.set i (some (primD p))) = some (primD p) := by
      unfold dVar
      rw [List.getElem?_set]
      simp [hs]
    have hc : dCall f_identity [dVar i] (s.set i (some (primD p))) = some (nidD (idOf p)) := by
      unfold dCall evs evs
      rw [hv]
      exact m_identity p
    have nd' := List.nodup_cons.mp (show (idOf p :: nids ps).Nodup from nd)
    have hput : putD acc (idOf p) (primD p) = acc ++ [entD p] := by
      unfold putD
      rw [hacc p List.mem_cons_self]
      rfl
    have ih := dcD_prims i ps (acc ++ [entD p]) s hs nd'.2 fun q hq => by
      rw [lookD_app, hacc q (List.mem_cons_of_mem _ hq), Option.none_or, lookD_cons (m := idOf p) rfl, if_neg]
      · rfl
      · exact fun z => nd'.1 (by rw [z]; exact List.mem_map_of_mem hq)
    rw [List.map_cons]
    unfold dcD
    show (match dCall f_identity [dVar i] (s.set i (some (primD p))) with | some k => _ | none => none) = _
    rw [hc]
    show (match nidOf (nidD (idOf p)) with | some n => _ | none => none) = _
    rw [nidOf_D]
    show (match dVar i (s.set i (some (primD p))) with | some v => _ | none => none) = _
    rw [hv]
    show (if noL (primD p) = true then _ else none) = _
    rw [if_pos (primD_noL p), hput, ih, List.append_assoc]
    rfl
theorem m_by_identity (W Hh : Int) (l : List Prim) (nd : (nids l).Nodup) (hl : l.length ≤ 100) : f_by_identity [sceneD W Hh (l.map primD)] = some (.dict (l.map entD)) := by
  unfold f_by_identity runF F_by_identity
  have st : startD 2 [sceneD W Hh (l.map primD)] = [some (sceneD W Hh (l.map primD)), none] := rfl
  rw [st]
  have hit : iSeq (dBin gIx (dVar 0) (dC (.int 2))) [some (sceneD W Hh (l.map primD)), none] = some (l.map primD) := rfl
  have h := dcD_prims 1 l [] [some (sceneD W Hh (l.map primD)), none] (by show 1 < 2; decide) nd (fun p _ => rfl)
  unfold dRet dDc
  rw [hit]
  dsimp only
  rw [if_pos (by rw [List.length_map]; omega), h]
  rfl
end Cs
namespace Cs
open PySem PySem.Spec PyProof.Rows L2
/-- a text of real signs, not long -/
def okS (z : Str) : Prop := PyData.strOk z = true ∧ z.length ≤ 1000
/-- a primitive as the law builds it -/
structure PrimOk (p : Prim) : Prop where
  wf : WfF p.form
  txt : okS (txt p.form)
  role : okS p.role
  key : okS p.key
  fill : ∀ c, p.fill = some c → okS c
  stroke : ∀ c, p.stroke = some c → okS c
theorem shp_of {d : PyData} (h1 : d.canLay0 = true) (h2 : d.depth ≤ 64) (h3 : noD d = true) : shp d = true := by
  unfold shp SeqAt.shaped
  rw [h1, h3, decide_eq_true h2]
  rfl
mutual
theorem pln_noD : ∀ {d : PyData}, pln d = true → noD d = true
  | .none, _ => rfl
  | .int _, _ => rfl
  | .str _, _ => rfl
  | .tuple ds, h => by unfold pln at h; unfold noD; exact plns_noD h
  | .bool _, h => by unfold pln at h; cases h
  | .list _, h => by unfold pln at h; cases h
  | .dict _, h => by unfold pln at h; cases h
theorem plns_noD : ∀ {ds : List PyData}, plns ds = true → noDs ds = true
  | [], _ => rfl
  | d :: ds, h => by
    unfold plns at h
    obtain ⟨h1, h2⟩ := Bool.and_eq_true_iff.mp h
    unfold noDs
    rw [pln_noD h1, plns_noD h2]
    rfl
end
theorem strOk_of {z : Str} (h : okS z) : PyData.canLay0 (.str z) = true := by
  unfold PyData.canLay0
  exact h.1
theorem okS_shape (f : Form) : okS (shapeS f) := by
  cases f with
  | text k a b z =>
    cases k with
    | st => show okS "text start"; exact ⟨by decide +kernel, by decide +kernel⟩
    | mid => show okS "text middle"; exact ⟨by decide +kernel, by decide +kernel⟩
    | en => show okS "text end"; exact ⟨by decide +kernel, by decide +kernel⟩
  | rect r => show okS "rectangle"; exact ⟨by decide +kernel, by decide +kernel⟩
  | line a b c d => show okS "line"; exact ⟨by decide +kernel, by decide +kernel⟩
  | poly p ps => show okS "polyline"; exact ⟨by decide +kernel, by decide +kernel⟩
  | circ a b r => show okS "circle"; exact ⟨by decide +kernel, by decide +kernel⟩
theorem ints_lay (l : List Int) : PyData.canLayAll0 (l.map PyData.int) = true ∧ PyData.depthAll (l.map PyData.int) = 0 := by
  induction l with
  | nil => exact ⟨by simp [PyData.canLayAll0], by simp [PyData.depthAll]⟩
  | cons a r ih => exact ⟨by simp [PyData.canLayAll0, PyData.canLay0, ih.1], by simp [PyData.depthAll, PyData.depth, ih.2]⟩
theorem shp_prim {p : Prim} (h : PrimOk p) : shp (primD p) = true := by
  have a1 : PyData.canLay0 (optD PyData.int p.plot) = true ∧ PyData.depth (optD PyData.int p.plot) = 0 := by cases p.plot <;> exact ⟨by simp [optD, PyData.canLay0], by simp [optD, PyData.depth]⟩
  have a2 : PyData.canLay0 (strD p.fill) = true ∧ PyData.depth (strD p.fill) = 0 := by
    cases hf : p.fill with
    | none => exact ⟨by simp [strD, optD, PyData.canLay0], by simp [strD, optD, PyData.depth]⟩
    | some c => exact ⟨strOk_of (h.fill c hf), by simp [strD, optD, PyData.depth]⟩
  have a3 : PyData.canLay0 (strD p.stroke) = true ∧ PyData.depth (strD p.stroke) = 0 := by
    cases hf : p.stroke with
    | none => exact ⟨by simp [strD, optD, PyData.canLay0], by simp [strD, optD, PyData.depth]⟩
    | some c => exact ⟨strOk_of (h.stroke c hf), by simp [strD, optD, PyData.depth]⟩
  have a4 : PyData.canLay0 (optD rcD p.clip) = true ∧ PyData.depth (optD rcD p.clip) ≤ 1 := by cases p.clip <;> exact ⟨by simp [optD, rcD, PyData.canLay0, PyData.canLayAll0], by simp [optD, rcD, PyData.depth, PyData.depthAll]⟩
  have a5 := ints_lay (pts p.form)
  have a6 : PyData.canLay0 (.str (shapeS p.form)) = true := strOk_of (okS_shape p.form)
  have a7 : PyData.canLay0 (.str (txt p.form)) = true := strOk_of h.txt
  have a8 : PyData.canLay0 (.str p.role) = true := strOk_of h.role
  have a9 : PyData.canLay0 (.str p.key) = true := strOk_of h.key
  have b5 : PyData.canLay0 (ptsD p.form) = true ∧ PyData.depth (ptsD p.form) = 1 := ⟨by simp [PyData.canLay0, a5.1], by simp [PyData.depth, a5.2]⟩
  refine shp_of ?_ ?_ (pln_noD (primD_pln p))
  · have e : PyData.canLay0 (primD p) = (PyData.canLay0 (optD PyData.int p.plot) && (PyData.canLay0 (.str p.role) && (PyData.canLay0 (.str p.key) && (PyData.canLay0 (.str (shapeS p.form)) && (PyData.canLay0 (ptsD p.form) && (PyData.canLay0 (.str (txt p.form)) && (PyData.canLay0 (strD p.fill) && (PyData.canLay0 (strD p.stroke) && (PyData.canLay0 (optD rcD p.clip) && true))))))))) := rfl
    rw [e, a1.1, a8, a9, a6, b5.1, a7, a2.1, a3.1, a4.1]
    rfl
  · have e : PyData.depth (primD p) = (max (PyData.depth (optD PyData.int p.plot)) (max (PyData.depth (.str p.role)) (max (PyData.depth (.str p.key)) (max (PyData.depth (.str (shapeS p.form))) (max (PyData.depth (ptsD p.form)) (max (PyData.depth (.str (txt p.form))) (max (PyData.depth (strD p.fill)) (max (PyData.depth (strD p.stroke)) (max (PyData.depth (optD rcD p.clip)) 0))))))))) + 1 := rfl
    have d0 : ∀ z : Str, PyData.depth (.str z) = 0 := fun z => by simp [PyData.depth]
    rw [e, a1.2, b5.2, a2.2, a3.2]
    simp only [d0]
    have := a4.2
    omega
/-! ### kept -/
def sameIn (bs : List Prim) (p : Prim) : Bool := match bs.find? (fun q => decide (idOf q = idOf p)) with
  | some q => PyData.eqv (primD q) (primD p)
  | none => false
def keptIds (as bs : List Prim) : List Nid := (as.filter (sameIn bs)).map idOf
theorem noD_none : shp .none = true := by
  refine shp_of ?_ ?_ rfl
  · simp [PyData.canLay0]
  · simp [PyData.depth]
theorem lcD_kept (bs : List Prim) (kv : List (PyData × PyData)) (hkv : kv = bs.map entD) (hb : ∀ p ∈ bs, PrimOk p) : ∀ (l : List Prim) (s : Sl), 3 < s.length → s[2]? = some (some (.dict kv)) → (∀ p ∈ l, PrimOk p) →
    lcD 3 (dTest (dBin gEqD (dBin gGet1 (dVar 2) (dCall f_identity [dVar 3])) (dVar 3))) (dCall f_identity [dVar 3]) (l.map primD) s = some (((l.filter (sameIn bs)).map idOf).map nidD)
  | [], _, _, _, _ => rfl
  | p :: ps, s, hs, h2, hl => by
    have ih := lcD_kept bs kv hkv hb ps s hs h2 fun q hq => hl q (List.mem_cons_of_mem _ hq)
    have hv : dVar 3 (s.set 3 (some (primD p))) = some (primD p) := by
      unfold dVar
      rw [List.getElem?_set]
      simp [hs]
    have hv2 : dVar 2 (s.set 3 (some (primD p))) = some (.dict kv) := by
      unfold dVar
      rw [List.getElem?_set_ne (by decide), h2]
    have hc : dCall f_identity [dVar 3] (s.set 3 (some (primD p))) = some (nidD (idOf p)) := by
      unfold dCall evs evs
      rw [hv]
      exact m_identity p
    have hg : dBin gGet1 (dVar 2) (dCall f_identity [dVar 3]) (s.set 3 (some (primD p))) = some (((bs.find? fun q => decide (idOf q = idOf p)).map primD).getD .none) := by
      unfold dBin
      rw [hv2, hc]
      show (match nidOf (nidD (idOf p)) with | some n => some ((lookD kv n).getD .none) | none => none) = _
      rw [nidOf_D]
      show some ((lookD kv (idOf p)).getD .none) = _
      rw [hkv, lookD_ents]
    have ht : dTest (dBin gEqD (dBin gGet1 (dVar 2) (dCall f_identity [dVar 3])) (dVar 3)) (s.set 3 (some (primD p))) = some (sameIn bs p) := by
      have hsp := shp_prim (hl p List.mem_cons_self)
      unfold dTest
      have : dBin gEqD (dBin gGet1 (dVar 2) (dCall f_identity [dVar 3])) (dVar 3) (s.set 3 (some (primD p))) = some (.bool (sameIn bs p)) := by
        show (match dBin gGet1 (dVar 2) (dCall f_identity [dVar 3]) (s.set 3 (some (primD p))) with | some a => (match dVar 3 (s.set 3 (some (primD p))) with | some b => gEqD a b | none => none) | none => none) = _
        rw [hg, hv]
        show gEqD _ _ = _
        unfold gEqD sameIn
        cases hf : bs.find? (fun q => decide (idOf q = idOf p)) with
        | none =>
          rw [if_pos ⟨noD_none, hsp⟩]
          rfl
        | some q =>
          have hq := shp_prim (hb q (List.mem_of_find?_eq_some hf))
          show (if shp (primD q) = true ∧ shp (primD p) = true then some (PyData.bool (PyData.eqv (primD q) (primD p))) else none) = _
          rw [if_pos ⟨hq, hsp⟩]
      rw [this]
    rw [List.map_cons]
    unfold lcD
    rw [ht]
    cases hsm : sameIn bs p with
    | true =>
      show (match dCall f_identity [dVar 3] (s.set 3 (some (primD p))) with | some e => _ | none => none) = _
      rw [hc]
      show (if noL (nidD (idOf p)) = true then _ else none) = _
      have nn : noL (nidD (idOf p)) = true := by
        generalize idOf p = n
        obtain ⟨a, b, c⟩ := n
        cases a <;> rfl
      rw [if_pos nn, ih, List.filter_cons_of_pos hsm]
      rfl
    | false =>
      rw [List.filter_cons_of_neg (by rw [hsm]; exact Bool.false_ne_true)]
      exact ih
theorem m_kept (W Hh : Int) (as bs : List Prim) (ha : ∀ p ∈ as, PrimOk p) (hb : ∀ p ∈ bs, PrimOk p) (la : as.length ≤ 100) (lb : bs.length ≤ 100) (nb : (nids bs).Nodup) :
    f_kept_names [sceneD W Hh (as.map primD), sceneD W Hh (bs.map primD)] = some (.list ((keptIds as bs).map nidD)) := by
  have m := m_by_identity W Hh bs nb lb
  have hit : ∀ x y z, iSeq (dBin gIx (dVar 0) (dC (.int 2))) [some (sceneD W Hh (as.map primD)), x, y, z] = some (as.map primD) := fun _ _ _ => rfl
  unfold f_kept_names runF F_kept_names
  have st : startD 4 [sceneD W Hh (as.map primD), sceneD W Hh (bs.map primD)] = [some (sceneD W Hh (as.map primD)), some (sceneD W Hh (bs.map primD)), none, none] := rfl
  rw [st]
  have e1 : dSet 2 (dCall f_by_identity [dVar 1]) [some (sceneD W Hh (as.map primD)), some (sceneD W Hh (bs.map primD)), none, none] = some (.nx [some (sceneD W Hh (as.map primD)), some (sceneD W Hh (bs.map primD)), some (.dict (bs.map entD)), none]) := by
    have : dCall f_by_identity [dVar 1] [some (sceneD W Hh (as.map primD)), some (sceneD W Hh (bs.map primD)), none, none] = some (.dict (bs.map entD)) := m
    unfold dSet
    rw [this]
    rfl
  rw [dSeq_nx e1]
  unfold dRet dLc
  rw [hit]
  dsimp only
  rw [if_pos (by rw [List.length_map]; omega), lcD_kept bs _ rfl hb as _ (by show 3 < 4; decide) rfl ha]
  rfl
end Cs
namespace Cs
open PySem PySem.Spec PyProof.Rows L2
theorem idOf_of {p q : Prim} (h : primD q = primD p) : idOf q = idOf p := by
  have h1 := m_identity q
  rw [h, m_identity p] at h1
  exact (nidD_inj (Option.some.inj h1)).symm
theorem ids_inj {l : List Prim} (nd : (nids l).Nodup) {p q : Prim} (hp : p ∈ l) (hq : q ∈ l) (h : idOf p = idOf q) : p = q := by
  induction l with
  | nil => cases hp
  | cons a r ih =>
    have nd' := List.nodup_cons.mp (show (idOf a :: nids r).Nodup from nd)
    rcases List.mem_cons.mp hp with e1 | hp1
    · subst e1
      rcases List.mem_cons.mp hq with e2 | hq1
      · exact e2.symm
      · exact absurd (by rw [h]; exact List.mem_map_of_mem hq1) nd'.1
    · rcases List.mem_cons.mp hq with e2 | hq1
      · subst e2
        exact absurd (by rw [← h]; exact List.mem_map_of_mem hp1) nd'.1
      · exact ih nd'.2 hp1 hq1
theorem sameIn_iff {bs : List Prim} (nb : (nids bs).Nodup) {p : Prim} : sameIn bs p = true ↔ ∃ q ∈ bs, primD q = primD p := by
  unfold sameIn
  constructor
  · intro h
    cases hf : bs.find? (fun q => decide (idOf q = idOf p)) with
    | none => rw [hf] at h; cases h
    | some q =>
      rw [hf] at h
      exact ⟨q, List.mem_of_find?_eq_some hf, (eqv_pln (primD_pln q) (primD_pln p)).mp h⟩
  · rintro ⟨q, hq, e⟩
    have hi := idOf_of e
    cases hf : bs.find? (fun q => decide (idOf q = idOf p)) with
    | none =>
      have := List.find?_eq_none.mp hf q hq
      simp [hi] at this
    | some q' =>
      have h1 := List.find?_some hf
      have h2 : idOf q' = idOf p := of_decide_eq_true h1
      have : q' = q := ids_inj nb (List.mem_of_find?_eq_some hf) hq (by rw [h2, hi])
      subst this
      exact (eqv_pln (primD_pln q') (primD_pln p)).mpr e
theorem mem_kept {as bs : List Prim} (nb : (nids bs).Nodup) {n : Nid} : n ∈ keptIds as bs ↔ ∃ p ∈ as, ∃ q ∈ bs, primD q = primD p ∧ idOf p = n := by
  unfold keptIds
  rw [List.mem_map]
  constructor
  · rintro ⟨p, hp, rfl⟩
    obtain ⟨h1, h2⟩ := List.mem_filter.mp hp
    obtain ⟨q, h3, h4⟩ := (sameIn_iff nb).mp h2
    exact ⟨p, h1, q, h3, h4, rfl⟩
  · rintro ⟨p, hp, q, hq, e, rfl⟩
    exact ⟨p, List.mem_filter.mpr ⟨hp, (sameIn_iff nb).mpr ⟨q, hq, e⟩⟩, rfl⟩
theorem kept_nodup {as bs : List Prim} (na : (nids as).Nodup) : (keptIds as bs).Nodup := by
  unfold keptIds
  exact List.Nodup.sublist (List.Sublist.map _ List.filter_sublist) na
theorem kept_swap {as bs : List Prim} (na : (nids as).Nodup) (nb : (nids bs).Nodup) {n : Nid} : n ∈ keptIds as bs ↔ n ∈ keptIds bs as := by
  rw [mem_kept nb, mem_kept na]
  constructor
  · rintro ⟨p, hp, q, hq, e, rfl⟩
    exact ⟨q, hq, p, hp, e.symm, idOf_of e⟩
  · rintro ⟨q, hq, p, hp, e, rfl⟩
    exact ⟨p, hp, q, hq, e.symm, idOf_of e⟩
theorem nodup_len {α : Type} [DecidableEq α] : ∀ {l m : List α}, l.Nodup → (∀ a ∈ l, a ∈ m) → l.length ≤ m.length
  | [], _, _, _ => Nat.zero_le _
  | a :: r, m, nd, h => by
    have nd' := List.nodup_cons.mp nd
    have hm := h a List.mem_cons_self
    have ih := nodup_len (l := r) (m := m.erase a) nd'.2 fun b hb => (List.mem_erase_of_ne (fun z => nd'.1 (by rw [← z]; exact hb))).mpr (h b (List.mem_cons_of_mem _ hb))
    have := List.length_erase_of_mem hm
    have hp : 0 < m.length := List.length_pos_of_mem hm
    show r.length + 1 ≤ m.length
    omega
theorem kept_len {as bs : List Prim} (na : (nids as).Nodup) (nb : (nids bs).Nodup) : (keptIds as bs).length = (keptIds bs as).length :=
  Nat.le_antisymm (nodup_len (kept_nodup na) fun _ h => (kept_swap na nb).mp h) (nodup_len (kept_nodup nb) fun _ h => (kept_swap na nb).mpr h)
/-! ### what moved -/
def placesOf (xs ys : List Nid) : List Nat := (List.range xs.length).filter fun k => !decide (xs[k]? = ys[k]?)
def mvd (xs ys : List Nid) : List Nid := match placesOf xs ys with
  | [] => []
  | i :: r => (xs.drop i).take ((i :: r).getLast (by simp) + 1 - i)
theorem nid_noL (n : Nid) : noL (nidD n) = true := by
  obtain ⟨a, b, c⟩ := n
  cases a <;> rfl
theorem atI_nids {xs : List Nid} {k : Nat} (h : k < xs.length) : atI (xs.map nidD) (k : Int) = some (nidD xs[k]) := by
  unfold atI ixN
  rw [List.length_map, if_pos (by omega), if_pos (by omega)]
  show (xs.map nidD)[((k : Nat) : Int).toNat]? = _
  rw [Int.toNat_natCast, List.getElem?_map, List.getElem?_eq_getElem h]
  rfl
theorem lcD_places (xs ys : List Nid) (hlen : xs.length = ys.length) (hx : ∀ n ∈ xs, shp (nidD n) = true) (hy : ∀ n ∈ ys, shp (nidD n) = true) : ∀ (l : List Nat) (s : Sl), 5 < s.length → s[2]? = some (some (.list (xs.map nidD))) → s[3]? = some (some (.list (ys.map nidD))) → (∀ k ∈ l, k < xs.length) →
    lcD 5 (dTest (dBin gNeD (dBin gIx (dVar 2) (dVar 5)) (dBin gIx (dVar 3) (dVar 5)))) (dVar 5) (l.map fun (k : Nat) => PyData.int k) s = some ((l.filter fun k => !decide (xs[k]? = ys[k]?)).map fun (k : Nat) => PyData.int k)
  | [], _, _, _, _, _ => rfl
  | k :: l, s, hs, h2, h3, hl => by
    have ih := lcD_places xs ys hlen hx hy l s hs h2 h3 fun j hj => hl j (List.mem_cons_of_mem _ hj)
    have hk := hl k List.mem_cons_self
    have hk2 : k < ys.length := by omega
    have v5 : dVar 5 (s.set 5 (some (.int (k : Nat)))) = some (.int (k : Nat)) := by
      unfold dVar
      rw [List.getElem?_set]
      simp [hs]
    have v2 : dVar 2 (s.set 5 (some (.int (k : Nat)))) = some (.list (xs.map nidD)) := by
      unfold dVar
      rw [List.getElem?_set_ne (by decide), h2]
    have v3 : dVar 3 (s.set 5 (some (.int (k : Nat)))) = some (.list (ys.map nidD)) := by
      unfold dVar
      rw [List.getElem?_set_ne (by decide), h3]
    have i2 : dBin gIx (dVar 2) (dVar 5) (s.set 5 (some (.int (k : Nat)))) = some (nidD xs[k]) := by
      unfold dBin
      rw [v2, v5]
      exact atI_nids hk
    have i3 : dBin gIx (dVar 3) (dVar 5) (s.set 5 (some (.int (k : Nat)))) = some (nidD ys[k]) := by
      unfold dBin
      rw [v3, v5]
      exact atI_nids hk2
    have eq : (!PyData.eqv (nidD xs[k]) (nidD ys[k])) = !decide (xs[k]? = ys[k]?) := by
      rw [List.getElem?_eq_getElem hk, List.getElem?_eq_getElem hk2]
      congr 1
      by_cases h : xs[k] = ys[k]
      · rw [decide_eq_true (by rw [h]), h]
        exact (eqv_pln (nidD_pln _) (nidD_pln _)).mpr rfl
      · rw [decide_eq_false (fun z => h (Option.some.inj z))]
        cases e : PyData.eqv (nidD xs[k]) (nidD ys[k]) with
        | false => rfl
        | true => exact absurd (nidD_inj ((eqv_pln (nidD_pln _) (nidD_pln _)).mp e)) h
    have ht : dTest (dBin gNeD (dBin gIx (dVar 2) (dVar 5)) (dBin gIx (dVar 3) (dVar 5))) (s.set 5 (some (.int (k : Nat)))) = some (!decide (xs[k]? = ys[k]?)) := by
      have : dBin gNeD (dBin gIx (dVar 2) (dVar 5)) (dBin gIx (dVar 3) (dVar 5)) (s.set 5 (some (.int (k : Nat)))) = some (.bool (!decide (xs[k]? = ys[k]?))) := by
        unfold dBin at i2 i3 ⊢
        rw [i2, i3]
        show gNeD _ _ = _
        unfold gNeD
        rw [if_pos ⟨hx _ (List.getElem_mem hk), hy _ (List.getElem_mem hk2)⟩, eq]
      unfold dTest
      rw [this]
    rw [List.map_cons]
    unfold lcD
    rw [ht]
    cases hd : !decide (xs[k]? = ys[k]?) with
    | true =>
      show (match dVar 5 (s.set 5 (some (.int (k : Nat)))) with | some e => _ | none => none) = _
      rw [v5]
      show (if noL (.int (k : Nat)) = true then _ else none) = _
      rw [if_pos (show noL (PyData.int (k : Nat)) = true from rfl), ih, List.filter_cons_of_pos (p := fun k => !decide (xs[k]? = ys[k]?)) hd]
      rfl
    | false =>
      rw [List.filter_cons_of_neg (p := fun k => !decide (xs[k]? = ys[k]?)) (by rw [hd]; exact Bool.false_ne_true)]
      exact ih
end Cs
namespace Cs
open PySem PySem.Spec PyProof.Rows L2
theorem shp_nid {n : Nid} (h1 : okS n.role) (h2 : okS n.key) : shp (nidD n) = true := by
  have a1 : PyData.canLay0 (optD PyData.int n.plot) = true ∧ PyData.depth (optD PyData.int n.plot) = 0 := by cases n.plot <;> exact ⟨by simp [optD, PyData.canLay0], by simp [optD, PyData.depth]⟩
  refine shp_of ?_ ?_ (pln_noD (nidD_pln n))
  · have e : PyData.canLay0 (nidD n) = (PyData.canLay0 (optD PyData.int n.plot) && (PyData.canLay0 (.str n.role) && (PyData.canLay0 (.str n.key) && true))) := rfl
    rw [e, a1.1, strOk_of h1, strOk_of h2]
    rfl
  · have e : PyData.depth (nidD n) = (max (PyData.depth (optD PyData.int n.plot)) (max (PyData.depth (.str n.role)) (max (PyData.depth (.str n.key)) 0))) + 1 := rfl
    have d0 : ∀ z : Str, PyData.depth (.str z) = 0 := fun z => by simp [PyData.depth]
    rw [e, a1.2]
    simp only [d0]
    omega
theorem shp_kept {as bs : List Prim} (ha : ∀ p ∈ as, PrimOk p) : ∀ n ∈ keptIds as bs, shp (nidD n) = true := by
  intro n hn
  unfold keptIds at hn
  obtain ⟨p, hp, rfl⟩ := List.mem_map.mp hn
  have h := ha p (List.mem_filter.mp hp).1
  exact shp_nid h.role h.key
theorem kept_le {as bs : List Prim} : (keptIds as bs).length ≤ as.length := by
  unfold keptIds
  rw [List.length_map]
  exact List.length_filter_le _ _
theorem ints0 (n : Nat) : intsD 0 1 n = (List.range n).map fun (k : Nat) => PyData.int k := by
  unfold intsD
  apply List.map_congr_left
  intro k _
  congr 1
  omega
theorem places_sorted (xs ys : List Nid) : ∀ k ∈ placesOf xs ys, k < xs.length := fun k hk => List.mem_range.mp (List.mem_filter.mp hk).1
theorem atI_last {α : Type} (x : α) (r : List α) : atI (x :: r) (-1) = some ((x :: r).getLast (by simp)) := by
  unfold atI ixN
  rw [if_neg (by omega), if_pos (by simp; omega)]
  show (x :: r)[((-1 : Int) + ((x :: r).length : Nat)).toNat]? = _
  have e : ((-1 : Int) + ((x :: r).length : Nat)).toNat = (x :: r).length - 1 := by
    rw [List.length_cons]
    omega
  rw [e, List.getLast_eq_getElem, List.getElem?_eq_getElem (by simp)]
theorem cut_mid {ds : List PyData} {i j : Nat} (hi : i ≤ ds.length) (hj : j ≤ ds.length) : cutD ds (some (i : Int)) (some (j : Int)) = (ds.drop i).take (j - i) := by
  have e1 : HT.sIx ds.length 0 (some (i : Int)) = i := by
    unfold HT.sIx
    simp only [Int.toNat_natCast]
    rw [if_neg (show ¬ ((i : Int) < 0) by omega)]
    exact Nat.min_eq_left hi
  have e2 : HT.sIx ds.length ds.length (some (j : Int)) = j := by
    unfold HT.sIx
    simp only [Int.toNat_natCast]
    rw [if_neg (show ¬ ((j : Int) < 0) by omega)]
    exact Nat.min_eq_left hj
  unfold cutD
  rw [e1, e2]
theorem m_moved (W Hh : Int) (as bs : List Prim) (ha : ∀ p ∈ as, PrimOk p) (hb : ∀ p ∈ bs, PrimOk p) (la : as.length ≤ 100) (lb : bs.length ≤ 100) (na : (nids as).Nodup) (nb : (nids bs).Nodup) :
    f_moved [sceneD W Hh (as.map primD), sceneD W Hh (bs.map primD)] = some (.tuple ((mvd (keptIds as bs) (keptIds bs as)).map nidD)) := by
  have k1 := m_kept W Hh as bs ha hb la lb nb
  have k2 := m_kept W Hh bs as hb ha lb la na
  have hlen := kept_len na nb
  have hx := shp_kept (bs := bs) ha
  have hy := shp_kept (bs := as) hb
  have hle : (keptIds as bs).length ≤ 100 := Nat.le_trans kept_le la
  generalize hxs : keptIds as bs = xs at *
  generalize hys : keptIds bs as = ys at *
  generalize sceneD W Hh (as.map primD) = A at *
  generalize sceneD W Hh (bs.map primD) = B at *
  unfold f_moved runF F_moved
  have st : startD 6 [A, B] = [some A, some B, none, none, none, none] := rfl
  rw [st]
  have e1 : dSet 2 (dCall f_kept_names [dVar 0, dVar 1]) [some A, some B, none, none, none, none] = some (.nx [some A, some B, some (.list (xs.map nidD)), none, none, none]) := by
    have : dCall f_kept_names [dVar 0, dVar 1] [some A, some B, none, none, none, none] = some (.list (xs.map nidD)) := k1
    unfold dSet
    rw [this]
    rfl
  have e2 : dSet 3 (dCall f_kept_names [dVar 1, dVar 0]) [some A, some B, some (.list (xs.map nidD)), none, none, none] = some (.nx [some A, some B, some (.list (xs.map nidD)), some (.list (ys.map nidD)), none, none]) := by
    have : dCall f_kept_names [dVar 1, dVar 0] [some A, some B, some (.list (xs.map nidD)), none, none, none] = some (.list (ys.map nidD)) := k2
    unfold dSet
    rw [this]
    rfl
  rw [dSeq_nx e1, dSeq_nx e2]
  have hit : iRg1 (evs [dCall gLen [dVar 2]]) [some A, some B, some (.list (xs.map nidD)), some (.list (ys.map nidD)), none, none] = some (intsD 0 1 xs.length) := by
    have : evs [dCall gLen [dVar 2]] [some A, some B, some (.list (xs.map nidD)), some (.list (ys.map nidD)), none, none] = some [.int xs.length] := by simp [evs, dCall, dVar, gLen]
    unfold iRg1
    rw [this]
    show (if small (xs.length : Int) then some (intsD 0 1 ((xs.length : Nat) : Int).toNat) else none) = _
    rw [if_pos ⟨by omega, by omega⟩, Int.toNat_natCast]
  have e3 : dSet 4 (dLc 5 (iRg1 (evs [dCall gLen [dVar 2]])) (dTest (dBin gNeD (dBin gIx (dVar 2) (dVar 5)) (dBin gIx (dVar 3) (dVar 5)))) (dVar 5)) [some A, some B, some (.list (xs.map nidD)), some (.list (ys.map nidD)), none, none] = some (.nx [some A, some B, some (.list (xs.map nidD)), some (.list (ys.map nidD)), some (.list ((placesOf xs ys).map fun (k : Nat) => PyData.int k)), none]) := by
    unfold dSet dLc
    rw [hit]
    dsimp only
    rw [if_pos (by rw [intsD_len]; omega), ints0, lcD_places xs ys hlen hx hy (List.range xs.length) _ (by show 5 < 6; decide) rfl rfl (fun k hk => List.mem_range.mp hk)]
    rfl
  rw [dSeq_nx e3]
  unfold mvd
  cases hp : placesOf xs ys with
  | nil => rfl
  | cons i r =>
    have hi := places_sorted xs ys i (by rw [hp]; exact List.mem_cons_self)
    have hj := places_sorted xs ys ((i :: r).getLast (by simp)) (by rw [hp]; exact List.getLast_mem _)
    rw [dSeq_nx (s' := [some A, some B, some (.list (xs.map nidD)), some (.list (ys.map nidD)), some (.list ((i :: r).map fun (k : Nat) => PyData.int k)), none]) rfl]
    have p1 : dPart (dBin gIx (dVar 4) (dC (.int 0))) [some A, some B, some (.list (xs.map nidD)), some (.list (ys.map nidD)), some (.list ((i :: r).map fun (k : Nat) => PyData.int k)), none] = some (some (i : Int)) := by
      have h0 : gIx (.list ((i :: r).map fun (k : Nat) => PyData.int k)) (.int 0) = some (.int (i : Nat)) := by
        show atI ((i :: r).map fun (k : Nat) => PyData.int k) 0 = _
        unfold atI ixN
        rw [if_pos (by omega), if_pos (by simp)]
        rfl
      have h3 : dBin gIx (dVar 4) (dC (.int 0)) [some A, some B, some (.list (xs.map nidD)), some (.list (ys.map nidD)), some (.list ((i :: r).map fun (k : Nat) => PyData.int k)), none] = some (.int (i : Nat)) := h0
      unfold dPart
      rw [h3]
    have p2 : dPart (dBin gAdd (dBin gIx (dVar 4) (dUn gNeg (dC (.int 1)))) (dC (.int 1))) [some A, some B, some (.list (xs.map nidD)), some (.list (ys.map nidD)), some (.list ((i :: r).map fun (k : Nat) => PyData.int k)), none] = some (some (((i :: r).getLast (by simp) + 1 : Nat) : Int)) := by
      have h1 : gIx (.list ((i :: r).map fun (k : Nat) => PyData.int k)) (.int (-1)) = some (.int ((i :: r).getLast (by simp) : Nat)) := by
        show atI ((i :: r).map fun (k : Nat) => PyData.int k) (-1) = _
        rw [List.map_cons, atI_last]
        congr 1
        have := List.getLast_map (f := fun (k : Nat) => PyData.int k) (l := i :: r) (by simp)
        exact this
      unfold dPart
      have h2 : dBin gAdd (dBin gIx (dVar 4) (dUn gNeg (dC (.int 1)))) (dC (.int 1)) [some A, some B, some (.list (xs.map nidD)), some (.list (ys.map nidD)), some (.list ((i :: r).map fun (k : Nat) => PyData.int k)), none] = some (.int (((i :: r).getLast (by simp) + 1 : Nat) : Int)) := by
        have h3 : dBin gIx (dVar 4) (dUn gNeg (dC (.int 1))) [some A, some B, some (.list (xs.map nidD)), some (.list (ys.map nidD)), some (.list ((i :: r).map fun (k : Nat) => PyData.int k)), none] = some (.int ((i :: r).getLast (by simp) : Nat)) := h1
        unfold dBin at h3 ⊢
        rw [h3]
        rfl
      rw [h2]
    have p3 : dSlL (dVar 2) (dPart (dBin gIx (dVar 4) (dC (.int 0)))) (dPart (dBin gAdd (dBin gIx (dVar 4) (dUn gNeg (dC (.int 1)))) (dC (.int 1)))) [some A, some B, some (.list (xs.map nidD)), some (.list (ys.map nidD)), some (.list ((i :: r).map fun (k : Nat) => PyData.int k)), none] = some (.list (cutD (xs.map nidD) (some (i : Int)) (some (((i :: r).getLast (by simp) + 1 : Nat) : Int)))) := by
      unfold dSlL
      rw [p1, p2]
      rfl
    unfold dRet dCall evs evs
    rw [p3]
    show some (PyData.tuple _) = _
    rw [cut_mid (by rw [List.length_map]; omega) (by rw [List.length_map]; omega), ← List.map_drop, ← List.map_take]
end Cs
namespace Cs
open PySem PySem.Spec PyProof.Rows L2
theorem places_out {xs ys : List Nid} (hl : xs.length = ys.length) {k : Nat} (h : k ∉ placesOf xs ys) : xs[k]? = ys[k]? := by
  by_cases hk : k < xs.length
  · by_cases e : xs[k]? = ys[k]?
    · exact e
    · exact absurd (List.mem_filter.mpr ⟨List.mem_range.mpr hk, by simp [e]⟩) h
  · rw [List.getElem?_eq_none (by omega), List.getElem?_eq_none (by omega)]
theorem range_sorted (n : Nat) : (List.range n).Pairwise (· < ·) := List.pairwise_lt_range
theorem places_pw (xs ys : List Nid) : (placesOf xs ys).Pairwise (· < ·) := (List.pairwise_lt_range).sublist List.filter_sublist
theorem first_last {l : List Nat} {i : Nat} {r : List Nat} (h : l = i :: r) (p : l.Pairwise (· < ·)) {k : Nat} (hk : k ∈ l) : i ≤ k ∧ k ≤ (i :: r).getLast (by simp) := by
  subst h
  constructor
  · rcases List.mem_cons.mp hk with rfl | hk
    · exact Nat.le_refl _
    · exact Nat.le_of_lt ((List.pairwise_cons.mp p).1 k hk)
  · induction r generalizing i k with
    | nil =>
      have : k = i := by simpa using hk
      rw [this]
      exact Nat.le_refl _
    | cons j r ih =>
      obtain ⟨p1, p2⟩ := List.pairwise_cons.mp p
      rw [List.getLast_cons (by simp)]
      rcases List.mem_cons.mp hk with rfl | hk
      · have := ih p2 List.mem_cons_self
        have := p1 j List.mem_cons_self
        omega
      · exact ih p2 hk
theorem split3 {α : Type} (l : List α) (i j : Nat) (h : i ≤ j) : l = l.take i ++ ((l.drop i).take (j - i) ++ l.drop j) := by
  have e1 : l.drop j = (l.drop i).drop (j - i) := by rw [List.drop_drop]; congr 1; omega
  rw [e1, List.take_append_drop, List.take_append_drop]
theorem filter_parts {α : Type} {a b c : List α} {st : α → Bool} (ha : ∀ x ∈ a, st x = true) (hb : ∀ x ∈ b, st x = false) (hc : ∀ x ∈ c, st x = true) : (a ++ (b ++ c)).filter st = a ++ c := by
  rw [List.filter_append, List.filter_append, List.filter_eq_self.mpr ha, List.filter_eq_self.mpr hc, List.filter_eq_nil_iff.mpr (fun x hx => by rw [hb x hx]; exact Bool.false_ne_true)]
  rfl
theorem still_same {xs ys : List Nid} (nx : xs.Nodup) (ny : ys.Nodup) (hm : ∀ n, n ∈ xs ↔ n ∈ ys) (hl : xs.length = ys.length) : xs.filter (fun n => !decide (n ∈ mvd xs ys)) = ys.filter (fun n => !decide (n ∈ mvd xs ys)) := by
  cases hp : placesOf xs ys with
  | nil =>
    have : xs = ys := List.ext_getElem? fun k => places_out hl (by rw [hp]; simp)
    rw [this]
  | cons i r =>
    have pw := places_pw xs ys
    have hfl : ∀ k ∈ placesOf xs ys, i ≤ k ∧ k ≤ (i :: r).getLast (by simp) := fun k hk => first_last hp pw hk
    have hij : i ≤ (i :: r).getLast (by simp) := (hfl i (by rw [hp]; exact List.mem_cons_self)).2
    have hmv : mvd xs ys = (xs.drop i).take ((i :: r).getLast (by simp) + 1 - i) := by
      unfold mvd
      rw [hp]
    generalize (i :: r).getLast (by simp) = j at *
    have et : xs.take i = ys.take i := List.ext_getElem? fun k => by
      by_cases hk : k < i
      · rw [List.getElem?_take_of_lt hk, List.getElem?_take_of_lt hk]
        exact places_out hl fun z => by have := (hfl k z).1; omega
      · rw [List.getElem?_eq_none (by simp; omega), List.getElem?_eq_none (by simp; omega)]
    have ed : xs.drop (j + 1) = ys.drop (j + 1) := List.ext_getElem? fun k => by
      rw [List.getElem?_drop, List.getElem?_drop]
      exact places_out hl fun z => by have := (hfl _ z).2; omega
    have sx := split3 xs i (j + 1) (by omega)
    have sy := split3 ys i (j + 1) (by omega)
    rw [← hmv] at sx
    rw [← et, ← ed] at sy
    generalize mvd xs ys = mid at *
    generalize (ys.drop i).take (j + 1 - i) = mid' at *
    generalize xs.take i = a at *
    generalize xs.drop (j + 1) = c at *
    clear hmv
    subst sx
    subst sy
    obtain ⟨n1, n2, n3⟩ := List.nodup_append.mp nx
    obtain ⟨n4, n5, n6⟩ := List.nodup_append.mp n2
    obtain ⟨m1, m2, m3⟩ := List.nodup_append.mp ny
    obtain ⟨m4, m5, m6⟩ := List.nodup_append.mp m2
    have ha : ∀ x ∈ a, (!decide (x ∈ mid)) = true := fun x hx => by
      have : x ∉ mid := fun z => n3 x hx x (List.mem_append_left _ z) rfl
      simp [this]
    have hc : ∀ x ∈ c, (!decide (x ∈ mid)) = true := fun x hx => by
      have : x ∉ mid := fun z => n6 x z x hx rfl
      simp [this]
    rw [filter_parts ha (fun x hx => by simp [hx]) hc, filter_parts ha (fun x hx => ?_) hc]
    have h1 := (hm x).mpr (List.mem_append_right _ (List.mem_append_left _ hx))
    rcases List.mem_append.mp h1 with z | z
    · exact absurd rfl (m3 x z x (List.mem_append_left _ hx))
    · rcases List.mem_append.mp z with z | z
      · simp [z]
      · exact absurd rfl (m6 x hx x z)
end Cs
namespace Cs
open PySem PySem.Spec PyProof.Rows L2
theorem paint_same {p q : Prim} (hp : WfF p.form) (hq : WfF q.form) (e : primD q = primD p) {x y : Int} (bx : bd x) (by' : bd y) : paint p x y = paint q x y := by
  have h1 := m_paint_of p x y hp bx by'
  have h2 := m_paint_of q x y hq bx by'
  rw [e, h1] at h2
  have := Option.some.inj h2
  cases h3 : paint p x y <;> cases h4 : paint q x y <;> rw [h3, h4] at this <;> simp_all [strD, optD]
/-- what is not visible at a pixel of the page does not paint it -/
theorem paint_visible {W Hh : Int} {p : Prim} (wf : WfF p.form) {x y : Int} (h : inR (0, 0, W, Hh) x y = true) (hv : ∀ b, visible W Hh p = some b → inR b x y = false) : paint p x y = none := by
  cases hp : paint p x y with
  | none => rfl
  | some c =>
    obtain ⟨b, h1, h2⟩ := paint_reach wf hp
    obtain ⟨d, h3, h4⟩ := common_in h2 h
    have : visible W Hh p = some d := by unfold visible; rw [h1]; exact h3
    rw [hv d this] at h4
    cases h4
theorem fold_filter {x y : Int} {st : Prim → Bool} : ∀ (l : List Prim) (a : Str), (∀ p ∈ l, st p = false → paint p x y = none) → l.foldl (fun a p => over a (paint p x y)) a = (l.filter st).foldl (fun a p => over a (paint p x y)) a
  | [], _, _ => rfl
  | p :: ps, a, h => by
    have ih := fun a => fold_filter ps a fun q hq => h q (List.mem_cons_of_mem _ hq)
    cases hs : st p with
    | true => rw [List.filter_cons_of_pos hs, List.foldl_cons, List.foldl_cons, ih]
    | false =>
      rw [List.filter_cons_of_neg (by rw [hs]; exact Bool.false_ne_true), List.foldl_cons, h p List.mem_cons_self hs]
      exact ih a
theorem fold_ids {x y : Int} : ∀ (l m : List Prim) (a : Str), l.map idOf = m.map idOf → (∀ p ∈ l, ∀ q ∈ m, idOf p = idOf q → paint p x y = paint q x y) → l.foldl (fun a p => over a (paint p x y)) a = m.foldl (fun a p => over a (paint p x y)) a
  | [], [], _, _, _ => rfl
  | [], q :: m, _, h, _ => by simp at h
  | p :: l, [], _, h, _ => by simp at h
  | p :: l, q :: m, a, h, hp => by
    simp only [List.map_cons, List.cons.injEq] at h
    rw [List.foldl_cons, List.foldl_cons, hp p List.mem_cons_self q List.mem_cons_self h.1]
    exact fold_ids l m _ h.2 fun p' h1 q' h2 => hp p' (List.mem_cons_of_mem _ h1) q' (List.mem_cons_of_mem _ h2)
/-- the identities that stay as they are -/
def stillIds (as bs : List Prim) (n : Nid) : Bool := decide (n ∈ keptIds as bs) && !decide (n ∈ mvd (keptIds as bs) (keptIds bs as))
theorem still_map {as bs : List Prim} (f : Nid → Bool) (na : (nids as).Nodup) (nb : (nids bs).Nodup) : (as.filter fun p => decide (idOf p ∈ keptIds as bs) && f (idOf p)).map idOf = (keptIds as bs).filter f := by
  have e : ∀ p ∈ as, decide (idOf p ∈ keptIds as bs) = sameIn bs p := fun p hp => by
    by_cases h : sameIn bs p = true
    · rw [h]
      exact decide_eq_true (List.mem_map_of_mem (List.mem_filter.mpr ⟨hp, h⟩))
    · rw [Bool.not_eq_true] at h
      rw [h]
      refine decide_eq_false fun z => ?_
      obtain ⟨p', h1, h2⟩ := List.mem_map.mp z
      obtain ⟨h3, h4⟩ := List.mem_filter.mp h1
      have : p' = p := ids_inj na h3 hp h2
      rw [this, h] at h4
      cases h4
  have e2 : (as.filter fun p => decide (idOf p ∈ keptIds as bs) && f (idOf p)) = (as.filter (sameIn bs)).filter fun p => f (idOf p) := by
    rw [List.filter_filter]
    apply List.filter_congr
    intro p hp
    rw [e p hp, Bool.and_comm]
  rw [e2]
  unfold keptIds
  rw [List.filter_map]
  rfl
end Cs
namespace Cs
open PySem PySem.Spec PyProof.Rows L2
theorem stillIds_ba {as bs : List Prim} (na : (nids as).Nodup) (nb : (nids bs).Nodup) (n : Nid) : stillIds as bs n = (decide (n ∈ keptIds bs as) && !decide (n ∈ mvd (keptIds as bs) (keptIds bs as))) := by
  unfold stillIds
  congr 1
  by_cases h : n ∈ keptIds as bs
  · rw [decide_eq_true h, decide_eq_true ((kept_swap na nb).mp h)]
  · rw [decide_eq_false h, decide_eq_false fun z => h ((kept_swap na nb).mpr z)]
/-- a pixel outside of every box to be painted anew has the same color -/
theorem same_outside {W Hh : Int} {as bs : List Prim} (wa : ∀ p ∈ as, WfF p.form) (wb : ∀ p ∈ bs, WfF p.form) (na : (nids as).Nodup) (nb : (nids bs).Nodup) {x y : Int} (bx : bd x) (by' : bd y) (hin : inR (0, 0, W, Hh) x y = true)
    (ha : ∀ p ∈ as, stillIds as bs (idOf p) = false → ∀ b, visible W Hh p = some b → inR b x y = false) (hb : ∀ p ∈ bs, stillIds as bs (idOf p) = false → ∀ b, visible W Hh p = some b → inR b x y = false) : colorAt as x y = colorAt bs x y := by
  unfold colorAt
  rw [fold_filter (st := fun p => stillIds as bs (idOf p)) as _ fun p hp hs => paint_visible (wa p hp) hin (ha p hp hs), fold_filter (st := fun p => stillIds as bs (idOf p)) bs _ fun p hp hs => paint_visible (wb p hp) hin (hb p hp hs)]
  refine fold_ids _ _ _ ?_ fun p hp q hq e => ?_
  · have h1 := still_map (as := as) (bs := bs) (fun n => !decide (n ∈ mvd (keptIds as bs) (keptIds bs as))) na nb
    have h2 := still_map (as := bs) (bs := as) (fun n => !decide (n ∈ mvd (keptIds as bs) (keptIds bs as))) nb na
    have h3 : (bs.filter fun p => stillIds as bs (idOf p)) = bs.filter fun p => decide (idOf p ∈ keptIds bs as) && !decide (idOf p ∈ mvd (keptIds as bs) (keptIds bs as)) := List.filter_congr fun p _ => stillIds_ba na nb _
    rw [h3, h2]
    refine Eq.trans h1 ?_
    exact still_same (kept_nodup na) (kept_nodup nb) (fun n => kept_swap na nb) (kept_len na nb)
  · obtain ⟨p1, p2⟩ := List.mem_filter.mp hp
    obtain ⟨q1, q2⟩ := List.mem_filter.mp hq
    have hk : idOf p ∈ keptIds as bs := of_decide_eq_true (Bool.and_eq_true_iff.mp p2).1
    obtain ⟨p', a1, q', a2, a3, a4⟩ := (mem_kept nb).mp hk
    have e1 : p' = p := ids_inj na a1 p1 a4
    subst e1
    have e2 : q' = q := ids_inj nb a2 q1 (by rw [idOf_of a3, e])
    subst e2
    exact paint_same (wa _ p1) (wb _ q1) a3 bx by'
end Cs
namespace Cs
open PySem PySem.Spec PyProof.Rows L2
section
variable {K : PySem.W.Frag} {mg : Str → Option Value} {base : Heap}
theorem sc_damage : FnScope ["first", "second", "still", "name", "parts", "scene", "primitive", "box", "boxes"] ["first", "second"] (defScope s_damage) := ⟨rfl, rfl, rfl, by decide +kernel, rfl, by decide +kernel, by decide +kernel⟩
theorem bo_damage : BindOk "damage" s_damage ["first", "second"] := fun _ _ _ _ _ _ us hl => match us, hl with | [_, _], _ => rfl
/-! ### the state of the def that gathers the boxes -/
structure DS [Wd] (H0 H : Hp) (S : Addr) (kvs : List Ent) (st : Nid → Bool) (σ : L2.St) (sd : Sl) : Prop where
  re : RS H σ sd
  nl : ∀ (i : Nat) d, sd[i]? = some (some d) → noL d = true
  sm : Same H0 H
  s2 : σ[2]? = some (some (.ref S))
  hS : H S = some (nT Wd.P Wd.w S kvs)
  ky : Keys H kvs
  S0 : H0 S = none
  lk : ∀ n, (look kvs n).getD (.bl false) = .bl (st n)
structure GS [Wd] (H0 H : Hp) (P S : Addr) (gs : List (NKey × Addr × List Rc)) : Prop where
  hP : H P = some (pT Wd.P Wd.w P (gs.map fun g => (g.1, V.ref g.2.1)))
  PS : P ≠ S
  P0 : H0 P = none
  nd : (gs.map (·.2.1)).Nodup
  ls : ∀ g ∈ gs, g.2.1 ≠ P ∧ g.2.1 ≠ S ∧ H0 g.2.1 = none ∧ ∃ xs, H g.2.1 = some (.lst xs) ∧ RAll H xs (g.2.2.map rcD)
section
variable [Wd] {H0 H H' : Hp} {S P : Addr} {kvs : List Ent} {st : Nid → Bool} {σ : L2.St} {sd : Sl} {gs : List (NKey × Addr × List Rc)}
theorem DS.mono (h : DS H0 H S kvs st σ sd) (s : Same H H') : DS H0 H' S kvs st σ sd := ⟨h.re.mono s, h.nl, h.sm.trans s, h.s2, s _ _ h.hS, h.ky.mono s, h.S0, h.lk⟩
theorem DS.set (h : DS H0 H S kvs st σ sd) {i : Nat} (hi : i ≠ 2) {v : V} {d : PyData} (n : noL d = true) (r : R H v d) : DS H0 H S kvs st (σ.set i (some v)) (sd.set i (some d)) :=
  ⟨h.re.set i r, fun j d' e => by
    rcases set_get e with ⟨_, rfl⟩ | ⟨_, e⟩
    · exact n
    · exact h.nl j d' e, h.sm, by rw [List.getElem?_set_ne hi]; exact h.s2, h.hS, h.ky, h.S0, h.lk⟩
theorem DS.put (h : DS H0 H S kvs st σ sd) {i : Nat} (hi : i ≠ 2) (hd : ∀ d, sd[i]? ≠ some (some d)) (v : V) : DS H0 H S kvs st (σ.set i (some v)) sd :=
  ⟨h.re.put hd v, h.nl, h.sm, by rw [List.getElem?_set_ne hi]; exact h.s2, h.hS, h.ky, h.S0, h.lk⟩
theorem DS.upd (h : DS H0 H S kvs st σ sd) {x : Addr} {o : HO} (hx : x ≠ S) (h0 : H0 x = none) (nt : ∀ xs, H x ≠ some (.tup xs)) : Grow H (upd H x o) ∧ DS H0 (L2.upd H x o) S kvs st σ sd := by
  have gr : Grow H (L2.upd H x o) := fun b xs e => by
    rw [upd_ne (fun z => nt xs (by rw [← z]; exact e))]
    exact e
  refine ⟨gr, ⟨⟨h.re.len, fun i d e => ?_⟩, h.nl, fun b o' e => ?_, h.s2, ?_, h.ky.grow gr, h.S0, h.lk⟩⟩
  · obtain ⟨v, a1, a2⟩ := h.re.get i d e
    exact ⟨v, a1, a2.grow gr (h.nl i d e)⟩
  · rw [upd_ne (ne_of_none e h0)]
    exact h.sm _ _ e
  · rw [upd_ne (Ne.symm hx)]
    exact h.hS
theorem GS.mono (h : GS H0 H P S gs) (s : Same H H') : GS H0 H' P S gs := ⟨s _ _ h.hP, h.PS, h.P0, h.nd, fun g hg => by
  obtain ⟨a1, a2, a3, xs, a4, a5⟩ := h.ls g hg
  exact ⟨a1, a2, a3, xs, s _ _ a4, a5.mono s⟩⟩
theorem GS.app (h : GS H0 H P S gs) {g0 : NKey × Addr × List Rc} (hg : g0 ∈ gs) {xs : List V} (hx : H g0.2.1 = some (.lst xs)) {v : V} {b : Rc} (rv : R H v (rcD b)) :
    GS H0 (upd H g0.2.1 (.lst (xs ++ [v]))) P S (gs.map fun g => if g.2.1 = g0.2.1 then (g.1, g.2.1, g.2.2 ++ [b]) else g) := by
  have gr : Grow H (upd H g0.2.1 (.lst (xs ++ [v]))) := grow_upd hx
  obtain ⟨b1, b2, b3, _⟩ := h.ls g0 hg
  have e1 : (gs.map fun g => if g.2.1 = g0.2.1 then (g.1, g.2.1, g.2.2 ++ [b]) else g).map (fun g => (g.1, V.ref g.2.1)) = gs.map fun g => (g.1, V.ref g.2.1) := by
    rw [List.map_map]
    apply List.map_congr_left
    intro g _
    show (fun g : NKey × Addr × List Rc => (g.1, V.ref g.2.1)) (if g.2.1 = g0.2.1 then (g.1, g.2.1, g.2.2 ++ [b]) else g) = _
    split <;> rfl
  have e2 : (gs.map fun g => if g.2.1 = g0.2.1 then (g.1, g.2.1, g.2.2 ++ [b]) else g).map (·.2.1) = gs.map (·.2.1) := by
    rw [List.map_map]
    apply List.map_congr_left
    intro g _
    show (fun g : NKey × Addr × List Rc => g.2.1) (if g.2.1 = g0.2.1 then (g.1, g.2.1, g.2.2 ++ [b]) else g) = _
    split <;> rfl
  refine ⟨by rw [upd_ne (Ne.symm b1), e1]; exact h.hP, h.PS, h.P0, by rw [e2]; exact h.nd, fun g hg' => ?_⟩
  obtain ⟨g1, hg1, rfl⟩ := List.mem_map.mp hg'
  obtain ⟨c1, c2, c3, ys, c4, c5⟩ := h.ls g1 hg1
  by_cases e : g1.2.1 = g0.2.1
  · rw [if_pos e]
    refine ⟨c1, c2, c3, xs ++ [v], by rw [e, upd_same], ?_⟩
    rw [e, hx] at c4
    cases c4
    rw [List.map_append]
    exact ((c5.snoc rv).grow gr (noLs_app (rects_noL _) (noLs_one (rcD_noL b))))
  · rw [if_neg e]
    exact ⟨c1, c2, c3, ys, by rw [upd_ne e]; exact c4, c5.grow gr (rects_noL _)⟩
theorem GS.new (h : GS H0 H P S gs) {k : NKey} {l : Addr} (hl : H l = some (.lst [])) (l0 : H0 l = none) (lP : l ≠ P) (lS : l ≠ S) (nl : ∀ g ∈ gs, g.2.1 ≠ l) :
    GS H0 (upd H P (pT Wd.P Wd.w P (gs.map (fun g => (g.1, V.ref g.2.1)) ++ [(k, .ref l)]))) P S (gs ++ [(k, l, [])]) := by
  have gr : Grow H (upd H P (pT Wd.P Wd.w P (gs.map (fun g => (g.1, V.ref g.2.1)) ++ [(k, .ref l)]))) := fun b xs e => by
    rw [upd_ne (ne_of e h.hP (by intro z; cases z))]
    exact e
  refine ⟨by rw [upd_same, List.map_append]; rfl, h.PS, h.P0, ?_, fun g hg => ?_⟩
  · rw [List.map_append, List.nodup_append]
    refine ⟨h.nd, by simp, fun a ha b hb => ?_⟩
    obtain ⟨g, hg, rfl⟩ := List.mem_map.mp ha
    have : b = l := by simpa using hb
    rw [this]
    exact nl g hg
  · rcases List.mem_append.mp hg with hg | hg
    · obtain ⟨c1, c2, c3, ys, c4, c5⟩ := h.ls g hg
      exact ⟨c1, c2, c3, ys, by rw [upd_ne c1]; exact c4, c5.grow gr (rects_noL _)⟩
    · have : g = (k, l, []) := by simpa using hg
      subst this
      exact ⟨lP, lS, l0, [], by rw [upd_ne lP]; exact hl, ra_nil⟩
theorem valV_gs {k : NKey} : ∀ (gs : List (NKey × Addr × List Rc)), (∃ g ∈ gs, valV (gs.map fun g => (g.1, V.ref g.2.1)) k = some (.ref g.2.1)) ∨ (valV (gs.map fun g => (g.1, V.ref g.2.1)) k = none ∧ ∀ v, putK (gs.map fun g => (g.1, V.ref g.2.1)) k v = gs.map (fun g => (g.1, V.ref g.2.1)) ++ [(k, v)])
  | [] => .inr ⟨rfl, fun v => rfl⟩
  | g :: r => by
    by_cases e : g.1 = k
    · exact .inl ⟨g, List.mem_cons_self, by rw [List.map_cons, valV_pos e]⟩
    · rcases valV_gs r with ⟨g', hg, h⟩ | ⟨h, hp⟩
      · exact .inl ⟨g', List.mem_cons_of_mem _ hg, by rw [List.map_cons, valV_neg e]; exact h⟩
      · refine .inr ⟨by rw [List.map_cons, valV_neg e]; exact h, fun v => ?_⟩
        have hn : ((g :: r).map fun g => (g.1, V.ref g.2.1)).any (fun kv => decide (kv.1 = k)) = false := by
          have := hp v
          unfold putK at this
          split at this
          · rename_i c
            have := congrArg List.length this
            simp at this
          · rename_i c
            rw [List.map_cons, List.any_cons]
            rw [Bool.not_eq_true] at c
            rw [c]
            simp [e]
        unfold putK
        rw [if_neg (by rw [hn]; exact Bool.false_ne_true)]
end
/-- what the groups hold -/
structure Cov (L : List Rc) (cnt : Nat) (gs : List (NKey × Addr × List Rc)) : Prop where
  cov : ∀ e ∈ L, ∃ g ∈ gs, e ∈ g.2.2
  ne : ∀ g ∈ gs, g.2.2 ≠ [] ∧ g.2.2.length ≤ cnt
  sz : gs.length ≤ cnt
theorem Cov.more {L : List Rc} {cnt cnt' : Nat} {gs : List (NKey × Addr × List Rc)} (h : Cov L cnt gs) (k : cnt ≤ cnt') : Cov L cnt' gs := ⟨h.cov, fun g hg => ⟨(h.ne g hg).1, Nat.le_trans (h.ne g hg).2 k⟩, Nat.le_trans h.sz k⟩
theorem Cov.app {L : List Rc} {cnt : Nat} {gs : List (NKey × Addr × List Rc)} (h : Cov L cnt gs) {l : Addr} {b : Rc} (hl : ∃ g ∈ gs, g.2.1 = l) : Cov (L ++ [b]) (cnt + 1) (gs.map fun g => if g.2.1 = l then (g.1, g.2.1, g.2.2 ++ [b]) else g) := by
  refine ⟨fun e he => ?_, fun g hg => ?_, by rw [List.length_map]; have := h.sz; omega⟩
  · rcases List.mem_append.mp he with he | he
    · obtain ⟨g, hg, k⟩ := h.cov e he
      refine ⟨_, List.mem_map_of_mem hg, ?_⟩
      split
      · exact List.mem_append_left _ k
      · exact k
    · obtain ⟨g, hg, rfl⟩ := hl
      refine ⟨_, List.mem_map_of_mem hg, ?_⟩
      rw [if_pos rfl]
      exact List.mem_append_right _ he
  · obtain ⟨g1, hg1, rfl⟩ := List.mem_map.mp hg
    have := h.ne g1 hg1
    split
    · exact ⟨by simp, by simp; omega⟩
    · exact ⟨this.1, by omega⟩
theorem Cov.new {L : List Rc} {cnt : Nat} {gs : List (NKey × Addr × List Rc)} (h : Cov L cnt gs) {k : NKey} {l : Addr} {b : Rc} (hl : ∀ g ∈ gs, g.2.1 ≠ l) : Cov (L ++ [b]) (cnt + 1) ((gs ++ [(k, l, [])]).map fun (g : NKey × Addr × List Rc) => if g.2.1 = l then (g.1, g.2.1, g.2.2 ++ [b]) else g) := by
  have e : ((gs ++ [(k, l, [])]).map fun (g : NKey × Addr × List Rc) => if g.2.1 = l then (g.1, g.2.1, g.2.2 ++ [b]) else g) = gs ++ [(k, l, [b])] := by
    rw [List.map_append]
    congr 1
    · have : ∀ g ∈ gs, (if g.2.1 = l then (g.1, g.2.1, g.2.2 ++ [b]) else g) = g := fun g hg => if_neg (hl g hg)
      rw [List.map_congr_left this, List.map_id']
    · simp
  rw [e]
  refine ⟨fun e he => ?_, fun g hg => ?_, by have := h.sz; simp; omega⟩
  · rcases List.mem_append.mp he with he | he
    · obtain ⟨g, hg, k⟩ := h.cov e he
      exact ⟨g, List.mem_append_left _ hg, k⟩
    · exact ⟨_, List.mem_append_right _ List.mem_cons_self, he⟩
  · rcases List.mem_append.mp hg with hg | hg
    · have := h.ne g hg
      exact ⟨this.1, by omega⟩
    · have : g = (k, l, [b]) := by simpa using hg
      subst this
      exact ⟨by simp, by simp⟩
theorem dcD_keys : ∀ (ks : List Nid) (acc : List (PyData × PyData)) (s : Sl), 3 < s.length → ∃ kv, dcD 3 dYes (dVar 3) (dC (.bool true)) (ks.map nidD) s acc = some kv ∧ (∀ n, lookD kv n = if n ∈ ks then some (.bool true) else lookD acc n) ∧ kv.length ≤ acc.length + ks.length
  | [], acc, s, _ => ⟨acc, rfl, fun n => by simp, by simp⟩
  | k :: ks, acc, s, hs => by
    obtain ⟨kv, e, h1, h2⟩ := dcD_keys ks (putD acc k (.bool true)) s hs
    have hv : dVar 3 (s.set 3 (some (nidD k))) = some (nidD k) := by
      unfold dVar
      rw [List.getElem?_set]
      simp [hs]
    refine ⟨kv, ?_, fun n => ?_, ?_⟩
    · rw [List.map_cons]
      unfold dcD
      show (match dVar 3 (s.set 3 (some (nidD k))) with | some k' => _ | none => none) = some kv
      rw [hv]
      show (match nidOf (nidD k) with | some n => _ | none => none) = some kv
      rw [nidOf_D]
      exact e
    · rw [h1 n, lookD_put]
      by_cases a1 : n ∈ ks
      · rw [if_pos a1, if_pos (List.mem_cons_of_mem _ a1)]
      · rw [if_neg a1]
        by_cases a2 : n = k
        · rw [if_pos a2, if_pos (by rw [a2]; exact List.mem_cons_self)]
        · rw [if_neg a2, if_neg (fun z => (List.mem_cons.mp z).elim a2 a1)]
    · have h3 : (putD acc k (.bool true)).length ≤ acc.length + 1 := by
        unfold putD
        split <;> simp
      have : (k :: ks).length = ks.length + 1 := rfl
      omega
theorem nids_noL (ks : List Nid) : noLs (ks.map nidD) = true := by
  rw [noLs_all]
  intro d hd
  obtain ⟨n, _, rfl⟩ := List.mem_map.mp hd
  obtain ⟨p, r, k⟩ := n
  cases p <;> rfl
theorem nidD_noL (n : Nid) : noL (nidD n) = true := by
  obtain ⟨p, r, k⟩ := n
  cases p <;> rfl
section
variable [Wd]
theorem DS.store {H0 H : Hp} {S : Addr} {kvs : List Ent} {st : Nid → Bool} {σ : L2.St} {sd : Sl} (h : DS H0 H S kvs st σ sd) {n : Nid} {b : Addr} {k : Bool} (hb : H b = some (.tup (nidV n))) : Grow H (L2.upd H S (nT Wd.P Wd.w S (Cs.put kvs n b (.bl k)))) ∧ DS H0 (L2.upd H S (nT Wd.P Wd.w S (Cs.put kvs n b (.bl k)))) S (Cs.put kvs n b (.bl k)) (fun m => if m = n then k else st m) σ sd := by
  have gr := grow_updN (o := nT Wd.P Wd.w S (Cs.put kvs n b (.bl k))) h.hS
  refine ⟨gr, ⟨⟨h.re.len, fun i d e => ?_⟩, h.nl, fun c o e => ?_, h.s2, upd_same, (h.ky.put hb).grow gr, h.S0, fun m => ?_⟩⟩
  · obtain ⟨v, a1, a2⟩ := h.re.get i d e
    exact ⟨v, a1, a2.grow gr (h.nl i d e)⟩
  · rw [upd_ne (ne_of_none e h.S0)]
    exact h.sm _ _ e
  · rw [look_put]
    by_cases hm : m = n
    · rw [if_pos hm, if_pos hm]
      rfl
    · rw [if_neg hm, if_neg hm]
      exact h.lk m
end
/-- the boxes to be painted anew, each with its plot -/
def dirty (W Hh : Int) (st : Nid → Bool) (items : List Prim) : List (Option Int × Rc) := items.filterMap fun p => if st (idOf p) then none else (visible W Hh p).map fun b => (p.plot, b)
theorem dirty_take {W Hh : Int} {st : Nid → Bool} {its : List Prim} {j : Nat} {p : Prim} (h : its[j]? = some p) : dirty W Hh st (its.take (j + 1)) = dirty W Hh st (its.take j) ++ (if st (idOf p) then [] else match visible W Hh p with
    | none => []
    | some b => [(p.plot, b)]) := by
  unfold dirty
  rw [List.take_succ, h, List.filterMap_append]
  congr 1
  show List.filterMap _ [p] = _
  cases h1 : st (idOf p) <;> cases h2 : visible W Hh p <;> simp [List.filterMap, h1, h2]
theorem optV_R [Wd] {H : Hp} {v : V} {o : Option Int} (r : R H v (optD .int o)) : v = nV (plotK o) := by
  cases o with
  | none => exact r.non
  | some i => exact r.int
theorem tLc_gen [Wd] {i : Nat} {wi : TI} {t : Sl → Option Bool} {f : Sl → Option PyData} {σ : L2.St} {H : Hp} {Q : VK} {sd : Sl} {ds es : List PyData} (hs : RS H σ sd) (hz : ds.length ≤ 1000) (e2 : lcD i t f ds sd = some es)
    (hw : ∀ Q' : It → Hp → Prop, (∀ (J : It) (H' : Hp) (G : Hp → Prop), Same H H' → G H' → Feeds J G ds → Q' J H') → wi σ H Q') (q : ∀ H' v, Same H H' → R H' v (.list es) → Q v H') : tLc wi (gName i) (tDT t) (tD f) [i] σ H Q := by
  refine hw _ fun J H1 Gd s1 g1 fd D hD => ?_
  refine ⟨fun k m H' => k + m = ds.length ∧ Same H1 H' ∧ ∃ acc da rest, H' D = some (.lst acc) ∧ RAll H' acc da ∧ noLs da = true ∧ da.length ≤ k ∧ lcD i t f (ds.drop k) sd = some rest ∧ es = da ++ rest,
    ⟨ds.length, by simp, same_upd hD, [], [], es, upd_same, ra_nil, rfl, Nat.le_refl 0, by simpa using e2, rfl⟩, ?_⟩
  rintro k m H' ⟨hk, s2, acc, da, rest, hacc, ra, nl, hlen, hl, hes⟩
  have g2 : Gd H' := fd.keep _ _ g1 s2
  by_cases hlt : k < ds.length
  · refine .inr ⟨fd.go k H' hlt g2, fun H3 => Same H1 H3 ∧ ∃ acc da rest, H3 D = some (.lst acc) ∧ RAll H3 acc da ∧ noLs da = true ∧ da.length ≤ k + 1 ∧ lcD i t f (ds.drop (k + 1)) sd = some rest ∧ es = da ++ rest, ?_, ?_⟩
    · rintro H3 ⟨s3, r3⟩
      exact ⟨m - 1, by omega, by omega, s3, r3⟩
    · intro x H3 hy
      obtain ⟨rfl, d, hd, r⟩ := fd.yld k H' x H3 hlt g2 hy
      have ed : ds.drop k = d :: ds.drop (k + 1) := by
        rw [List.drop_eq_getElem_cons hlt]
        rw [List.getElem?_eq_getElem hlt] at hd
        cases hd
        rfl
      rw [ed] at hl
      unfold lcD at hl
      have hset : (sd.set i none).set i (some d) = sd.set i (some d) := List.set_set ..
      have rs' : RS H3 ((wipe σ [i]).set i (some x)) (sd.set i (some d)) := by
        rw [← hset]
        exact ((hs.mono (s1.trans s2)).wipe i).set i r
      refine ⟨wipe_back, ?_⟩
      split at hl
      · rename_i et
        refine ⟨_, true, rs', et, fun H4 s4 => iteT ?_⟩
        split at hl
        · rename_i ee ef
          split at hl
          · rename_i hn
            split at hl
            · rename_i es' el
              cases hl
              refine ⟨_, ee, rs'.mono s4, ef, fun H5 v s5 r5 => ?_⟩
              have s35 : Same H3 H5 := s4.trans s5
              refine ⟨acc, s35 _ _ hacc, ?_, ?_⟩
              · rw [ra.length]
                exact Nat.lt_of_le_of_lt (Nat.le_trans hlen (Nat.le_trans (Nat.le_of_lt hlt) hz)) (by decide)
              · have gr := grow_upd (o := .lst (acc ++ [v])) (s35 _ _ hacc)
                have nl' : noLs (da ++ [ee]) = true := by
                  clear hes hlen ra
                  induction da with
                  | nil =>
                    show (noL ee && noLs []) = true
                    rw [hn]
                    rfl
                  | cons a r ih =>
                    unfold noLs at nl
                    obtain ⟨n1, n2⟩ := Bool.and_eq_true_iff.mp nl
                    show (noL a && noLs (r ++ [ee])) = true
                    rw [n1, ih n2]
                    rfl
                refine ⟨fun b o e => ?_, acc ++ [v], da ++ [ee], es', upd_same, ?_, nl', by simp; omega, el, by rw [hes]; simp⟩
                · rw [upd_ne (ne_of_none e hD)]
                  exact s35 _ _ (s2 _ _ e)
                · exact RAll.grow gr nl' ((ra.mono s35).snoc r5)
            · cases hl
          · cases hl
        · cases hl
      · rename_i et
        refine ⟨_, false, rs', et, fun H4 s4 => iteF ?_⟩
        exact ⟨s2.trans s4, acc, da, rest, s4 _ _ hacc, ra.mono s4, nl, by omega, hl, hes⟩
      · cases hl
  · have ek : k = ds.length := by omega
    subst ek
    refine .inl ⟨fd.stop H' g2, ?_⟩
    rw [List.drop_length] at hl
    cases hl
    rw [List.append_nil] at hes
    subst hes
    exact q H' _ (s1.trans s2) (r_lst hacc ra)
theorem hull_in {b b' : Rc} {bs : List Rc} (hb : b' ∈ b :: bs) {x y : Int} (h : inR b' x y = true) : inR (hull b bs) x y = true := by
  rw [inR_iff] at h ⊢
  have m1 := least_mem (List.mem_map_of_mem (f := fun r : Rc => r.1) hb)
  have m2 := least_mem (List.mem_map_of_mem (f := fun r : Rc => r.2.1) hb)
  have m3 := mem_most (List.mem_map_of_mem (f := fun r : Rc => r.1 + r.2.2.1) hb)
  have m4 := mem_most (List.mem_map_of_mem (f := fun r : Rc => r.2.1 + r.2.2.2) hb)
  unfold hull
  dsimp only
  dsimp only at m1 m2 m3 m4
  omega
def hullG (g : NKey × Addr × List Rc) : Rc := match g.2.2 with
  | b :: bs => hull b bs
  | [] => (0, 0, 0, 0)
theorem lcD_gs : ∀ (gs : List (NKey × Addr × List Rc)) (s : Sl), 8 < s.length → (∀ g ∈ gs, g.2.2 ≠ [] ∧ g.2.2.length ≤ 300) → lcD 8 dYes (dCall f_hull [dVar 8]) (gs.map fun g => .list (g.2.2.map rcD)) s = some ((gs.map hullG).map rcD)
  | [], _, _, _ => rfl
  | g :: gs, s, hs, hg => by
    obtain ⟨h1, h2⟩ := hg g List.mem_cons_self
    have ih := lcD_gs gs s hs fun g' h => hg g' (List.mem_cons_of_mem _ h)
    have hv : dVar 8 (s.set 8 (some (.list (g.2.2.map rcD)))) = some (.list (g.2.2.map rcD)) := by
      unfold dVar
      rw [List.getElem?_set]
      simp [hs]
    have hh : dCall f_hull [dVar 8] (s.set 8 (some (.list (g.2.2.map rcD)))) = some (rcD (hullG g)) := by
      unfold dCall evs evs
      rw [hv]
      show f_hull [.list (g.2.2.map rcD)] = _
      unfold hullG
      cases hgg : g.2.2 with
      | nil => exact absurd hgg h1
      | cons b bs =>
        rw [hgg] at h2
        exact m_hull b bs (by simp at h2; omega)
    rw [List.map_cons, List.map_cons, List.map_cons]
    unfold lcD
    show (match dCall f_hull [dVar 8] (s.set 8 (some (.list (g.2.2.map rcD)))) with | some e => _ | none => none) = _
    rw [hh]
    show (if noL (rcD (hullG g)) = true then _ else none) = _
    rw [if_pos (rcD_noL _), ih]
/-! ### a promise of a def without a tape, of what may come out -/
def spW [Wd] (g : List PyData → Nd PyData) (n : Nat) : Sp := fun vs H Q _ => ∃ ds, RAll H vs ds ∧ ds.length = n ∧ (g ds).wp fun d => ∀ H' v, Same H H' → R H' v d → Q v H'
def f_damage : List PyData → Nd PyData := fun ds => ⟨fun Q => ∃ (W Hh : Int) (as bs : List Prim) (ks ms : List Nid), ds = [sceneD W Hh (as.map primD), sceneD W Hh (bs.map primD)] ∧ (∀ p ∈ as, WfF p.form) ∧ (∀ p ∈ bs, WfF p.form) ∧ as.length ≤ 100 ∧ bs.length ≤ 100 ∧
  f_kept_names ds = some (.list (ks.map nidD)) ∧ f_moved ds = some (.tuple (ms.map nidD)) ∧ ks.length ≤ 100 ∧ ms.length ≤ 100 ∧
  ∀ rects : List Rc, rects.length ≤ 200 → (∀ e ∈ dirty W Hh (fun n => decide (n ∈ ks) && !decide (n ∈ ms)) as ++ dirty W Hh (fun n => decide (n ∈ ks) && !decide (n ∈ ms)) bs, ∃ r ∈ rects, ∀ x y, inR e.2 x y = true → inR r x y = true) → Q (.tuple (rects.map rcD)),
  fun h ⟨W, Hh, as, bs, ks, ms, h1, h2, h3, h4, h5, h6, h7, h8, h9, h10⟩ => ⟨W, Hh, as, bs, ks, ms, h1, h2, h3, h4, h5, h6, h7, h8, h9, fun r hr hc => h _ (h10 r hr hc)⟩⟩
theorem ok_damage [Wd] (T : Tx K mg) : Ok Wd.P Wd.w K mg base "damage" 6 ["first", "second"] (spW f_damage 2) :=
  T.damage.ok sc_damage bo_damage (fun vs H Q E h => by obtain ⟨ds, r, e, _⟩ := h; rw [r.length, e]; rfl) fun f cdv A outer s H vs Q E hr h => by
    obtain ⟨ds, ra, _, W, Hh, as, bs, ks, ms, rfl, wa, wb, la, lb, ek, em, lk, lm, q⟩ := h
    have hu1 : (A.deeper (envOfC "damage" (defScope s_damage) s.heap.objs.size f cdv)).units + 1 < cLine := by have := hr.units; omega
    have hu2 : (A.deeper (envOfC "damage" (defScope s_damage) s.heap.objs.size f cdv)).units + 2 < cLine := by have := hr.units; omega
    refine ⟨_, pss_cons (ps_setDcD (j := 2) (x := "name") (i := 3) hr.units rfl sc_damage.nd rfl rfl (swD_true rfl rfl rfl (by decide +kernel)) (di_lst (de_cl (ok_kept_names T) hr (da_cons (de_var 0) (da_cons (de_var 1) da_nil)))) (blkOk_by (own := [("name", 3)]) (N := ["first", "second", "still", "name", "parts", "scene", "primitive", "box", "boxes"]) (sc := defScope s_damage) (by decide +kernel))
        (fun _ _ _ _ _ => pg_name (i := 3) sc_damage.nd rfl (Or.inl rfl)) (fun _ _ _ _ _ => dts_nil) (fun _ _ _ _ _ => de_var 3) (fun _ _ _ _ _ => de_bl))
      (pss_cons (ps_for PassesOwn.never rfl (pi_tup (de_cl (ok_moved T) hr (da_cons (de_var 0) (da_cons (de_var 1) da_nil)))) (pg_name (i := 3) sc_damage.nd rfl (Or.inl rfl))
        (pss_one (ps_asg (de_bl (b := false)) (pg_sub (pe_var (i := 2) rfl (Or.inl rfl)) (de_var 3) (set_N hu1)))))
      (pss_cons (ps_set (i := 4) sc_damage.nd rfl (Or.inl rfl) pe_pnew)
      (pss_cons (ps_frz (ps_for PassesOwn.never rfl (pi_tup (de_tup (da_cons (de_var 0) (da_cons (de_var 1) da_nil)))) (pg_name (i := 5) sc_damage.nd rfl (Or.inl rfl))
        (pss_one (ps_for PassesOwn.never rfl (pi_tup (de_ix (de_var 5) de_int)) (pg_name (i := 6) sc_damage.nd rfl (Or.inl rfl))
          (pss_one (ps_if (pt_not (pt_val (pe_nget2 hu2 (pe_var (i := 2) rfl (Or.inl rfl)) (de_cl (ok_identity T) hr (da_cons (de_var 6) da_nil)) (de_bl (b := false)) ⟨rfl, rfl, rfl, rfl⟩)))
            (pss_cons (ps_set (i := 7) sc_damage.nd rfl (Or.inl rfl) (de_cl (ok_visible_part T) hr (da_cons (de_var 5) (da_cons (de_var 6) da_nil))))
              (pss_one (ps_if (dt_isnot (de_var 7) de_non)
                (pss_one (ps_expr (pe_bm PySem.F.plainAttrs_list PySem.F.slot_list_append PySem.F.type_list_append mt_append (pe_psetd (pe_var (i := 4) rfl (Or.inl rfl)) (de_ix (de_var 6) de_int) (pe_lst pa_nil) ⟨rfl, rfl, rfl, rfl⟩) (da_cons (de_var 7) da_nil) rfl rfl rfl rfl rfl))) pss_nil))) pss_nil))))))
      (pss_one (ps_ret (pe_tupOf T.b_tuple (pe_lc (own := [("boxes", 8)]) rfl sc_damage.nd (pi_valuesP (pe_var (i := 4) rfl (Or.inl rfl))) (blkOk_by (own := [("boxes", 8)]) (N := ["first", "second", "still", "name", "parts", "scene", "primitive", "box", "boxes"]) (sc := defScope s_damage) (by decide +kernel))
        (fun _ _ _ _ _ => pg_name (i := 8) sc_damage.nd rfl (Or.inl rfl)) (fun _ _ _ _ _ => dts_nil) (fun _ _ _ _ _ => de_cl (ok_hull T) hr (da_cons (de_var 8) da_nil))))))))), ?_⟩
    obtain ⟨v1, r1, rfl, rA, ra⟩ := ra.cons
    obtain ⟨v2, r2, rfl, rB, ra⟩ := ra.cons
    have := ra.nil
    subst this
    have nA := sceneD_noL W Hh as
    have nB := sceneD_noL W Hh bs
    have rs0 : RS H (L2.start ["first", "second", "still", "name", "parts", "scene", "primitive", "box", "boxes"] [v1, v2]) [some (sceneD W Hh (as.map primD)), some (sceneD W Hh (bs.map primD)), none, none, none, none, none, none, none] := start_R (ra_cons rA (ra_cons rB ra_nil))
    have lσ : (L2.start ["first", "second", "still", "name", "parts", "scene", "primitive", "box", "boxes"] [v1, v2]).length = 9 := rs0.len
    generalize L2.start ["first", "second", "still", "name", "parts", "scene", "primitive", "box", "boxes"] [v1, v2] = σ0 at *
    generalize hcA : sceneD W Hh (as.map primD) = scA at *
    generalize hcB : sceneD W Hh (bs.map primD) = scB at *
    obtain ⟨kv, hkv, hlk, hkl⟩ := dcD_keys ks [] [some scA, some scB, none, none, none, none, none, none, none] (by show 3 < 9; decide)
    unfold tSeq tAsg
    refine tDc_of (i := 3) (fun _ _ _ => True) σ0 H [some scA, some scB, none, none, none, none, none, none, none] (.dict kv) rs0 ?_ _ fun H1 S es kvs ed hS0 s1 hS ky rk nl => ?_
    · have hit : iLst (dCall f_kept_names [dVar 0, dVar 1]) [some scA, some scB, none, none, none, none, none, none, none] = some (ks.map nidD) := by
        unfold iLst
        have : dCall f_kept_names [dVar 0, dVar 1] [some scA, some scB, none, none, none, none, none, none, none] = some (.list (ks.map nidD)) := ek
        rw [this]
      unfold dDc
      rw [hit]
      show (if (ks.map nidD).length ≤ 1000 then _ else none) = _
      rw [if_pos (by rw [List.length_map]; omega), hkv]
    cases ed
    have lke : ∀ n, (look es n).getD (.bl false) = .bl (decide (n ∈ ks)) := fun n => RO_bl (look_RO n rk) (by
      rw [hlk n]
      by_cases hn : n ∈ ks
      · simp [hn]
      · simp [hn]
        rfl)
    have d1 : DS H H1 S es (fun n => decide (n ∈ ks)) (σ0.set 2 (some (.ref S))) [some scA, some scB, none, none, none, none, none, none, none] := by
      refine ⟨(rs0.mono s1).put (fun d e => by cases e) _, fun i d e => ?_, s1, by rw [List.getElem?_set]; simp [lσ], hS, ky, hS0, lke⟩
      match i, e with
      | 0, e => cases e; exact nA
      | 1, e => cases e; exact nB
      | 2, e => cases e
      | 3, e => cases e
      | 4, e => cases e
      | 5, e => cases e
      | 6, e => cases e
      | 7, e => cases e
      | 8, e => cases e
      | i + 9, e => cases e
    have hel : es.length ≤ 100 := by have h1 := rk.length; have h2 : ([] : List (PyData × PyData)).length = 0 := rfl; omega
    refine gName_at ?_
    dsimp only
    -- the moved ones
    refine ⟨_, .tuple (ms.map nidD), d1.re, em, fun H2 v s2 r2 => ?_⟩
    obtain ⟨a, xs, rfl, ha, rx⟩ := r2.tup
    refine ⟨a, rfl, ⟨xs, SqT.of ha⟩, fun k m σ' H' => k + m = ms.length ∧ ∃ kvs no, DS H H' S kvs (fun n => decide (n ∈ ks) && !decide (n ∈ ms.take k)) σ' [some scA, some scB, none, no, none, none, none, none, none] ∧ kvs.length ≤ 100 + k ∧ H' a = some (.tup xs) ∧ RAll H' xs (ms.map nidD),
      ⟨ms.length, by simp, es, none, ⟨(d1.mono s2).re, d1.nl, (d1.mono s2).sm, d1.s2, (d1.mono s2).hS, (d1.mono s2).ky, hS0, fun n => by simpa using lke n⟩, by omega, ha, rx⟩, ?_⟩
    rintro k m σ1 H' ⟨hk, kvs, no, dk, hkl2, ha', rx'⟩
    by_cases hlt : k < ms.length
    · obtain ⟨x, hx, rn⟩ := rx'.get (i := k) (d := nidD ms[k]) (by rw [List.getElem?_map, List.getElem?_eq_getElem hlt]; rfl)
      refine .inr ⟨⟨xs, x, SqT.of ha', hx⟩, fun σ2 H2 => ∃ kvs no, DS H H2 S kvs (fun n => decide (n ∈ ks) && !decide (n ∈ ms.take (k + 1))) σ2 [some scA, some scB, none, no, none, none, none, none, none] ∧ kvs.length ≤ 100 + (k + 1) ∧ H2 a = some (.tup xs) ∧ RAll H2 xs (ms.map nidD), fun σ2 H2 z => ⟨m - 1, by omega, by omega, z⟩, ?_⟩
      rintro x' H2' ⟨rfl, hx'⟩
      have hx2 := hx' _ (SqT.of ha')
      rw [hx] at hx2
      cases hx2
      have tk : ∀ n, (n ∈ ms.take (k + 1)) ↔ (n ∈ ms.take k ∨ n = ms[k]) := fun n => by
        rw [List.take_succ, List.getElem?_eq_getElem hlt]
        show n ∈ ms.take k ++ [ms[k]] ↔ _
        rw [List.mem_append, List.mem_singleton]
      generalize ms[k] = n0 at *
      have d2 := dk.set (i := 3) (by decide) (nidD_noL n0) rn
      refine ⟨_, .bool false, d2.re, rfl, fun H3 z s3 r3 => ?_⟩
      have d3 := d2.mono s3
      refine ⟨_, d3.s2, _, nidD n0, d3.re, rfl, fun H4 y s4 r4 => ?_⟩
      have d4 := d3.mono s4
      obtain ⟨b, rfl, hb⟩ := nid_R r4
      have hz := (r3.mono s4).bl
      subst hz
      obtain ⟨gr, d5⟩ := d4.store (k := false) hb
      refine ⟨S, b, n0, kvs, rfl, rfl, d4.hS, d4.ky, hb, Nat.lt_of_le_of_lt hkl2 (Nat.lt_of_lt_of_le (show 100 + k < 1000 by omega) (by decide)), ?_⟩
      refine ⟨put kvs n0 b (.bl false), some (nidD n0), ⟨d5.re, d5.nl, d5.sm, d5.s2, d5.hS, d5.ky, d5.S0, fun n => ?_⟩, by have := put_len kvs n0 b (.bl false); omega, gr _ _ ((s3.trans s4) _ _ ha'), (rx'.mono (s3.trans s4)).grow gr (nids_noL ms)⟩
      rw [d5.lk n]
      congr 1
      by_cases h1 : n = n0
      · rw [if_pos h1]
        have : n ∈ ms.take (k + 1) := (tk n).mpr (.inr h1)
        simp [this]
      · rw [if_neg h1]
        have : (n ∈ ms.take (k + 1)) ↔ n ∈ ms.take k := (tk n).trans ⟨fun z => z.elim id fun z => absurd z h1, .inl⟩
        simp [this]
    · have ekk : k = ms.length := by omega
      subst ekk
      refine .inl ⟨⟨xs, SqT.of ha', by rw [rx'.length]; simp⟩, ?_⟩
      rw [List.take_length] at dk
      generalize hst : (fun n => decide (n ∈ ks) && !decide (n ∈ ms)) = st at *
      clear ha' rx'
      intro P hP
      have hP0 : H P = none := by
        cases e : H P with
        | none => rfl
        | some o => have := dk.sm _ _ e; rw [hP] at this; cases this
      have hPS : P ≠ S := fun z => by have := dk.hS; rw [← z, hP] at this; cases this
      have sP := same_upd (o := pT Wd.P Wd.w P []) hP
      have d3 := (dk.mono sP).put (i := 4) (by decide) (fun d e => by cases e) (.ref P)
      have g3 : GS H (L2.upd H' P (pT Wd.P Wd.w P [])) P S [] := ⟨upd_same, hPS, hP0, List.nodup_nil, fun g hg => nomatch hg⟩
      have t4 : (σ1.set 4 (some (V.ref P)))[4]? = some (some (.ref P)) := by
        have hl4 : 4 < σ1.length := by rw [dk.re.len]; show 4 < 9; decide
        rw [List.getElem?_set]
        simp [hl4]
      refine gName_at ?_
      generalize σ1.set 4 (some (V.ref P)) = σP at d3 t4 ⊢
      try dsimp only
      unfold tFrzS
      refine ⟨_, .tuple [scA, scB], d3.re, rfl, fun H2 v s2 r2 => ?_⟩
      obtain ⟨a, xs, rfl, ha, rx⟩ := r2.tup
      have nAB : noLs [scA, scB] = true := by
        show (noL scA && (noL scB && noLs [])) = true
        rw [nA, nB]
        rfl
      let Lk : Nat → List Rc := fun k => (([as, bs].take k).flatMap (dirty W Hh st)).map (·.2)
      refine ⟨a, rfl, ⟨xs, SqT.of ha⟩, fun k m σ' H' => k + m = 2 ∧ ∃ gs so po bo, DS H H' S kvs st σ' [some scA, some scB, none, no, none, so, po, bo, none] ∧ σ'[4]? = some (some (.ref P)) ∧ GS H H' P S gs ∧ Cov (Lk k) (100 * k) gs ∧ H' a = some (.tup xs) ∧ RAll H' xs [scA, scB],
        ⟨2, rfl, [], none, none, none, d3.mono s2, t4, g3.mono s2, ⟨fun e he => (List.not_mem_nil he).elim, fun g hg => (List.not_mem_nil hg).elim, Nat.zero_le _⟩, ha, rx⟩, ?_⟩
      rintro k m σ4 H4 ⟨hk, gs, so, po, bo, d4, t44, g4, cv, ha4, rx4⟩
      by_cases hlt : k < 2
      · obtain ⟨its, sc, hits, hsc, hscd, wits, lits⟩ : ∃ its sc, [as, bs][k]? = some its ∧ [scA, scB][k]? = some sc ∧ sc = sceneD W Hh (its.map primD) ∧ (∀ p ∈ its, WfF p.form) ∧ its.length ≤ 100 := by
          match k, hlt with
          | 0, _ => exact ⟨as, scA, rfl, rfl, hcA.symm, wa, la⟩
          | 1, _ => exact ⟨bs, scB, rfl, rfl, hcB.symm, wb, lb⟩
        obtain ⟨x, hx, rsc⟩ := rx4.get hsc
        have hLk : Lk (k + 1) = Lk k ++ (dirty W Hh st its).map (·.2) := by
          show (([as, bs].take (k + 1)).flatMap (dirty W Hh st)).map (·.2) = (([as, bs].take k).flatMap (dirty W Hh st)).map (·.2) ++ _
          rw [List.take_succ, hits, List.flatMap_append, List.map_append]
          simp
        refine .inr ⟨⟨xs, x, SqT.of ha4, hx⟩, fun σ2 H2 => ∃ gs so po bo, DS H H2 S kvs st σ2 [some scA, some scB, none, no, none, so, po, bo, none] ∧ σ2[4]? = some (some (.ref P)) ∧ GS H H2 P S gs ∧ Cov (Lk (k + 1)) (100 * (k + 1)) gs ∧ H2 a = some (.tup xs) ∧ RAll H2 xs [scA, scB], fun σ2 H2 z => ⟨m - 1, by omega, by omega, z⟩, ?_⟩
        rintro x' H2' ⟨rfl, hx'⟩
        have hx2 := hx' _ (SqT.of ha4)
        rw [hx] at hx2
        cases hx2
        have nsc : noL sc = true := by rw [hscd]; exact sceneD_noL W Hh its
        have isc2 : gIx sc (.int 2) = some (.tuple (its.map primD)) := by rw [hscd]; rfl
        have hvis : ∀ p ∈ its, f_visible_part [sc, primD p] = some (optD rcD (visible W Hh p)) := fun p hp => by rw [hscd]; exact m_visible W Hh _ p (wits p hp)
        have d5 := d4.set (i := 5) (by decide) nsc rsc
        have t5 : (σ4.set 5 (some x))[4]? = some (some (.ref P)) := by rw [List.getElem?_set_ne (by decide)]; exact t44
        refine gName_at ?_
        generalize σ4.set 5 (some x) = σ5 at d5 t5 ⊢
        try dsimp only
        refine ⟨[some scA, some scB, none, no, none, some sc, po, bo, none], .tuple (its.map primD), d5.re, dBin_at rfl rfl isc2, fun H5 v5 s5 r5 => ?_⟩
        obtain ⟨b, ys, rfl, hb, ry⟩ := r5.tup
        refine ⟨b, rfl, ⟨ys, SqT.of hb⟩, fun j m σ' H' => j + m = its.length ∧ ∃ gs po bo, DS H H' S kvs st σ' [some scA, some scB, none, no, none, some sc, po, bo, none] ∧ σ'[4]? = some (some (.ref P)) ∧ GS H H' P S gs ∧ Cov (Lk k ++ (dirty W Hh st (its.take j)).map (·.2)) (100 * k + j) gs ∧ H' a = some (.tup xs) ∧ RAll H' xs [scA, scB] ∧ H' b = some (.tup ys) ∧ RAll H' ys (its.map primD),
          ⟨its.length, by simp, gs, po, bo, d5.mono s5, t5, g4.mono s5, by simpa [dirty] using cv, s5 _ _ ha4, rx4.mono s5, hb, ry⟩, ?_⟩
        rintro j m σ6 H6 ⟨hj, gs6, po6, bo6, d6, t6, g6, cv6, ha6, rx6, hb6, ry6⟩
        by_cases hlt2 : j < its.length
        · obtain ⟨x6, hx6, rp⟩ := ry6.get (i := j) (d := primD its[j]) (by rw [List.getElem?_map, List.getElem?_eq_getElem hlt2]; rfl)
          refine .inr ⟨⟨ys, x6, SqT.of hb6, hx6⟩, fun σ2 H2 => ∃ gs po bo, DS H H2 S kvs st σ2 [some scA, some scB, none, no, none, some sc, po, bo, none] ∧ σ2[4]? = some (some (.ref P)) ∧ GS H H2 P S gs ∧ Cov (Lk k ++ (dirty W Hh st (its.take (j + 1))).map (·.2)) (100 * k + (j + 1)) gs ∧ H2 a = some (.tup xs) ∧ RAll H2 xs [scA, scB] ∧ H2 b = some (.tup ys) ∧ RAll H2 ys (its.map primD), fun σ2 H2 z => ⟨m - 1, by omega, by omega, z⟩, ?_⟩
          rintro x7 H7 ⟨rfl, hx7⟩
          have hx8 := hx7 _ (SqT.of hb6)
          rw [hx6] at hx8
          cases hx8
          have hp : its[j] ∈ its := List.getElem_mem hlt2
          have dt := dirty_take (W := W) (Hh := Hh) (st := st) (List.getElem?_eq_getElem hlt2)
          generalize its[j] = p at *
          have d7 := d6.set (i := 6) (by decide) (primD_noL p) rp
          have t7 : (σ6.set 6 (some x6))[4]? = some (some (.ref P)) := by rw [List.getElem?_set_ne (by decide)]; exact t6
          refine gName_at ?_
          generalize σ6.set 6 (some x6) = σ7 at d7 t7 ⊢
          try dsimp only
          -- is it still?
          refine ⟨_, d7.s2, S, kvs, rfl, .inl d7.hS, [some scA, some scB, none, no, none, some sc, some (primD p), bo6, none], nidD (idOf p), d7.re, by simp [dCall, evs, dVar, m_identity], fun H8 y8 s8 r8 => ?_⟩
          refine ⟨_, .bool false, (d7.mono s8).re, rfl, fun H9 z9 s9 r9 => ?_⟩
          obtain ⟨nb, rfl, hnb⟩ := nid_R (r8.mono s9)
          have d9 := (d7.mono s8).mono s9
          refine ⟨nb, idOf p, kvs, rfl, hnb, .inl d9.hS, d9.ky, st (idOf p), by rw [r9.bl]; exact d9.lk _, ?_⟩
          have s79 := s8.trans s9
          have g9 := g6.mono s79
          have ha9 := s79 _ _ ha6
          have rx9 := rx6.mono s79
          have hb9 := s79 _ _ hb6
          have ry9 := ry6.mono s79
          clear r8 r9
          cases hstp : st (idOf p) with
          | true =>
            rw [hstp] at dt
            refine iteF ⟨gs6, _, _, d9, t7, g9, ?_, ha9, rx9, hb9, ry9⟩
            rw [dt]
            simpa using cv6.more (by omega)
          | false =>
            rw [hstp] at dt
            refine iteT ?_
            refine ⟨[some scA, some scB, none, no, none, some sc, some (primD p), bo6, none], optD rcD (visible W Hh p), d9.re, by simp [dCall, evs, dVar, hvis p hp], fun HA vA sA rA => ?_⟩
            have nv : noL (optD rcD (visible W Hh p)) = true := by cases visible W Hh p <;> rfl
            have dA := (d9.mono sA).set (i := 7) (by decide) nv rA
            have tA : (σ7.set 7 (some vA))[4]? = some (some (.ref P)) := by rw [List.getElem?_set_ne (by decide)]; exact t7
            refine gName_at ?_
            generalize σ7.set 7 (some vA) = σA at dA tA ⊢
            try dsimp only
            refine ⟨[some scA, some scB, none, no, none, some sc, some (primD p), some (optD rcD (visible W Hh p)), none], (visible W Hh p).isSome, dA.re, by cases visible W Hh p <;> rfl, fun HB sB => ?_⟩
            have dB := dA.mono sB
            have gB := (g9.mono sA).mono sB
            have haB := (sA.trans sB) _ _ ha9
            have rxB := rx9.mono (sA.trans sB)
            have hbB := (sA.trans sB) _ _ hb9
            have ryB := ry9.mono (sA.trans sB)
            cases hv : visible W Hh p with
            | none =>
              rw [hv] at dt dB
              refine iteF ⟨gs6, _, _, dB, tA, gB, ?_, haB, rxB, hbB, ryB⟩
              rw [dt]
              simpa using cv6.more (by omega)
            | some c =>
              rw [hv] at dt dB
              refine iteT ?_
              have ip0 : gIx (primD p) (.int 0) = some (optD .int p.plot) := rfl
              have hsz : (gs6.map fun g => (g.1, V.ref g.2.1)).length < sizeLine := by
                have h1 := cv6.sz
                have h2 : (1000 : Nat) ≤ sizeLine := by decide
                rw [List.length_map]
                omega
              refine ⟨_, tA, P, _, rfl, gB.hP, [some scA, some scB, none, no, none, some sc, some (primD p), some (rcD c), none], optD .int p.plot, dB.re, dBin_at rfl rfl ip0, fun HC yC sC rC => ⟨Nat.zero_le _, fun l hl => ?_⟩⟩
              have dC' := dB.mono sC
              have gC := gB.mono sC
              have sl := same_upd (o := .lst []) hl
              have dD := dC'.mono sl
              have gD := gC.mono sl
              have haD := (sC.trans sl) _ _ haB
              have rxD := rxB.mono (sC.trans sl)
              have hbD := (sC.trans sl) _ _ hbB
              have ryD := ryB.mono (sC.trans sl)
              have hlD : L2.upd HC l (.lst []) l = some (.lst []) := upd_same
              have l0 : H l = none := by
                cases e : H l with
                | none => rfl
                | some o => have := dC'.sm _ _ e; rw [hl] at this; cases this
              have lP : l ≠ P := fun z => by have := gC.hP; rw [← z, hl] at this; cases this
              have lS : l ≠ S := fun z => by have := dC'.hS; rw [← z, hl] at this; cases this
              have lg : ∀ g ∈ gs6, g.2.1 ≠ l := fun g hg z => by
                obtain ⟨_, _, _, zs, hz, _⟩ := gC.ls g hg
                rw [z, hl] at hz
                cases hz
              generalize L2.upd HC l (.lst []) = HD at dD gD haD rxD hbD ryD hlD ⊢
              -- the box is put behind a group's list
              have go : ∀ (HE : Hp) (gs1 : List (NKey × Addr × List Rc)) (g0 : NKey × Addr × List Rc), DS H HE S kvs st σA [some scA, some scB, none, no, none, some sc, some (primD p), some (rcD c), none] → GS H HE P S gs1 → g0 ∈ gs1 → Grow HD HE → (∀ g ∈ gs1, g.2.2.length ≤ 300) →
                  Cov (Lk k ++ (dirty W Hh st (its.take (j + 1))).map (·.2)) (100 * k + (j + 1)) (gs1.map fun g => if g.2.1 = g0.2.1 then (g.1, g.2.1, g.2.2 ++ [c]) else g) →
                  tyV K "list" (.ref g0.2.1) HE ∧ tDA (evs [dVar 7]) σA HE fun us H2 => rAppend (.ref g0.2.1) us H2 fun _ H3 => ∃ gs po bo, DS H H3 S kvs st σA [some scA, some scB, none, no, none, some sc, po, bo, none] ∧ σA[4]? = some (some (.ref P)) ∧ GS H H3 P S gs ∧ Cov (Lk k ++ (dirty W Hh st (its.take (j + 1))).map (·.2)) (100 * k + (j + 1)) gs ∧ H3 a = some (.tup xs) ∧ RAll H3 xs [scA, scB] ∧ H3 b = some (.tup ys) ∧ RAll H3 ys (its.map primD) := by
                intro HE gs1 g0 dE gE hg0 grE hlen hcov
                obtain ⟨c1, c2, c3, zs, c4, c5⟩ := gE.ls g0 hg0
                refine ⟨.inl ⟨rfl, zs, SqL.of c4⟩, _, [rcD c], dE.re, rfl, fun HF us sF rF => ?_⟩
                obtain ⟨u, r', rfl, u1, u2⟩ := rF.cons
                have := u2.nil
                subst this
                have c4F := sF _ _ c4
                have dF := dE.mono sF
                have gF := gE.mono sF
                refine ⟨g0.2.1, zs, u, rfl, rfl, c4F, ?_, ?_⟩
                · rw [c5.length, List.length_map]
                  exact Nat.lt_of_le_of_lt (hlen g0 hg0) (by decide)
                · obtain ⟨grU, dU⟩ := dF.upd (o := .lst (zs ++ [u])) c2 c3 (fun ws z => by rw [c4F] at z; cases z)
                  have gr := (grE.trans (Grow.of sF)).trans grU
                  exact ⟨_, _, _, dU, tA, gF.app hg0 c4F u1, hcov, gr _ _ haD, rxD.grow gr nAB, gr _ _ hbD, ryD.grow gr (prims_noL its)⟩
              have ekey : yC = nV (plotK p.plot) := optV_R rC
              refine ⟨_, plotK p.plot, gD.hP, ekey, hsz, fun v hv' => ?_, fun hn' => ?_⟩
              · rcases valV_gs (k := plotK p.plot) gs6 with ⟨g0, hg0, e0⟩ | ⟨e0, _⟩
                · rw [e0] at hv'
                  cases hv'
                  refine go HD gs6 g0 dD gD hg0 (Grow.refl _) (fun g hg => by have := (cv6.ne g hg).2; omega) ?_
                  rw [dt, List.map_append, ← List.append_assoc]
                  exact cv6.app ⟨g0, hg0, rfl⟩
                · rw [e0] at hv'
                  cases hv'
              · rcases valV_gs (k := plotK p.plot) gs6 with ⟨g0, hg0, e0⟩ | ⟨e0, ep⟩
                · rw [e0] at hn'
                  cases hn'
                · rw [ep]
                  have gN := gD.new (k := plotK p.plot) hlD l0 lP lS lg
                  obtain ⟨grP, dP⟩ := dD.upd (o := pT Wd.P Wd.w P (gs6.map (fun g => (g.1, V.ref g.2.1)) ++ [(plotK p.plot, .ref l)])) hPS hP0 (fun ws z => by have h2 := gD.hP; rw [h2] at z; cases z)
                  refine go _ (gs6 ++ [(plotK p.plot, l, [])]) (plotK p.plot, l, []) dP gN (List.mem_append_right _ List.mem_cons_self) grP (fun g hg => ?_) ?_
                  · rcases List.mem_append.mp hg with hg | hg
                    · have := (cv6.ne g hg).2; omega
                    · have : g = (plotK p.plot, l, []) := by simpa using hg
                      subst this
                      exact Nat.zero_le _
                  · rw [dt, List.map_append, ← List.append_assoc]
                    exact cv6.new lg
        · have ejj : j = its.length := by omega
          subst ejj
          refine .inl ⟨⟨ys, SqT.of hb6, by rw [ry6.length]; simp⟩, gs6, some sc, po6, bo6, d6, t6, g6, ?_, ha6, rx6⟩
          rw [List.take_length] at cv6
          rw [hLk]
          exact cv6.more (by omega)
      · have ek2 : k = 2 := by omega
        subst ek2
        refine .inl ⟨⟨xs, SqT.of ha4, by rw [rx4.length]; exact Nat.le_refl 2⟩, P, _, g4.hP, True.intro, fun od => ?_⟩
        obtain ⟨grF, dF⟩ := d4.upd (o := .frz od (pT Wd.P Wd.w P (gs.map fun g => (g.1, V.ref g.2.1)))) hPS hP0 (fun ws z => by have h2 := g4.hP; rw [h2] at z; cases z)
        have lsF : ∀ g ∈ gs, ∃ zs, L2.upd H4 P (.frz od (pT Wd.P Wd.w P (gs.map fun g => (g.1, V.ref g.2.1)))) g.2.1 = some (.lst zs) ∧ RAll (L2.upd H4 P (.frz od (pT Wd.P Wd.w P (gs.map fun g => (g.1, V.ref g.2.1))))) zs (g.2.2.map rcD) := fun g hg => by
          obtain ⟨c1, c2, c3, zs, c4, c5⟩ := g4.ls g hg
          exact ⟨zs, by rw [upd_ne c1]; exact c4, c5.grow grF (rects_noL _)⟩
        have hPF : L2.upd H4 P (.frz od (pT Wd.P Wd.w P (gs.map fun g => (g.1, V.ref g.2.1)))) P = some (.frz od (pT Wd.P Wd.w P (gs.map fun g => (g.1, V.ref g.2.1)))) := upd_same
        dsimp only
        unfold tRet tCB tCons
        refine tLc_gen (ds := gs.map fun g => .list (g.2.2.map rcD)) (es := (gs.map hullG).map rcD) dF.re (by rw [List.length_map]; have := cv.sz; omega) (lcD_gs gs _ (by show 8 < 9; decide) fun g hg => ⟨(cv.ne g hg).1, by have := (cv.ne g hg).2; omega⟩) (fun Q' hQ' => ?_) fun H5 v5 s5 r5 => ?_
        · refine ⟨_, t44, P, od, _, rfl, hPF, hQ' _ _ (fun H => H P = some (.frz od (pT Wd.P Wd.w P (gs.map fun g => (g.1, V.ref g.2.1)))) ∧ ∀ g ∈ gs, ∃ zs, H g.2.1 = some (.lst zs) ∧ RAll H zs (g.2.2.map rcD)) (Same.refl _) ⟨hPF, lsF⟩ ⟨fun H1 H2 z s => ⟨s _ _ z.1, fun g hg => ?_⟩, fun i H1 hi z => ⟨z.1, by simpa using hi⟩, fun H1 z => ⟨z.1, by simp⟩, fun i H1 x H2 hi z y => ?_⟩⟩
          · obtain ⟨zs, z1, z2⟩ := z.2 g hg
            exact ⟨zs, s _ _ z1, z2.mono s⟩
          · obtain ⟨y1, kk, y2⟩ := y
            have hi2 : i < gs.length := by simpa using hi
            rw [List.getElem?_map, List.getElem?_eq_getElem hi2] at y2
            cases y2
            obtain ⟨zs, z1, z2⟩ := z.2 gs[i] (List.getElem_mem hi2)
            exact ⟨y1, _, by rw [List.getElem?_map, List.getElem?_eq_getElem hi2]; rfl, r_lst z1 z2⟩
        · obtain ⟨D, zs, rfl, hD, rz⟩ := r5.lst
          refine ⟨D, zs, rfl, .inl ⟨SqL.of hD, fun l hl => ?_⟩⟩
          have sl := same_upd (o := .tup zs) hl
          refine q (gs.map hullG) (by rw [List.length_map]; have := cv.sz; omega) (fun e he => ?_) _ _ ((dF.sm.trans s5).trans sl) (r_tup upd_same (rz.mono sl))
          have hL : e.2 ∈ Lk 2 := by
            show e.2 ∈ (([as, bs].take 2).flatMap (dirty W Hh st)).map (·.2)
            refine List.mem_map_of_mem (f := fun z : Option Int × Rc => z.2) ?_
            simpa using he
          obtain ⟨g, hg, hge⟩ := cv.cov _ hL
          refine ⟨hullG g, List.mem_map_of_mem hg, fun x y hxy => ?_⟩
          unfold hullG
          cases hgg : g.2.2 with
          | nil => rw [hgg] at hge; exact (List.not_mem_nil hge).elim
          | cons b bs' =>
            rw [hgg] at hge
            exact hull_in hge hxy
end
end Cs
namespace Cs
open PySem PySem.Spec PyProof.Rows L2
section
variable {K : PySem.W.Frag} {mg : Str → Option Value} {base : Heap}
theorem sc_diff : FnScope ["first", "second", "old", "new", "removed", "put", "order", "whole", "name", "primitive"] ["first", "second"] (defScope s_diff) := ⟨rfl, rfl, rfl, by decide +kernel, rfl, by decide +kernel, by decide +kernel⟩
theorem bo_diff : BindOk "diff" s_diff ["first", "second"] := fun _ _ _ _ _ _ us hl => match us, hl with | [_, _], _ => rfl
def F0_diff : Sl → Option Out := (dSet 2 (dCall f_by_identity [(dVar 0)]))
def F1_diff : Sl → Option Out := (dSet 3 (dCall f_by_identity [(dVar 1)]))
def F2_diff : Sl → Option Out := (dSet 4 (dCall gTuple [(dLc 8 (iKy (dVar 2)) (dTest (dBin gNotInK (dVar 8) (dVar 3))) (dVar 8))]))
def F3_diff : Sl → Option Out := (dSet 5 (dCall gTuple [(dLc 9 (iSeq (dBin gIx (dVar 1) (dC (.int 2)))) (dTest (dBin gNeD (dBin gGet1 (dVar 2) (dCall f_identity [(dVar 9)])) (dVar 9))) (dVar 9))]))
def F4_diff : Sl → Option Out := (dSet 6 (dCall gTuple [(dLc 9 (iSeq (dBin gIx (dVar 1) (dC (.int 2)))) dYes (dCall f_identity [(dVar 9)]))]))
def F5_diff : Sl → Option Out := (dIf (dTest (dBin gEqD (dCall f_merged_order [(dVar 0), (dTup [(dC .none), (dVar 4), (dVar 5), (dC .none), (dTup [])])]) (dVar 6))) (dSet 6 (dC .none)) dSkip)

def tThen [Wd] (F : Sl → Option Out) (t : TS) : TS := fun D σ H => ∃ sd sd', RS H σ sd ∧ F sd = some (.nx sd') ∧ ∀ σ' H', Same H H' → RS H' σ' sd' → t D σ' H'
theorem ps_then [Wd] {X : Cx} {st : Stmt} {rest : List Stmt} {F : Sl → Option Out} {t : TS} (h : PS X st (tDS F)) (k : PSs X rest t) : PSs X (st :: rest) (tThen F t) := PSs.sub (pss_cons h k) fun D σ H ⟨sd, sd', rs, e, q⟩ => ⟨sd, _, rs, e, fun σ' H' s rs' => q σ' H' s rs'⟩
def f_diff : List PyData → Nd PyData := fun ds => ⟨fun Q => ∃ (A B o n rm pt od od' : PyData), ds = [A, B] ∧ f_by_identity [A] = some o ∧ f_by_identity [B] = some n ∧ F2_diff [some A, some B, some o, some n, none, none, none, none, none, none] = some (.nx [some A, some B, some o, some n, some rm, none, none, none, none, none]) ∧
  F3_diff [some A, some B, some o, some n, some rm, none, none, none, none, none] = some (.nx [some A, some B, some o, some n, some rm, some pt, none, none, none, none]) ∧ F4_diff [some A, some B, some o, some n, some rm, some pt, none, none, none, none] = some (.nx [some A, some B, some o, some n, some rm, some pt, some od, none, none, none]) ∧
  F5_diff [some A, some B, some o, some n, some rm, some pt, some od, none, none, none] = some (.nx [some A, some B, some o, some n, some rm, some pt, some od', none, none, none]) ∧
  dTest (dBin gEqD (dSl (dVar 0) (fun _ => some none) (dPart (dC (.int 2)))) (dSl (dVar 1) (fun _ => some none) (dPart (dC (.int 2))))) [some A, some B, some o, some n, some rm, some pt, some od', none, none, none] = some true ∧
  (f_damage [A, B]).wp fun d => Q (.tuple [.none, rm, pt, od', d]),
  fun h ⟨A, B, o, n, rm, pt, od, od', e0, e1, e2, e3, e4, e5, e6, e7, e8⟩ => ⟨A, B, o, n, rm, pt, od, od', e0, e1, e2, e3, e4, e5, e6, e7, (f_damage [A, B]).mono (fun d q => h _ q) e8⟩⟩
theorem ok_diff [Wd] (T : Tx K mg) : Ok Wd.P Wd.w K mg base "diff" 7 ["first", "second"] (spW f_diff 2) :=
  T.diff.ok sc_diff bo_diff (fun vs H Q E h => by obtain ⟨ds, r, e, _⟩ := h; rw [r.length, e]; rfl) fun f cdv A outer s H vs Q E hr h => by
    obtain ⟨ds, ra, _, sA, sB, o, n, rm, pt, od, od', rfl, e0, e1, e2, e3, e4, e5, e6, w⟩ := h
    refine ⟨_, ps_then (ds_set 2 sc_diff.nd rfl (Or.inr rfl) (de_cl (ok_by_identity T) hr (da_cons (de_var 0) da_nil))) (ps_then (ds_set 3 sc_diff.nd rfl (Or.inr rfl) (de_cl (ok_by_identity T) hr (da_cons (de_var 1) da_nil))) (ps_then (ds_set 4 sc_diff.nd rfl (Or.inl rfl) (de_tuple T.b_tuple (da_cons (de_lc rfl sc_diff.nd (di_keys (de_var 2)) (blkOk_by (own := [("name", 8)]) (N := ["first", "second", "old", "new", "removed", "put", "order", "whole", "name", "primitive"]) (sc := defScope s_diff) (by decide +kernel)) (fun _ _ _ _ _ => pg_name (i := 8) sc_diff.nd rfl (Or.inl rfl)) (fun _ _ _ _ _ => (dts_one (dt_notInK hr.units (de_var 8) (de_var 3)))) (fun _ _ _ _ _ => (de_var 8))) da_nil))) (ps_then (ds_set 5 sc_diff.nd rfl (Or.inl rfl) (de_tuple T.b_tuple (da_cons (de_lc rfl sc_diff.nd (di_tup (de_ix (de_var 1) de_int)) (blkOk_by (own := [("primitive", 9)]) (N := ["first", "second", "old", "new", "removed", "put", "order", "whole", "name", "primitive"]) (sc := defScope s_diff) (by decide +kernel)) (fun _ _ _ _ _ => pg_name (i := 9) sc_diff.nd rfl (Or.inl rfl)) (fun _ _ _ _ _ => (dts_one (dt_neD hr.units (de_get1 hr.units (de_var 2) (de_cl (ok_identity T) hr (da_cons (de_var 9) da_nil))) (de_var 9)))) (fun _ _ _ _ _ => (de_var 9))) da_nil))) (ps_then (ds_set 6 sc_diff.nd rfl (Or.inl rfl) (de_tuple T.b_tuple (da_cons (de_lc rfl sc_diff.nd (di_tup (de_ix (de_var 1) de_int)) (blkOk_by (own := [("primitive", 9)]) (N := ["first", "second", "old", "new", "removed", "put", "order", "whole", "name", "primitive"]) (sc := defScope s_diff) (by decide +kernel)) (fun _ _ _ _ _ => pg_name (i := 9) sc_diff.nd rfl (Or.inl rfl)) (fun _ _ _ _ _ => dts_nil) (fun _ _ _ _ _ => (de_cl (ok_identity T) hr (da_cons (de_var 9) da_nil)))) da_nil))) (ps_then (ds_if (dt_eqD hr.units (de_cl (ok_merged_order T) hr (da_cons (de_var 0) (da_cons (de_tup (da_cons de_non (da_cons (de_var 4) (da_cons (de_var 5) (da_cons de_non (da_cons (de_tup da_nil) da_nil)))))) da_nil))) (de_var 6)) (ds_one (ds_set 6 sc_diff.nd rfl (Or.inl rfl) de_non)) ds_nil)
      (pss_cons (ps_if (dt_eqD hr.units (de_slice (de_var 0) do_none (do_some de_int)) (de_slice (de_var 1) do_none (do_some de_int))) (pss_one (ps_ret (pe_tup (pa_cons de_non (pa_cons (de_var 4) (pa_cons (de_var 5) (pa_cons (de_var 6) (pa_cons (pe_cl (ok_damage T) hr (da_cons (de_var 0) (da_cons (de_var 1) da_nil))) pa_nil)))))))) pss_nil) pss_never)))))), ?_⟩
    have rs0 : RS H (L2.start ["first", "second", "old", "new", "removed", "put", "order", "whole", "name", "primitive"] vs) [some sA, some sB, none, none, none, none, none, none, none, none] := start_R ra
    have f0 : F0_diff [some sA, some sB, none, none, none, none, none, none, none, none] = some (.nx [some sA, some sB, some o, none, none, none, none, none, none, none]) := by
      have : dCall f_by_identity [dVar 0] [some sA, some sB, none, none, none, none, none, none, none, none] = some o := e0
      unfold F0_diff dSet
      rw [this]
      rfl
    have f1 : F1_diff [some sA, some sB, some o, none, none, none, none, none, none, none] = some (.nx [some sA, some sB, some o, some n, none, none, none, none, none, none]) := by
      have : dCall f_by_identity [dVar 1] [some sA, some sB, some o, none, none, none, none, none, none, none] = some n := e1
      unfold F1_diff dSet
      rw [this]
      rfl
    refine ⟨_, _, rs0, f0, fun σ1 H1 s1 rs1 => ⟨_, _, rs1, f1, fun σ2 H2 s2 rs2 => ⟨_, _, rs2, e2, fun σ3 H3 s3 rs3 => ⟨_, _, rs3, e3, fun σ4 H4 s4 rs4 => ⟨_, _, rs4, e4, fun σ5 H5 s5 rs5 => ⟨_, _, rs5, e5, fun σ6 H6 s6 rs6 => ?_⟩⟩⟩⟩⟩⟩
    refine ⟨_, true, rs6, e6, fun H7 s7 => iteT ?_⟩
    have rs7 := rs6.mono s7
    refine ⟨_, .none, rs7, rfl, fun H8 v8 s8 r8 => ⟨_, rm, rs7.mono s8, rfl, fun H9 v9 s9 r9 => ⟨_, pt, (rs7.mono s8).mono s9, rfl, fun HA vA sA' rA => ⟨_, od', ((rs7.mono s8).mono s9).mono sA', rfl, fun HB vB sB' rB => ?_⟩⟩⟩⟩
    have rsB := (((rs7.mono s8).mono s9).mono sA').mono sB'
    refine ⟨_, [sA, sB], rsB, rfl, fun HC us sC rC => ⟨[sA, sB], by rw [List.append_nil]; exact rC, rfl, (f_damage [sA, sB]).mono (fun d wd HD vD sD rD => ?_) w⟩⟩
    refine ⟨by show (5 : Nat) ≤ sizeLine; decide, fun p hp => ?_⟩
    have sp := same_upd (o := .tup [v8, v9, vA, vB, vD]) hp
    have sBD := (sB'.trans sC).trans sD
    refine wd _ _ ((((((s1.trans s2).trans s3).trans s4).trans s5).trans s6).trans ((((s7.trans s8).trans s9).trans sA').trans (sBD.trans sp))) (r_tup upd_same ?_)
    exact ra_cons (((r8.mono s9).mono sA').mono (sBD.trans sp)) (ra_cons ((r9.mono sA').mono (sBD.trans sp)) (ra_cons (rA.mono (sBD.trans sp)) (ra_cons (rB.mono ((sC.trans sD).trans sp)) (ra_cons (rD.mono sp) ra_nil))))

end
end Cs
namespace Cs
open PySem PySem.Spec PyProof.Rows L2
/-! ### texts of plain signs -/
def asc (n : Nat) (z : Str) : Prop := z.length ≤ n ∧ ∀ c ∈ z.cps.toList, c < 128
instance (n : Nat) (z : Str) : Decidable (asc n z) := by unfold asc; exact inferInstance
theorem asc_okS {n : Nat} {z : Str} (h : asc n z) (hn : n ≤ 1000) : okS z := by
  refine ⟨?_, Nat.le_trans h.1 hn⟩
  unfold PyData.strOk
  rw [Array.all_eq_true']
  intro c hc
  have := h.2 c (Array.mem_toList_iff.mpr hc)
  exact decide_eq_true (by omega)
theorem asc_le {m n : Nat} {z : Str} (h : asc m z) (e : m ≤ n) : asc n z := ⟨Nat.le_trans h.1 e, h.2⟩
theorem cps_add (a b : Str) : (a ++ b).cps = a.cps ++ b.cps := rfl
theorem len_add (a b : Str) : (a ++ b).length = a.length + b.length := Array.size_append
theorem asc_add {m n : Nat} {a b : Str} (ha : asc m a) (hb : asc n b) : asc (m + n) (a ++ b) := by
  refine ⟨?_, fun c hc => ?_⟩
  · rw [len_add]
    have h1 := ha.1
    have h2 := hb.1
    omega
  · rw [cps_add, Array.toList_append] at hc
    rcases List.mem_append.mp hc with h | h
    · exact ha.2 c h
    · exact hb.2 c h
theorem asc_one {c : Nat} (h : c < 128) : asc 1 ⟨#[c]⟩ := ⟨Nat.le_refl 1, fun d hd => by
  have : d = c := by simpa using hd
  rw [this]
  exact h⟩
theorem atI_in {α : Type} {ds : List α} {k : Int} (h0 : 0 ≤ k) (h1 : k < ds.length) : ∃ d, atI ds k = some d ∧ d ∈ ds ∧ ds[k.toNat]? = some d := by
  have hk : k.toNat < ds.length := by omega
  refine ⟨ds[k.toNat], ?_, List.getElem_mem hk, List.getElem?_eq_getElem hk⟩
  unfold atI ixN
  rw [if_pos (by omega), if_pos (by omega)]
  exact List.getElem?_eq_getElem hk
theorem sign_ix {z : Str} {k : Int} (hz : z.length ≤ 1000) (h0 : 0 ≤ k) (h1 : k < z.length) : ∃ c ∈ z.cps.toList, gIx (.str z) (.int k) = some (.str ⟨#[c]⟩) := by
  have e : z.cps.toList.length = z.length := Array.length_toList
  obtain ⟨c, a, b, _⟩ := atI_in (ds := z.cps.toList) h0 (by omega)
  refine ⟨c, b, ?_⟩
  show (if z.length ≤ 1000 then (match atI z.cps.toList k with | some c => some (PyData.str ⟨#[c]⟩) | none => none) else none) = _
  rw [if_pos hz, a]
theorem gAdd_s {a b : Str} (h : a.length + b.length ≤ 1000) : gAdd (.str a) (.str b) = some (.str (a ++ b)) := if_pos h
theorem gAdd_t {a b : List PyData} (h : a.length + b.length ≤ 1000) : gAdd (.tuple a) (.tuple b) = some (.tuple (a ++ b)) := if_pos h
theorem gMod_i {i j : Int} (h : 0 < j) : gMod (.int i) (.int j) = some (.int (i % j)) := if_pos h
theorem gDiv_i {i j : Int} (h : 0 < j ∧ j < 1073741824) : gDiv2 (.int i) (.int j) = some (.int (i / j)) := if_pos h
/-! ### one of a list -/
theorem pick_at {f g : Sl → Option PyData} {s : Sl} {ds : List PyData} {m : Int} {Q : PyData → Prop} (e : f s = some (.list ds)) (e' : g s = some (.int m)) (hl : m = ds.length) (h0 : 0 < m) (hm : m ≤ 1000) (ht : noLs ds = true) (h : ∀ d ∈ ds, Q d) :
    (nBin gIx (nP f) (nTc f_law_draw 1 (nCons (nP g) nNil)) s).wp Q := by
  refine nBin_at (nP_at e ht (draw_at e' (by omega) fun k k0 k1 => ?_))
  obtain ⟨d, a, b, _⟩ := atI_in (ds := ds) k0 (by omega)
  exact ⟨d, a, tidy_noL (noLs_mem.mp ht d b), h d b⟩
theorem sign_at {f g : Sl → Option PyData} {s : Sl} {z : Str} {m : Int} {Q : PyData → Prop} (e : f s = some (.str z)) (e' : g s = some (.int m)) (hl : m = z.length) (h0 : 0 < m) (hm : m ≤ 1000) (h : ∀ c ∈ z.cps.toList, Q (.str ⟨#[c]⟩)) :
    (nBin gIx (nP f) (nTc f_law_draw 1 (nCons (nP g) nNil)) s).wp Q := by
  refine nBin_at (nP_at e rfl (draw_at e' (by omega) fun k k0 k1 => ?_))
  obtain ⟨c, a, b⟩ := sign_ix (z := z) (k := k) (by omega) k0 (by omega)
  exact ⟨_, b, rfl, h c a⟩
/-- a draw less a number -/
theorem less_at {f : Sl → Option PyData} {s : Sl} {m j : Int} {Q : PyData → Prop} (e : f s = some (.int m)) (hm : m ≤ 1000000000) (h : ∀ k : Int, 0 ≤ k → k < max m 1 → Q (.int (k - j))) :
    (nBin gSub (nTc f_law_draw 1 (nCons (nP f) nNil)) (nP (dC (.int j))) s).wp Q :=
  nBin_at (draw_at e hm fun k k0 k1 => nP_at rfl rfl ⟨_, rfl, rfl, h k k0 k1⟩)
theorem nNil_at {s : Sl} {Q : List PyData → Prop} (h : Q []) : (nNil s).wp Q := h
theorem nSkip_at {s : Sl} {Q : Out → Prop} (h : Q (.nx s)) : (nSkip s).wp Q := h
/-! ### a word -/
theorem l_word {sg : Str} (h1 : sg.length = 94) (h2 : ∀ c ∈ sg.cps.toList, c < 128) {Q : PyData → Prop} (h : ∀ z, asc 5 z → Q (.str z)) :
    (nSeq (nFor 3 (nRg1 (nCons (nBin gIx (nP (dLst [(dC (.int 0)), (dC (.int 1)), (dC (.int 1)), (dC (.int 2)), (dC (.int 3)), (dC (.int 5))])) (nTc f_law_draw 1 (nCons (nP (dC (.int 6))) nNil))) nNil)) L0_law_word) (nRet (nP (dVar 2))) [none, some (.str sg), some (.str ""), none]).wp fun o => Q (outN o) := by
  refine nSeq_at (nFor_at (nRg1_at (nCons_at (pick_at (ds := [.int 0, .int 1, .int 1, .int 2, .int 3, .int 5]) rfl rfl rfl (by decide) (by decide) rfl fun d hd => nNil_at ?_))))
  have hd' : ∃ j : Int, d = .int j ∧ 0 ≤ j ∧ j ≤ 5 := by
    simp only [List.mem_cons, List.not_mem_nil, or_false] at hd
    rcases hd with rfl | rfl | rfl | rfl | rfl | rfl <;> exact ⟨_, rfl, by decide, by decide⟩
  obtain ⟨j, rfl, j0, j5⟩ := hd'
  refine ⟨j, rfl, ⟨by omega, by omega⟩, ?_⟩
  refine nLoop_inv _ (fun k s => ∃ z o, s = [none, some (.str sg), some (.str z), o] ∧ asc k z) _ ⟨"", none, rfl, by decide +kernel⟩ (fun k d s hk ⟨z, o, e, a⟩ => ?_) fun s ⟨z, o, e, a⟩ => ?_
  · subst e
    have hk5 : k < 5 := by
      obtain ⟨hl, _⟩ := List.getElem?_eq_some_iff.mp hk
      rw [intsD_len] at hl
      omega
    refine nSetN_at (nBin_at (nP_at (d := .str z) rfl rfl (sign_at (z := sg) (m := 94) rfl rfl (by rw [h1]; rfl) (by decide) (by decide) fun c hc => ?_)))
    have hz := a.1
    have lc : (⟨#[c]⟩ : Str).length = 1 := rfl
    exact ⟨.str (z ++ ⟨#[c]⟩), gAdd_s (by omega), rfl, rfl, z ++ ⟨#[c]⟩, _, rfl, asc_add a (asc_one (h2 c hc))⟩
  · subst e
    rw [intsD_len] at a
    exact nRet_at rfl rfl (h z (asc_le a (by omega)))
theorem add_str {i : Nat} {s : Sl} {a b : Str} (e : dVar i s = some (.str a)) (h : a.length + b.length ≤ 1000) : dBin gAdd (dVar i) (dC (.str b)) s = some (.str (a ++ b)) := dBin_at e rfl (gAdd_s h)
theorem w_word {Q : PyData → Prop} (h : ∀ z, asc 5 z → Q (.str z)) : (f_law_word []).wp Q := by
  show (F_law_word [none, none, none, none]).wp fun o => Q (outN o)
  unfold F_law_word
  exact nSeq_at (nSet_at rfl rfl (nSeq_at (nSet_at (add_str rfl (by decide +kernel)) rfl (nSeq_at (nSet_at rfl rfl (l_word (by decide +kernel) (by decide +kernel) h))))))
/-! ### a color -/
def colOk (z : Str) : Prop := z.length ≤ 7 ∧ ∀ c ∈ z.cps.toList, c = 35 ∨ (48 ≤ c ∧ c ≤ 57) ∨ (97 ≤ c ∧ c ≤ 102)
instance (z : Str) : Decidable (colOk z) := by unfold colOk; exact inferInstance
theorem colOk_asc {z : Str} (h : colOk z) : asc 7 z := ⟨h.1, fun c hc => by
  have := h.2 c hc
  omega⟩
def hexOk (n : Nat) (z : Str) : Prop := z.length ≤ n ∧ ∀ c ∈ z.cps.toList, (48 ≤ c ∧ c ≤ 57) ∨ (97 ≤ c ∧ c ≤ 102)
instance (n : Nat) (z : Str) : Decidable (hexOk n z) := by unfold hexOk; exact inferInstance
theorem w_color {Q : PyData → Prop} (h : ∀ o : Option Str, (∀ c, o = some c → colOk c) → Q (strD o)) : (f_law_color []).wp Q := by
  show (F_law_color [none, none, none, none]).wp fun o => Q (outN o)
  unfold F_law_color
  refine nSeq_at (nSetN_at (draw_at rfl (by decide) fun n n0 n1 => ⟨rfl, ?_⟩))
  refine nSeq_at (nSet_at rfl rfl ?_)
  refine nSeq_at (nFor_at (nRg1_at (nCons_at (nP_at rfl rfl (nNil_at ⟨6, rfl, by decide, ?_⟩)))))
  refine nLoop_inv _ (fun k s => ∃ n z o, s = [none, some (.int n), some (.str z), o] ∧ hexOk k z ∧ 0 ≤ n) _ ⟨n, "", none, rfl, by decide +kernel, n0⟩ (fun k d s hk ⟨n, z, o, e, a, n0⟩ => ?_) fun s ⟨n, z, o, e, a, n0⟩ => ?_
  · subst e
    have hk6 : k < 6 := by
      obtain ⟨hl, _⟩ := List.getElem?_eq_some_iff.mp hk
      rw [intsD_len] at hl
      exact hl
    have m0 := Int.emod_nonneg n (show (16 : Int) ≠ 0 by decide)
    have m1 := Int.emod_lt_of_pos n (show (0 : Int) < 16 by decide)
    obtain ⟨c, hc, e1⟩ := sign_ix (z := "0123456789abcdef") (k := n % 16) (by decide +kernel) m0 (by
      have : ("0123456789abcdef" : Str).length = 16 := by decide +kernel
      omega)
    have hc' : (48 ≤ c ∧ c ≤ 57) ∨ (97 ≤ c ∧ c ≤ 102) := (show ∀ c ∈ ("0123456789abcdef" : Str).cps.toList, (48 ≤ c ∧ c ≤ 57) ∨ (97 ≤ c ∧ c ≤ 102) by decide +kernel) c hc
    have lc : (⟨#[c]⟩ : Str).length = 1 := rfl
    have hz := a.1
    refine nSeq_at (nSet_at (d := .str (⟨#[c]⟩ ++ z)) (dBin_at (dBin_at (b := .int (n % 16)) rfl (dBin_at (a := .int n) (b := .int 16) rfl rfl (gMod_i (by decide))) e1) (b := .str z) rfl (gAdd_s (by omega))) rfl ?_)
    refine nSet_at (d := .int (n / 16)) (dBin_at (a := .int n) (b := .int 16) rfl rfl (gDiv_i (by decide))) rfl ?_
    refine ⟨n / 16, ⟨#[c]⟩ ++ z, _, rfl, ⟨?_, fun x hx => ?_⟩, by omega⟩
    · rw [len_add]
      omega
    · rw [cps_add, Array.toList_append] at hx
      rcases List.mem_append.mp hx with hx | hx
      · have : x = c := by simpa using hx
        rw [this]
        exact hc'
      · exact a.2 x hx
  · subst e
    rw [intsD_len] at a
    have a1 : z.length ≤ 6 := a.1
    have l1 : ("#" : Str).length = 1 := by decide +kernel
    have e1 : dBin gAdd (dC (.str "#")) (dVar 2) [none, some (.int n), some (.str z), o] = some (.str ("#" ++ z)) := dBin_at (b := .str z) rfl rfl (gAdd_s (by omega))
    have e2 : dLst [(dBin gAdd (dC (.str "#")) (dVar 2)), (dC (.str "#ffffff")), (dC (.str "#000000")), (dC (.str "#3a6ea8")), (dC .none)] [none, some (.int n), some (.str z), o] = some (.list [.str ("#" ++ z), .str "#ffffff", .str "#000000", .str "#3a6ea8", .none]) := by
      unfold dLst evs
      rw [e1]
      rfl
    have k1 : colOk ("#" ++ z) := by
      refine ⟨by rw [len_add]; omega, fun c hc => ?_⟩
      rw [cps_add, Array.toList_append] at hc
      rcases List.mem_append.mp hc with hc | hc
      · exact .inl ((show ∀ c ∈ ("#" : Str).cps.toList, c = 35 by decide +kernel) c hc)
      · exact .inr (a.2 c hc)
    refine nRetN_at (pick_at e2 rfl rfl (by decide) (by decide) rfl fun d hd => ?_)
    simp only [List.mem_cons, List.not_mem_nil, or_false] at hd
    rcases hd with rfl | rfl | rfl | rfl | rfl
    · exact h (some _) fun c e => by cases e; exact k1
    · exact h (some _) fun c e => by cases e; decide +kernel
    · exact h (some _) fun c e => by cases e; decide +kernel
    · exact h (some _) fun c e => by cases e; decide +kernel
    · exact h none fun c e => by cases e
end Cs
namespace Cs
open PySem PySem.Spec PyProof.Rows L2
theorem le_k {a b : Nat} (h : Nat.ble a b = true) : a ≤ b := Nat.le_of_ble_eq_true h
def sm (n : Int) (f : Form) : Prop := ∀ i ∈ pts f, -n ≤ i ∧ i ≤ n
/-- a form, its numbers within n -/
structure FormG (n : Int) (f : Form) : Prop where
  sm : sm n f
  len : ∀ p ps, f = .poly p ps → ps.length ≤ 3
  rad : ∀ x y r, f = .circ x y r → 0 ≤ r
  txt : asc 100 (txt f)
theorem FormG.wf {n : Int} {f : Form} (h : FormG n f) (hn : n ≤ 1000) : WfF f := ⟨fun i hi => by
  have := h.sm i hi
  exact ⟨by omega, by omega⟩, h.len, h.rad, h.txt.1⟩
theorem FormG.le {m n : Int} {f : Form} (h : FormG m f) (e : m ≤ n) : FormG n f := ⟨fun i hi => by
  have := h.sm i hi
  omega, h.len, h.rad, h.txt⟩
theorem flat_snoc (ps : List (Int × Int)) (a b : Int) : flat (ps ++ [(a, b)]) = flat ps ++ [a, b] := by
  induction ps with
  | nil => rfl
  | cons p ps ih =>
    show p.1 :: p.2 :: flat (ps ++ [(a, b)]) = _
    rw [ih]
    rfl
theorem flat_len : ∀ ps : List (Int × Int), (flat ps).length = 2 * ps.length
  | [] => rfl
  | p :: ps => by
    show (flat ps).length + 1 + 1 = 2 * (ps.length + 1)
    rw [flat_len ps]
    omega
theorem ints_noL (l : List Int) : noLs (l.map PyData.int) = true := noLs_mem.mpr fun d hd => by
  obtain ⟨i, _, rfl⟩ := List.mem_map.mp hd
  rfl
theorem asc_e : asc 100 "" := by decide +kernel
theorem w_form {Q : PyData → Prop} (h : ∀ f, FormG 100 f → Q (.tuple [.str (shapeS f), ptsD f, .str (txt f)])) : (f_law_form [.int 10]).wp Q := by
  show (F_law_form [none, some (.int 10), none, none, none, none, none]).wp fun o => Q (outN o)
  unfold F_law_form
  refine nSeq_at (nSetN_at (less_at (m := 18) rfl (by decide) fun x x0 x1 => ⟨rfl, ?_⟩))
  refine nSeq_at (nSetN_at (less_at (m := 18) rfl (by decide) fun y y0 y1 => ⟨rfl, ?_⟩))
  refine nSeq_at (nSetN_at (draw_at (m := 8) rfl (by decide) fun kd d0 d1 => ⟨rfl, ?_⟩))
  refine nSeq_at (nIf_at (b := decide (kd < 2)) rfl ?_)
  by_cases k2 : kd < 2
  · rw [decide_eq_true k2, if_pos rfl]
    refine nRetN_at (nTup_at (nCons_at (nP_at rfl rfl (nCons_at (nTup_at (nCons_at (nP_at rfl rfl (nCons_at (nP_at rfl rfl (nCons_at (draw_at (m := 10) rfl (by decide) fun a a0 a1 => nCons_at (draw_at (m := 10) rfl (by decide) fun b b0 b1 => nNil_at ⟨le_k rfl, nCons_at (nP_at rfl rfl (nNil_at ⟨le_k rfl, ?_⟩))⟩))))))))))))
    refine h (.rect (x - 4, y - 4, a, b)) ⟨fun i hi => ?_, fun p ps e => (by cases e), fun x y r e => (by cases e), asc_e⟩
    simp only [pts, List.mem_cons, List.not_mem_nil, or_false] at hi
    rcases hi with rfl | rfl | rfl | rfl <;> omega
  rw [decide_eq_false k2, if_neg (by decide)]
  refine nSkip_at (nSeq_at (nIf_at (b := decide (kd = 2)) rfl ?_))
  by_cases k3 : kd = 2
  · rw [decide_eq_true k3, if_pos rfl]
    refine nRetN_at (nTup_at (nCons_at (nP_at rfl rfl (nCons_at (nTup_at (nCons_at (nP_at rfl rfl (nCons_at (nP_at rfl rfl (nCons_at (less_at (m := 18) rfl (by decide) fun a a0 a1 => nCons_at (less_at (m := 18) rfl (by decide) fun b b0 b1 => nNil_at ⟨le_k rfl, nCons_at (nP_at rfl rfl (nNil_at ⟨le_k rfl, ?_⟩))⟩))))))))))))
    refine h (.line (x - 4) (y - 4) (a - 4) (b - 4)) ⟨fun i hi => ?_, fun p ps e => (by cases e), fun x y r e => (by cases e), asc_e⟩
    simp only [pts, List.mem_cons, List.not_mem_nil, or_false] at hi
    rcases hi with rfl | rfl | rfl | rfl <;> omega
  rw [decide_eq_false k3, if_neg (by decide)]
  refine nSkip_at (nSeq_at (nIf_at (b := decide (kd = 3)) rfl ?_))
  by_cases k4 : kd = 3
  · rw [decide_eq_true k4, if_pos rfl]
    refine nSeq_at (nSet_at rfl rfl (nSeq_at (nFor_at (nRg1_at (nCons_at (draw_at (m := 4) rfl (by decide) fun j j0 j1 => nNil_at ⟨j, rfl, ⟨by omega, by omega⟩, ?_⟩))))))
    refine nLoop_inv _ (fun k s => ∃ ps o, s = [none, some (.int 10), some (.int (x - 4)), some (.int (y - 4)), some (.int kd), some (.tuple (((x - 4) :: (y - 4) :: flat ps).map PyData.int)), o] ∧ ps.length = k ∧ ∀ i ∈ flat ps, -100 ≤ i ∧ i ≤ 100) _ ⟨[], none, rfl, rfl, fun i hi => nomatch hi⟩ (fun k d s hk ⟨ps, o, e, el, eb⟩ => ?_) fun s ⟨ps, o, e, el, eb⟩ => ?_
    · subst e
      have hk5 : k < 3 := by
        obtain ⟨hl, _⟩ := List.getElem?_eq_some_iff.mp hk
        rw [intsD_len] at hl
        omega
      refine nSetN_at (nBin_at (nP_at (d := .tuple (((x - 4) :: (y - 4) :: flat ps).map PyData.int)) rfl (ints_noL _) (nTup_at (nCons_at (less_at (m := 18) rfl (by decide) fun a a0 a1 => nCons_at (less_at (m := 18) rfl (by decide) fun b b0 b1 => nNil_at ⟨le_k rfl, ?_⟩))))))
      have e2 : (((x - 4) :: (y - 4) :: flat ps).map PyData.int) ++ [PyData.int (a - 4), PyData.int (b - 4)] = ((x - 4) :: (y - 4) :: flat (ps ++ [(a - 4, b - 4)])).map PyData.int := by
        rw [flat_snoc]
        simp
      refine ⟨.tuple (((x - 4) :: (y - 4) :: flat (ps ++ [(a - 4, b - 4)])).map PyData.int), ?_, ints_noL _, ints_noL _, ps ++ [(a - 4, b - 4)], _, rfl, by simp [el], fun i hi => ?_⟩
      · rw [← e2]
        refine gAdd_t ?_
        have := flat_len ps
        simp
        omega
      · rw [flat_snoc] at hi
        rcases List.mem_append.mp hi with hi | hi
        · exact eb i hi
        · simp only [List.mem_cons, List.not_mem_nil, or_false] at hi
          rcases hi with rfl | rfl <;> omega
    · subst e
      rw [intsD_len] at el
      refine nRet_at (d := .tuple [.str "polyline", .tuple (((x - 4) :: (y - 4) :: flat ps).map PyData.int), .str ""]) rfl ?_ ?_
      · show (noL (.str "polyline") && (noLs (((x - 4) :: (y - 4) :: flat ps).map PyData.int) && (noL (.str "") && true))) = true
        rw [ints_noL]
        rfl
      · refine h (.poly (x - 4, y - 4) ps) ⟨fun i hi => ?_, fun p qs e => (by cases e; omega), fun x y r e => (by cases e), asc_e⟩
        simp only [pts, List.mem_cons] at hi
        rcases hi with rfl | rfl | hi
        · omega
        · omega
        · exact eb i hi
  rw [decide_eq_false k4, if_neg (by decide)]
  refine nSkip_at (nSeq_at (nIf_at (b := decide (kd = 4)) rfl ?_))
  by_cases k5 : kd = 4
  · rw [decide_eq_true k5, if_pos rfl]
    refine nRetN_at (nTup_at (nCons_at (nP_at rfl rfl (nCons_at (nTup_at (nCons_at (nP_at rfl rfl (nCons_at (nP_at rfl rfl (nCons_at (draw_at (m := 10 / 3 + 1) (dBin_at (dBin_at (a := .int 10) (b := .int 3) rfl rfl (gDiv_i (by decide))) rfl rfl) (by decide) fun a a0 a1 => nNil_at ⟨le_k rfl, nCons_at (nP_at rfl rfl (nNil_at ⟨le_k rfl, ?_⟩))⟩)))))))))))
    refine h (.circ (x - 4) (y - 4) a) ⟨fun i hi => ?_, fun p ps e => (by cases e), fun x y r e => (by cases e; exact a0), asc_e⟩
    simp only [pts, List.mem_cons, List.not_mem_nil, or_false] at hi
    rcases hi with rfl | rfl | rfl <;> omega
  rw [decide_eq_false k5, if_neg (by decide)]
  refine nSkip_at ?_
  have key : ∀ k : Kd, ∀ z, asc 5 z → Q (.tuple [.str (shapeS (.text k (x - 4) (y - 4) z)), ptsD (.text k (x - 4) (y - 4) z), .str z]) := fun k z hz => by
    refine h (.text k (x - 4) (y - 4) z) ⟨fun i hi => ?_, fun p ps e => (by cases e), fun x y r e => (by cases e), asc_le hz (by decide)⟩
    simp only [pts, List.mem_cons, List.not_mem_nil, or_false] at hi
    rcases hi with rfl | rfl <;> omega
  have hk : kd = 5 ∨ kd = 6 ∨ kd = 7 := by omega
  rcases hk with rfl | rfl | rfl
  · exact nRetN_at (nTup_at (nCons_at (nP_at (d := .str "text start") rfl rfl (nCons_at (nP_at (d := .tuple [.int (x - 4), .int (y - 4)]) rfl rfl (nCons_at (nTc_at (nNil_at ⟨rfl, w_word fun z hz => nNil_at ⟨le_k rfl, key .st z hz⟩⟩))))))))
  · exact nRetN_at (nTup_at (nCons_at (nP_at (d := .str "text middle") rfl rfl (nCons_at (nP_at (d := .tuple [.int (x - 4), .int (y - 4)]) rfl rfl (nCons_at (nTc_at (nNil_at ⟨rfl, w_word fun z hz => nNil_at ⟨le_k rfl, key .mid z hz⟩⟩))))))))
  · exact nRetN_at (nTup_at (nCons_at (nP_at (d := .str "text end") rfl rfl (nCons_at (nP_at (d := .tuple [.int (x - 4), .int (y - 4)]) rfl rfl (nCons_at (nTc_at (nNil_at ⟨rfl, w_word fun z hz => nNil_at ⟨le_k rfl, key .en z hz⟩⟩))))))))
theorem w_clip {Q : PyData → Prop} (h : ∀ o : Option Rc, Q (optD rcD o)) : (f_law_clip [.int 10]).wp Q := by
  show (F_law_clip [none, some (.int 10)]).wp fun o => Q (outN o)
  unfold F_law_clip
  refine nSeq_at (nIfN_at ?_)
  show ((nBin gEq (nTc f_law_draw 1 (nCons (nP (dC (.int 2))) nNil)) (nP (dC (.int 0)))) [none, some (.int 10)]).wp _
  refine nBin_at (draw_at (m := 2) rfl (by decide) fun k k0 k1 => nP_at rfl rfl ⟨.bool (decide (k = 0)), rfl, rfl, ?_⟩)
  show ((if decide (k = 0) = true then nRet (nP (dC .none)) [none, some (.int 10)] else nSkip [none, some (.int 10)]) : Nd Out).wp _
  by_cases z : k = 0
  · rw [decide_eq_true z, if_pos rfl]
    exact nRet_at rfl rfl (h none)
  · rw [decide_eq_false z, if_neg (by decide)]
    exact nSkip_at (nRetN_at (nTup_at (nCons_at (less_at (m := 10) rfl (by decide) fun a _ _ => nCons_at (less_at (m := 10) rfl (by decide) fun b _ _ => nCons_at (draw_at (m := 10) rfl (by decide) fun c _ _ => nCons_at (draw_at (m := 10) rfl (by decide) fun d _ _ => nNil_at ⟨le_k rfl, h (some (a - 2, b - 2, c, d))⟩)))))))
/-- an identity as the law makes it -/
structure IdG (k : Nat) (n : Nid) : Prop where
  role : asc 20 n.role
  key : asc k n.key
theorem w_identity {Q : PyData → Prop} (h : ∀ n, IdG 20 n → Q (nidD n)) : (f_law_identity []).wp Q := by
  show (F_law_identity [none, none, none, none]).wp fun o => Q (outN o)
  unfold F_law_identity
  have op : ∀ d ∈ [PyData.none, .int 0, .int 0, .int 1, .int 1, .int 2, .int 99], ∃ o : Option Int, d = optD .int o := fun d hd => by
    simp only [List.mem_cons, List.not_mem_nil, or_false] at hd
    rcases hd with rfl | rfl | rfl | rfl | rfl | rfl | rfl
    · exact ⟨none, rfl⟩
    all_goals exact ⟨some _, rfl⟩
  refine nSeq_at (nSetN_at (pick_at (ds := [.none, .int 0, .int 0, .int 1, .int 1, .int 2, .int 99]) rfl rfl rfl (by decide) (by decide) rfl fun d hd => ?_))
  obtain ⟨pl, rfl⟩ := op d hd
  have n1 : noL (optD .int pl) = true := by cases pl <;> rfl
  refine ⟨n1, ?_⟩
  refine nSeq_at (nSetN_at (pick_at (ds := [.str "mark 0", .str "mark 0", .str "mark 1", .str "label 0", .str "x tick label", .str "mark 0 ", .str ""]) rfl rfl rfl (by decide) (by decide) rfl fun d hd => ?_))
  have or : ∃ z, d = .str z ∧ asc 20 z := by
    simp only [List.mem_cons, List.not_mem_nil, or_false] at hd
    rcases hd with rfl | rfl | rfl | rfl | rfl | rfl | rfl <;> exact ⟨_, rfl, by decide +kernel⟩
  obtain ⟨role, rfl, r1⟩ := or
  refine ⟨rfl, ?_⟩
  refine nSeq_at (nSetN_at (pick_at (ds := [.str "", .str "1", .str "1", .str "2", .str "10", .str "\"a\",-"]) rfl rfl rfl (by decide) (by decide) rfl fun d hd => ?_))
  have ok : ∃ z, d = .str z ∧ asc 5 z := by
    simp only [List.mem_cons, List.not_mem_nil, or_false] at hd
    rcases hd with rfl | rfl | rfl | rfl | rfl | rfl <;> exact ⟨_, rfl, by decide +kernel⟩
  obtain ⟨key, rfl, r2⟩ := ok
  refine ⟨rfl, nSeq_at (nIfN_at ?_)⟩
  have fin : ∀ kz, asc 20 kz → (nRet (nP (dTup [(dVar 1), (dVar 2), (dVar 3)])) [none, some (optD .int pl), some (.str role), some (.str kz)]).wp fun o => Q (outN o) := fun kz hk => by
    refine nRet_at (d := nidD ⟨pl, role, kz⟩) rfl (tidy_noL (nid_noL _)) (h ⟨pl, role, kz⟩ ⟨r1, hk⟩)
  show ((nBin gEq (nTc f_law_draw 1 (nCons (nP (dC (.int 5))) nNil)) (nP (dC (.int 0)))) [none, some (optD .int pl), some (.str role), some (.str key)]).wp _
  refine nBin_at (draw_at (m := 5) rfl (by decide) fun k k0 k1 => nP_at rfl rfl ⟨.bool (decide (k = 0)), rfl, rfl, ?_⟩)
  show ((if decide (k = 0) = true then nSet 3 (nBin gAdd (nP (dVar 3)) (nTc f_law_word 0 nNil)) [none, some (optD .int pl), some (.str role), some (.str key)] else nSkip [none, some (optD .int pl), some (.str role), some (.str key)]) : Nd Out).wp _
  by_cases z : k = 0
  · rw [decide_eq_true z, if_pos rfl]
    refine nSetN_at (nBin_at (nP_at (d := .str key) rfl rfl (nTc_at (nNil_at ⟨rfl, w_word fun w hw => ?_⟩))))
    have l1 := r2.1
    have l2 := hw.1
    exact ⟨.str (key ++ w), gAdd_s (by omega), rfl, rfl, fin _ (asc_le (asc_add r2 hw) (by decide))⟩
  · rw [decide_eq_false z, if_neg (by decide)]
    exact nSkip_at (fin _ (asc_le r2 (by decide)))
end Cs
namespace Cs
open PySem PySem.Spec PyProof.Rows L2
theorem dCall1 {g : List PyData → Option PyData} {f : Sl → Option PyData} {s : Sl} {d r : PyData} (e : f s = some d) (e2 : g [d] = some r) : dCall g [f] s = some r := by
  unfold dCall evs evs
  rw [e]
  exact e2
/-! ### shapes of lists -/
theorem shp_seq {l : List PyData} (h : ∀ d ∈ l, shp d = true ∧ d.depth ≤ 5) : PyData.canLayAll0 l = true ∧ PyData.depthAll l ≤ 5 ∧ noDs l = true := by
  induction l with
  | nil => exact ⟨by simp [PyData.canLayAll0], by simp [PyData.depthAll], by simp [noDs]⟩
  | cons a r ih =>
    obtain ⟨i1, i2, i3⟩ := ih fun d hd => h d (List.mem_cons_of_mem _ hd)
    obtain ⟨a1, a2⟩ := h a List.mem_cons_self
    refine ⟨?_, ?_, ?_⟩
    · simp only [PyData.canLayAll0, i1, SeqAt.canLay_of_shaped (shp_1 a1), Bool.and_self]
    · simp only [PyData.depthAll]
      omega
    · simp only [noDs, i3, shp_2 a1, Bool.and_self]
theorem shp_list {l : List PyData} (h : ∀ d ∈ l, shp d = true ∧ d.depth ≤ 5) : shp (.list l) = true := by
  obtain ⟨a, b, c⟩ := shp_seq h
  refine shp_of ?_ ?_ ?_
  · simp only [PyData.canLay0, a]
  · simp only [PyData.depth]
    omega
  · simp only [noD, c]
theorem shp_tuple {l : List PyData} (h : ∀ d ∈ l, shp d = true ∧ d.depth ≤ 5) : shp (.tuple l) = true := by
  obtain ⟨a, b, c⟩ := shp_seq h
  refine shp_of ?_ ?_ ?_
  · simp only [PyData.canLay0, a]
  · simp only [PyData.depth]
    omega
  · simp only [noD, c]
theorem nid_depth (n : Nid) : (nidD n).depth ≤ 5 := by
  obtain ⟨a, b, c⟩ := n
  cases a <;> simp [nidD, optD, PyData.depth, PyData.depthAll]
theorem shp_nids {l : List Nid} (h : ∀ n ∈ l, okS n.role ∧ okS n.key) : ∀ d ∈ l.map nidD, shp d = true ∧ d.depth ≤ 5 := fun d hd => by
  obtain ⟨n, hn, rfl⟩ := List.mem_map.mp hd
  exact ⟨shp_nid (h n hn).1 (h n hn).2, nid_depth n⟩
theorem any_nid (l : List Nid) (n : Nid) : (l.map nidD).any (fun z => PyData.eqv z (nidD n)) = decide (n ∈ l) := by
  induction l with
  | nil => rfl
  | cons a r ih =>
    rw [List.map_cons, List.any_cons, ih]
    by_cases e : a = n
    · have : PyData.eqv (nidD a) (nidD n) = true := (eqv_pln (nidD_pln a) (nidD_pln n)).mpr (by rw [e])
      rw [this]
      simp [e]
    · have : PyData.eqv (nidD a) (nidD n) = false := by
        cases h : PyData.eqv (nidD a) (nidD n) with
        | false => rfl
        | true => exact absurd (nidD_inj ((eqv_pln (nidD_pln a) (nidD_pln n)).mp h)) e
      rw [this]
      have ne : n ≠ a := Ne.symm e
      simp [ne]
/-! ### an identity that is new -/
theorem num_asc : ∀ k < 21, asc 2 (Str.ofString (toString ((k : Nat) : Int))) ∧ 1 ≤ (Str.ofString (toString ((k : Nat) : Int))).length := by decide +kernel
theorem cond_new {taken : List Nid} (ht : ∀ n ∈ taken, IdG 100 n) {n : Nid} (r : okS n.role) (k : okS n.key) : dTest (dBin gInL (dVar 2) (dVar 1)) [none, some (.list (taken.map nidD)), some (nidD n)] = some (decide (n ∈ taken)) := by
  have e : gInL (nidD n) (.list (taken.map nidD)) = some (.bool (decide (n ∈ taken))) := by
    show (if shp (nidD n) = true ∧ shp (.list (taken.map nidD)) = true then some (PyData.bool ((taken.map nidD).any fun z => PyData.eqv z (nidD n))) else none) = _
    rw [if_pos ⟨shp_nid r k, shp_list (shp_nids fun m hm => ⟨asc_okS (ht m hm).role (by decide), asc_okS (ht m hm).key (by decide)⟩)⟩, any_nid]
  unfold dTest
  rw [dBin_at (a := nidD n) (b := .list (taken.map nidD)) rfl rfl e]
theorem whl_new {taken : List Nid} (hl : taken.length ≤ 20) (ht : ∀ n ∈ taken, IdG 100 n) {Q : Out → Prop} (h : ∀ n, IdG 100 n → n ∉ taken → Q (.nx [none, some (.list (taken.map nidD)), some (nidD n)])) : ∀ (M : Nat) (n : Nid), asc 20 n.role → asc 100 n.key → n.key.length + 3 * M ≤ 100 → (taken.filter fun t => decide (n.key.length ≤ t.key.length)).length ≤ M →
    ∃ f, (nWhl (nPT (dTest (dBin gInL (dVar 2) (dVar 1)))) L0_law_new_identity f [none, some (.list (taken.map nidD)), some (nidD n)]).wp Q := fun M => by
  induction M with
  | zero =>
    intro n h1 h2 h3 h4
    have hn : n ∉ taken := fun hm => by
      have : n ∈ taken.filter fun t => decide (n.key.length ≤ t.key.length) := List.mem_filter.mpr ⟨hm, by simp⟩
      have := List.length_pos_of_mem this
      omega
    refine ⟨1, ?_⟩
    show ((nPT (dTest (dBin gInL (dVar 2) (dVar 1))) [none, some (.list (taken.map nidD)), some (nidD n)]).bnd _).wp Q
    refine ⟨false, ?_, h n ⟨h1, h2⟩ hn⟩
    rw [cond_new ht (asc_okS h1 (by decide)) (asc_okS h2 (by decide)), decide_eq_false hn]
  | succ M ih =>
    intro n h1 h2 h3 h4
    have c := cond_new ht (asc_okS h1 (by decide)) (asc_okS h2 (by decide)) (n := n)
    by_cases hm : n ∈ taken
    · obtain ⟨a1, a2⟩ := num_asc taken.length (by omega)
      have a3 := a1.1
      generalize hz : Str.ofString (toString ((taken.length : Nat) : Int)) = z at a1 a2 a3
      have g1 : asc 100 (n.key ++ z) := ⟨by rw [len_add]; omega, (asc_add h2 a1).2⟩
      have g2 : (n.key ++ z).length = n.key.length + z.length := len_add _ _
      have g3 : (taken.filter fun t => decide ((n.key ++ z).length ≤ t.key.length)).length < (taken.filter fun t => decide (n.key.length ≤ t.key.length)).length := by
        have s : (taken.filter fun t => decide ((n.key ++ z).length ≤ t.key.length)) = (taken.filter fun t => decide (n.key.length ≤ t.key.length)).filter fun t => decide ((n.key ++ z).length ≤ t.key.length) := by
          rw [List.filter_filter]
          congr 1
          funext t
          by_cases q : (n.key ++ z).length ≤ t.key.length
          · have q2 : n.key.length ≤ t.key.length := by omega
            simp [q, q2]
          · simp [q]
        rw [s]
        refine List.length_filter_lt_length_iff_exists.mpr ⟨n, List.mem_filter.mpr ⟨hm, by simp⟩, ?_⟩
        simp
        omega
      obtain ⟨f, w⟩ := ih ⟨n.plot, n.role, n.key ++ z⟩ h1 g1 (by show (n.key ++ z).length + _ ≤ _; omega) (by show (taken.filter fun t => decide ((n.key ++ z).length ≤ t.key.length)).length ≤ M; omega)
      refine ⟨f + 1, ?_⟩
      show ((nPT (dTest (dBin gInL (dVar 2) (dVar 1))) [none, some (.list (taken.map nidD)), some (nidD n)]).bnd _).wp Q
      refine ⟨true, by rw [c, decide_eq_true hm], ?_⟩
      show ((L0_law_new_identity [none, some (.list (taken.map nidD)), some (nidD n)]).bnd _).wp Q
      have lz := g1.1
      have e3 : dBin gAdd (dBin gIx (dVar 2) (dC (.int 2))) (dCall gStr [(dCall gLen [(dVar 1)])]) [none, some (.list (taken.map nidD)), some (nidD n)] = some (.str (n.key ++ z)) := by
        refine dBin_at (a := .str n.key) (b := .str z) rfl ?_ (gAdd_s (by omega))
        have el : dCall gLen [dVar 1] [none, some (.list (taken.map nidD)), some (nidD n)] = some (.int ((taken.length : Nat) : Int)) := by
          show some (PyData.int (((taken.map nidD).length : Nat) : Int)) = _
          rw [List.length_map]
        refine dCall1 el ?_
        show (if small ((taken.length : Nat) : Int) then some (PyData.str (toString ((taken.length : Nat) : Int))) else none) = _
        rw [if_pos ⟨by omega, by omega⟩, ← hz]
      have e4 : dTup [(dBin gIx (dVar 2) (dC (.int 0))), (dBin gIx (dVar 2) (dC (.int 1))), (dBin gAdd (dBin gIx (dVar 2) (dC (.int 2))) (dCall gStr [(dCall gLen [(dVar 1)])]))] [none, some (.list (taken.map nidD)), some (nidD n)] = some (nidD ⟨n.plot, n.role, n.key ++ z⟩) := by
        unfold dTup
        have e5 : evs [(dBin gIx (dVar 2) (dC (.int 0))), (dBin gIx (dVar 2) (dC (.int 1))), (dBin gAdd (dBin gIx (dVar 2) (dC (.int 2))) (dCall gStr [(dCall gLen [(dVar 1)])]))] [none, some (.list (taken.map nidD)), some (nidD n)] = some [optD .int n.plot, .str n.role, .str (n.key ++ z)] := by
          have i0 : dBin gIx (dVar 2) (dC (.int 0)) [none, some (.list (taken.map nidD)), some (nidD n)] = some (optD .int n.plot) := rfl
          have i1 : dBin gIx (dVar 2) (dC (.int 1)) [none, some (.list (taken.map nidD)), some (nidD n)] = some (.str n.role) := rfl
          simp only [evs, i0, i1, e3]
        rw [e5]
        rfl
      exact nSet_at e4 (nid_noL _) w
    · refine ⟨1, ?_⟩
      show ((nPT (dTest (dBin gInL (dVar 2) (dVar 1))) [none, some (.list (taken.map nidD)), some (nidD n)]).bnd _).wp Q
      refine ⟨false, ?_, h n ⟨h1, h2⟩ hm⟩
      rw [c, decide_eq_false hm]
theorem w_new_identity {taken : List Nid} (hl : taken.length ≤ 20) (ht : ∀ n ∈ taken, IdG 100 n) {Q : PyData → Prop} (h : ∀ n, IdG 100 n → n ∉ taken → Q (nidD n)) : (f_law_new_identity [.list (taken.map nidD)]).wp Q := by
  show (F_law_new_identity [none, some (.list (taken.map nidD)), none]).wp fun o => Q (outN o)
  unfold F_law_new_identity
  refine nSeq_at (nSetN_at (nTc_at (nNil_at ⟨rfl, w_identity fun n g => ⟨nid_noL n, ?_⟩⟩)))
  refine nSeq_at ?_
  have gk := g.key.1
  have hf := List.length_filter_le (fun t : Nid => decide (n.key.length ≤ t.key.length)) taken
  exact whl_new hl ht (fun m gm hm => nRet_at rfl (tidy_noL (nid_noL m)) (h m gm hm)) 20 n g.role (asc_le g.key (by decide)) (by omega) (by omega)
/-! ### primitives -/
structure PrimG (n : Int) (p : Prim) : Prop where
  form : FormG n p.form
  id : IdG 100 (idOf p)
  fill : ∀ c, p.fill = some c → colOk c
  stroke : ∀ c, p.stroke = some c → colOk c
theorem PrimG.ok {n : Int} {p : Prim} (h : PrimG n p) (hn : n ≤ 1000) : PrimOk p := ⟨h.form.wf hn, asc_okS h.form.txt (by decide), asc_okS h.id.role (by decide), asc_okS h.id.key (by decide), fun c e => asc_okS (colOk_asc (h.fill c e)) (by decide), fun c e => asc_okS (colOk_asc (h.stroke c e)) (by decide)⟩
theorem PrimG.le {m n : Int} {p : Prim} (h : PrimG m p) (e : m ≤ n) : PrimG n p := ⟨h.form.le e, h.id, h.fill, h.stroke⟩
theorem strD_noL (o : Option Str) : noL (strD o) = true := by cases o <;> rfl
theorem optR_noL (o : Option Rc) : noL (optD rcD o) = true := by cases o <;> rfl
theorem form_noL (f : Form) : noL (.tuple [.str (shapeS f), ptsD f, .str (txt f)]) = true := by
  show (noL (.str (shapeS f)) && (noLs ((pts f).map PyData.int) && (noL (.str (txt f)) && true))) = true
  rw [ints_noL]
  rfl
theorem w_primitive {n : Nid} (hn : IdG 100 n) {Q : PyData → Prop} (h : ∀ p, idOf p = n → PrimG 100 p → Q (primD p)) : (f_law_primitive [nidD n, .int 10]).wp Q := by
  show (F_law_primitive [none, some (nidD n), some (.int 10), none, none, none]).wp fun o => Q (outN o)
  unfold F_law_primitive
  refine nSeq_at (nSetN_at (nTc_at (nCons_at (nP_at rfl rfl (nNil_at ⟨rfl, w_form fun f hf => ⟨form_noL f, ?_⟩⟩)))))
  refine nSeq_at (nSetN_at (nTc_at (nNil_at ⟨rfl, w_color fun fi hfi => ⟨strD_noL fi, ?_⟩⟩)))
  refine nSeq_at (nSetN_at (nTc_at (nNil_at ⟨rfl, w_color fun st hst => ⟨strD_noL st, ?_⟩⟩)))
  refine nRetN_at (nBin_at (nP_at (d := .tuple [optD .int n.plot, .str n.role, .str n.key, .str (shapeS f), ptsD f, .str (txt f)]) rfl ?_ (nTup_at (nCons_at (nP_at (d := strD fi) rfl (tidy_noL (strD_noL fi)) (nCons_at (nP_at (d := strD st) rfl (tidy_noL (strD_noL st)) (nCons_at (nTc_at (nCons_at (nP_at rfl rfl (nNil_at ⟨rfl, w_clip fun cl => nNil_at ⟨le_k rfl, ?_⟩⟩))))))))))))
  · have a := nid_noL n
    have b := form_noL f
    show (noL (optD .int n.plot) && (noL (.str n.role) && (noL (.str n.key) && (noL (.str (shapeS f)) && (noL (ptsD f) && (noL (.str (txt f)) && true)))))) = true
    have c : noL (optD PyData.int n.plot) = true := by cases n.plot <;> rfl
    have d : noL (ptsD f) = true := ints_noL _
    rw [c, d]
    rfl
  · exact ⟨primD ⟨n.plot, n.role, n.key, f, fi, st, cl⟩, rfl, tidy_noL (primD_noL _), h ⟨n.plot, n.role, n.key, f, fi, st, cl⟩ rfl ⟨hf, hn, hfi, hst⟩⟩
theorem lcD_mapP {i : Nat} {f : Sl → Option PyData} {s : Sl} {g : Prim → PyData} : ∀ (l : List Prim), (∀ p ∈ l, f (s.set i (some (primD p))) = some (g p) ∧ noL (g p) = true) → lcD i dYes f (l.map primD) s = some (l.map g)
  | [], _ => rfl
  | p :: ps, k => by
    obtain ⟨k1, k2⟩ := k p List.mem_cons_self
    rw [List.map_cons, List.map_cons]
    unfold lcD
    simp only [dYes, k1, k2, if_true, lcD_mapP ps fun e he => k e (List.mem_cons_of_mem _ he)]
theorem m_identities (l : List Prim) (hl : l.length ≤ 100) : f_law_identities [.list (l.map primD)] = some (.list ((nids l).map nidD)) := by
  unfold f_law_identities runF F_law_identities
  have st : startD 2 [.list (l.map primD)] = [some (.list (l.map primD)), none] := rfl
  rw [st]
  have hit : iLst (dVar 0) [some (.list (l.map primD)), none] = some (l.map primD) := rfl
  unfold dRet dLc
  rw [hit]
  dsimp only
  rw [if_pos (by rw [List.length_map]; omega), lcD_mapP (g := fun p => nidD (idOf p)) l fun p hp => ⟨rfl, nid_noL _⟩]
  show some (PyData.list (l.map fun p => nidD (idOf p))) = _
  unfold nids
  rw [List.map_map]
  rfl
def ScG (n : Int) (l : List Prim) : Prop := (∀ p ∈ l, PrimG n p) ∧ (nids l).Nodup
theorem ScG.ids {n : Int} {l : List Prim} (h : ScG n l) : ∀ m ∈ nids l, IdG 100 m := fun m hm => by
  obtain ⟨p, hp, rfl⟩ := List.mem_map.mp hm
  exact (h.1 p hp).id
/-- a new primitive for these -/
theorem w_fresh {i j : Nat} {s : Sl} {l : List Prim} {n : Int} (hs : s[i]? = some (some (.list (l.map primD)))) (hj : dVar j s = some (.int 10)) (g : ScG n l) (hl : l.length ≤ 20) {Q : PyData → Prop} (h : ∀ p, PrimG 100 p → idOf p ∉ nids l → Q (primD p)) :
    (nTc f_law_primitive 2 (nCons (nTc f_law_new_identity 1 (nCons (nP (dCall f_law_identities [(dVar i)])) nNil)) (nCons (nP (dVar j)) nNil)) s).wp Q := by
  have e : dCall f_law_identities [dVar i] s = some (.list ((nids l).map nidD)) := by
    have e1 : dVar i s = some (.list (l.map primD)) := by unfold dVar; rw [hs]
    unfold dCall evs evs
    rw [e1]
    exact m_identities l (by omega)
  have nl : tidy (.list ((nids l).map nidD)) = true := noLs_mem.mpr fun d hd => by
    obtain ⟨m, _, rfl⟩ := List.mem_map.mp hd
    exact nid_noL m
  refine nTc_at (nCons_at (nTc_at (nCons_at (nP_at e nl (nNil_at ⟨rfl, w_new_identity (by unfold nids; rw [List.length_map]; exact hl) g.ids fun m gm hm => ?_⟩)))))
  exact nCons_at (nP_at hj rfl (nNil_at ⟨rfl, w_primitive gm fun p e gp => h p gp (by rw [e]; exact hm)⟩))
theorem ScG.snoc {n : Int} {l : List Prim} {p : Prim} (g : ScG n l) (gp : PrimG n p) (hp : idOf p ∉ nids l) : ScG n (l ++ [p]) := by
  refine ⟨fun q hq => ?_, ?_⟩
  · rcases List.mem_append.mp hq with hq | hq
    · exact g.1 q hq
    · rw [List.mem_singleton.mp hq]
      exact gp
  · unfold nids
    rw [List.map_append]
    refine List.nodup_append.mpr ⟨g.2, by simp, fun a ha b hb => ?_⟩
    have : b = idOf p := by simpa using hb
    rw [this]
    rintro rfl
    exact hp ha
theorem w_scene {W Hh many : Int} (m0 : 0 ≤ many) (m1 : many ≤ 6) {Q : PyData → Prop} (h : ∀ l, l.length ≤ 6 → ScG 100 l → Q (sceneD W Hh (l.map primD))) : (f_law_scene [.int W, .int Hh, .int 10, .int many]).wp Q := by
  show (F_law_scene [none, some (.int W), some (.int Hh), some (.int 10), some (.int many), none, none]).wp fun o => Q (outN o)
  unfold F_law_scene
  refine nSeq_at ?_
  show ((nSeq (nFor 6 (nRg1 (nCons (nP (dVar 4)) nNil)) L0_law_scene) (nRet (nP (dTup [(dVar 1), (dVar 2), (dCall gTuple [(dVar 5)])])))) [none, some (.int W), some (.int Hh), some (.int 10), some (.int many), some (.list []), none]).wp fun o => Q (outN o)
  refine nSeq_at (nFor_at (nRg1_at (nCons_at (nP_at (d := .int many) rfl rfl (nNil_at ⟨many, rfl, ⟨by omega, by omega⟩, ?_⟩)))))
  refine nLoop_inv _ (fun k s => ∃ l o, s = [none, some (.int W), some (.int Hh), some (.int 10), some (.int many), some (.list (l.map primD)), o] ∧ l.length = k ∧ ScG 100 l) _ ⟨[], none, rfl, rfl, fun p hp => (nomatch hp), List.nodup_nil⟩ (fun k d s hk ⟨l, o, e, el, g⟩ => ?_) fun s ⟨l, o, e, el, g⟩ => ?_
  · subst e
    have hk5 : k < 6 := by
      obtain ⟨hl, _⟩ := List.getElem?_eq_some_iff.mp hk
      rw [intsD_len] at hl
      omega
    refine nAppN_at (ds := l.map primD) rfl (by rw [List.length_map]; omega) (w_fresh (l := l) rfl rfl g (by omega) fun p gp hp => ⟨primD_noL p, l ++ [p], some d, ?_, by simp [el], g.snoc gp hp⟩)
    rw [List.map_append]
    rfl
  · subst e
    rw [intsD_len] at el
    refine nRet_at (d := sceneD W Hh (l.map primD)) rfl ?_ (h l (by omega) g)
    show (noL (.int W) && (noL (.int Hh) && (noLs (l.map primD) && true))) = true
    rw [prims_noL]
    rfl
end Cs
namespace Cs
open PySem PySem.Spec PyProof.Rows L2
theorem cut_to {ds : List PyData} {k : Nat} (h : k ≤ ds.length) : cutD ds none (some (k : Int)) = ds.take k := by
  unfold cutD
  rw [HT.sIx_none, HT.sIx_nat, Nat.min_eq_left h]
  simp
theorem cut_from {ds : List PyData} {k : Nat} (h : k ≤ ds.length) : cutD ds (some (k : Int)) none = ds.drop k := by
  unfold cutD
  rw [HT.sIx_none, HT.sIx_nat, Nat.min_eq_left h]
  exact List.take_of_length_le (by simp)
/-! ### one number more by one -/
def bmp : List Int → Nat → List Int
  | [], _ => []
  | a :: r, 0 => (a + 1) :: r
  | a :: r, k + 1 => a :: bmp r k
theorem bmp_cut : ∀ {l : List Int} {k : Nat} (h : k < l.length), l.take k ++ [l[k] + 1] ++ l.drop (k + 1) = bmp l k
  | a :: r, 0, _ => rfl
  | a :: r, k + 1, h => by
    have h' : k < r.length := by simpa using h
    have := bmp_cut h'
    show a :: (r.take k ++ [r[k] + 1] ++ r.drop (k + 1)) = a :: bmp r k
    rw [this]
theorem mem_bmp : ∀ {l : List Int} {k : Nat} {i : Int}, i ∈ bmp l k → i ∈ l ∨ ∃ j ∈ l, i = j + 1
  | a :: r, 0, i, h => by
    rcases List.mem_cons.mp h with rfl | h
    · exact .inr ⟨a, List.mem_cons_self, rfl⟩
    · exact .inl (List.mem_cons_of_mem _ h)
  | a :: r, k + 1, i, h => by
    rcases List.mem_cons.mp h with rfl | h
    · exact .inl List.mem_cons_self
    · rcases mem_bmp h with h | ⟨j, hj, e⟩
      · exact .inl (List.mem_cons_of_mem _ h)
      · exact .inr ⟨j, List.mem_cons_of_mem _ hj, e⟩
theorem bmp_flat : ∀ (ps : List (Int × Int)) (k : Nat), ∃ qs, flat qs = bmp (flat ps) k ∧ qs.length = ps.length
  | [], k => ⟨[], rfl, rfl⟩
  | p :: ps, 0 => ⟨(p.1 + 1, p.2) :: ps, rfl, rfl⟩
  | p :: ps, 1 => ⟨(p.1, p.2 + 1) :: ps, rfl, rfl⟩
  | p :: ps, k + 2 => by
    obtain ⟨qs, e1, e2⟩ := bmp_flat ps k
    refine ⟨p :: qs, ?_, by simp [e2]⟩
    show p.1 :: p.2 :: flat qs = p.1 :: p.2 :: bmp (flat ps) k
    rw [e1]
theorem bump_form {n : Int} (f : Form) (g : FormG n f) (k : Nat) : ∃ f', shapeS f' = shapeS f ∧ txt f' = txt f ∧ pts f' = bmp (pts f) k ∧ FormG (n + 1) f' := by
  have smb : ∀ f', pts f' = bmp (pts f) k → sm (n + 1) f' := fun f' e i hi => by
    rw [e] at hi
    rcases mem_bmp hi with hi | ⟨j, hj, rfl⟩
    · have := g.sm i hi
      omega
    · have := g.sm j hj
      omega
  have mk : ∀ f', shapeS f' = shapeS f → txt f' = txt f → pts f' = bmp (pts f) k → (∀ p ps, f' = .poly p ps → ps.length ≤ 3) → (∀ x y r, f' = .circ x y r → 0 ≤ r) → ∃ f', shapeS f' = shapeS f ∧ txt f' = txt f ∧ pts f' = bmp (pts f) k ∧ FormG (n + 1) f' := fun f' e1 e2 e3 e4 e5 => ⟨f', e1, e2, e3, smb f' e3, e4, e5, by rw [e2]; exact g.txt⟩
  cases f with
  | rect r =>
    obtain ⟨a, b, c, d⟩ := r
    match k with
    | 0 => exact mk (.rect (a + 1, b, c, d)) rfl rfl rfl (fun p ps e => (by cases e)) (fun x y r e => (by cases e))
    | 1 => exact mk (.rect (a, b + 1, c, d)) rfl rfl rfl (fun p ps e => (by cases e)) (fun x y r e => (by cases e))
    | 2 => exact mk (.rect (a, b, c + 1, d)) rfl rfl rfl (fun p ps e => (by cases e)) (fun x y r e => (by cases e))
    | 3 => exact mk (.rect (a, b, c, d + 1)) rfl rfl rfl (fun p ps e => (by cases e)) (fun x y r e => (by cases e))
    | k + 4 => exact mk (.rect (a, b, c, d)) rfl rfl rfl (fun p ps e => (by cases e)) (fun x y r e => (by cases e))
  | line a b c d =>
    match k with
    | 0 => exact mk (.line (a + 1) b c d) rfl rfl rfl (fun p ps e => (by cases e)) (fun x y r e => (by cases e))
    | 1 => exact mk (.line a (b + 1) c d) rfl rfl rfl (fun p ps e => (by cases e)) (fun x y r e => (by cases e))
    | 2 => exact mk (.line a b (c + 1) d) rfl rfl rfl (fun p ps e => (by cases e)) (fun x y r e => (by cases e))
    | 3 => exact mk (.line a b c (d + 1)) rfl rfl rfl (fun p ps e => (by cases e)) (fun x y r e => (by cases e))
    | k + 4 => exact mk (.line a b c d) rfl rfl rfl (fun p ps e => (by cases e)) (fun x y r e => (by cases e))
  | circ a b r =>
    have r0 : 0 ≤ r := g.rad a b r rfl
    match k with
    | 0 => exact mk (.circ (a + 1) b r) rfl rfl rfl (fun p ps e => (by cases e)) (fun x y r' e => (by cases e; exact r0))
    | 1 => exact mk (.circ a (b + 1) r) rfl rfl rfl (fun p ps e => (by cases e)) (fun x y r' e => (by cases e; exact r0))
    | 2 => exact mk (.circ a b (r + 1)) rfl rfl rfl (fun p ps e => (by cases e)) (fun x y r' e => (by cases e; omega))
    | k + 3 => exact mk (.circ a b r) rfl rfl rfl (fun p ps e => (by cases e)) (fun x y r' e => (by cases e; exact r0))
  | text t a b z =>
    match k with
    | 0 => exact mk (.text t (a + 1) b z) (by cases t <;> rfl) rfl rfl (fun p ps e => (by cases e)) (fun x y r' e => (by cases e))
    | 1 => exact mk (.text t a (b + 1) z) (by cases t <;> rfl) rfl rfl (fun p ps e => (by cases e)) (fun x y r' e => (by cases e))
    | k + 2 => exact mk (.text t a b z) rfl rfl rfl (fun p ps e => (by cases e)) (fun x y r' e => (by cases e))
  | poly p ps =>
    have l3 : ps.length ≤ 3 := g.len p ps rfl
    match k with
    | 0 => exact mk (.poly (p.1 + 1, p.2) ps) rfl rfl rfl (fun p ps e => (by cases e; exact l3)) (fun x y r' e => (by cases e))
    | 1 => exact mk (.poly (p.1, p.2 + 1) ps) rfl rfl rfl (fun p ps e => (by cases e; exact l3)) (fun x y r' e => (by cases e))
    | k + 2 =>
      obtain ⟨qs, e1, e2⟩ := bmp_flat ps k
      exact mk (.poly p qs) rfl rfl (by show p.1 :: p.2 :: flat qs = p.1 :: p.2 :: bmp (flat ps) k; rw [e1]) (fun p ps e => (by cases e; omega)) (fun x y r' e => (by cases e))
theorem pts_len (f : Form) {n : Int} (g : FormG n f) : 1 ≤ (pts f).length ∧ (pts f).length ≤ 8 := by
  cases f with
  | poly p ps =>
    have := g.len p ps rfl
    have h := flat_len ps
    show 1 ≤ (flat ps).length + 1 + 1 ∧ (flat ps).length + 1 + 1 ≤ 8
    omega
  | _ => exact ⟨le_k rfl, le_k rfl⟩
theorem tOr2 (i : Nat) {s : Sl} {k : Int} (e : dVar i s = some (.int k)) : tOrF (dTest (dBin gEq (dVar i) (dC (.int 1)))) (dTest (dBin gEq (dVar i) (dC (.int 2)))) s = some (decide (k = 1 ∨ k = 2)) := by
  have e1 : dTest (dBin gEq (dVar i) (dC (.int 1))) s = some (decide (k = 1)) := by
    unfold dTest
    rw [dBin_at e rfl rfl]
  have e2 : dTest (dBin gEq (dVar i) (dC (.int 2))) s = some (decide (k = 2)) := by
    unfold dTest
    rw [dBin_at e rfl rfl]
  unfold tOrF
  rw [e1, e2]
  by_cases h1 : k = 1 <;> by_cases h2 : k = 2 <;> simp [h1, h2]
theorem tEqI (i : Nat) {s : Sl} {k j : Int} (e : dVar i s = some (.int k)) : dTest (dBin gEq (dVar i) (dC (.int j))) s = some (decide (k = j)) := by
  unfold dTest
  rw [dBin_at e rfl rfl]
theorem w_changed {p : Prim} (g : PrimG 100 p) {Q : PyData → Prop} (h : ∀ q, idOf q = idOf p → PrimG 101 q → Q (primD q)) : (f_law_changed_item [primD p, .int 10]).wp Q := by
  show (F_law_changed_item [none, some (primD p), some (.int 10), none, none]).wp fun o => Q (outN o)
  unfold F_law_changed_item
  have gl := g.le (show (100 : Int) ≤ 101 by decide)
  have gp := h p rfl gl
  have tl := pts_len p.form g.form
  have pN : noL (primD p) = true := primD_noL p
  have c1 : noL (optD PyData.int p.plot) = true := by cases p.plot <;> rfl
  have c2 : noL (ptsD p.form) = true := ints_noL _
  have c3 := strD_noL p.fill
  have c4 := strD_noL p.stroke
  have c5 := optR_noL p.clip
  refine nSeq_at (nSetN_at (draw_at (m := 6) rfl (by decide) fun part d0 d1 => ⟨rfl, ?_⟩))
  refine nSeq_at (nIf_at (tEqI 3 (k := part) rfl) ?_)
  by_cases k0 : part = 0
  · rw [decide_eq_true k0, if_pos rfl]
    refine nRetN_at (nBin_at (nBin_at (nP_at (d := .tuple [optD .int p.plot, .str p.role, .str p.key]) rfl (nid_noL (idOf p)) (nTc_at (nCons_at (nP_at rfl rfl (nNil_at ⟨rfl, w_form fun f hf => ⟨.tuple [optD .int p.plot, .str p.role, .str p.key, .str (shapeS f), ptsD f, .str (txt f)], rfl, ?_, nP_at (d := .tuple [strD p.fill, strD p.stroke, optD rcD p.clip]) rfl ?_ ⟨primD ⟨p.plot, p.role, p.key, f, p.fill, p.stroke, p.clip⟩, rfl, tidy_noL (primD_noL _), ?_⟩⟩⟩)))))))
    · have d : noL (ptsD f) = true := ints_noL _
      show (noL (optD .int p.plot) && (noL (.str p.role) && (noL (.str p.key) && (noL (.str (shapeS f)) && (noL (ptsD f) && (noL (.str (txt f)) && true)))))) = true
      rw [c1, d]
      rfl
    · show (noL (strD p.fill) && (noL (strD p.stroke) && (noL (optD rcD p.clip) && true))) = true
      rw [c3, c4, c5]
      rfl
    · exact h ⟨p.plot, p.role, p.key, f, p.fill, p.stroke, p.clip⟩ rfl ⟨hf.le (by decide), g.id, g.fill, g.stroke⟩
  rw [decide_eq_false k0, if_neg (by decide)]
  refine nSkip_at (nSeq_at (nIf_at (tOr2 3 (k := part) rfl) ?_))
  by_cases k1 : part = 1 ∨ part = 2
  · rw [decide_eq_true k1, if_pos rfl]
    have el : dCall gLen [(dBin gIx (dVar 1) (dC (.int 4)))] [none, some (primD p), some (.int 10), some (.int part), none] = some (.int ((pts p.form).length : Nat)) := by
      show some (PyData.int ((((pts p.form).map PyData.int).length : Nat) : Int)) = _
      rw [List.length_map]
    refine nSeq_at (nSetN_at (draw_at el (by omega) fun at' a0 a1 => ⟨rfl, ?_⟩))
    obtain ⟨k, rfl⟩ := Int.eq_ofNat_of_zero_le a0
    have hk : k < (pts p.form).length := by omega
    obtain ⟨f', s1, s2, s3, s4⟩ := bump_form p.form g.form k
    generalize hs : ([none, some (primD p), some (.int 10), some (.int part), some (.int (k : Int))] : Sl) = s
    have hs' : ([none, some (primD p), some (.int 10), some (.int part), none] : Sl).set 4 (some (.int (k : Int))) = s := by rw [← hs]; rfl
    show ((nRet _) (([none, some (primD p), some (.int 10), some (.int part), none] : Sl).set 4 (some (.int (k : Int))))).wp _
    rw [hs']
    have v1 : dVar 1 s = some (primD p) := by rw [← hs]; rfl
    have v4 : dVar 4 s = some (.int (k : Int)) := by rw [← hs]; rfl
    have p4 : dBin gIx (dVar 1) (dC (.int 4)) s = some (ptsD p.form) := dBin_at v1 rfl rfl
    have e1 : dSl (dBin gIx (dVar 1) (dC (.int 4))) (fun _ => some none) (dPart (dVar 4)) s = some (.tuple (((pts p.form).take k).map PyData.int)) := by
      unfold dSl dPart
      rw [p4, v4]
      show some (PyData.tuple (cutD ((pts p.form).map PyData.int) none (some (k : Int)))) = _
      rw [cut_to (by rw [List.length_map]; omega), List.map_take]
    have e2 : dSl (dBin gIx (dVar 1) (dC (.int 4))) (dPart (dBin gAdd (dVar 4) (dC (.int 1)))) (fun _ => some none) s = some (.tuple (((pts p.form).drop (k + 1)).map PyData.int)) := by
      unfold dSl dPart
      rw [p4, dBin_at v4 (show dC (.int 1) s = some (.int 1) from rfl) (show gAdd (.int (k : Int)) (.int 1) = some (.int ((k + 1 : Nat) : Int)) from rfl)]
      show some (PyData.tuple (cutD ((pts p.form).map PyData.int) (some ((k + 1 : Nat) : Int)) none)) = _
      rw [cut_from (by rw [List.length_map]; omega), List.map_drop]
    have e3 : dTup [(dBin gAdd (dBin gIx (dBin gIx (dVar 1) (dC (.int 4))) (dVar 4)) (dC (.int 1)))] s = some (.tuple [.int ((pts p.form)[k] + 1)]) := by
      have i : gIx (ptsD p.form) (.int (k : Int)) = some (.int (pts p.form)[k]) := by
        obtain ⟨d, h1, h2, h3⟩ := atI_in (ds := (pts p.form).map PyData.int) (k := (k : Int)) a0 (by rw [List.length_map]; omega)
        show atI ((pts p.form).map PyData.int) (k : Int) = _
        rw [h1]
        rw [Int.toNat_natCast, List.getElem?_map, List.getElem?_eq_getElem hk] at h3
        exact h3.symm
      unfold dTup evs evs
      rw [dBin_at (dBin_at p4 v4 i) rfl rfl]
    have e4 : dBin gAdd (dBin gAdd (dSl (dBin gIx (dVar 1) (dC (.int 4))) (fun _ => some none) (dPart (dVar 4))) (dTup [(dBin gAdd (dBin gIx (dBin gIx (dVar 1) (dC (.int 4))) (dVar 4)) (dC (.int 1)))])) (dSl (dBin gIx (dVar 1) (dC (.int 4))) (dPart (dBin gAdd (dVar 4) (dC (.int 1)))) (fun _ => some none)) s = some (ptsD f') := by
      refine dBin_at (dBin_at e1 e3 (gAdd_t ?_)) e2 ?_
      · simp
        omega
      · show (if _ then some (PyData.tuple (((pts p.form).take k).map PyData.int ++ [PyData.int ((pts p.form)[k] + 1)] ++ ((pts p.form).drop (k + 1)).map PyData.int)) else none) = _
        rw [if_pos (by simp; omega)]
        show _ = some (PyData.tuple ((pts f').map PyData.int))
        rw [s3, ← bmp_cut hk]
        simp
    have q1 : dSl (dVar 1) (fun _ => some none) (dPart (dC (.int 4))) s = some (.tuple [optD .int p.plot, .str p.role, .str p.key, .str (shapeS p.form)]) := by
      unfold dSl
      rw [v1]
      rfl
    have q2 : dSl (dVar 1) (dPart (dC (.int 5))) (fun _ => some none) s = some (.tuple [.str (txt p.form), strD p.fill, strD p.stroke, optD rcD p.clip]) := by
      unfold dSl
      rw [v1]
      rfl
    have q3 : ∀ F : Sl → Option PyData, F s = some (ptsD f') → dTup [F] s = some (.tuple [ptsD f']) := fun F e => by
      unfold dTup evs evs
      rw [e]
    refine nRet_at (d := primD ⟨p.plot, p.role, p.key, f', p.fill, p.stroke, p.clip⟩) (dBin_at (dBin_at q1 (q3 _ e4) rfl) q2 ?_) (tidy_noL (primD_noL _)) ?_
    · show some (PyData.tuple [optD .int p.plot, .str p.role, .str p.key, .str (shapeS p.form), ptsD f', .str (txt p.form), strD p.fill, strD p.stroke, optD rcD p.clip]) = some (PyData.tuple [optD .int p.plot, .str p.role, .str p.key, .str (shapeS f'), ptsD f', .str (txt f'), strD p.fill, strD p.stroke, optD rcD p.clip])
      rw [s1, s2]
    · exact h ⟨p.plot, p.role, p.key, f', p.fill, p.stroke, p.clip⟩ rfl ⟨s4, g.id, g.fill, g.stroke⟩
  rw [decide_eq_false k1, if_neg (by decide)]
  refine nSkip_at (nSeq_at (nIf_at (tEqI 3 (k := part) rfl) ?_))
  by_cases k3 : part = 3
  · rw [decide_eq_true k3, if_pos rfl]
    refine nRetN_at (nBin_at (nBin_at (nP_at (d := .tuple [optD .int p.plot, .str p.role, .str p.key, .str (shapeS p.form), ptsD p.form, .str (txt p.form)]) rfl ?_ (nTup_at (nCons_at (nTc_at (nNil_at ⟨rfl, w_color fun o ho => nNil_at ⟨le_k rfl, .tuple [optD .int p.plot, .str p.role, .str p.key, .str (shapeS p.form), ptsD p.form, .str (txt p.form), strD o], rfl, ?_, nP_at (d := .tuple [strD p.stroke, optD rcD p.clip]) rfl ?_ ⟨primD ⟨p.plot, p.role, p.key, p.form, o, p.stroke, p.clip⟩, rfl, tidy_noL (primD_noL _), ?_⟩⟩⟩)))))))
    · show (noL (optD .int p.plot) && (noL (.str p.role) && (noL (.str p.key) && (noL (.str (shapeS p.form)) && (noL (ptsD p.form) && (noL (.str (txt p.form)) && true)))))) = true
      rw [c1, c2]
      rfl
    · show (noL (optD .int p.plot) && (noL (.str p.role) && (noL (.str p.key) && (noL (.str (shapeS p.form)) && (noL (ptsD p.form) && (noL (.str (txt p.form)) && (noL (strD o) && true))))))) = true
      rw [c1, c2, strD_noL o]
      rfl
    · show (noL (strD p.stroke) && (noL (optD rcD p.clip) && true)) = true
      rw [c4, c5]
      rfl
    · exact h ⟨p.plot, p.role, p.key, p.form, o, p.stroke, p.clip⟩ rfl ⟨gl.form, g.id, ho, g.stroke⟩
  rw [decide_eq_false k3, if_neg (by decide)]
  refine nSkip_at (nSeq_at (nIf_at (tEqI 3 (k := part) rfl) ?_))
  by_cases k4 : part = 4
  · rw [decide_eq_true k4, if_pos rfl]
    refine nRetN_at (nBin_at (nBin_at (nP_at (d := .tuple [optD .int p.plot, .str p.role, .str p.key, .str (shapeS p.form), ptsD p.form, .str (txt p.form), strD p.fill]) rfl ?_ (nTup_at (nCons_at (nTc_at (nNil_at ⟨rfl, w_color fun o ho => nNil_at ⟨le_k rfl, .tuple [optD .int p.plot, .str p.role, .str p.key, .str (shapeS p.form), ptsD p.form, .str (txt p.form), strD p.fill, strD o], rfl, ?_, nP_at (d := .tuple [optD rcD p.clip]) rfl ?_ ⟨primD ⟨p.plot, p.role, p.key, p.form, p.fill, o, p.clip⟩, rfl, tidy_noL (primD_noL _), ?_⟩⟩⟩)))))))
    · show (noL (optD .int p.plot) && (noL (.str p.role) && (noL (.str p.key) && (noL (.str (shapeS p.form)) && (noL (ptsD p.form) && (noL (.str (txt p.form)) && (noL (strD p.fill) && true))))))) = true
      rw [c1, c2, c3]
      rfl
    · show (noL (optD .int p.plot) && (noL (.str p.role) && (noL (.str p.key) && (noL (.str (shapeS p.form)) && (noL (ptsD p.form) && (noL (.str (txt p.form)) && (noL (strD p.fill) && (noL (strD o) && true)))))))) = true
      rw [c1, c2, c3, strD_noL o]
      rfl
    · show (noL (optD rcD p.clip) && true) = true
      rw [c5]
      rfl
    · exact h ⟨p.plot, p.role, p.key, p.form, p.fill, o, p.clip⟩ rfl ⟨gl.form, g.id, g.fill, ho⟩
  rw [decide_eq_false k4, if_neg (by decide)]
  refine nSkip_at ?_
  refine nRetN_at (nBin_at (nP_at (d := .tuple [optD .int p.plot, .str p.role, .str p.key, .str (shapeS p.form), ptsD p.form, .str (txt p.form), strD p.fill, strD p.stroke]) rfl ?_ (nTup_at (nCons_at (nTc_at (nCons_at (nP_at rfl rfl (nNil_at ⟨rfl, w_clip fun o => nNil_at ⟨le_k rfl, primD ⟨p.plot, p.role, p.key, p.form, p.fill, p.stroke, o⟩, rfl, tidy_noL (primD_noL _), ?_⟩⟩))))))))
  · show (noL (optD .int p.plot) && (noL (.str p.role) && (noL (.str p.key) && (noL (.str (shapeS p.form)) && (noL (ptsD p.form) && (noL (.str (txt p.form)) && (noL (strD p.fill) && (noL (strD p.stroke) && true)))))))) = true
    rw [c1, c2, c3, c4]
    rfl
  · exact h ⟨p.plot, p.role, p.key, p.form, p.fill, p.stroke, o⟩ rfl ⟨gl.form, g.id, g.fill, g.stroke⟩
end Cs
namespace Cs
open PySem PySem.Spec PyProof.Rows L2
theorem perm_map_inv {α β : Type} {f : α → β} {es ds : List β} (p : es.Perm ds) : ∀ js : List α, ds = js.map f → ∃ js' : List α, es = js'.map f ∧ js'.Perm js := by
  induction p with
  | nil =>
    intro js e
    cases js with
    | nil => exact ⟨[], rfl, List.Perm.refl _⟩
    | cons a r => cases e
  | cons x _ ih =>
    intro js e
    cases js with
    | nil => cases e
    | cons a r =>
      simp only [List.map_cons, List.cons.injEq] at e
      obtain ⟨r', h1, h2⟩ := ih r e.2
      exact ⟨a :: r', by rw [List.map_cons, h1, e.1], h2.cons a⟩
  | swap x y l =>
    intro js e
    match js, e with
    | [], e => cases e
    | [_], e => cases e
    | a :: b :: r, e =>
      simp only [List.map_cons, List.cons.injEq] at e
      obtain ⟨e1, e2, e3⟩ := e
      exact ⟨b :: a :: r, by rw [List.map_cons, List.map_cons, e1, e2, e3], List.Perm.swap a b r⟩
  | trans _ _ ih1 ih2 =>
    intro js e
    obtain ⟨r, h1, h2⟩ := ih2 js e
    obtain ⟨r', h3, h4⟩ := ih1 r h1
    exact ⟨r', h3, h4.trans h2⟩
theorem ScG.perm {n : Int} {l m : List Prim} (g : ScG n l) (p : m.Perm l) : ScG n m :=
  ⟨fun q hq => g.1 q (p.mem_iff.mp hq), (p.map idOf).nodup_iff.mpr g.2⟩
theorem nIns_at {i : Nat} {fs : Sl → Nd (List PyData)} {s : Sl} {ds : List PyData} {Q : Out → Prop} (hi : s[i]? = some (some (.list ds))) (hl : ds.length < 1000)
    (h : (fs s).wp fun es => ∃ (k : Int) (d : PyData), es = [.int k, d] ∧ noL d = true ∧ 0 ≤ k ∧ k < 1000000 ∧ Q (.nx (s.set i (some (.list (ds.take k.toNat ++ [d] ++ ds.drop k.toNat)))))) : (nIns i fs s).wp Q := by
  unfold nIns getL
  rw [hi]
  refine (fs s).mono (fun es ⟨k, d, e, n, k0, k1, q⟩ => ?_) h
  subst e
  show (if noL d = true ∧ ds.length < 1000 ∧ 0 ≤ k ∧ k < 1000000 then Nd.ret (Out.nx (s.set i (some (.list (ds.take k.toNat ++ [d] ++ ds.drop k.toNat))))) else Nd.fail : Nd Out).wp Q
  rw [if_pos ⟨n, hl, k0, k1⟩]
  exact q
theorem nTurn_at {i : Nat} {s : Sl} {ds : List PyData} {Q : Out → Prop} (hi : s[i]? = some (some (.list ds))) (hl : ds.length ≤ 100) (h : ∀ es, es.Perm ds → Q (.nx (s.set i (some (.list es))))) : (nTurn i s).wp Q := by
  unfold nTurn getL
  rw [hi]
  show (if ds.length ≤ 100 then (Nd.any fun es : List PyData => es.Perm ds).bnd fun es => Nd.ret (.nx (s.set i (some (.list es)))) else Nd.fail : Nd Out).wp Q
  rw [if_pos hl]
  exact fun es pe => h es pe
theorem nNew_at {i : Nat} {s : Sl} {Q : Out → Prop} (h : Q (.nx (s.set i (some (.list []))))) : (nNew i s).wp Q := h
theorem tGt0 (i : Nat) {s : Sl} {k : Int} (e : dVar i s = some (.int k)) : dTest (dBin gGt (dVar i) (dC (.int 0))) s = some (decide (0 < k)) := by
  unfold dTest
  rw [dBin_at e rfl rfl]
theorem ins_prim (l : List Prim) (k : Nat) (p : Prim) : (l.map primD).take k ++ [primD p] ++ (l.map primD).drop k = (l.take k ++ [p] ++ l.drop k).map primD := by
  simp [List.map_take, List.map_drop]
theorem ins_permP (l : List Prim) (k : Nat) (p : Prim) : (l.take k ++ [p] ++ l.drop k).Perm (l ++ [p]) := by
  have e : l.take k ++ [p] ++ l.drop k = l.take k ++ p :: l.drop k := by simp
  rw [e]
  have q := List.perm_middle (a := p) (l₁ := l.take k) (l₂ := l.drop k)
  rw [List.take_append_drop] at q
  exact q.trans (List.perm_append_comm (l₁ := [p]) (l₂ := l))
theorem w_next {W Hh : Int} {l : List Prim} (hl : l.length ≤ 6) (g : ScG 100 l) {Q : PyData → Prop} (h : ∀ a b js, js.length ≤ 8 → ScG 101 js → Q (.tuple [.int a, .int b, .tuple (js.map primD)])) : (f_law_next_scene [sceneD W Hh (l.map primD), .int 10]).wp Q := by
  show (F_law_next_scene [none, some (sceneD W Hh (l.map primD)), some (.int 10), none, none, none, none, none, none]).wp fun o => Q (outN o)
  generalize hsc : sceneD W Hh (l.map primD) = sc
  have i2 : dBin gIx (dVar 1) (dC (.int 2)) [none, some sc, some (.int 10), some (.list []), none, none, none, none, none] = some (.tuple (l.map primD)) := by rw [← hsc]; rfl
  unfold F_law_next_scene
  refine nSeq_at (nNew_at ?_)
  refine nSeq_at (nFor_at (nSeqI_at i2 (prims_noL l) ?_))
  refine nLoop_inv _ (fun k s => ∃ js o4 o5, s = [none, some sc, some (.int 10), some (.list (js.map primD)), o4, o5, none, none, none] ∧ (∀ p ∈ js, PrimG 101 p) ∧ (nids js).Sublist (nids (l.take k))) _ ⟨[], none, none, rfl, fun p hp => (nomatch hp), List.Sublist.refl _⟩ (fun k d s hk ⟨js, o4, o5, e, hj, sb⟩ => ?_) fun s ⟨js, o4, o5, e, hj, sb⟩ => ?_
  · subst e
    rw [List.getElem?_map] at hk
    obtain ⟨p, hp, rfl⟩ := Option.map_eq_some_iff.mp hk
    obtain ⟨hkl, hpe⟩ := List.getElem?_eq_some_iff.mp hp
    have pm : p ∈ l := by rw [← hpe]; exact List.getElem_mem hkl
    have gp := g.1 p pm
    have tk : nids (l.take (k + 1)) = nids (l.take k) ++ [idOf p] := by
      unfold nids
      rw [List.take_succ, hp, List.map_append]
      rfl
    have jl : js.length ≤ 6 := by
      have := sb.length_le
      unfold nids at this
      rw [List.length_map, List.length_map, List.length_take] at this
      omega
    have sbk : (nids js).Sublist (nids (l.take (k + 1))) := by
      rw [tk]
      exact sb.trans (List.sublist_append_left _ _)
    have tail : ∀ (q : Prim) (fate : Int), idOf q = idOf p → PrimG 101 q → (nIf (nPT (dTest (dBin gGt (dVar 5) (dC (.int 0))))) (nApp 3 (nP (dVar 4))) nSkip [none, some sc, some (.int 10), some (.list (js.map primD)), some (primD q), some (.int fate), none, none, none]).wp fun o => match o with
        | .nx s' => ∃ js o4 o5, s' = [none, some sc, some (.int 10), some (.list (js.map primD)), o4, o5, none, none, none] ∧ (∀ p ∈ js, PrimG 101 p) ∧ (nids js).Sublist (nids (l.take (k + 1)))
        | .rt d => False := fun q fate eq gq => by
      refine nIf_at (tGt0 5 (k := fate) rfl) ?_
      by_cases f0 : 0 < fate
      · rw [decide_eq_true f0, if_pos rfl]
        refine nApp_at (ds := js.map primD) rfl (d := primD q) rfl (primD_noL q) (by rw [List.length_map]; omega) ⟨js ++ [q], some (primD q), some (.int fate), ?_, fun r hr => ?_, ?_⟩
        · rw [List.map_append]
          rfl
        · rcases List.mem_append.mp hr with hr | hr
          · exact hj r hr
          · rw [List.mem_singleton.mp hr]
            exact gq
        · rw [tk]
          unfold nids at sb ⊢
          rw [List.map_append]
          refine sb.append ?_
          rw [← eq]
          exact List.Sublist.refl _
      · rw [decide_eq_false f0, if_neg (by decide)]
        exact nSkip_at ⟨js, _, _, rfl, hj, sbk⟩
    have tail' : ∀ (q : Prim) (fate : Int) (P : PyData → Prop), idOf q = idOf p → PrimG 101 q → (nIf (nPT (dTest (dBin gGt (dVar 5) (dC (.int 0))))) (nApp 3 (nP (dVar 4))) nSkip [none, some sc, some (.int 10), some (.list (js.map primD)), some (primD q), some (.int fate), none, none, none]).wp fun o => match o with
        | .nx s' => ∃ js o4 o5, s' = [none, some sc, some (.int 10), some (.list (js.map primD)), o4, o5, none, none, none] ∧ (∀ p ∈ js, PrimG 101 p) ∧ (nids js).Sublist (nids (l.take (k + 1)))
        | .rt d => P d := fun q fate P eq gq => (Nd.mono _ (fun o ho => by
      cases o with
      | nx s' => exact ho
      | rt d => exact ho.elim) (tail q fate eq gq))
    refine nSeq_at (nSetN_at (draw_at (m := 8) rfl (by decide) fun fate f0 f1 => ⟨rfl, ?_⟩))
    refine nSeq_at (nIf_at (tOr2 5 (k := fate) rfl) ?_)
    by_cases c : fate = 1 ∨ fate = 2
    · rw [decide_eq_true c, if_pos rfl]
      refine nSetN_at (nTc_at (nCons_at (nP_at (d := primD p) rfl (tidy_noL (primD_noL p)) (nCons_at (nP_at rfl rfl (nNil_at ⟨rfl, w_changed gp fun q eq gq => ⟨primD_noL q, ?_⟩⟩))))))
      exact tail' q fate _ eq gq
    · rw [decide_eq_false c, if_neg (by decide)]
      exact nSkip_at (tail' p fate _ rfl (gp.le (by decide)))
  · subst e
    rw [List.length_map, List.take_length] at sb
    have g1 : ScG 101 js := ⟨hj, g.2.sublist sb⟩
    have jl : js.length ≤ 6 := by
      have := sb.length_le
      unfold nids at this
      rw [List.length_map, List.length_map] at this
      omega
    refine nSeq_at (nTurn_at (ds := js.map primD) rfl (by rw [List.length_map]; omega) fun es pe => ?_)
    obtain ⟨ks, rfl, pk⟩ := perm_map_inv pe js rfl
    have g2 := g1.perm pk
    have kl : ks.length ≤ 6 := by rw [pk.length_eq]; exact jl
    refine nSeq_at (nFor_at (nRg1_at (nCons_at (pick_at (ds := [.int 0, .int 0, .int 1, .int 2]) rfl rfl rfl (by decide) (by decide) rfl fun d hd => nNil_at ?_))))
    have hd' : ∃ j : Int, d = .int j ∧ 0 ≤ j ∧ j ≤ 2 := by
      simp only [List.mem_cons, List.not_mem_nil, or_false] at hd
      rcases hd with rfl | rfl | rfl | rfl <;> exact ⟨_, rfl, by decide, by decide⟩
    obtain ⟨j, rfl, j0, j2⟩ := hd'
    refine ⟨j, rfl, ⟨by omega, by omega⟩, ?_⟩
    refine nLoop_inv _ (fun k s => ∃ ms o6 o7, s = [none, some sc, some (.int 10), some (.list (ms.map primD)), o4, o5, o6, o7, none] ∧ ScG 101 ms ∧ ms.length ≤ 6 + k) _ ⟨ks, none, none, rfl, g2, kl⟩ (fun k d s hk ⟨ms, o6, o7, e, gm, ml⟩ => ?_) fun s ⟨ms, o6, o7, e, gm, ml⟩ => ?_
    · subst e
      have hk2 : k < 2 := by
        obtain ⟨hl, _⟩ := List.getElem?_eq_some_iff.mp hk
        rw [intsD_len] at hl
        omega
      refine nSeq_at (nSetN_at (w_fresh (l := ms) rfl rfl gm (by omega) fun p gp hp => ⟨primD_noL p, ?_⟩))
      have el : dCall gLen [dVar 3] [none, some sc, some (.int 10), some (.list (ms.map primD)), o4, o5, some d, some (primD p), none] = some (.int (ms.length : Nat)) := by
        show some (PyData.int (((ms.map primD).length : Nat) : Int)) = _
        rw [List.length_map]
      have ea : dBin gAdd (dCall gLen [dVar 3]) (dC (.int 1)) [none, some sc, some (.int 10), some (.list (ms.map primD)), o4, o5, some d, some (primD p), none] = some (.int ((ms.length : Nat) + 1)) := dBin_at el rfl rfl
      refine nIns_at (ds := ms.map primD) rfl (by rw [List.length_map]; omega) (nCons_at (nBin_at (nLst_at (nCons_at (nP_at el rfl (nCons_at (draw_at ea (by omega) fun a a0 a1 => nNil_at ⟨le_k rfl, draw_at (m := 2) rfl (by decide) fun t t0 t1 => ?_⟩)))))))
      have ht : t = 0 ∨ t = 1 := by omega
      have fin : ∀ i : Int, 0 ≤ i → i < 1000000 → ((nCons (nP (dVar 7)) nNil) [none, some sc, some (.int 10), some (.list (ms.map primD)), o4, o5, some d, some (primD p), none]).wp fun ds => ∃ (k_1 : Int) (d_1 : PyData), PyData.int i :: ds = [.int k_1, d_1] ∧ noL d_1 = true ∧ 0 ≤ k_1 ∧ k_1 < 1000000 ∧ ∃ ms' o6 o7, ([none, some sc, some (.int 10), some (.list (ms.map primD)), o4, o5, some d, some (primD p), none] : Sl).set 3 (some (.list ((ms.map primD).take k_1.toNat ++ [d_1] ++ (ms.map primD).drop k_1.toNat))) = [none, some sc, some (.int 10), some (.list (ms'.map primD)), o4, o5, o6, o7, none] ∧ ScG 101 ms' ∧ ms'.length ≤ 6 + (k + 1) := fun i i0 i1 => by
        refine nCons_at (nP_at (d := primD p) rfl (tidy_noL (primD_noL p)) (nNil_at ⟨i, primD p, rfl, primD_noL p, i0, i1, ms.take i.toNat ++ [p] ++ ms.drop i.toNat, some d, some (primD p), ?_, (gm.snoc (gp.le (by decide)) hp).perm (ins_permP ms i.toNat p), ?_⟩))
        · rw [ins_prim]
          rfl
        · have := (ins_permP ms i.toNat p).length_eq
          rw [this]
          simp
          omega
      rcases ht with rfl | rfl
      · exact ⟨.int (ms.length : Nat), rfl, rfl, fin _ (by omega) (by omega)⟩
      · exact ⟨.int a, rfl, rfl, fin _ a0 (by omega)⟩
    · subst e
      rw [intsD_len] at ml
      have ml8 : ms.length ≤ 8 := by omega
      have fin : ∀ a b : Int, (nRet (nP (dTup [(dBin gIx (dVar 8) (dC (.int 0))), (dBin gIx (dVar 8) (dC (.int 1))), (dCall gTuple [(dVar 3)])])) [none, some sc, some (.int 10), some (.list (ms.map primD)), o4, o5, o6, o7, some (.tuple [.int a, .int b])]).wp fun o => Q (outN o) := fun a b => by
        refine nRet_at (d := .tuple [.int a, .int b, .tuple (ms.map primD)]) rfl ?_ (h a b ms ml8 gm)
        show (noL (.int a) && (noL (.int b) && (noLs (ms.map primD) && true))) = true
        rw [prims_noL]
        rfl
      subst hsc
      refine nSeq_at (nSet_at (d := .tuple [.int W, .int Hh]) rfl rfl ?_)
      refine nSeq_at (nIfN_at ?_)
      show ((nBin gEq (nTc f_law_draw 1 (nCons (nP (dC (.int 5))) nNil)) (nP (dC (.int 0)))) [none, some (sceneD W Hh (l.map primD)), some (.int 10), some (.list (ms.map primD)), o4, o5, o6, o7, some (.tuple [.int W, .int Hh])]).wp _
      refine nBin_at (draw_at (m := 5) rfl (by decide) fun k k0 k1 => nP_at rfl rfl ⟨.bool (decide (k = 0)), rfl, rfl, ?_⟩)
      show ((if decide (k = 0) = true then nSet 8 _ _ else nSkip _) : Nd Out).wp _
      by_cases z : k = 0
      · rw [decide_eq_true z, if_pos rfl]
        refine nSetN_at (pick_at (ds := [.tuple [.int Hh, .int W], .tuple [.int (W + 1), .int Hh], .tuple [.int W, .int 0]]) rfl rfl rfl (by decide) (by decide) rfl fun d hd => ?_)
        have hd' : ∃ a b : Int, d = .tuple [.int a, .int b] := by
          simp only [List.mem_cons, List.not_mem_nil, or_false] at hd
          rcases hd with rfl | rfl | rfl <;> exact ⟨_, _, rfl⟩
        obtain ⟨a, b, rfl⟩ := hd'
        exact ⟨rfl, fin a b⟩
      · rw [decide_eq_false z, if_neg (by decide)]
        exact nSkip_at (fin W Hh)
end Cs
namespace Cs
open PySem PySem.Spec PyProof.Rows L2
def KeysN (kvs : List (PyData × PyData)) (S : Nid → Prop) : Prop := ∀ e ∈ kvs, ∃ n, e.1 = nidD n ∧ S n
theorem KeysN.list {S : Nid → Prop} : ∀ {kvs : List (PyData × PyData)}, KeysN kvs S → ∃ ns : List Nid, kvs.map (·.1) = ns.map nidD ∧ (∀ n ∈ ns, S n) ∧ ns.length = kvs.length
  | [], _ => ⟨[], rfl, fun n hn => (nomatch hn), rfl⟩
  | e :: r, h => by
    obtain ⟨n, e1, s1⟩ := h e List.mem_cons_self
    obtain ⟨ns, e2, s2, l2⟩ := KeysN.list (kvs := r) fun x hx => h x (List.mem_cons_of_mem _ hx)
    refine ⟨n :: ns, by rw [List.map_cons, List.map_cons, e1, e2], fun m hm => ?_, by simp [l2]⟩
    rcases List.mem_cons.mp hm with rfl | hm
    · exact s1
    · exact s2 m hm
theorem KeysN.put {S : Nid → Prop} {kvs : List (PyData × PyData)} {n : Nid} {v : PyData} (h : KeysN kvs S) (hn : S n) : KeysN (putD kvs n v) S ∧ (putD kvs n v).length ≤ kvs.length + 1 := by
  unfold putD
  split
  · refine ⟨fun e he => ?_, by rw [List.length_map]; omega⟩
    obtain ⟨x, hx, rfl⟩ := List.mem_map.mp he
    obtain ⟨m, e1, s1⟩ := h x hx
    refine ⟨m, ?_, s1⟩
    split
    · exact e1
    · exact e1
  · refine ⟨fun e he => ?_, by simp⟩
    rcases List.mem_append.mp he with he | he
    · exact h e he
    · rw [List.mem_singleton.mp he]
      exact ⟨n, rfl, hn⟩
theorem dcD_gen {i : Nat} {t : Sl → Option Bool} {fk : Sl → Option PyData} {S : Nid → Prop} {s : Sl} : ∀ (ds : List PyData) (acc : List (PyData × PyData)), (∀ d ∈ ds, t (s.set i (some d)) = some false ∨ (t (s.set i (some d)) = some true ∧ ∃ n, fk (s.set i (some d)) = some (nidD n) ∧ S n)) → KeysN acc S →
    ∃ kvs, dcD i t fk (dC (.bool true)) ds s acc = some kvs ∧ KeysN kvs S ∧ kvs.length ≤ acc.length + ds.length
  | [], acc, _, ha => ⟨acc, rfl, ha, by simp⟩
  | d :: ds, acc, h, ha => by
    have hr := fun e he => h e (List.mem_cons_of_mem _ he)
    rcases h d List.mem_cons_self with e | ⟨e, n, e1, s1⟩
    · obtain ⟨kvs, k1, k2, k3⟩ := dcD_gen ds acc hr ha
      refine ⟨kvs, ?_, k2, by simp; omega⟩
      unfold dcD
      rw [e]
      exact k1
    · obtain ⟨p1, p2⟩ := ha.put (v := .bool true) s1
      obtain ⟨kvs, k1, k2, k3⟩ := dcD_gen ds _ hr p1
      refine ⟨kvs, ?_, k2, by simp; omega⟩
      unfold dcD
      rw [e]
      show (match fk (s.set i (some d)) with | some k => _ | none => none) = _
      rw [e1]
      show (match nidOf (nidD n) with | some n => _ | none => none) = _
      rw [nidOf_D]
      exact k1
theorem set_var {s : Sl} {i : Nat} {d : PyData} (h : i < s.length) : dVar i (s.set i (some d)) = some d := by
  unfold dVar
  rw [List.getElem?_set]
  simp [h]
theorem var_ne {s : Sl} {i j : Nat} {o : Option PyData} (h : i ≠ j) : dVar j (s.set i o) = dVar j s := by
  unfold dVar
  rw [List.getElem?_set_ne h]
theorem notIn_at {s : Sl} {f : Sl → Option PyData} {j : Nat} {kvs : List (PyData × PyData)} {n : Nid} (e : f s = some (nidD n)) (e2 : dVar j s = some (.dict kvs)) : dTest (dBin gNotInK f (dVar j)) s = some (!(lookD kvs n).isSome) := by
  have g : gNotInK (nidD n) (.dict kvs) = some (.bool (!(lookD kvs n).isSome)) := by
    show (match nidOf (nidD n) with | some n => some (PyData.bool (!(lookD kvs n).isSome)) | none => none) = _
    rw [nidOf_D]
  unfold dTest
  rw [dBin_at e e2 g]
theorem lcD_filt {i j : Nat} {s : Sl} {kvs : List (PyData × PyData)} (hi : i < s.length) (hij : i ≠ j) (e2 : dVar j s = some (.dict kvs)) : ∀ ns : List Nid, lcD i (dTest (dBin gNotInK (dVar i) (dVar j))) (dVar i) (ns.map nidD) s = some ((ns.filter fun n => !(lookD kvs n).isSome).map nidD)
  | [] => rfl
  | n :: ns => by
    have h1 := set_var (s := s) (d := nidD n) hi
    have ih := lcD_filt hi hij e2 ns
    rw [List.map_cons]
    unfold lcD
    rw [notIn_at h1 (by rw [var_ne hij]; exact e2)]
    cases c : (!(lookD kvs n).isSome) with
    | false =>
      rw [List.filter_cons_of_neg (by rw [c]; exact Bool.false_ne_true)]
      exact ih
    | true =>
      rw [List.filter_cons_of_pos (by rw [c])]
      show (match dVar i (s.set i (some (nidD n))) with | some e => _ | none => none) = _
      rw [h1]
      show (if noL (nidD n) = true then _ else none) = _
      rw [if_pos (nid_noL n), ih]
      rfl
theorem id_at {s : Sl} {i : Nat} {p : Prim} (e : dVar i s = some (primD p)) : dCall f_identity [dVar i] s = some (nidD (idOf p)) := dCall1 e (m_identity p)
def okN (n : Nid) : Prop := okS n.role ∧ okS n.key
theorem m_merged (W Hh : Int) (as pt : List Prim) (rm : List Nid) (la : as.length ≤ 100) (lp : pt.length ≤ 100) (lr : rm.length ≤ 100) (ha : ∀ p ∈ as, okN (idOf p)) (hp : ∀ p ∈ pt, okN (idOf p)) :
    ∃ os : List Nid, f_merged_order [sceneD W Hh (as.map primD), .tuple [.none, .tuple (rm.map nidD), .tuple (pt.map primD), .none, .tuple []]] = some (.tuple (os.map nidD)) ∧ ∀ n ∈ os, okN n := by
  generalize hA : sceneD W Hh (as.map primD) = A
  generalize hB : PyData.tuple [.none, .tuple (rm.map nidD), .tuple (pt.map primD), .none, .tuple []] = B
  have iA : gIx A (.int 2) = some (.tuple (as.map primD)) := by rw [← hA]; rfl
  have iB1 : gIx B (.int 1) = some (.tuple (rm.map nidD)) := by rw [← hB]; rfl
  have iB2 : gIx B (.int 2) = some (.tuple (pt.map primD)) := by rw [← hB]; rfl
  unfold f_merged_order runF F_merged_order
  have st : startD 7 [A, B] = [some A, some B, none, none, none, none, none] := rfl
  rw [st]
  -- gone
  obtain ⟨kg, g1, g2, g3⟩ := dcD_gen (i := 5) (t := dYes) (fk := dVar 5) (S := fun _ => True) (s := [some A, some B, none, none, none, none, none]) (rm.map nidD) [] (fun d hd => by
    obtain ⟨n, _, rfl⟩ := List.mem_map.mp hd
    exact .inr ⟨rfl, n, rfl, trivial⟩) (fun e he => (nomatch he))
  have e1 : dSet 2 (dDc 5 (iSeq (dBin gIx (dVar 1) (dC (.int 1)))) dYes (dVar 5) (dC (.bool true))) [some A, some B, none, none, none, none, none] = some (.nx [some A, some B, some (.dict kg), none, none, none, none]) := by
    have it : iSeq (dBin gIx (dVar 1) (dC (.int 1))) [some A, some B, none, none, none, none, none] = some (rm.map nidD) := by
      unfold iSeq
      rw [dBin_at (a := B) (b := .int 1) rfl rfl iB1]
    unfold dSet dDc
    rw [it]
    dsimp only
    rw [if_pos (by rw [List.length_map]; omega), g1]
    rfl
  rw [dSeq_nx e1]
  obtain ⟨kk, k1, k2, k3⟩ := dcD_gen (i := 6) (t := dYes) (fk := dCall f_identity [dVar 6]) (S := okN) (s := [some A, some B, some (.dict kg), none, none, none, none]) (as.map primD) [] (fun d hd => by
    obtain ⟨p, hp, rfl⟩ := List.mem_map.mp hd
    exact .inr ⟨rfl, idOf p, id_at rfl, ha p hp⟩) (fun e he => (nomatch he))
  have e2 : dSet 3 (dDc 6 (iSeq (dBin gIx (dVar 0) (dC (.int 2)))) dYes (dCall f_identity [(dVar 6)]) (dC (.bool true))) [some A, some B, some (.dict kg), none, none, none, none] = some (.nx [some A, some B, some (.dict kg), some (.dict kk), none, none, none]) := by
    have it : iSeq (dBin gIx (dVar 0) (dC (.int 2))) [some A, some B, some (.dict kg), none, none, none, none] = some (as.map primD) := by
      unfold iSeq
      rw [dBin_at (a := A) (b := .int 2) rfl rfl iA]
    unfold dSet dDc
    rw [it]
    dsimp only
    rw [if_pos (by rw [List.length_map]; omega), k1]
    rfl
  rw [dSeq_nx e2]
  obtain ⟨kn, n1, n2, n3⟩ := dcD_gen (i := 6) (t := dTest (dBin gNotInK (dCall f_identity [(dVar 6)]) (dVar 3))) (fk := dCall f_identity [dVar 6]) (S := okN) (s := [some A, some B, some (.dict kg), some (.dict kk), none, none, none]) (pt.map primD) [] (fun d hd => by
    obtain ⟨p, hp', rfl⟩ := List.mem_map.mp hd
    have e := id_at (s := ([some A, some B, some (.dict kg), some (.dict kk), none, none, none] : Sl).set 6 (some (primD p))) (i := 6) (p := p) rfl
    have t := notIn_at (j := 3) (kvs := kk) e rfl
    cases c : (!(lookD kk (idOf p)).isSome) with
    | false => exact .inl (by rw [t, c])
    | true => exact .inr ⟨by rw [t, c], idOf p, e, hp p hp'⟩) (fun e he => (nomatch he))
  have e3 : dSet 4 (dDc 6 (iSeq (dBin gIx (dVar 1) (dC (.int 2)))) (dTest (dBin gNotInK (dCall f_identity [(dVar 6)]) (dVar 3))) (dCall f_identity [(dVar 6)]) (dC (.bool true))) [some A, some B, some (.dict kg), some (.dict kk), none, none, none] = some (.nx [some A, some B, some (.dict kg), some (.dict kk), some (.dict kn), none, none]) := by
    have it : iSeq (dBin gIx (dVar 1) (dC (.int 2))) [some A, some B, some (.dict kg), some (.dict kk), none, none, none] = some (pt.map primD) := by
      unfold iSeq
      rw [dBin_at (a := B) (b := .int 2) rfl rfl iB2]
    unfold dSet dDc
    rw [it]
    dsimp only
    rw [if_pos (by rw [List.length_map]; omega), n1]
    rfl
  rw [dSeq_nx e3]
  obtain ⟨ks, ks1, ks2, ks3⟩ := k2.list
  obtain ⟨ns, ns1, ns2, ns3⟩ := n2.list
  simp only [List.length_map, List.length_nil, Nat.zero_add] at k3 n3
  have hfl := List.length_filter_le (fun n : Nid => !(lookD kg n).isSome) ks
  refine ⟨ks.filter (fun n => !(lookD kg n).isSome) ++ ns, ?_, fun n hn => ?_⟩
  · have e4 : dLc 5 (iKy (dVar 3)) (dTest (dBin gNotInK (dVar 5) (dVar 2))) (dVar 5) [some A, some B, some (.dict kg), some (.dict kk), some (.dict kn), none, none] = some (.list ((ks.filter fun n => !(lookD kg n).isSome).map nidD)) := by
      have it : iKy (dVar 3) [some A, some B, some (.dict kg), some (.dict kk), some (.dict kn), none, none] = some (ks.map nidD) := by
        show some (kk.map (·.1)) = _
        rw [ks1]
      unfold dLc
      rw [it]
      dsimp only
      rw [if_pos (by rw [List.length_map]; omega), lcD_filt (by show 5 < 7; decide) (by decide) rfl ks]
    have e5 : dCall gListK [(dVar 4)] [some A, some B, some (.dict kg), some (.dict kk), some (.dict kn), none, none] = some (.list (ns.map nidD)) := by
      refine dCall1 (d := .dict kn) rfl ?_
      show some (PyData.list (kn.map (·.1))) = _
      rw [ns1]
    have e6 : gCat (.list ((ks.filter fun n => !(lookD kg n).isSome).map nidD)) (.list (ns.map nidD)) = some (.list ((ks.filter (fun n => !(lookD kg n).isSome) ++ ns).map nidD)) := by
      show (if _ then some (PyData.list ((ks.filter fun n => !(lookD kg n).isSome).map nidD ++ ns.map nidD)) else none) = _
      rw [if_pos (by rw [List.length_map, List.length_map]; omega), List.map_append]
    unfold dRet
    rw [dCall1 (dBin_at e4 e5 e6) rfl]
  · rcases List.mem_append.mp hn with hn | hn
    · exact ks2 n (List.mem_filter.mp hn).1
    · exact ns2 n hn
/-! ### put -/
theorem lcD_put {bs : List Prim} {i j : Nat} (hij : i ≠ j) (ha : ∀ p ∈ bs, PrimOk p) : ∀ (l : List Prim) (s : Sl), i < s.length → dVar j s = some (.dict (bs.map entD)) → (∀ p ∈ l, PrimOk p) →
    ∃ pt : List Prim, pt.Sublist l ∧ lcD i (dTest (dBin gNeD (dBin gGet1 (dVar j) (dCall f_identity [dVar i])) (dVar i))) (dVar i) (l.map primD) s = some (pt.map primD)
  | [], _, _, _, _ => ⟨[], List.Sublist.refl _, rfl⟩
  | p :: ps, s, hs, h2, hl => by
    obtain ⟨pt, s1, ih⟩ := lcD_put hij ha ps s hs h2 fun q hq => hl q (List.mem_cons_of_mem _ hq)
    have hv := set_var (s := s) (d := primD p) hs
    have hv2 : dVar j (s.set i (some (primD p))) = some (.dict (bs.map entD)) := by rw [var_ne hij]; exact h2
    have hc := id_at hv
    have hg : dBin gGet1 (dVar j) (dCall f_identity [dVar i]) (s.set i (some (primD p))) = some (((bs.find? fun q => decide (idOf q = idOf p)).map primD).getD .none) := by
      refine dBin_at hv2 hc ?_
      show (match nidOf (nidD (idOf p)) with | some n => some ((lookD (bs.map entD) n).getD .none) | none => none) = _
      rw [nidOf_D]
      show some ((lookD (bs.map entD) (idOf p)).getD .none) = _
      rw [lookD_ents]
    have hsp := shp_prim (hl p List.mem_cons_self)
    have ht : ∃ b, dTest (dBin gNeD (dBin gGet1 (dVar j) (dCall f_identity [dVar i])) (dVar i)) (s.set i (some (primD p))) = some b := by
      cases hf : bs.find? (fun q => decide (idOf q = idOf p)) with
      | none =>
        rw [hf] at hg
        refine ⟨!PyData.eqv .none (primD p), ?_⟩
        unfold dTest
        rw [dBin_at hg hv (show gNeD .none (primD p) = some (.bool (!PyData.eqv .none (primD p))) from if_pos ⟨noD_none, hsp⟩)]
      | some q =>
        rw [hf] at hg
        have hq := shp_prim (ha q (List.mem_of_find?_eq_some hf))
        refine ⟨!PyData.eqv (primD q) (primD p), ?_⟩
        unfold dTest
        rw [dBin_at hg hv (show gNeD (primD q) (primD p) = some (.bool (!PyData.eqv (primD q) (primD p))) from if_pos ⟨hq, hsp⟩)]
    obtain ⟨b, ht⟩ := ht
    rw [List.map_cons]
    unfold lcD
    rw [ht]
    cases b with
    | true =>
      refine ⟨p :: pt, s1.cons_cons p, ?_⟩
      show (match dVar i (s.set i (some (primD p))) with | some e => _ | none => none) = _
      rw [hv]
      show (if noL (primD p) = true then _ else none) = _
      rw [if_pos (primD_noL p), ih]
      rfl
    | false => exact ⟨pt, s1.cons p, ih⟩
theorem mvd_le (xs ys : List Nid) : (mvd xs ys).length ≤ xs.length := by
  unfold mvd
  split
  · exact Nat.zero_le _
  · rw [List.length_take, List.length_drop]
    omega
theorem shp_tn {l : List Nid} (h : ∀ n ∈ l, okN n) : shp (.tuple (l.map nidD)) = true := shp_tuple (shp_nids h)
/-- the rectangles of the difference of two scenes -/
theorem w_diff {W Hh : Int} {as bs : List Prim} (ha : ∀ p ∈ as, PrimOk p) (hb : ∀ p ∈ bs, PrimOk p) (la : as.length ≤ 50) (lb : bs.length ≤ 50) (na : (nids as).Nodup) (nb : (nids bs).Nodup) {Q : PyData → Prop}
    (h : ∀ (rm pt od : PyData) (rects : List Rc), rects.length ≤ 200 → (∀ p, p ∈ as ∨ p ∈ bs → stillIds as bs (idOf p) = false → ∀ b, visible W Hh p = some b → ∃ r ∈ rects, ∀ x y, inR b x y = true → inR r x y = true) → Q (.tuple [.none, rm, pt, od, .tuple (rects.map rcD)])) :
    (f_diff [sceneD W Hh (as.map primD), sceneD W Hh (bs.map primD)]).wp Q := by
  have kk := m_kept W Hh as bs ha hb (by omega) (by omega) nb
  have km := m_moved W Hh as bs ha hb (by omega) (by omega) na nb
  have o1 := m_by_identity W Hh as na (by omega)
  have o2 := m_by_identity W Hh bs nb (by omega)
  have okA : ∀ p ∈ as, okN (idOf p) := fun p hp => ⟨(ha p hp).role, (ha p hp).key⟩
  have okB : ∀ p ∈ bs, okN (idOf p) := fun p hp => ⟨(hb p hp).role, (hb p hp).key⟩
  have kl : (keptIds as bs).length ≤ as.length := kept_le
  have ml := mvd_le (keptIds as bs) (keptIds bs as)
  generalize hA : sceneD W Hh (as.map primD) = A at *
  generalize hB : sceneD W Hh (bs.map primD) = B at *
  have iB : gIx B (.int 2) = some (.tuple (bs.map primD)) := by rw [← hB]; rfl
  -- removed
  have e2 : F2_diff [some A, some B, some (.dict (as.map entD)), some (.dict (bs.map entD)), none, none, none, none, none, none] = some (.nx [some A, some B, some (.dict (as.map entD)), some (.dict (bs.map entD)), some (.tuple (((nids as).filter fun n => !(lookD (bs.map entD) n).isSome).map nidD)), none, none, none, none, none]) := by
    have it : iKy (dVar 2) [some A, some B, some (.dict (as.map entD)), some (.dict (bs.map entD)), none, none, none, none, none, none] = some ((nids as).map nidD) := by
      show some ((as.map entD).map (·.1)) = _
      unfold nids
      rw [List.map_map, List.map_map]
      rfl
    have l : dLc 8 (iKy (dVar 2)) (dTest (dBin gNotInK (dVar 8) (dVar 3))) (dVar 8) [some A, some B, some (.dict (as.map entD)), some (.dict (bs.map entD)), none, none, none, none, none, none] = some (.list (((nids as).filter fun n => !(lookD (bs.map entD) n).isSome).map nidD)) := by
      unfold dLc
      rw [it]
      dsimp only
      rw [if_pos (by unfold nids; rw [List.length_map, List.length_map]; omega), lcD_filt (by show 8 < 10; decide) (by decide) rfl (nids as)]
    unfold F2_diff dSet
    rw [dCall1 l rfl]
    rfl
  have rl : ((nids as).filter fun n => !(lookD (bs.map entD) n).isSome).length ≤ 100 := by
    have := List.length_filter_le (fun n : Nid => !(lookD (bs.map entD) n).isSome) (nids as)
    unfold nids at this ⊢
    rw [List.length_map] at this
    omega
  generalize (nids as).filter (fun n => !(lookD (bs.map entD) n).isSome) = rm at e2 rl
  -- put
  obtain ⟨pt, psub, ep⟩ := lcD_put (bs := as) (i := 9) (j := 2) (by decide) ha bs [some A, some B, some (.dict (as.map entD)), some (.dict (bs.map entD)), some (.tuple (rm.map nidD)), none, none, none, none, none] (by show 9 < 10; decide) rfl hb
  have e3 : F3_diff [some A, some B, some (.dict (as.map entD)), some (.dict (bs.map entD)), some (.tuple (rm.map nidD)), none, none, none, none, none] = some (.nx [some A, some B, some (.dict (as.map entD)), some (.dict (bs.map entD)), some (.tuple (rm.map nidD)), some (.tuple (pt.map primD)), none, none, none, none]) := by
    have it : iSeq (dBin gIx (dVar 1) (dC (.int 2))) [some A, some B, some (.dict (as.map entD)), some (.dict (bs.map entD)), some (.tuple (rm.map nidD)), none, none, none, none, none] = some (bs.map primD) := by
      unfold iSeq
      rw [dBin_at (a := B) (b := .int 2) rfl rfl iB]
    have l : dLc 9 (iSeq (dBin gIx (dVar 1) (dC (.int 2)))) (dTest (dBin gNeD (dBin gGet1 (dVar 2) (dCall f_identity [(dVar 9)])) (dVar 9))) (dVar 9) [some A, some B, some (.dict (as.map entD)), some (.dict (bs.map entD)), some (.tuple (rm.map nidD)), none, none, none, none, none] = some (.list (pt.map primD)) := by
      unfold dLc
      rw [it]
      dsimp only
      rw [if_pos (by rw [List.length_map]; omega), ep]
    unfold F3_diff dSet
    rw [dCall1 l rfl]
    rfl
  have pl : pt.length ≤ 100 := by have := psub.length_le; omega
  -- order
  have e4 : F4_diff [some A, some B, some (.dict (as.map entD)), some (.dict (bs.map entD)), some (.tuple (rm.map nidD)), some (.tuple (pt.map primD)), none, none, none, none] = some (.nx [some A, some B, some (.dict (as.map entD)), some (.dict (bs.map entD)), some (.tuple (rm.map nidD)), some (.tuple (pt.map primD)), some (.tuple ((nids bs).map nidD)), none, none, none]) := by
    have it : iSeq (dBin gIx (dVar 1) (dC (.int 2))) [some A, some B, some (.dict (as.map entD)), some (.dict (bs.map entD)), some (.tuple (rm.map nidD)), some (.tuple (pt.map primD)), none, none, none, none] = some (bs.map primD) := by
      unfold iSeq
      rw [dBin_at (a := B) (b := .int 2) rfl rfl iB]
    have l : dLc 9 (iSeq (dBin gIx (dVar 1) (dC (.int 2)))) dYes (dCall f_identity [(dVar 9)]) [some A, some B, some (.dict (as.map entD)), some (.dict (bs.map entD)), some (.tuple (rm.map nidD)), some (.tuple (pt.map primD)), none, none, none, none] = some (.list ((nids bs).map nidD)) := by
      unfold dLc
      rw [it]
      dsimp only
      rw [if_pos (by rw [List.length_map]; omega), lcD_mapP (g := fun p => nidD (idOf p)) bs fun p hp => ⟨id_at rfl, nid_noL _⟩]
      show some (PyData.list (bs.map fun p => nidD (idOf p))) = _
      unfold nids
      rw [List.map_map]
      rfl
    unfold F4_diff dSet
    rw [dCall1 l rfl]
    rfl
  -- the merged order
  obtain ⟨os, m1, m2⟩ := m_merged W Hh as pt rm (by omega) pl rl okA fun p hp => okB p (psub.subset hp)
  rw [hA] at m1
  have ob : ∀ n ∈ nids bs, okN n := fun n hn => by
    obtain ⟨p, hp, rfl⟩ := List.mem_map.mp hn
    exact okB p hp
  have t5 : dTest (dBin gEqD (dCall f_merged_order [(dVar 0), (dTup [(dC .none), (dVar 4), (dVar 5), (dC .none), (dTup [])])]) (dVar 6)) [some A, some B, some (.dict (as.map entD)), some (.dict (bs.map entD)), some (.tuple (rm.map nidD)), some (.tuple (pt.map primD)), some (.tuple ((nids bs).map nidD)), none, none, none] = some (PyData.eqv (.tuple (os.map nidD)) (.tuple ((nids bs).map nidD))) := by
    have c : dCall f_merged_order [(dVar 0), (dTup [(dC .none), (dVar 4), (dVar 5), (dC .none), (dTup [])])] [some A, some B, some (.dict (as.map entD)), some (.dict (bs.map entD)), some (.tuple (rm.map nidD)), some (.tuple (pt.map primD)), some (.tuple ((nids bs).map nidD)), none, none, none] = some (.tuple (os.map nidD)) := m1
    unfold dTest
    rw [dBin_at c rfl (show gEqD (.tuple (os.map nidD)) (.tuple ((nids bs).map nidD)) = some (.bool (PyData.eqv (.tuple (os.map nidD)) (.tuple ((nids bs).map nidD)))) from if_pos ⟨shp_tn m2, shp_tn ob⟩)]
  have e5 : ∃ od', F5_diff [some A, some B, some (.dict (as.map entD)), some (.dict (bs.map entD)), some (.tuple (rm.map nidD)), some (.tuple (pt.map primD)), some (.tuple ((nids bs).map nidD)), none, none, none] = some (.nx [some A, some B, some (.dict (as.map entD)), some (.dict (bs.map entD)), some (.tuple (rm.map nidD)), some (.tuple (pt.map primD)), some od', none, none, none]) := by
    unfold F5_diff dIf
    rw [t5]
    cases PyData.eqv (.tuple (os.map nidD)) (.tuple ((nids bs).map nidD)) with
    | true => exact ⟨.none, rfl⟩
    | false => exact ⟨_, rfl⟩
  obtain ⟨od', e5⟩ := e5
  -- the sizes
  have e6 : dTest (dBin gEqD (dSl (dVar 0) (fun _ => some none) (dPart (dC (.int 2)))) (dSl (dVar 1) (fun _ => some none) (dPart (dC (.int 2))))) [some A, some B, some (.dict (as.map entD)), some (.dict (bs.map entD)), some (.tuple (rm.map nidD)), some (.tuple (pt.map primD)), some od', none, none, none] = some true := by
    have q1 : dSl (dVar 0) (fun _ => some none) (dPart (dC (.int 2))) [some A, some B, some (.dict (as.map entD)), some (.dict (bs.map entD)), some (.tuple (rm.map nidD)), some (.tuple (pt.map primD)), some od', none, none, none] = some (.tuple [.int W, .int Hh]) := by rw [← hA]; rfl
    have q2 : dSl (dVar 1) (fun _ => some none) (dPart (dC (.int 2))) [some A, some B, some (.dict (as.map entD)), some (.dict (bs.map entD)), some (.tuple (rm.map nidD)), some (.tuple (pt.map primD)), some od', none, none, none] = some (.tuple [.int W, .int Hh]) := by rw [← hB]; rfl
    have sh : shp (.tuple [.int W, .int Hh]) = true := shp_tuple fun d hd => by
      simp only [List.mem_cons, List.not_mem_nil, or_false] at hd
      rcases hd with rfl | rfl <;> exact ⟨shp_of (by simp [PyData.canLay0]) (by simp [PyData.depth]) rfl, by simp [PyData.depth]⟩
    have pe : PyData.eqv (.tuple [.int W, .int Hh]) (.tuple [.int W, .int Hh]) = true := (eqv_pln rfl rfl).mpr rfl
    unfold dTest
    rw [dBin_at q1 q2 (show gEqD (.tuple [.int W, .int Hh]) (.tuple [.int W, .int Hh]) = some (.bool (PyData.eqv (.tuple [.int W, .int Hh]) (.tuple [.int W, .int Hh]))) from if_pos ⟨sh, sh⟩), pe]
  refine ⟨A, B, _, _, _, _, _, od', rfl, o1, o2, e2, e3, e4, e5, e6, W, Hh, as, bs, keptIds as bs, mvd (keptIds as bs) (keptIds bs as), by rw [hA, hB], fun p hp => (ha p hp).wf, fun p hp => (hb p hp).wf, by omega, by omega, kk, km, by omega, by omega, fun rects hr hc => ?_⟩
  refine h _ _ _ rects hr fun p hp hs b hv => ?_
  have hm : (p.plot, b) ∈ dirty W Hh (stillIds as bs) as ++ dirty W Hh (stillIds as bs) bs := by
    have one : ∀ l : List Prim, p ∈ l → (p.plot, b) ∈ dirty W Hh (stillIds as bs) l := fun l hl => by
      unfold dirty
      refine List.mem_filterMap.mpr ⟨p, hl, ?_⟩
      rw [hs, hv]
      rfl
    rcases hp with hp | hp
    · exact List.mem_append_left _ (one as hp)
    · exact List.mem_append_right _ (one bs hp)
  exact hc _ hm
end Cs
namespace Cs
open PySem PySem.Spec PyProof.Rows L2
section
variable {K : PySem.W.Frag} {mg : Str → Option Value} {base : Heap}
theorem sc_law_painted : FnScope ["_law_scene_here", "_law_rectangle", "_law_rows", "_law_y", "_law_row", "_law_x"] ["_law_scene_here", "_law_rectangle"] (defScope s_law_painted) := ⟨rfl, rfl, rfl, by decide +kernel, rfl, by decide +kernel, by decide +kernel⟩
theorem bo_law_painted : BindOk "_law_painted" s_law_painted ["_law_scene_here", "_law_rectangle"] := fun _ _ _ _ _ _ us hl => match us, hl with | [_, _], _ => rfl
def L0_law_painted : Sl → Nd Out := (nApp 4 (nP (dCall f_law_color_at [(dVar 0), (dVar 5), (dVar 3)])))
def L1_law_painted : Sl → Nd Out := (nSeq (nNew 4) (nSeq (nFor 5 (nRg2 (nCons (nP (dBin gIx (dVar 1) (dC (.int 0)))) (nCons (nP (dBin gAdd (dBin gIx (dVar 1) (dC (.int 0))) (dBin gIx (dVar 1) (dC (.int 2))))) nNil))) L0_law_painted) (nApp 2 (nP (dCall gTuple [(dVar 4)])))))
def F_law_painted : Sl → Nd Out := (nSeq (nNew 2) (nSeq (nFor 3 (nRg2 (nCons (nP (dBin gIx (dVar 1) (dC (.int 1)))) (nCons (nP (dBin gAdd (dBin gIx (dVar 1) (dC (.int 1))) (dBin gIx (dVar 1) (dC (.int 3))))) nNil))) L1_law_painted) (nRet (nP (dCall gTuple [(dVar 2)])))))
theorem okr_law_painted [Wd] (T : Tx K mg) {G : List PyData → PyData → Prop} (hg : ∀ ds d, G ds d → ds.length = 2 → (F_law_painted (startD 6 ds)).wp fun o => outN o = d) : Ok Wd.P Wd.w K mg base "_law_painted" 7 ["_law_scene_here", "_law_rectangle"] (spR G 2) := T.law_painted.ownR (F := F_law_painted) (own := [2, 4]) sc_law_painted bo_law_painted rfl hg (by decide) fun f cdv A outer s H E hr => (ns_cons (ns_new 2 sc_law_painted.nd rfl (Or.inl rfl) (by show (2 : Nat) ∈ ([2, 4] : List Nat); decide) (by show (2 : Nat) ≠ 1000; decide)) (ns_cons (ns_for (i := 3) PassesOwn.never rfl (ni_range2 rfl T.b_range (na_cons (ne_pure (de_ix (de_var 1) de_int)) (na_cons (ne_pure (de_add (de_ix (de_var 1) de_int) (de_ix (de_var 1) de_int))) na_nil))) (pg_name (i := 3) sc_law_painted.nd rfl (Or.inl rfl)) (ns_cons (ns_new 4 sc_law_painted.nd rfl (Or.inl rfl) (by show (4 : Nat) ∈ ([2, 4] : List Nat); decide) (by show (4 : Nat) ≠ 1000; decide)) (ns_cons (ns_for (i := 5) PassesOwn.never rfl (ni_range2 rfl T.b_range (na_cons (ne_pure (de_ix (de_var 1) de_int)) (na_cons (ne_pure (de_add (de_ix (de_var 1) de_int) (de_ix (de_var 1) de_int))) na_nil))) (pg_name (i := 5) sc_law_painted.nd rfl (Or.inl rfl)) (ns_one (ns_app 4 rfl (by show (4 : Nat) ∈ ([2, 4] : List Nat); decide) (ne_pure (de_cl (ok_law_color_at T) hr (da_cons (de_var 0) (da_cons (de_var 5) (da_cons (de_var 3) da_nil))))))) (by show (5 : Nat) ∉ ([2, 4] : List Nat); decide) (by show (5 : Nat) ≠ 1000; decide)) (ns_one (ns_app 2 rfl (by show (2 : Nat) ∈ ([2, 4] : List Nat); decide) (ne_pure (de_tuple T.b_tuple (da_cons (de_var 4) da_nil))))))) (by show (3 : Nat) ∉ ([2, 4] : List Nat); decide) (by show (3 : Nat) ≠ 1000; decide)) (ns_one (ns_ret (ne_pure (de_tuple T.b_tuple (da_cons (de_var 2) da_nil)))))))
/-! ### the law's own picture -/
def GLawP (ds : List PyData) (d : PyData) : Prop := ∃ (W Hh : Int) (items : List Prim) (w h : Int), ds = [sceneD W Hh (items.map primD), rcD (0, 0, w, h)] ∧ (∀ p ∈ items, WfF p.form) ∧ 0 ≤ w ∧ w ≤ 100 ∧ 0 ≤ h ∧ h ≤ 100 ∧ d = gridD h.toNat w.toNat fun i j => colorAt items (j : Int) (i : Int)
theorem rng_get {n k : Nat} {d : PyData} (h : (intsD 0 1 n)[k]? = some d) : d = .int (k : Int) ∧ k < n := by
  obtain ⟨hl, he⟩ := List.getElem?_eq_some_iff.mp h
  rw [intsD_len] at hl
  refine ⟨?_, hl⟩
  rw [ints0, List.getElem?_map, List.getElem?_range hl] at h
  exact (Option.some.inj h).symm
theorem rowD_succ (k : Nat) (f : Nat → Str) : rowD (k + 1) f = rowD k f ++ [.str (f k)] := by
  unfold rowD
  rw [List.range_succ, List.map_append]
  rfl
theorem rowD_len (k : Nat) (f : Nat → Str) : (rowD k f).length = k := by simp [rowD]
theorem ok_law_painted [Wd] (T : Tx K mg) : Ok Wd.P Wd.w K mg base "_law_painted" 7 ["_law_scene_here", "_law_rectangle"] (spR GLawP 2) := okr_law_painted T fun ds d h _ => by
  obtain ⟨W, Hh, items, w, h, rfl, hw, w0, w1, h0, h1, rfl⟩ := h
  show (F_law_painted [some (sceneD W Hh (items.map primD)), some (rcD (0, 0, w, h)), none, none, none, none]).wp _
  have mc := fun x y bx by' => m_color_at W Hh items x y hw bx by'
  generalize sceneD W Hh (items.map primD) = sc at mc ⊢
  unfold F_law_painted
  refine nSeq_at (nNew_at ?_)
  refine nSeq_at (nFor_at (nRg2_at (nCons_at (nP_at (d := .int 0) rfl rfl (nCons_at (nP_at (d := .int (0 + h)) rfl rfl (nNil_at ⟨0, 0 + h, rfl, ⟨by decide, ⟨by omega, by omega⟩⟩, ?_⟩)))))))
  have eh : (0 + h - 0).toNat = h.toNat := by congr 1; omega
  rw [eh]
  refine nLoop_inv _ (fun k s => ∃ o3 o4 o5, s = [some sc, some (rcD (0, 0, w, h)), some (.list ((List.range k).map fun (i : Nat) => PyData.tuple (rowD w.toNat fun j => colorAt items (j : Int) (i : Int)))), o3, o4, o5]) _ ⟨none, none, none, rfl⟩ (fun k d s hk ⟨o3, o4, o5, e⟩ => ?_) fun s ⟨o3, o4, o5, e⟩ => ?_
  · subst e
    obtain ⟨rfl, kh⟩ := rng_get hk
    unfold L1_law_painted
    refine nSeq_at (nNew_at ?_)
    refine nSeq_at (nFor_at (nRg2_at (nCons_at (nP_at (d := .int 0) rfl rfl (nCons_at (nP_at (d := .int (0 + w)) rfl rfl (nNil_at ⟨0, 0 + w, rfl, ⟨by decide, ⟨by omega, by omega⟩⟩, ?_⟩)))))))
    have ew : (0 + w - 0).toNat = w.toNat := by congr 1; omega
    rw [ew]
    refine nLoop_inv _ (fun m s => ∃ o5, s = [some sc, some (rcD (0, 0, w, h)), some (.list ((List.range k).map fun (i : Nat) => PyData.tuple (rowD w.toNat fun j => colorAt items (j : Int) (i : Int)))), some (.int (k : Int)), some (.list (rowD m fun j => colorAt items (j : Int) (k : Int))), o5]) _ ⟨o5, rfl⟩ (fun m d s hm ⟨o5, e⟩ => ?_) fun s ⟨o5, e⟩ => ?_
    · subst e
      obtain ⟨rfl, mw⟩ := rng_get hm
      have c : dCall f_law_color_at [(dVar 0), (dVar 5), (dVar 3)] [some sc, some (rcD (0, 0, w, h)), some (.list ((List.range k).map fun (i : Nat) => PyData.tuple (rowD w.toNat fun j => colorAt items (j : Int) (i : Int)))), some (.int (k : Int)), some (.list (rowD m fun j => colorAt items (j : Int) (k : Int))), some (.int (m : Int))] = some (.str (colorAt items (m : Int) (k : Int))) := mc (m : Int) (k : Int) ⟨by omega, by omega⟩ ⟨by omega, by omega⟩
      refine nApp_at (ds := rowD m fun j => colorAt items (j : Int) (k : Int)) rfl c rfl (by rw [rowD_len]; omega) ⟨some (.int (m : Int)), ?_⟩
      rw [rowD_succ]
      rfl
    · subst e
      rw [intsD_len]
      refine nApp_at (ds := (List.range k).map fun (i : Nat) => PyData.tuple (rowD w.toNat fun j => colorAt items (j : Int) (i : Int))) rfl (d := .tuple (rowD w.toNat fun j => colorAt items (j : Int) (k : Int))) (dCall1 (d := .list (rowD w.toNat fun j => colorAt items (j : Int) (k : Int))) rfl rfl) (rowD_noL _ _) (by rw [List.length_map, List.length_range]; omega) ⟨some (.int (k : Int)), some (.list (rowD w.toNat fun j => colorAt items (j : Int) (k : Int))), o5, ?_⟩
      rw [List.range_succ, List.map_append]
      rfl
  · subst e
    rw [intsD_len]
    refine nRet_at (d := gridD h.toNat w.toNat fun i j => colorAt items (j : Int) (i : Int)) (dCall1 (d := .list ((List.range h.toNat).map fun (i : Nat) => PyData.tuple (rowD w.toNat fun j => colorAt items (j : Int) (i : Int)))) rfl rfl) ?_ rfl
    refine tidy_noL (noLs_mem.mpr fun d hd => ?_)
    obtain ⟨i, _, rfl⟩ := List.mem_map.mp hd
    exact rowD_noL _ _
end
end Cs
namespace Cs
open PySem PySem.Spec PyProof.Rows L2
/-! ### how long the text of a grid is -/
theorem rch_len : ∀ c < 128, (Builtin.Str.reprChar 39 c).length ≤ 10 ∧ (Builtin.Str.reprChar 34 c).length ≤ 10 := by decide +kernel
theorem rfold_le {q : Nat} (hq : q = 39 ∨ q = 34) : ∀ (l : List Nat) (n : Nat), (∀ c ∈ l, c < 128) → l.foldl (fun n c => n + (Builtin.Str.reprChar q c).length) n ≤ n + 10 * l.length
  | [], n, _ => by simp
  | c :: r, n, h => by
    have hc := rch_len c (h c List.mem_cons_self)
    have h1 : (Builtin.Str.reprChar q c).length ≤ 10 := by
      rcases hq with rfl | rfl
      · exact hc.1
      · exact hc.2
    have ih := rfold_le hq r (n + (Builtin.Str.reprChar q c).length) fun d hd => h d (List.mem_cons_of_mem _ hd)
    rw [List.foldl_cons, List.length_cons]
    omega
theorem repr_le {n : Nat} {z : Str} (h : asc n z) : (reprText z).length ≤ 2 + 10 * n := by
  rw [← reprLen_eq, ← Array.foldl_toList]
  have hq : reprQuote z = 39 ∨ reprQuote z = 34 := by
    unfold reprQuote
    split
    · exact .inr rfl
    · exact .inl rfl
  have := rfold_le hq z.cps.toList 2 h.2
  have l : z.cps.toList.length = z.length := Array.length_toList
  have h1 := h.1
  omega
theorem piled_le {B : Nat} : ∀ ts : List Str, (∀ t ∈ ts, t.length ≤ B) → piled ts ≤ ts.length * (B + 2)
  | [], _ => by simp [piled]
  | t :: ts, h => by
    have h1 := h t List.mem_cons_self
    have ih := piled_le ts fun u hu => h u (List.mem_cons_of_mem _ hu)
    rw [piled_cons, List.length_cons, Nat.succ_mul]
    omega
theorem tupleText_le {B : Nat} (ts : List Str) (h : ∀ t ∈ ts, t.length ≤ B) : (tupleText ts).length ≤ ts.length * (B + 2) + 3 := by
  have e : (tupleText ts).length = 1 + (Str.join ", " ts).length + (if ts.length == 1 then (",)" : Str) else (")" : Str)).length := by
    unfold tupleText
    rw [len_add, len_add]
    have l1 : ("(" : Str).length = 1 := by decide +kernel
    rw [l1]
    split <;> rfl
  have l2 : (if ts.length == 1 then (",)" : Str) else (")" : Str)).length ≤ 2 := by
    split <;> decide +kernel
  have p := piled_le ts h
  cases ts with
  | nil =>
    have : (Str.join ", " ([] : List Str)).length = 0 := rfl
    omega
  | cons a r =>
    have := join_length_add (a :: r) (by simp)
    omega
theorem shownAll_map {α : Type} (f : α → PyData) : ∀ l : List α, PyData.shownAll (l.map f) = l.map fun a => PyData.shown (f a)
  | [] => rfl
  | a :: r => by
    show PyData.shown (f a) :: PyData.shownAll (r.map f) = _
    rw [shownAll_map f r]
    rfl
/-- a datum whose text can be told -/
structure Rp (d : PyData) : Prop where
  nd : noD d = true
  sh : d.showable = true
  hd : d.hasDict = false
  dp : d.depth ≤ 5
  sz : d.shown.length ≤ sizeLine
theorem show_all {l : List PyData} (h : ∀ d ∈ l, d.showable = true ∧ d.hasDict = false ∧ noD d = true ∧ d.depth ≤ 4) : PyData.showableAll l = true ∧ PyData.hasDictAll l = false ∧ noDs l = true ∧ PyData.depthAll l ≤ 4 := by
  induction l with
  | nil => exact ⟨by simp [PyData.showableAll], by simp [PyData.hasDictAll], by simp [noDs], by simp [PyData.depthAll]⟩
  | cons a r ih =>
    obtain ⟨i1, i2, i3, i4⟩ := ih fun d hd => h d (List.mem_cons_of_mem _ hd)
    obtain ⟨a1, a2, a3, a4⟩ := h a List.mem_cons_self
    refine ⟨?_, ?_, ?_, ?_⟩
    · simp only [PyData.showableAll, i1, a1, Bool.and_self]
    · simp only [PyData.hasDictAll, i2, a2, Bool.or_self]
    · simp only [noDs, i3, a3, Bool.and_self]
    · simp only [PyData.depthAll]
      omega
theorem rp_grid {h w : Nat} {g : Nat → Nat → Str} (hh : h ≤ 20) (hw : w ≤ 20) (hg : ∀ i j, i < h → j < w → asc 7 (g i j)) : Rp (gridD h w g) := by
  have row : ∀ i, i < h → ∀ d ∈ rowD w (g i), ∃ z, d = .str z ∧ asc 7 z := fun i hi d hd => by
    unfold rowD at hd
    obtain ⟨j, hj, rfl⟩ := List.mem_map.mp hd
    exact ⟨_, rfl, hg i j hi (List.mem_range.mp hj)⟩
  have rows : ∀ d ∈ (List.range h).map (fun i => PyData.tuple (rowD w (g i))), (d.showable = true ∧ d.hasDict = false ∧ noD d = true ∧ d.depth ≤ 2) ∧ d.shown.length ≤ 2000 := fun d hd => by
    obtain ⟨i, hi, rfl⟩ := List.mem_map.mp hd
    have r := row i (List.mem_range.mp hi)
    obtain ⟨s1, s2, s3, s4⟩ := show_all (l := rowD w (g i)) fun d hd => by
      obtain ⟨z, rfl, _⟩ := r d hd
      exact ⟨by simp [PyData.showable], by simp [PyData.hasDict], by simp [noD], by simp [PyData.depth]⟩
    have s5 : PyData.depthAll (rowD w (g i)) = 0 := by
      have : ∀ l : List PyData, (∀ d ∈ l, ∃ z, d = PyData.str z) → PyData.depthAll l = 0 := fun l => by
        induction l with
        | nil => intro _; simp [PyData.depthAll]
        | cons a t ih =>
          intro hl
          obtain ⟨z, rfl⟩ := hl a List.mem_cons_self
          simp [PyData.depthAll, PyData.depth, ih fun d hd => hl d (List.mem_cons_of_mem _ hd)]
      exact this _ fun d hd => let ⟨z, e, _⟩ := r d hd; ⟨z, e⟩
    refine ⟨⟨by simp only [PyData.showable, s1], by simp only [PyData.hasDict, s2], by simp only [noD, s3], by simp only [PyData.depth, s5]; decide⟩, ?_⟩
    have := tupleText_le (B := 72) (PyData.shownAll (rowD w (g i))) fun t ht => by
      unfold rowD at ht
      rw [shownAll_map] at ht
      obtain ⟨j, hj, rfl⟩ := List.mem_map.mp ht
      exact repr_le (hg i j (List.mem_range.mp hi) (List.mem_range.mp hj))
    have l : (PyData.shownAll (rowD w (g i))).length = w := by
      unfold rowD
      rw [shownAll_map]
      simp
    rw [l] at this
    show (tupleText (PyData.shownAll (rowD w (g i)))).length ≤ 2000
    have : w * (72 + 2) ≤ 20 * 74 := Nat.mul_le_mul_right _ hw
    omega
  obtain ⟨s1, s2, s3, s4⟩ := show_all (l := (List.range h).map (fun i => PyData.tuple (rowD w (g i)))) fun d hd => ⟨(rows d hd).1.1, (rows d hd).1.2.1, (rows d hd).1.2.2.1, Nat.le_trans (rows d hd).1.2.2.2 (by decide)⟩
  refine ⟨by unfold gridD; simp only [noD, s3], by unfold gridD; simp only [PyData.showable, s1], by unfold gridD; simp only [PyData.hasDict, s2], by unfold gridD; simp only [PyData.depth]; omega, ?_⟩
  have := tupleText_le (B := 2000) (PyData.shownAll ((List.range h).map (fun i => PyData.tuple (rowD w (g i))))) fun t ht => by
    rw [shownAll_map] at ht
    obtain ⟨i, hi, rfl⟩ := List.mem_map.mp ht
    exact (rows _ (List.mem_map_of_mem hi)).2
  have l : (PyData.shownAll ((List.range h).map (fun i => PyData.tuple (rowD w (g i))))).length = h := by
    rw [shownAll_map]
    simp
  rw [l] at this
  show (tupleText (PyData.shownAll ((List.range h).map (fun i => PyData.tuple (rowD w (g i)))))).length ≤ sizeLine
  have h1 : h * (2000 + 2) ≤ 20 * 2002 := Nat.mul_le_mul_right _ hh
  have h2 : 50000 ≤ sizeLine := by decide
  omega
/-! ### repr of a tuple -/
theorem call_repr [Wd] {X : Cx} (hg : X.A.guards = some []) (hu : X.A.units + 6 < cLine) : CallR X (.builtin "repr") (fun xs H Q => ∃ v ds, xs = [v] ∧ R H v (.tuple ds) ∧ Rp (.tuple ds) ∧ Q (.str (PyData.shown (.tuple ds))) H) := by
  intro pins s σ H xs us Q I r h
  obtain ⟨v, ds, rfl, hR, hp, q⟩ := h
  obtain ⟨u, rfl, rv⟩ := vals1 r
  obtain ⟨as, rd⟩ := Dp.reads I _ _ _ (hR.dp hp.nd) rv
  obtain ⟨a, ys, rfl, _, _⟩ := hR.tup
  obtain rfl : u = Value.ref a := rv
  have dp := hp.dp
  exact PySem.repr_of_reads' rd hp.sh (PyData.noDict_hsm hp.hd) hg (by omega) (fun b o e => e) (fun h' u tk k => ⟨.str _, H, I.kept k, ⟨_, rfl⟩, q⟩) hp.sz
end Cs
namespace Cs
open PySem PySem.Spec PyProof.Rows L2
/-! ### the script becomes the tape -/
theorem sqL_same {K : PySem.W.Frag} {H H' : Hp} {a : Addr} {xs : List V} (h : SqL K H a xs) (s : Same H H') : SqL K H' a xs := by
  rcases h with (h | ⟨o, h⟩) | h
  · exact .inl (.inl (s _ _ h))
  · exact .inl (.inr ⟨o, s _ _ h⟩)
  · exact .inr h
theorem for_L {K : PySem.W.Frag} {a : Addr} {xs : List V} {i k : Nat} {tb : TS} {D : Ends} {σ : L2.St} {H : Hp} (h0 : σ[i]? = some (some (.ref a))) (hS : SqL K H a xs) (Pv : Nat → L2.St → Hp → Prop) (p0 : Pv 0 σ H) (keep : ∀ n σ' H', Pv n σ' H' → SqL K H' a xs)
    (hs : ∀ n x σ' H', xs[n]? = some x → Pv n σ' H' → tb { D with nx := Pv (n + 1), ct := Pv (n + 1), bk := D.nx } (σ'.set k (some x)) H') (hd : ∀ σ' H', Pv xs.length σ' H' → D.nx σ' H') : tFor (iList K (tVar i)) (gName k) tb D σ H := by
  refine ⟨_, h0, a, rfl, ⟨xs, hS⟩, fun n m σ' H' => n + m = xs.length ∧ Pv n σ' H', ⟨xs.length, by simp, p0⟩, ?_⟩
  rintro n m σ' H' ⟨hn, p⟩
  have S := keep n σ' H' p
  by_cases hlt : n < xs.length
  · refine .inr ⟨⟨xs, xs[n], S, List.getElem?_eq_getElem hlt⟩, Pv (n + 1), fun σ2 H2 p2 => ⟨m - 1, by omega, by omega, p2⟩, ?_⟩
    rintro x H2 ⟨rfl, hx⟩
    exact hs n x σ' H2 (hx xs S) p
  · have en : n = xs.length := by omega
    subst en
    exact .inl ⟨⟨xs, S, Nat.le_refl _⟩, hd σ' H' p⟩
def spTape [Wd] (K : PySem.W.Frag) : Sp := fun vs H Q _ => ∃ (a : Addr) (zs : List Int), vs = [.ref a] ∧ SqL K H a (zs.map V.int) ∧ zs.length ≤ 1000 ∧ ∀ (H' : Hp) (p sl : Addr) (n : Int), 0 ≤ n → Same H H' → H' p = some (.lst [.ref sl, .int 0, .int 0, .int n]) → H' sl = some (.lst (zs.map V.int)) → sl ≠ p → Q (.ref p) H'
def E_tape2 : Sl → Option PyData := (dBin gMod (dCall gInt [(dBin gAdd (dBin gMulR (dVar 1) (dC (.int 31))) (dCall gAbs [(dCall gInt [(dVar 2)])]))]) (dC (.int 2147483647)))
theorem tape2_at (t z : Int) : ∃ t', 0 ≤ t' ∧ E_tape2 [none, some (.int t), some (.int z)] = some (.int t') := by
  refine ⟨(t * 31 + iabs z) % 2147483647, Int.emod_nonneg _ (by decide), ?_⟩
  have e1 : dBin gMulR (dVar 1) (dC (.int 31)) [none, some (.int t), some (.int z)] = some (.int (t * 31)) := dBin_at (a := .int t) (b := .int 31) rfl rfl (by
    unfold gMulR
    exact if_pos (by decide))
  have e2 : dCall gAbs [(dCall gInt [(dVar 2)])] [none, some (.int t), some (.int z)] = some (.int (iabs z)) := dCall1 (d := .int z) (dCall1 (d := .int z) rfl rfl) rfl
  have e3 : dBin gAdd (dBin gMulR (dVar 1) (dC (.int 31))) (dCall gAbs [(dCall gInt [(dVar 2)])]) [none, some (.int t), some (.int z)] = some (.int (t * 31 + iabs z)) := dBin_at e1 e2 rfl
  exact dBin_at (dCall1 e3 rfl) rfl (gMod_i (by decide))
section
variable {K : PySem.W.Frag} {mg : Str → Option Value} {base : Heap}
theorem ok_tape [Wd] (T : Tx K mg) : Ok Wd.P Wd.w K mg base "_law_tape" 1 ["_law_script"] (spTape K) :=
  T.law_tape.ok sc_law_tape bo_law_tape (fun vs H Q E h => by obtain ⟨_, _, rfl, _⟩ := h; rfl) fun f cdv A outer s H vs Q E hr h => by
    obtain ⟨a, zs, rfl, hS, hl, q⟩ := h
    refine ⟨_, pss_cons (ps_set (i := 1) sc_law_tape.nd rfl (Or.inl rfl) de_int) (pss_cons (ps_for PassesOwn.never rfl (pi_list (pe_var (i := 0) rfl (Or.inl rfl))) (pg_name (i := 2) sc_law_tape.nd rfl (Or.inl rfl)) (pss_one (ps_set (i := 1) sc_law_tape.nd rfl (Or.inl rfl) (de_mod (de_toInt T.b_int (da_cons (de_add (de_mulR (de_var 1) de_int) (de_abs T.b_abs (da_cons (de_toInt T.b_int (da_cons (de_var 2) da_nil)) da_nil))) da_nil)) de_int))))
      (pss_one (ps_ret (pe_lst (pa_cons (pe_lstOf T.b_list (pe_var (i := 0) rfl (Or.inl rfl))) (pa_cons de_int (pa_cons de_int (pa_cons (de_var 1) pa_nil)))))))), ?_⟩
    have rs0 : RS H (L2.start ["_law_script", "_law_total", "_law_cell"] [.ref a]) [none, none, none] := ⟨rfl, fun i d e => by
      match i, e with
      | 0, e => cases e
      | 1, e => cases e
      | 2, e => cases e
      | i + 3, e => cases e⟩
    have s0 : (L2.start ["_law_script", "_law_total", "_law_cell"] [.ref a])[0]? = some (some (.ref a)) := rfl
    refine ⟨[none, none, none], .int 7, rs0, rfl, fun H1 v1 s1 r1 => ?_⟩
    refine gName_at ?_
    have rs1 := (rs0.mono s1).set 1 r1
    refine for_L (i := 0) (a := a) rfl (sqL_same hS s1) (fun n σ' H' => Same H H' ∧ σ'[0]? = some (some (.ref a)) ∧ ∃ t o, 0 ≤ t ∧ RS H' σ' [none, some (.int t), o]) ⟨s1, rfl, 7, none, by decide, rs1⟩ (fun n σ' H' p => sqL_same hS p.1) (fun n x σ' H' hx ⟨s2, k0, t, o, t0, rs2⟩ => ?_) fun σ' H' ⟨s2, k0, t, o, t0, rs2⟩ => ?_
    · rw [List.getElem?_map] at hx
      obtain ⟨z, hz, rfl⟩ := Option.map_eq_some_iff.mp hx
      have rs3 : RS H' (σ'.set 2 (some (.int z))) [none, some (.int t), some (.int z)] := rs2.set 2 (v := .int z) (d := .int z) r_int
      obtain ⟨t', t1, e⟩ := tape2_at t z
      refine ⟨_, .int t', rs3, e, fun H2 v2 s3 r2 => ?_⟩
      refine gName_at ?_
      have rs4 := (rs3.mono s3).set 1 r2
      refine ⟨s2.trans s3, ?_, t', _, t1, rs4⟩
      rw [List.getElem?_set_ne (by decide), List.getElem?_set_ne (by decide)]
      exact k0
    · refine ⟨_, k0, a, _, rfl, .inl (sqL_same hS s2), fun sl hsl => ?_⟩
      have s3 : Same H' (upd H' sl (.lst (zs.map V.int))) := same_upd hsl
      refine ⟨_, .int 0, rs2.mono s3, rfl, fun H4 v4 s4 r4 => ⟨_, .int 0, (rs2.mono s3).mono s4, rfl, fun H5 v5 s5 r5 => ⟨_, .int t, ((rs2.mono s3).mono s4).mono s5, rfl, fun H6 v6 s6 r6 => ?_⟩⟩⟩
      refine ⟨by show (4 : Nat) ≤ sizeLine; decide, fun p hp => ?_⟩
      rw [r4.int, r5.int, r6.int]
      have hsl6 : H6 sl = some (.lst (zs.map V.int)) := s6 _ _ (s5 _ _ (s4 _ _ upd_same))
      have s7 := same_upd (o := .lst [V.ref sl, .int 0, .int 0, .int t]) hp
      have ne : sl ≠ p := fun z => by rw [z, hp] at hsl6; cases hsl6
      exact q _ p sl t t0 ((s2.trans s3).trans ((s4.trans s5).trans (s6.trans s7))) upd_same (s7 _ _ hsl6) ne
end
end Cs
namespace Cs
open PySem PySem.Spec PyProof.Rows L2
section
variable {K : PySem.W.Frag} {mg : Str → Option Value} {base : Heap}
theorem sc_law : FnScope ["_law_script", "_law_tape_here", "_law_width_here", "_law_height", "_law_first", "_law_second", "_law_spots", "_law_before", "_law_after", "_law_y", "_law_x", "_law_one"] ["_law_script"] (defScope s_law) := ⟨rfl, rfl, rfl, by decide +kernel, rfl, by decide +kernel, by decide +kernel⟩
theorem bo_law : BindOk "law" s_law ["_law_script"] := fun _ _ _ _ _ _ us hl => match us, hl with | [_], _ => rfl
def L0_law : Sl → Option Out := (dIf (tAndF (dTest (dBin gNe (dBin gIx (dBin gIx (dVar 7) (dVar 9)) (dVar 10)) (dBin gIx (dBin gIx (dVar 8) (dVar 9)) (dVar 10)))) (dTest (dBin gEq (dCall gLen [(dLc 11 (iSeq (dVar 6)) (dTest (dCall f_law_holds [(dVar 11), (dVar 10), (dVar 9)])) (dVar 11))]) (dC (.int 0))))) (dRet (dC (.bool false))) dSkip)
def L1_law : Sl → Option Out := (dFor 10 (iRg1 (evs [(dVar 2)])) L0_law)
def F9_law : Sl → Option Out := (dFor 9 (iRg1 (evs [(dVar 3)])) L1_law)
/-! ### the loop over the pixels -/
theorem dTest_at {f : Sl → Option PyData} {s : Sl} {b : Bool} (e : f s = some (.bool b)) : dTest f s = some b := by
  unfold dTest
  rw [e]
theorem dLoop_inv {F : Sl → Option Out} {i : Nat} : ∀ (ds : List PyData) (Iv : Nat → Sl → Prop) (s : Sl), Iv 0 s → (∀ k d s, ds[k]? = some d → Iv k s → ∃ s', F (s.set i (some d)) = some (.nx s') ∧ Iv (k + 1) s') → ∃ s', dLoop F i ds s = some (.nx s') ∧ Iv ds.length s'
  | [], Iv, s, h0, _ => ⟨s, rfl, h0⟩
  | d :: ds, Iv, s, h0, hs => by
    obtain ⟨s1, e1, i1⟩ := hs 0 d s rfl h0
    obtain ⟨s2, e2, i2⟩ := dLoop_inv ds (fun k => Iv (k + 1)) s1 i1 fun k d' s' e iv => hs (k + 1) d' s' e iv
    refine ⟨s2, ?_, i2⟩
    unfold dLoop
    rw [e1]
    exact e2
theorem map_ix {α : Type} {f : α → PyData} {l : List α} {k : Nat} {a : α} (h : l[k]? = some a) : gIx (.tuple (l.map f)) (.int (k : Int)) = some (f a) := by
  obtain ⟨hl, _⟩ := List.getElem?_eq_some_iff.mp h
  obtain ⟨d, e, _, e2⟩ := atI_in (ds := l.map f) (k := (k : Int)) (by omega) (by rw [List.length_map]; omega)
  show atI (l.map f) (k : Int) = _
  rw [e]
  rw [Int.toNat_natCast, List.getElem?_map, h] at e2
  exact e2.symm
theorem grid_ix {h w : Nat} {g : Nat → Nat → Str} {i : Nat} (hi : i < h) : gIx (gridD h w g) (.int (i : Int)) = some (.tuple (rowD w (g i))) := map_ix (f := fun i => PyData.tuple (rowD w (g i))) (List.getElem?_range hi)
theorem row_ix {w : Nat} {f : Nat → Str} {j : Nat} (hj : j < w) : gIx (.tuple (rowD w f)) (.int (j : Int)) = some (.str (f j)) := map_ix (f := fun j => PyData.str (f j)) (List.getElem?_range hj)
theorem lcD_hit (x y : Int) {s : Sl} (hs : 11 < s.length) (h9 : dVar 9 s = some (.int y)) (h10 : dVar 10 s = some (.int x)) : ∀ rs : List Rc, lcD 11 (dTest (dCall f_law_holds [(dVar 11), (dVar 10), (dVar 9)])) (dVar 11) (rs.map rcD) s = some ((rs.filter fun r => inR r x y).map rcD)
  | [] => rfl
  | r :: rs => by
    have ih := lcD_hit x y hs h9 h10 rs
    have v := set_var (s := s) (d := rcD r) hs
    have c : dCall f_law_holds [(dVar 11), (dVar 10), (dVar 9)] (s.set 11 (some (rcD r))) = some (.bool (inR r x y)) := by
      unfold dCall evs evs evs evs
      rw [v, var_ne (by decide), var_ne (by decide), h9, h10]
      exact m_law_holds r x y
    rw [List.map_cons]
    have t : dTest (dCall f_law_holds [(dVar 11), (dVar 10), (dVar 9)]) (s.set 11 (some (rcD r))) = some (inR r x y) := by
      unfold dTest
      rw [c]
    unfold lcD
    rw [t]
    cases hh : inR r x y with
    | false =>
      rw [List.filter_cons_of_neg (p := fun r => inR r x y) (by rw [hh]; exact Bool.false_ne_true)]
      exact ih
    | true =>
      rw [List.filter_cons_of_pos (p := fun r => inR r x y) hh]
      show (match dVar 11 (s.set 11 (some (rcD r))) with | some e => _ | none => none) = _
      rw [v]
      show (if noL (rcD r) = true then _ else none) = _
      rw [if_pos (rcD_noL r)]
      show (match lcD 11 (dTest (dCall f_law_holds [(dVar 11), (dVar 10), (dVar 9)])) (dVar 11) (rs.map rcD) s with | some es => some (rcD r :: es) | none => none) = _
      rw [ih]
      rfl
theorem m_pixels (h w : Nat) (ga gb : Nat → Nat → Str) (rects : List Rc) (rl : rects.length ≤ 1000) (hh : h ≤ 100) (hw : w ≤ 100) (cov : ∀ i j, i < h → j < w → ga i j ≠ gb i j → ∃ r ∈ rects, inR r (j : Int) (i : Int) = true) (o4 o5 : Option PyData) :
    ∃ p q r, F9_law [none, none, some (.int w), some (.int h), o4, o5, some (.tuple (rects.map rcD)), some (gridD h w ga), some (gridD h w gb), none, none, none] = some (.nx [none, none, some (.int w), some (.int h), o4, o5, some (.tuple (rects.map rcD)), some (gridD h w ga), some (gridD h w gb), p, q, r]) := by
  generalize hR : PyData.tuple (rects.map rcD) = R
  have iR : ∀ s : Sl, dVar 6 s = some R → iSeq (dVar 6) s = some (rects.map rcD) := fun s e => by
    unfold iSeq
    rw [e, ← hR]
  have ia := fun i hi => grid_ix (h := h) (w := w) (g := ga) (i := i) hi
  have ib := fun i hi => grid_ix (h := h) (w := w) (g := gb) (i := i) hi
  generalize hA : gridD h w ga = A at *
  generalize hB : gridD h w gb = B at *
  have body : ∀ i j o, i < h → j < w → L0_law [none, none, some (.int w), some (.int h), o4, o5, some R, some A, some B, some (.int (i : Int)), some (.int (j : Int)), o] = some (.nx [none, none, some (.int w), some (.int h), o4, o5, some R, some A, some B, some (.int (i : Int)), some (.int (j : Int)), o]) := fun i j o hi hj => by
    generalize hs : ([none, none, some (.int w), some (.int h), o4, o5, some R, some A, some B, some (.int (i : Int)), some (.int (j : Int)), o] : Sl) = s
    have v6 : dVar 6 s = some R := by rw [← hs]; rfl
    have v7 : dVar 7 s = some A := by rw [← hs]; rfl
    have v8 : dVar 8 s = some B := by rw [← hs]; rfl
    have v9 : dVar 9 s = some (.int (i : Int)) := by rw [← hs]; rfl
    have v10 : dVar 10 s = some (.int (j : Int)) := by rw [← hs]; rfl
    have hl : 11 < s.length := by rw [← hs]; show 11 < 12; decide
    have e1 : dBin gIx (dBin gIx (dVar 7) (dVar 9)) (dVar 10) s = some (.str (ga i j)) := dBin_at (dBin_at v7 v9 (ia i hi)) v10 (row_ix hj)
    have e2 : dBin gIx (dBin gIx (dVar 8) (dVar 9)) (dVar 10) s = some (.str (gb i j)) := dBin_at (dBin_at v8 v9 (ib i hi)) v10 (row_ix hj)
    have e3 : dTest (dBin gNe (dBin gIx (dBin gIx (dVar 7) (dVar 9)) (dVar 10)) (dBin gIx (dBin gIx (dVar 8) (dVar 9)) (dVar 10))) s = some (!decide (ga i j = gb i j)) := by
      unfold dTest
      rw [dBin_at e1 e2 rfl]
    have skip : dIf (tAndF (dTest (dBin gNe (dBin gIx (dBin gIx (dVar 7) (dVar 9)) (dVar 10)) (dBin gIx (dBin gIx (dVar 8) (dVar 9)) (dVar 10)))) (dTest (dBin gEq (dCall gLen [(dLc 11 (iSeq (dVar 6)) (dTest (dCall f_law_holds [(dVar 11), (dVar 10), (dVar 9)])) (dVar 11))]) (dC (.int 0))))) (dRet (dC (.bool false))) dSkip s = some (.nx s) := by
      unfold dIf tAndF
      rw [e3]
      by_cases e : ga i j = gb i j
      · rw [decide_eq_true e]
        rfl
      · rw [decide_eq_false e]
        obtain ⟨r, hr, hin⟩ := cov i j hi hj e
        have e4 : dLc 11 (iSeq (dVar 6)) (dTest (dCall f_law_holds [(dVar 11), (dVar 10), (dVar 9)])) (dVar 11) s = some (.list ((rects.filter fun r => inR r (j : Int) (i : Int)).map rcD)) := by
          unfold dLc
          rw [iR s v6]
          dsimp only
          rw [if_pos (by rw [List.length_map]; exact rl), lcD_hit (j : Int) (i : Int) hl v9 v10 rects]
        have ne : (rects.filter fun r => inR r (j : Int) (i : Int)).length ≠ 0 := by
          have hm : r ∈ rects.filter fun r => inR r (j : Int) (i : Int) := List.mem_filter.mpr ⟨hr, hin⟩
          have := List.length_pos_of_mem hm
          omega
        have e5 : dTest (dBin gEq (dCall gLen [(dLc 11 (iSeq (dVar 6)) (dTest (dCall f_law_holds [(dVar 11), (dVar 10), (dVar 9)])) (dVar 11))]) (dC (.int 0))) s = some false := by
          have g : gEq (.int (((rects.filter fun r => inR r (j : Int) (i : Int)).map rcD).length : Nat)) (.int 0) = some (.bool false) := by
            show some (PyData.bool (decide ((((rects.filter fun r => inR r (j : Int) (i : Int)).map rcD).length : Int) = 0))) = _
            rw [decide_eq_false]
            rw [List.length_map]
            omega
          exact dTest_at (dBin_at (dCall1 e4 rfl) rfl g)
        show (match dTest (dBin gEq (dCall gLen [(dLc 11 (iSeq (dVar 6)) (dTest (dCall f_law_holds [(dVar 11), (dVar 10), (dVar 9)])) (dVar 11))]) (dC (.int 0))) s with | some true => _ | some false => _ | none => none) = _
        rw [e5]
        rfl
    exact skip
  have row : ∀ i p q, i < h → ∃ p' q', L1_law [none, none, some (.int w), some (.int h), o4, o5, some R, some A, some B, some (.int (i : Int)), p, q] = some (.nx [none, none, some (.int w), some (.int h), o4, o5, some R, some A, some B, some (.int (i : Int)), p', q']) := fun i p q hi => by
    unfold L1_law dFor
    have it : iRg1 (evs [(dVar 2)]) [none, none, some (.int w), some (.int h), o4, o5, some R, some A, some B, some (.int (i : Int)), p, q] = some (intsD 0 1 w) := by
      show (if small (w : Int) then some (intsD 0 1 (w : Int).toNat) else none) = _
      rw [if_pos ⟨by omega, by omega⟩, Int.toNat_natCast]
    rw [it]
    obtain ⟨s', e, p', q', e'⟩ := dLoop_inv (F := L0_law) (i := 10) (intsD 0 1 w) (fun k s => ∃ p q, s = [none, none, some (.int w), some (.int h), o4, o5, some R, some A, some B, some (.int (i : Int)), p, q]) _ ⟨p, q, rfl⟩ (fun k d s hk ⟨p, q, e⟩ => by
      subst e
      obtain ⟨rfl, kw⟩ := rng_get hk
      exact ⟨_, body i k q hi kw, some (.int (k : Int)), q, rfl⟩)
    exact ⟨p', q', by rw [← e']; exact e⟩
  unfold F9_law dFor
  have it : iRg1 (evs [(dVar 3)]) [none, none, some (.int w), some (.int h), o4, o5, some R, some A, some B, none, none, none] = some (intsD 0 1 h) := by
    show (if small (h : Int) then some (intsD 0 1 (h : Int).toNat) else none) = _
    rw [if_pos ⟨by omega, by omega⟩, Int.toNat_natCast]
  rw [it]
  obtain ⟨s', e, p', q', r', e'⟩ := dLoop_inv (F := L1_law) (i := 9) (intsD 0 1 h) (fun k s => ∃ p q r, s = [none, none, some (.int w), some (.int h), o4, o5, some R, some A, some B, p, q, r]) _ ⟨none, none, none, rfl⟩ (fun k d s hk ⟨p, q, r, e⟩ => by
    subst e
    obtain ⟨rfl, kh⟩ := rng_get hk
    obtain ⟨q', r', er⟩ := row k q r kh
    exact ⟨_, er, some (.int (k : Int)), q', r', rfl⟩)
  exact ⟨p', q', r', by rw [← e']; exact e⟩
/-! ### the colors -/
theorem color_asc {n : Int} {items : List Prim} (h : ∀ p ∈ items, PrimG n p) (x y : Int) : asc 7 (colorAt items x y) := by
  unfold colorAt
  have key : ∀ (l : List Prim) (a : Str), (∀ p ∈ l, PrimG n p) → asc 7 a → asc 7 (l.foldl (fun a p => over a (paint p x y)) a) := fun l => by
    induction l with
    | nil => exact fun a _ ha => ha
    | cons p ps ih =>
      intro a hl ha
      rw [List.foldl_cons]
      refine ih _ (fun q hq => hl q (List.mem_cons_of_mem _ hq)) ?_
      have gp := hl p List.mem_cons_self
      cases hp : paint p x y with
      | none => exact ha
      | some c =>
        show asc 7 c
        unfold paint paintG at hp
        cases hc : colr p with
        | none => rw [hc] at hp; cases hp
        | some d =>
          rw [hc] at hp
          dsimp only at hp
          split at hp
          · cases hp
            unfold colr at hc
            split at hc
            · exact colOk_asc (gp.stroke _ hc)
            · exact colOk_asc (gp.fill _ hc)
          · cases hp
  exact key items _ h (by decide +kernel)
end
end Cs
namespace Cs
open PySem PySem.Spec PyProof.Rows L2
section
variable {K : PySem.W.Frag} {mg : Str → Option Value} {base : Heap}
theorem pss_ex2 {X : Cx} {rest : List Stmt} {t : Tp → Hp → TS} (h : ∀ T H0, PSs X rest (t T H0)) : PSs X rest (fun D σ H => ∃ T H0, t T H0 D σ H) := ⟨fun pins s σ H D I ⟨T, H0, q⟩ => (h T H0).run pins s σ H D I q⟩
abbrev Zl (T : Tp) (H0 : Hp) : Fr := ⟨some T, H0, [], 1⟩
theorem scene_noL (w h : Int) (l : List Prim) : noL (sceneD w h (l.map primD)) = true := by
  show (noL (.int w) && (noL (.int h) && (noLs (l.map primD) && true))) = true
  rw [prims_noL]
  rfl
/-- what the law's def promises, its caller's display guards known -/
def spLaw [Wd] (K : PySem.W.Frag) : Sp := fun vs H Q _ => ∃ (a : Addr) (zs : List Int), vs = [.ref a] ∧ SqL K H a (zs.map V.int) ∧ zs.length ≤ 1000 ∧ ∀ H', Q (.bl true) H'
theorem law_body [Wd] (T : Tx K mg) (f : Addr) (cdv : Value) (A : Around) (outer : List Env) (s : Shared) (H : Hp) (vs : List V) (Q : VK) (E : XK) (hr : Room 8 (A.deeper (envOfC "law" (defScope s_law) s.heap.objs.size f cdv))) (hg : (A.deeper (envOfC "law" (defScope s_law) s.heap.objs.size f cdv)).guards = some []) (h : spLaw K vs H Q E) :
    ∃ t, PSs (cxOf CX0 Wd.P Wd.w K mg base ["_law_script", "_law_tape_here", "_law_width_here", "_law_height", "_law_first", "_law_second", "_law_spots", "_law_before", "_law_after", "_law_y", "_law_x", "_law_one"] "law" (defScope s_law) f cdv A outer s H E).nox (defBody s_law) t ∧ t { nx := fun _ H' => Q .non H', rt := Q } (L2.start ["_law_script", "_law_tape_here", "_law_width_here", "_law_height", "_law_first", "_law_second", "_law_spots", "_law_before", "_law_after", "_law_y", "_law_x", "_law_one"] vs) H := by
  obtain ⟨a, zs, rfl, hS, hl, q⟩ := h
  have hu : (A.deeper (envOfC "law" (defScope s_law) s.heap.objs.size f cdv)).units + 6 < cLine := by have := hr.units; omega
  refine ⟨_, pss_cons (ps_set (i := 1) sc_law.nd rfl (Or.inl rfl) (pe_cl (ok_tape T) hr (pa_cons (pe_var (i := 0) rfl (Or.inl rfl)) pa_nil)))
    (pss_ex2 fun T0 H0 => pss_cons (ns_set (Z := Zl T0 H0) 2 sc_law.nd rfl (Or.inl rfl) (ne_add (ne_pure de_int) (ne_tcl (ok_law_draw T) hr (na_tape rfl rfl (na_cons (ne_pure de_int) na_nil)))) (by show (2 : Nat) ∉ ([] : List Nat); decide) (by show (2 : Nat) ≠ 1; decide))
    (pss_cons (ns_set (Z := Zl T0 H0) 3 sc_law.nd rfl (Or.inl rfl) (ne_add (ne_pure de_int) (ne_tcl (ok_law_draw T) hr (na_tape rfl rfl (na_cons (ne_pure de_int) na_nil)))) (by show (3 : Nat) ∉ ([] : List Nat); decide) (by show (3 : Nat) ≠ 1; decide))
    (pss_cons (ns_set (Z := Zl T0 H0) 4 sc_law.nd rfl (Or.inl rfl) (ne_tcl (ok_law_scene T) hr (na_tape rfl rfl (na_cons (ne_pure (de_var 2)) (na_cons (ne_pure (de_var 3)) (na_cons (ne_pure de_int) (na_cons (ne_tcl (ok_law_draw T) hr (na_tape rfl rfl (na_cons (ne_pure de_int) na_nil))) na_nil)))))) (by show (4 : Nat) ∉ ([] : List Nat); decide) (by show (4 : Nat) ≠ 1; decide))
    (pss_cons (ns_set (Z := Zl T0 H0) 5 sc_law.nd rfl (Or.inl rfl) (ne_tup (na_cons (ne_pure (de_var 2)) (na_cons (ne_pure (de_var 3)) (na_cons (ne_ix (ne_tcl (ok_law_next_scene T) hr (na_tape rfl rfl (na_cons (ne_pure (de_var 4)) (na_cons (ne_pure de_int) na_nil)))) (ne_pure de_int)) na_nil)))) (by show (5 : Nat) ∉ ([] : List Nat); decide) (by show (5 : Nat) ≠ 1; decide))
    (pss_cons (ps_set (i := 6) sc_law.nd rfl (Or.inl rfl) (pe_ix ix_seq (pe_cl (ok_diff T) hr (da_cons (de_var 4) (da_cons (de_var 5) da_nil))) de_int (by intro _ _; rfl)))
    (pss_cons (ps_set (i := 7) sc_law.nd rfl (Or.inl rfl) (pe_cl (ok_picture T) hr (da_cons (de_var 4) da_nil)))
    (pss_cons (ps_set (i := 8) sc_law.nd rfl (Or.inl rfl) (pe_cl (ok_picture T) hr (da_cons (de_var 5) da_nil)))
    (pss_cons (ps_if (pt_cmpR op_ne (pe_callB (call_repr hg hu) rfl T.b_repr (by decide +kernel) (pa_cons (de_var 8) pa_nil)) (pe_callB (call_repr hg hu) rfl T.b_repr (by decide +kernel) (pa_cons (pe_cl (ok_law_painted T) hr (da_cons (de_var 5) (da_cons (de_tup (da_cons de_int (da_cons de_int (da_cons (de_var 2) (da_cons (de_var 3) da_nil))))) da_nil))) pa_nil)) (nomark _)) (pss_one ps_never) pss_nil)
    (pss_cons (t := tDS F9_law) (ds_for (i := 9) PassesOwn.never rfl (di_range1 rfl T.b_range (da_cons (de_var 3) da_nil)) (pg_name (i := 9) sc_law.nd rfl (Or.inr rfl)) (ds_one (ds_for (i := 10) PassesOwn.never rfl (di_range1 rfl T.b_range (da_cons (de_var 2) da_nil)) (pg_name (i := 10) sc_law.nd rfl (Or.inr rfl)) (ds_one (ds_if (PW.pt (dw_and (dt_ne (de_ix (de_ix (de_var 7) (de_var 9)) (de_var 10)) (de_ix (de_ix (de_var 8) (de_var 9)) (de_var 10))) (dw_and1 (dt_eq (de_len T.b_len (da_cons (de_lc rfl sc_law.nd (di_tup (de_var 6)) (blkOk_by (own := [("_law_one", 11)]) (N := ["_law_script", "_law_tape_here", "_law_width_here", "_law_height", "_law_first", "_law_second", "_law_spots", "_law_before", "_law_after", "_law_y", "_law_x", "_law_one"]) (sc := defScope s_law) (by decide +kernel)) (fun _ _ _ _ _ => pg_name (i := 11) sc_law.nd rfl (Or.inl rfl)) (fun _ _ _ _ _ => (dts_one (dt_val (de_cl (ok_law_holds T) hr (da_cons (de_var 11) (da_cons (de_var 10) (da_cons (de_var 9) da_nil))))))) (fun _ _ _ _ _ => (de_var 11))) da_nil)) de_int)))) (ds_one (ds_ret de_bl)) ds_nil)))))
      (pss_one (ps_ret (pe_cmpR op_eq (pe_callB (call_repr hg hu) rfl T.b_repr (by decide +kernel) (pa_cons (pe_cl (ok_repainted T) hr (da_cons (de_var 7) (da_cons (de_var 5) (da_cons (de_var 6) da_nil)))) pa_nil)) (pe_callB (call_repr hg hu) rfl T.b_repr (by decide +kernel) (pa_cons (de_var 8) pa_nil)) (nomark _))))))))))))), ?_⟩
  unfold tSeq
  refine ⟨_, rfl, a, zs, rfl, hS, hl, fun H1 p sl n n0 s1 hp hsl ne => ?_⟩
  refine gName_at ?_
  refine ⟨⟨p, sl, zs⟩, H1, ?_⟩
  have nd : ∀ (i : Nat) (d : PyData), ([none, none, none, none, none, none, none, none, none, none, none, none] : Sl)[i]? = some (some d) → False := fun i d e => by
    match i, e with
    | 0, e => cases e
    | 1, e => cases e
    | 2, e => cases e
    | 3, e => cases e
    | 4, e => cases e
    | 5, e => cases e
    | 6, e => cases e
    | 7, e => cases e
    | 8, e => cases e
    | 9, e => cases e
    | 10, e => cases e
    | 11, e => cases e
    | i + 12, e => cases e
  refine ⟨[none, none, none, none, none, none, none, none, none, none, none, none], ⟨⟨rfl, fun i d e => (nd i d e).elim⟩, fun T' e => by cases e; exact ⟨0, 0, n, hp, ne, hsl, hl, by decide, by decide, n0⟩, fun T' e => by cases e; rfl, fun T' e => (by cases e; show H1 sl ≠ none; rw [hsl]; exact fun z => (nomatch z)), Same.refl _, fun i hi => (nomatch hi), fun i hi => (nomatch hi), fun i d _ e => (nd i d e).elim⟩, ?_⟩
  refine nSetN_at (nBin_at (nP_at (d := .int 1) rfl rfl (draw_at (m := 13) rfl (by decide) fun k k0 k1 => ⟨.int (1 + k), rfl, rfl, rfl, ?_⟩)))
  obtain ⟨w, hw⟩ : ∃ w : Nat, 1 + k = (w : Int) := ⟨(1 + k).toNat, by omega⟩
  rw [hw]
  intro σ2 H2 g2 rs2
  refine ⟨_, rs2, ?_⟩
  refine nSetN_at (nBin_at (nP_at (d := .int 1) rfl rfl (draw_at (m := 9) rfl (by decide) fun k' k0' k1' => ⟨.int (1 + k'), rfl, rfl, rfl, ?_⟩)))
  obtain ⟨h, hh⟩ : ∃ h : Nat, 1 + k' = (h : Int) := ⟨(1 + k').toNat, by omega⟩
  rw [hh]
  intro σ3 H3 g3 rs3
  refine ⟨_, rs3, ?_⟩
  have w20 : w ≤ 20 := by omega
  have h20 : h ≤ 20 := by omega
  refine nSetN_at (nTc_at (nCons_at (nP_at (d := .int w) rfl rfl (nCons_at (nP_at (d := .int h) rfl rfl (nCons_at (nP_at (d := .int 10) rfl rfl (nCons_at (draw_at (m := 7) rfl (by decide) fun many m0 m1 => nNil_at ⟨rfl, w_scene m0 (by omega) fun as la ga => ⟨scene_noL _ _ _, ?_⟩⟩)))))))))
  intro σ4 H4 g4 rs4
  refine ⟨_, rs4, ?_⟩
  refine nSetN_at (nTup_at (nCons_at (nP_at (d := .int w) rfl rfl (nCons_at (nP_at (d := .int h) rfl rfl (nCons_at (nBin_at (nTc_at (nCons_at (nP_at (d := sceneD w h (as.map primD)) rfl (tidy_noL (scene_noL _ _ _)) (nCons_at (nP_at (d := .int 10) rfl rfl (nNil_at ⟨rfl, w_next la ga fun a1 b1 bs lb gb => nP_at (d := .int 2) rfl rfl ⟨.tuple (bs.map primD), rfl, prims_noL bs, nNil_at ⟨le_k rfl, scene_noL w h bs, ?_⟩⟩⟩)))))))))))))
  intro σ5 H5 g5 rs5'
  have rs5 : RS H5 σ5 [none, none, some (.int w), some (.int h), some (sceneD w h (as.map primD)), some (sceneD w h (bs.map primD)), none, none, none, none, none, none] := rs5'.full
  have wfa : ∀ p ∈ as, WfF p.form := fun p hp => (ga.1 p hp).form.wf (by decide)
  have wfb : ∀ p ∈ bs, WfF p.form := fun p hp => (gb.1 p hp).form.wf (by decide)
  -- the difference
  refine ⟨_, [sceneD w h (as.map primD), sceneD w h (bs.map primD)], rs5, rfl, fun H6 us s6 r6 => ⟨[sceneD w h (as.map primD), sceneD w h (bs.map primD)], by rw [List.append_nil]; exact r6, rfl, w_diff (fun p hp => (ga.1 p hp).ok (by decide)) (fun p hp => (gb.1 p hp).ok (by decide)) (by omega) (by omega) ga.2 gb.2 fun rm pt od rects rl cov H7 v7 s7 r7 => ?_⟩⟩
  have s57 := s6.trans s7
  refine ⟨_, .int 4, rs5.mono s57, rfl, fun H8 y8 s8 r8 => hr_ix K v7 y8 _ _ (.tuple (rects.map rcD)) H8 _ (r7.mono s8) r8 rfl fun H9 z9 s9 r9 => ?_⟩
  refine gName_at ?_
  have rs9 := ((rs5.mono s57).mono (s8.trans s9)).set 6 r9
  -- the pictures
  refine ⟨_, [sceneD w h (as.map primD)], rs9, rfl, fun H10 us10 s10 r10 => ⟨[sceneD w h (as.map primD)], gridD h w fun i j => colorAt as j i, by rw [List.append_nil]; exact r10, ⟨w, h, as, rfl, wfa, by omega, by omega, by omega, rfl⟩, rfl, fun H11 v11 s11 r11 => ?_⟩⟩
  refine gName_at ?_
  have rs11 := (rs9.mono (s10.trans s11)).set 7 r11
  refine ⟨_, [sceneD w h (bs.map primD)], rs11, rfl, fun H12 us12 s12 r12 => ⟨[sceneD w h (bs.map primD)], gridD h w fun i j => colorAt bs j i, by rw [List.append_nil]; exact r12, ⟨w, h, bs, rfl, wfb, by omega, by omega, by omega, rfl⟩, rfl, fun H13 v13 s13 r13 => ?_⟩⟩
  refine gName_at ?_
  have rs13 := (rs11.mono (s12.trans s13)).set 8 r13
  have rpB : Rp (gridD h w fun i j => colorAt bs j i) := rp_grid h20 w20 fun i j _ _ => color_asc gb.1 _ _
  -- the law's own picture says the same
  refine ⟨_, gridD h w fun i j => colorAt bs j i, rs13, rfl, fun H14 v14 s14 r14 => ?_⟩
  refine ⟨v14, (List.range h).map fun (i : Nat) => PyData.tuple (rowD w fun j => colorAt bs j i), rfl, r14, rpB, ?_⟩
  have rs14 := rs13.mono s14
  refine ⟨_, [sceneD w h (bs.map primD), rcD (0, 0, (w : Int), (h : Int))], rs14, rfl, fun H15 us15 s15 r15 => ⟨[sceneD w h (bs.map primD), rcD (0, 0, (w : Int), (h : Int))], gridD h w fun i j => colorAt bs j i, by rw [List.append_nil]; exact r15, ⟨w, h, bs, w, h, rfl, wfb, by omega, by omega, by omega, by omega, rfl⟩, rfl, fun H16 v16 s16 r16 => ?_⟩⟩
  refine ⟨v16, (List.range h).map fun (i : Nat) => PyData.tuple (rowD w fun j => colorAt bs j i), rfl, r16, rpB, ?_⟩
  refine ⟨rfl, ?_⟩
  refine ⟨false, by rw [decide_eq_true rfl]; rfl, ?_⟩
  refine iteF ?_
  have rs16 := rs14.mono (s15.trans s16)
  -- each pixel
  have out : ∀ i j : Nat, i < h → j < w → (∀ r ∈ rects, inR r (j : Int) (i : Int) = false) → colorAt as (j : Int) (i : Int) = colorAt bs (j : Int) (i : Int) := fun i j hi hj no => by
    have cv : ∀ p, p ∈ as ∨ p ∈ bs → stillIds as bs (idOf p) = false → ∀ b, visible w h p = some b → inR b (j : Int) (i : Int) = false := fun p hp hs b hb => by
      obtain ⟨r, hr, hin⟩ := cov p hp hs b hb
      cases e : inR b (j : Int) (i : Int) with
      | false => rfl
      | true =>
        have := hin _ _ e
        rw [no r hr] at this
        cases this
    refine same_outside (W := w) (Hh := h) wfa wfb ga.2 gb.2 ⟨by omega, by omega⟩ ⟨by omega, by omega⟩ ?_ (fun p hp => cv p (.inl hp)) (fun p hp => cv p (.inr hp))
    rw [inR_iff]
    refine ⟨by show (0 : Int) ≤ j; omega, by show (j : Int) < 0 + w; omega, by show (0 : Int) ≤ i; omega, by show (i : Int) < 0 + h; omega⟩
  obtain ⟨o9, o10, o11, e9⟩ := m_pixels h w (fun i j => colorAt as j i) (fun i j => colorAt bs j i) rects (by omega) (by omega) (by omega) (fun i j hi hj d => by
    by_cases hex : ∃ r ∈ rects, inR r (j : Int) (i : Int) = true
    · exact hex
    · refine absurd (out i j hi hj fun r hr => ?_) d
      cases e : inR r (j : Int) (i : Int) with
      | false => rfl
      | true => exact absurd ⟨r, hr, e⟩ hex) (some (sceneD w h (as.map primD))) (some (sceneD w h (bs.map primD)))
  refine ⟨_, _, rs16, e9, fun σ17 H17 s17 rs17 => ?_⟩
  -- the repainted picture
  have rpG : gridD h w (patched rects bs fun i j => colorAt as j i) = gridD h w fun i j => colorAt bs j i := gridD_congr fun i j hi hj => by
    unfold patched
    by_cases hex : rects.any (fun r => inR r j i) = true
    · rw [if_pos hex]
    · rw [if_neg hex]
      refine out i j hi hj fun r hr => ?_
      cases e : inR r (j : Int) (i : Int) with
      | false => rfl
      | true => exact absurd (List.any_eq_true.mpr ⟨r, hr, e⟩) hex
  refine ⟨_, [gridD h w fun i j => colorAt as j i, sceneD w h (bs.map primD), .tuple (rects.map rcD)], rs17, rfl, fun H18 us18 s18 r18 => ⟨[gridD h w fun i j => colorAt as j i, sceneD w h (bs.map primD), .tuple (rects.map rcD)], gridD h w (patched rects bs fun i j => colorAt as j i), by rw [List.append_nil]; exact r18, ⟨w, h, bs, rects, _, rfl, wfb, by omega, by omega, by omega, by omega, rfl⟩, rfl, fun H19 v19 s19 r19 => ?_⟩⟩
  rw [rpG] at r19
  refine ⟨v19, (List.range h).map fun (i : Nat) => PyData.tuple (rowD w fun j => colorAt bs j i), rfl, r19, rpB, ?_⟩
  refine ⟨_, gridD h w fun i j => colorAt bs j i, rs17.mono (s18.trans s19), rfl, fun H20 v20 s20 r20 => ?_⟩
  refine ⟨v20, (List.range h).map fun (i : Nat) => PyData.tuple (rowD w fun j => colorAt bs j i), rfl, r20, rpB, ?_⟩
  refine ⟨rfl, ?_⟩
  rw [decide_eq_true rfl]
  exact q _
end
end Cs
set_option maxHeartbeats 0
namespace Cs
open PySem PySem.Spec PyProof.Rows L2
/-! ### the head: facts by names -/
def dOf (x : Str) (st : Stmt) : He.DefD := ⟨(x, none), x, x, defArgs st, defBody st, defScope st, [], []⟩
def fn0 : List He.DefD := [dOf "contains" s_contains, dOf "common" s_common, dOf "overlap" s_overlap, dOf "hull" s_hull, dOf "glyph_width" s_glyph_width, dOf "text_width" s_text_width, dOf "inked" s_inked, dOf "around" s_around, dOf "line_covers" s_line_covers, dOf "polyline_covers" s_polyline_covers, dOf "covers" s_covers, dOf "identity" s_identity, dOf "page_of" s_page_of, dOf "reach" s_reach, dOf "visible_part" s_visible_part, dOf "paint_of" s_paint_of, dOf "paint_part" s_paint_part, dOf "needed" s_needed, dOf "painted" s_painted, dOf "picture" s_picture, dOf "repainted" s_repainted, dOf "merged_order" s_merged_order, dOf "by_identity" s_by_identity, dOf "kept_names" s_kept_names, dOf "moved" s_moved, dOf "damage" s_damage, dOf "diff" s_diff, dOf "_law_tape" s_law_tape, dOf "_law_draw" s_law_draw, dOf "_law_holds" s_law_holds]
def fn1 : List He.DefD := [dOf "_law_sign_width" s_law_sign_width, dOf "_law_width" s_law_width, dOf "_law_inked" s_law_inked, dOf "_law_around" s_law_around, dOf "_law_on_line" s_law_on_line, dOf "_law_covers" s_law_covers, dOf "_law_paint" s_law_paint, dOf "_law_word" s_law_word, dOf "_law_color" s_law_color, dOf "_law_form" s_law_form, dOf "_law_clip" s_law_clip, dOf "_law_identity" s_law_identity, dOf "_law_new_identity" s_law_new_identity, dOf "_law_primitive" s_law_primitive, dOf "_law_identities" s_law_identities, dOf "_law_scene" s_law_scene, dOf "_law_changed_item" s_law_changed_item, dOf "_law_turned_items" s_law_turned_items, dOf "_law_next_scene" s_law_next_scene, dOf "_law_color_at" s_law_color_at, dOf "_law_painted" s_law_painted, dOf "law" s_law]
def fn : List He.DefD := fn0 ++ fn1
def fa0 : List He.Fa := [.glo "contains", .glo "common", .glo "overlap", .glo "hull", .glo "glyph_width", .glo "text_width", .glo "inked", .glo "around", .glo "line_covers", .glo "polyline_covers", .glo "covers", .glo "identity", .glo "page_of", .glo "reach", .glo "visible_part", .glo "paint_of", .glo "paint_part", .glo "needed", .glo "painted", .glo "picture", .glo "repainted", .glo "merged_order", .glo "by_identity", .glo "kept_names", .glo "moved", .glo "damage", .glo "diff", .glo "_law_tape", .glo "_law_draw", .glo "_law_holds"]
def fa1 : List He.Fa := [.glo "_law_sign_width", .glo "_law_width", .glo "_law_inked", .glo "_law_around", .glo "_law_on_line", .glo "_law_covers", .glo "_law_paint", .glo "_law_word", .glo "_law_color", .glo "_law_form", .glo "_law_clip", .glo "_law_identity", .glo "_law_new_identity", .glo "_law_primitive", .glo "_law_identities", .glo "_law_scene", .glo "_law_changed_item", .glo "_law_turned_items", .glo "_law_next_scene", .glo "_law_color_at", .glo "_law_painted", .glo "law", .int "HEIGHT" 7, .str "ONE" "!'.:i|", .str "TWO" "(),;[]`jl", .str "THREE" " \"*-/1<>I\\^frt{}", .str "FOUR" "$023456789=?J_abcdeghknopqsuvxyz", .str "WHITE" "#ffffff", .int "MOST_PIXELS" 20000, .free "max"]
def fa2 : List He.Fa := [.free "min", .free "sum", .free "len", .free "abs", .free "int", .free "tuple", .free "list", .free "range", .free "str", .free "repr", .free "reversed"]
def fa : List He.Fa := fa0 ++ fa1 ++ fa2
def loose0 : List Str := ["ChartError", "PictureTooLarge", "contains", "common", "overlap", "hull", "HEIGHT", "ONE", "TWO", "THREE", "FOUR", "glyph_width", "text_width", "inked", "around", "line_covers", "polyline_covers", "covers", "identity", "page_of", "reach", "visible_part", "paint_of", "WHITE", "MOST_PIXELS", "paint_part", "needed", "painted", "picture", "repainted"]
def loose1 : List Str := ["merged_order", "by_identity", "kept_names", "moved", "damage", "diff", "_law_tape", "_law_draw", "_law_holds", "_law_sign_width", "_law_width", "_law_inked", "_law_around", "_law_on_line", "_law_covers", "_law_paint", "_law_word", "_law_color", "_law_form", "_law_clip", "_law_identity", "_law_new_identity", "_law_primitive", "_law_identities", "_law_scene", "_law_changed_item", "_law_turned_items", "_law_next_scene", "_law_color_at", "_law_painted"]
def looseAll : List Str := loose0 ++ loose1
abbrev RR : PySem.W.OpenRow := PySem.W.OpenLaw.row PySem.Challenge.rw_chartspec_k62_whole_damage_is_enough
abbrev hk : PySem.W.Hook := He.hookD 4 fa fn
def ob (s : PySem.W.SharedT) : He.AlD := He.obsDG 4 fa fn (HandSHeadRun.getT s)
theorem ob_eq (s : PySem.W.SharedT) : ob s = hk.obs s.abs := He.obsDG_eq (HandSHeadRun.getT_eq s)
theorem run (w : World) : HandSHeadRun.RunEq RR (PySem.W.view RR.prog [69]) hk ob 2600 looseAll w := by
  intro os
  kernel_rfl
theorem tx_of {K : PySem.W.Frag} {h : Heap} {mg : Str → Option Value} (X : K.In h) (G : h.Ns mainGlobals mg) (c : He.SaysD fa fn K) : Tx K mg where
  contains := ⟨_, _, He.glo_ok X G (c.fact 0 (f := .glo "contains") rfl), (c.def_ 0 (d := dOf "contains" s_contains) rfl).choose_spec⟩
  common := ⟨_, _, He.glo_ok X G (c.fact 1 (f := .glo "common") rfl), (c.def_ 1 (d := dOf "common" s_common) rfl).choose_spec⟩
  overlap := ⟨_, _, He.glo_ok X G (c.fact 2 (f := .glo "overlap") rfl), (c.def_ 2 (d := dOf "overlap" s_overlap) rfl).choose_spec⟩
  hull := ⟨_, _, He.glo_ok X G (c.fact 3 (f := .glo "hull") rfl), (c.def_ 3 (d := dOf "hull" s_hull) rfl).choose_spec⟩
  glyph_width := ⟨_, _, He.glo_ok X G (c.fact 4 (f := .glo "glyph_width") rfl), (c.def_ 4 (d := dOf "glyph_width" s_glyph_width) rfl).choose_spec⟩
  text_width := ⟨_, _, He.glo_ok X G (c.fact 5 (f := .glo "text_width") rfl), (c.def_ 5 (d := dOf "text_width" s_text_width) rfl).choose_spec⟩
  inked := ⟨_, _, He.glo_ok X G (c.fact 6 (f := .glo "inked") rfl), (c.def_ 6 (d := dOf "inked" s_inked) rfl).choose_spec⟩
  around := ⟨_, _, He.glo_ok X G (c.fact 7 (f := .glo "around") rfl), (c.def_ 7 (d := dOf "around" s_around) rfl).choose_spec⟩
  line_covers := ⟨_, _, He.glo_ok X G (c.fact 8 (f := .glo "line_covers") rfl), (c.def_ 8 (d := dOf "line_covers" s_line_covers) rfl).choose_spec⟩
  polyline_covers := ⟨_, _, He.glo_ok X G (c.fact 9 (f := .glo "polyline_covers") rfl), (c.def_ 9 (d := dOf "polyline_covers" s_polyline_covers) rfl).choose_spec⟩
  covers := ⟨_, _, He.glo_ok X G (c.fact 10 (f := .glo "covers") rfl), (c.def_ 10 (d := dOf "covers" s_covers) rfl).choose_spec⟩
  identity := ⟨_, _, He.glo_ok X G (c.fact 11 (f := .glo "identity") rfl), (c.def_ 11 (d := dOf "identity" s_identity) rfl).choose_spec⟩
  page_of := ⟨_, _, He.glo_ok X G (c.fact 12 (f := .glo "page_of") rfl), (c.def_ 12 (d := dOf "page_of" s_page_of) rfl).choose_spec⟩
  reach := ⟨_, _, He.glo_ok X G (c.fact 13 (f := .glo "reach") rfl), (c.def_ 13 (d := dOf "reach" s_reach) rfl).choose_spec⟩
  visible_part := ⟨_, _, He.glo_ok X G (c.fact 14 (f := .glo "visible_part") rfl), (c.def_ 14 (d := dOf "visible_part" s_visible_part) rfl).choose_spec⟩
  paint_of := ⟨_, _, He.glo_ok X G (c.fact 15 (f := .glo "paint_of") rfl), (c.def_ 15 (d := dOf "paint_of" s_paint_of) rfl).choose_spec⟩
  paint_part := ⟨_, _, He.glo_ok X G (c.fact 16 (f := .glo "paint_part") rfl), (c.def_ 16 (d := dOf "paint_part" s_paint_part) rfl).choose_spec⟩
  needed := ⟨_, _, He.glo_ok X G (c.fact 17 (f := .glo "needed") rfl), (c.def_ 17 (d := dOf "needed" s_needed) rfl).choose_spec⟩
  painted := ⟨_, _, He.glo_ok X G (c.fact 18 (f := .glo "painted") rfl), (c.def_ 18 (d := dOf "painted" s_painted) rfl).choose_spec⟩
  picture := ⟨_, _, He.glo_ok X G (c.fact 19 (f := .glo "picture") rfl), (c.def_ 19 (d := dOf "picture" s_picture) rfl).choose_spec⟩
  repainted := ⟨_, _, He.glo_ok X G (c.fact 20 (f := .glo "repainted") rfl), (c.def_ 20 (d := dOf "repainted" s_repainted) rfl).choose_spec⟩
  merged_order := ⟨_, _, He.glo_ok X G (c.fact 21 (f := .glo "merged_order") rfl), (c.def_ 21 (d := dOf "merged_order" s_merged_order) rfl).choose_spec⟩
  by_identity := ⟨_, _, He.glo_ok X G (c.fact 22 (f := .glo "by_identity") rfl), (c.def_ 22 (d := dOf "by_identity" s_by_identity) rfl).choose_spec⟩
  kept_names := ⟨_, _, He.glo_ok X G (c.fact 23 (f := .glo "kept_names") rfl), (c.def_ 23 (d := dOf "kept_names" s_kept_names) rfl).choose_spec⟩
  moved := ⟨_, _, He.glo_ok X G (c.fact 24 (f := .glo "moved") rfl), (c.def_ 24 (d := dOf "moved" s_moved) rfl).choose_spec⟩
  damage := ⟨_, _, He.glo_ok X G (c.fact 25 (f := .glo "damage") rfl), (c.def_ 25 (d := dOf "damage" s_damage) rfl).choose_spec⟩
  diff := ⟨_, _, He.glo_ok X G (c.fact 26 (f := .glo "diff") rfl), (c.def_ 26 (d := dOf "diff" s_diff) rfl).choose_spec⟩
  law_tape := ⟨_, _, He.glo_ok X G (c.fact 27 (f := .glo "_law_tape") rfl), (c.def_ 27 (d := dOf "_law_tape" s_law_tape) rfl).choose_spec⟩
  law_draw := ⟨_, _, He.glo_ok X G (c.fact 28 (f := .glo "_law_draw") rfl), (c.def_ 28 (d := dOf "_law_draw" s_law_draw) rfl).choose_spec⟩
  law_holds := ⟨_, _, He.glo_ok X G (c.fact 29 (f := .glo "_law_holds") rfl), (c.def_ 29 (d := dOf "_law_holds" s_law_holds) rfl).choose_spec⟩
  law_sign_width := ⟨_, _, He.glo_ok X G (c.fact 30 (f := .glo "_law_sign_width") rfl), (c.def_ 30 (d := dOf "_law_sign_width" s_law_sign_width) rfl).choose_spec⟩
  law_width := ⟨_, _, He.glo_ok X G (c.fact 31 (f := .glo "_law_width") rfl), (c.def_ 31 (d := dOf "_law_width" s_law_width) rfl).choose_spec⟩
  law_inked := ⟨_, _, He.glo_ok X G (c.fact 32 (f := .glo "_law_inked") rfl), (c.def_ 32 (d := dOf "_law_inked" s_law_inked) rfl).choose_spec⟩
  law_around := ⟨_, _, He.glo_ok X G (c.fact 33 (f := .glo "_law_around") rfl), (c.def_ 33 (d := dOf "_law_around" s_law_around) rfl).choose_spec⟩
  law_on_line := ⟨_, _, He.glo_ok X G (c.fact 34 (f := .glo "_law_on_line") rfl), (c.def_ 34 (d := dOf "_law_on_line" s_law_on_line) rfl).choose_spec⟩
  law_covers := ⟨_, _, He.glo_ok X G (c.fact 35 (f := .glo "_law_covers") rfl), (c.def_ 35 (d := dOf "_law_covers" s_law_covers) rfl).choose_spec⟩
  law_paint := ⟨_, _, He.glo_ok X G (c.fact 36 (f := .glo "_law_paint") rfl), (c.def_ 36 (d := dOf "_law_paint" s_law_paint) rfl).choose_spec⟩
  law_word := ⟨_, _, He.glo_ok X G (c.fact 37 (f := .glo "_law_word") rfl), (c.def_ 37 (d := dOf "_law_word" s_law_word) rfl).choose_spec⟩
  law_color := ⟨_, _, He.glo_ok X G (c.fact 38 (f := .glo "_law_color") rfl), (c.def_ 38 (d := dOf "_law_color" s_law_color) rfl).choose_spec⟩
  law_form := ⟨_, _, He.glo_ok X G (c.fact 39 (f := .glo "_law_form") rfl), (c.def_ 39 (d := dOf "_law_form" s_law_form) rfl).choose_spec⟩
  law_clip := ⟨_, _, He.glo_ok X G (c.fact 40 (f := .glo "_law_clip") rfl), (c.def_ 40 (d := dOf "_law_clip" s_law_clip) rfl).choose_spec⟩
  law_identity := ⟨_, _, He.glo_ok X G (c.fact 41 (f := .glo "_law_identity") rfl), (c.def_ 41 (d := dOf "_law_identity" s_law_identity) rfl).choose_spec⟩
  law_new_identity := ⟨_, _, He.glo_ok X G (c.fact 42 (f := .glo "_law_new_identity") rfl), (c.def_ 42 (d := dOf "_law_new_identity" s_law_new_identity) rfl).choose_spec⟩
  law_primitive := ⟨_, _, He.glo_ok X G (c.fact 43 (f := .glo "_law_primitive") rfl), (c.def_ 43 (d := dOf "_law_primitive" s_law_primitive) rfl).choose_spec⟩
  law_identities := ⟨_, _, He.glo_ok X G (c.fact 44 (f := .glo "_law_identities") rfl), (c.def_ 44 (d := dOf "_law_identities" s_law_identities) rfl).choose_spec⟩
  law_scene := ⟨_, _, He.glo_ok X G (c.fact 45 (f := .glo "_law_scene") rfl), (c.def_ 45 (d := dOf "_law_scene" s_law_scene) rfl).choose_spec⟩
  law_changed_item := ⟨_, _, He.glo_ok X G (c.fact 46 (f := .glo "_law_changed_item") rfl), (c.def_ 46 (d := dOf "_law_changed_item" s_law_changed_item) rfl).choose_spec⟩
  law_turned_items := ⟨_, _, He.glo_ok X G (c.fact 47 (f := .glo "_law_turned_items") rfl), (c.def_ 47 (d := dOf "_law_turned_items" s_law_turned_items) rfl).choose_spec⟩
  law_next_scene := ⟨_, _, He.glo_ok X G (c.fact 48 (f := .glo "_law_next_scene") rfl), (c.def_ 48 (d := dOf "_law_next_scene" s_law_next_scene) rfl).choose_spec⟩
  law_color_at := ⟨_, _, He.glo_ok X G (c.fact 49 (f := .glo "_law_color_at") rfl), (c.def_ 49 (d := dOf "_law_color_at" s_law_color_at) rfl).choose_spec⟩
  law_painted := ⟨_, _, He.glo_ok X G (c.fact 50 (f := .glo "_law_painted") rfl), (c.def_ 50 (d := dOf "_law_painted" s_law_painted) rfl).choose_spec⟩
  law := ⟨_, _, He.glo_ok X G (c.fact 51 (f := .glo "law") rfl), (c.def_ 51 (d := dOf "law" s_law) rfl).choose_spec⟩
  HEIGHT := He.int_ok X G (c.fact 52 (f := .int "HEIGHT" 7) rfl)
  ONE := He.str_ok X G (c.fact 53 (f := .str "ONE" "!'.:i|") rfl)
  TWO := He.str_ok X G (c.fact 54 (f := .str "TWO" "(),;[]`jl") rfl)
  THREE := He.str_ok X G (c.fact 55 (f := .str "THREE" " \"*-/1<>I\\^frt{}") rfl)
  FOUR := He.str_ok X G (c.fact 56 (f := .str "FOUR" "$023456789=?J_abcdeghknopqsuvxyz") rfl)
  WHITE := He.str_ok X G (c.fact 57 (f := .str "WHITE" "#ffffff") rfl)
  MOST_PIXELS := He.int_ok X G (c.fact 58 (f := .int "MOST_PIXELS" 20000) rfl)
  b_max := He.free_ok X G (c.fact 59 (f := .free "max") rfl)
  b_min := He.free_ok X G (c.fact 60 (f := .free "min") rfl)
  b_sum := He.free_ok X G (c.fact 61 (f := .free "sum") rfl)
  b_len := He.free_ok X G (c.fact 62 (f := .free "len") rfl)
  b_abs := He.free_ok X G (c.fact 63 (f := .free "abs") rfl)
  b_int := He.free_ok X G (c.fact 64 (f := .free "int") rfl)
  b_tuple := He.free_ok X G (c.fact 65 (f := .free "tuple") rfl)
  b_list := He.free_ok X G (c.fact 66 (f := .free "list") rfl)
  b_range := He.free_ok X G (c.fact 67 (f := .free "range") rfl)
  b_str := He.free_ok X G (c.fact 68 (f := .free "str") rfl)
  b_repr := He.free_ok X G (c.fact 69 (f := .free "repr") rfl)
  b_reversed := He.free_ok X G (c.fact 70 (f := .free "reversed") rfl)
end Cs
set_option maxHeartbeats 4000000
namespace Cs
open PySem PySem.Spec PyProof.Rows L2
/-! ### the law is called -/
/-- the law's def, run where no display is under way -/
theorem law_code [Wd] {K : PySem.W.Frag} {mg : Str → Option Value} {base : Heap} {f : Addr} {fd : FuncData} (T : Tx K mg) (F : FunD K "law" "law" (defArgs s_law) (defBody s_law) (defScope s_law) [] [] f fd) (A : Around) (outer : List Env) (s : Shared) (H : Hp) (args : Args) (us : List Value) (vs : List V) (Q : VK) (E : XK)
    (room : Room 9 A) (gd : A.guards = some []) (env0 : Env0 Wd.P Wd.w K mg base A outer s H) (bind : BindsTo s fd args ((["_law_script"] : List Str).zip us)) (rel : Vals vs us) (says : spLaw K vs H Q E) : codeAny (model Wd.P Wd.w) A (.call (.ref f) args) (CR CX0 outer Wd.P Wd.w H s Q E) s := by
  obtain ⟨oc, od, dV, kV, doc, pm, an, cdv, ct, osl, rfl, look, coded, _, _⟩ := F.ex
  have one : vs.length = (["_law_script"] : List Str).length := by
    obtain ⟨_, _, rfl, _⟩ := says
    rfl
  have kin : K.In s.heap := env0.mod.kin.keeps fun b o e => (env0.bs b o e).1
  have kinds : ∀ y ∈ (["_law_script"] : List Str).zip us, (defScope s_law).names.lookup y.1 = some .local ∨ ((defScope s_law).names.lookup y.1 = some .cell ∧ ((cellsFrom (s.heap.objs.size + 1) (defScope s_law).names []).lookup y.1).isSome = true) := by
    rintro ⟨x, v⟩ hy
    exact (sc_law.par x (List.of_mem_zip hy).1).imp id fun c => ⟨c, PySem.W.cellsFrom_some _ _ _ (.inl c)⟩
  refine codeAny_call_function room.depth (kin _ _ look) rfl sc_law.co sc_law.gen rfl (PySem.W.codeRec_of kin coded) (bind _ _ _ _ (wpAny_newFunctionEnv_cells sc_law.kind kinds fun en he s1 x => ?_))
  subst he
  have nolim := env0.mod.nolimit.keeps fun b o e => x.toInCall.keep b o (env0.bs b o e).1
  refine ⟨nolim, codeAny_func ?_⟩
  obtain ⟨t, walk, now⟩ := law_body (base := base) T f cdv A outer s H vs Q E (room.deeper _) gd says
  have start := inv_start (CX := CX0) sc_law room.hd env0 one rel x (E := E)
  refine wpAny_mono (walk.nox.run [] s1 _ H _ start now) (fun fl s' out => ?_) fun e s' out => out
  cases fl with
  | brk => exact out.elim fun _ h => h.elim fun _ h => h.2.elim
  | cont => exact out.elim fun _ h => h.elim fun _ h => h.2.elim
  | next =>
    obtain ⟨σ', H', J, q⟩ := out
    exact ⟨.non, H', J.os, J.bare, J.base, J.hok, rfl, q⟩
  | ret u =>
    obtain ⟨v, σ', H', J, rv, q⟩ := out
    exact ⟨v, H', J.os, J.bare, J.base, J.hok, rv, q⟩
/-- the def called with the script: from the state behind the top -/
theorem law_called [Wd] {K : PySem.W.Frag} {mg mb : Str → Option Value} {fa a : Addr} {fd : FuncData} {st : Shared} {items : List Value} {ns : List Int} (T : Tx K mg) (F : FunD K "law" "law" (defArgs s_law) (defBody s_law) (defScope s_law) [] [] fa fd) (bind : ∀ (s : Shared) (u : Value), BindsTo s fd ⟨[u], []⟩ [("_law_script", u)])
    (kin : K.In st.heap) (glob : st.heap.Ns mainGlobals mg) (blt : st.heap.Ns builtinsNs mb) (boot : ∀ x : Str, x ≠ "__name__" → mb x = bootBuiltins x) (nolim : st.heap.NoLimit) (gens : st.gens = #[])
    (script : st.heap.get? a = some { cls := .type "list", data := .seq items.toArray }) (whole : IntsAre items ns) (few : ns.length ≤ 1000) (room : Room 9 callerA) :
    codeAny (model Wd.P Wd.w) callerA (.call (.ref fa) ⟨[.ref a], []⟩) (fun r s' => r = .ok (.ret (.bool true)) ∧ OldK st.heap s'.heap ∧ s'.os = st.os ∧ AllBare s'.gens) st := by
  have vals := vals_ints whole
  have fits : ns.length ≤ sizeLine := Nat.le_trans few (by decide)
  -- what may be tracked: the script alone, and frozen
  have main : ∀ H : Hp, (∀ b u, H b = some u → b = a ∧ K.lookup a = none ∧ u = .frz { cls := .type "list", data := .seq items.toArray } (.lst (ns.map V.int))) → HOk Wd.P Wd.w H st.heap → SqL K H a (ns.map V.int) →
      codeAny (model Wd.P Wd.w) callerA (.call (.ref fa) ⟨[.ref a], []⟩) (fun r s' => r = .ok (.ret (.bool true)) ∧ OldK st.heap s'.heap ∧ s'.os = st.os ∧ AllBare s'.gens) st := fun H only hok hS => by
    have bare : ∀ b : Addr, b ≠ a → H b = none := fun b ne => by
      cases e : H b with
      | none => rfl
      | some u => exact absurd (only b u e).1 ne
    have dictFree : ∀ {b : Addr} {o : Obj} {es : Array DictEntry} {ep : Nat}, st.heap.get? b = some o → o.data = .dict es ep → H b = none := fun {b o es ep} ho hd => bare b fun z => by
      rw [z, script] at ho
      cases ho
      cases (show Data.seq items.toArray _ = Data.dict es ep from hd)
    have names : ∀ {b : Addr} {m : Str → Option Value}, st.heap.Ns b m → (hidT st.heap H).Ns b m := fun {b m} ⟨o, es, ep, ho, hd, rest⟩ => ⟨o, es, ep, hidT_get ho (dictFree ho hd), hd, rest⟩
    have kinB : K.In (hidT st.heap H) := fun b o e => hidT_get (kin b o e) (by
      cases z : H b with
      | none => rfl
      | some u =>
        obtain ⟨rfl, no, _⟩ := only b u z
        rw [no] at e
        cases e)
    have nolimB : (hidT st.heap H).NoLimit := let ⟨mc, n1, n2⟩ := nolim; ⟨mc, names n1, n2⟩
    have env0 : Env0 Wd.P Wd.w K mg (hidT st.heap H) callerA [] st H := ⟨rfl, ⟨kinB, names glob, ⟨mb, names blt, boot⟩, nolimB⟩, fun b o e => of_hidT e, Nat.le_of_eq (hidT_size _ _), trivial, fun b hb => (nomatch hb), hok, .of_eq gens⟩
    refine codeAny_mono (law_code T F callerA [] st H ⟨[.ref a], []⟩ [.ref a] [.ref a] (fun v _ => v = .bl true) (fun _ _ _ => False) room rfl env0 (bind st (.ref a)) (.cons rfl .nil) ⟨a, ns, rfl, hS, few, fun _ => rfl⟩) fun r s' out => ?_
    match r, out with
    | .error e, out => exact out.elim
    | .ok .next, out => exact out.elim
    | .ok .brk, out => exact out.elim
    | .ok .cont, out => exact out.elim
    | .ok (.ret u), ⟨v, H', os, ag, un, hok', ru, q⟩ =>
      have q : v = .bl true := q
      rw [q] at ru
      obtain rfl : u = Value.bool true := ru
      refine ⟨rfl, OldK.of_keep fun b o ho => ?_, os, ag⟩
      cases z : H b with
      | none => exact un.keep b o ho z (fun m => (nomatch m)) (fun m => (nomatch m))
      | some w =>
        obtain ⟨rfl, _, rfl⟩ := only b w z
        have k0 := (hok _ _ z).1
        rw [ho] at k0
        cases k0
        exact (hok' _ _ (un.frzs _ _ _ z)).1
  cases own : K.lookup a with
  | some o =>
    have so := kin a o own
    rw [script] at so
    cases so
    exact main (fun _ => none) (fun b u e => by cases (show (none : Option HO) = some u from e)) (fun b u e => by cases (show (none : Option HO) = some u from e)) (.inr ⟨_, items.toArray, _, own, rfl, rfl, rfl, by rw [List.size_toArray, whole.length]; exact fits, by simpa using vals⟩)
  | none =>
    refine main (fun b => if b = a then some (.frz { cls := .type "list", data := .seq items.toArray } (.lst (ns.map V.int))) else none) (fun b u e => ?_) (fun b u e => ?_) (.inl (.inr ⟨_, if_pos rfl⟩))
    · by_cases z : b = a
      · rw [if_pos z] at e
        exact ⟨z, own, (Option.some.inj e).symm⟩
      · rw [if_neg z] at e
        cases e
    · dsimp only at e
      by_cases z : b = a
      · rw [if_pos z] at e
        cases e
        rw [z]
        exact ⟨script, by rw [List.length_map]; exact fits, items, _, vals, script⟩
      · rw [if_neg z] at e
        cases e
end Cs
open PySem PySem.W PySem.Calls PyProof.Rows
theorem PySem.Challenge.cw_chartspec_k62_whole_damage_is_enough_holds : PySem.Challenge.rw_chartspec_k62_whole_damage_is_enough.Holds := by
  w_on; o_law
  refine HandSHeadRun.head_any (r := Cs.RR) (q := view Cs.RR.prog [69]) (H := Cs.hk) (ob := Cs.ob) (M := 2600) (loose := Cs.looseAll) (d := HandSHeadRun.topDef Cs.RR.prog 69) (kwd := []) Cs.ob_eq
    (by kernel_rfl) (fun s => by kernel_rfl) Cs.run (by kernel_rfl) (by kernel_rfl) (by kernel_rfl) (by rfl) (by first | assumption | decide +kernel) (by decide +kernel) ⟨rfl, rfl, rfl, rfl, rfl, by decide +kernel⟩ ?hw ?hc
  case hw => w_witness2
  case hc =>
    refine Att.attach_call (l := PySem.Challenge.rw_chartspec_k62_whole_damage_is_enough) (n := 63) rfl (by kernel_rfl) fun w s₀ s₁ mg mb fa o pm cd doc a vs ns G Y ho hd hcd hmg hobj hwhole hlen hg => ?_
    obtain ⟨K, X, c⟩ := Y
    have T := Cs.tx_of X G.T.g c
    obtain ⟨f, fd, hm, F⟩ := T.law.ex
    have name : (HandSHeadRun.topDef Cs.RR.prog 69).name = ("law" : PySem.Str) := by kernel_rfl
    rw [name, hm] at hmg
    cases hmg
    have b := L2.FunD.bindsA (ps := ["_law_script"]) F Cs.bo_law
    exact @Cs.law_called ⟨PySem.Challenge.rw_chartspec_k62_whole_damage_is_enough.prog, w⟩ K mg mb fa a fd s₁ vs ns T F (fun s v => b s [v] rfl) X G.T.g G.T.b G.T.builtins G.T.nolimit hg hobj hwhole (Nat.le_trans hlen (by decide)) ⟨rfl, by decide, by decide⟩
