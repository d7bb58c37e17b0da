import PyProof.Rows.All
import Wide.All
import Wide.FinOn
import PySem.Str
import PyProof.RulesRaise
import PyProof.Rules2
import PyProof.AssignAttr
import PyProof.Claim2
import PyProof.Seq
import PyProof.FactsAll.list_0
import PyProof.FactsAll.list_3
import PyProof.TupleIter
import PyProof.AutoListH
import PyProof.NoPylong
import PyProof.Rules3
import PyProof.SliceList
import PyProof.CallRoads
import PyProof.CallType
import PyProof.CallStr
import PyProof.Cells
import PyProof.CompMap
import PyProof.CompUse
import PyProof.PlainList
import PyProof.ConsumeWalk
import PyProof.StrWalks
import PyProof.CompFree
import PyProof.DefCall
import PyProof.Dict
import PyProof.ListOps
import PyProof.DictKinds
import PyProof.DictTruth
import PyProof.TupleKey
import PyProof.DictRoadsH
import PyProof.EnumFor
import PyProof.EnumMake
import PyProof.IsRules
import PyProof.P3Eq
import PyProof.EqLayable
import PyProof.ExcClass2
import PyProof.ExcArgsOwn
import PyProof.ExcBaseAll.ValueError
import PyProof.ExcAttrAll.ValueError
import PyProof.RaisesMany
import PyProof.StrBlock
import PyProof.WalksMore
import PyProof.RangeFor
import PyProof.InstLoad
import PyProof.InstStoreFacts
import PyProof.IsInstanceH
import PyProof.IsiHeapPairs
import PyProof.IsiNone
import PyProof.IsiPairs
import PyProof.ListCopy
import PyProof.ListIndexNeg
import PyProof.ListMulRoad
import PyProof.ListMulAny
import PyProof.ListRange
import PyProof.WalkInts
import PyProof.RulesAs
import PyProof.P3In
import PyProof.Rows.News
import PyProof.Rows.TupSub
import PyProof.Rows.IntRules
import PyProof.ZipIter
import PyProof.WalksPairs
import PyProof.StrBlockH
import PyProof.Rows.Exc
import PyProof.Rows.AttrNode
import PyProof.Rows.Chain
import PyProof.Rows.Nodes
import PyProof.Rows.RuleB_mul
import PyProof.Rows.RuleB_floordiv
import PyProof.Rows.RuleB_mod
import PyProof.Rows.RuleB_rshift
import PyProof.Rows.Method
import PyProof.Rows.StrTemp
import PyProof.Rows.ListMulArg
import PyProof.Rows.RuleB_small
import PyProof.Rows.RuleC_bool
import PyProof.Rows.RuleC_int
import PyProof.Rows.RuleIs2
import PyProof.SeqI3
import PyProof.Rows.StrRules
import PyProof.SameEqv
import PyProof.Rows.TupTab
import PyProof.Rows.SeqMore
import PyProof.Rows.SumAny
import PyProof.TupleOfSeq
import PyProof.Rows.SortPure
import PyProof.Rows.SortShell
import PyProof.Rows.SortWalk
import PyProof.Rows.CallKwBuiltin
import PyProof.Rows.Range3
import PyProof.Rows.PlainObj
import OpenK.KWalk
import Open.FastT9
import PySem.Challenge.RW_uf040014_13
set_option Elab.async false
set_option maxHeartbeats 8000000
open PySem PyProof.Rows
namespace Mine

abbrev FM := Addr → Option Obj

inductive D where
  | none
  | bool (b : Bool)
  | int (i : Int)
  | str (x : Str)
  | tup (ds : List D)
  | lst (ds : List D)
  | rng (a b c : Int)
  | ref (a : Addr)
  | val (v : Value)


mutual
inductive Rep (φ : FM) : Value → D → Prop
  | none : Rep φ .none .none
  | bool (b : Bool) : Rep φ (.bool b) (.bool b)
  | int (i : Int) (t : Tok) : Rep φ (.int i t) (.int i)
  | str (x : Str) (t : Tok) : Rep φ (.str x t) (.str x)
  | tup {a : Addr} {o : Obj} {vs : List Value} {n : Nat} {ds : List D} : φ a = some o → (o.cls = .type "tuple" ∧ o.dict = none) → o.data = .seq vs.toArray n → Reps φ vs ds → Rep φ (.ref a) (.tup ds)
  | lst {a : Addr} {o : Obj} {vs : List Value} {n : Nat} {ds : List D} : φ a = some o → o.cls = .type "list" → o.data = .seq vs.toArray n → Reps φ vs ds → Rep φ (.ref a) (.lst ds)
  | rng {r : Addr} {a b c : Int} {t u v : Tok} : φ r = some { cls := .type "range", dict := none, data := .fields #[.int a t, .int b u, .int c v], slots := #[] } → Rep φ (.ref r) (.rng a b c)
  | ref (a : Addr) : Rep φ (.ref a) (.ref a)
  | val (v : Value) : Rep φ v (.val v)
inductive Reps (φ : FM) : List Value → List D → Prop
  | nil : Reps φ [] []
  | cons {v : Value} {d : D} {vs : List Value} {ds : List D} : Rep φ v d → Reps φ vs ds → Reps φ (v :: vs) (d :: ds)
end

def FM.le (φ ψ : FM) : Prop := ∀ a o, φ a = some o → ψ a = some o

mutual
theorem Rep.mono {φ ψ : FM} (k : FM.le φ ψ) : ∀ {v d}, Rep φ v d → Rep ψ v d
  | _, _, .none => .none
  | _, _, .bool b => .bool b
  | _, _, .int i t => .int i t
  | _, _, .str x t => .str x t
  | _, _, .tup h c e r => .tup (k _ _ h) c e (Reps.mono k r)
  | _, _, .lst h c e r => .lst (k _ _ h) c e (Reps.mono k r)
  | _, _, .rng h => .rng (k _ _ h)
  | _, _, .ref a => .ref a
  | _, _, .val v => .val v
theorem Reps.mono {φ ψ : FM} (k : FM.le φ ψ) : ∀ {vs ds}, Reps φ vs ds → Reps ψ vs ds
  | _, _, .nil => .nil
  | _, _, .cons h r => .cons (Rep.mono k h) (Reps.mono k r)
end
theorem Reps.length {φ : FM} : ∀ {vs ds}, Reps φ vs ds → vs.length = ds.length
  | _, _, .nil => rfl
  | _, _, .cons _ r => by simp [r.length]
theorem Reps.append {φ : FM} : ∀ {vs ds ws es}, Reps φ vs ds → Reps φ ws es → Reps φ (vs ++ ws) (ds ++ es)
  | _, _, _, _, .nil, r => r
  | _, _, _, _, .cons h q, r => .cons h (q.append r)
theorem Reps.get' {φ : FM} : ∀ {vs ds} (_ : Reps φ vs ds) {i : Nat} {v : Value}, vs[i]? = some v → ∃ d, ds[i]? = some d ∧ Rep φ v d
  | _, _, .cons h _, 0, _, e => by simp at e; subst e; exact ⟨_, rfl, h⟩
  | _, _, .cons _ q, i + 1, _, e => by
    obtain ⟨v, a, b⟩ := q.get' (i := i) (by simpa using e)
    exact ⟨v, by simpa using a, b⟩
theorem Reps.take {φ : FM} : ∀ {vs ds} (n : Nat), Reps φ vs ds → Reps φ (vs.take n) (ds.take n)
  | _, _, 0, _ => by simp; exact .nil
  | _, _, _ + 1, .nil => by simp; exact .nil
  | _, _, n + 1, .cons h r => by simp only [List.take_succ_cons]; exact .cons h (r.take n)
theorem Reps.drop {φ : FM} : ∀ {vs ds} (n : Nat), Reps φ vs ds → Reps φ (vs.drop n) (ds.drop n)
  | _, _, 0, r => by simpa using r
  | _, _, _ + 1, .nil => by simp; exact .nil
  | _, _, n + 1, .cons _ r => by simp only [List.drop_succ_cons]; exact r.drop n
inductive Look (x : Str) (d : D) : List Str → List (Option D) → Prop
  | here {ns : List Str} {vs : List (Option D)} : Look x d (x :: ns) (some d :: vs)
  | there {y : Str} {v : Option D} {ns : List Str} {vs : List (Option D)} : Look x d ns vs → Look x d (y :: ns) (v :: vs)
theorem Look.mem {x : Str} {d : D} {ns : List Str} {vs : List (Option D)} (h : Look x d ns vs) : x ∈ ns := by
  induction h with
  | here => exact .head _
  | there _ ih => exact .tail _ ih
def cellsK (L : Addr) (kn : List (Str × NameKind)) : List (Str × Addr) := cellsFrom (L + 1) kn []

inductive MO where
  | frame (L : Addr) (kn : List (Str × NameKind)) (ns : List Str) (vs : List (Option D))
  | list (a : Addr) (ds : List D)
  | exc (e : Addr) (cls : Value) (tb : Option (Addr × Value))
  | raw (a : Addr) (R : Obj → Prop)
  | pin (v : Value) (d : D)
  | dep (a : Addr) (R : FM → Obj → Prop) (m : ∀ φ ψ o, FM.le φ ψ → R φ o → R ψ o)

def MO.owned : MO → List Addr
  | .frame L kn _ _ => L :: (cellsK L kn).map (·.2)
  | .list a _ => [a]
  | .exc e _ tb => e :: (tb.map (·.1)).toList
  | .raw a _ => [a]
  | .pin _ _ => []
  | .dep a _ _ => [a]

def MO.fr : MO → Option Addr
  | .frame L _ _ _ => some L
  | _ => none

def heldAt (φ : FM) (h : Heap) (mv : Str → Option Value) (cs : List (Str × Addr)) (x : Str) (d : D) : Prop :=
  ∃ v, Rep φ v d ∧ match cs.lookup x with
    | some c => h.IsCell c (some v)
    | none => mv x = some v

def MO.holds (φ : FM) (h : Heap) : MO → Prop
  | .frame L kn ns vs => ∃ mv, h.Ns L mv ∧ (∀ x d, Look x d ns vs → heldAt φ h mv (cellsK L kn) x d) ∧ (∀ p ∈ cellsK L kn, ∃ v, h.IsCell p.2 v)
  | .list a ds => ∃ vs : List Value, h.PlainList a vs.toArray ∧ Reps φ vs ds
  | .exc e cls tb => ∃ oe vs, h.get? e = some oe ∧ (oe.cls = cls ∧ oe.dict = none) ∧ oe.data = .fields vs ∧ match tb with
      | none => vs[1]? = some .none
      | some (T, fl) => vs[1]? = some (.ref T) ∧ ∃ oT ts, h.get? T = some oT ∧ oT.data = .fields ts ∧ ts[3]? = some fl
  | .raw a R => ∃ o, h.get? a = some o ∧ R o
  | .pin v d => Rep φ v d
  | .dep a R _ => ∃ o, h.get? a = some o ∧ R φ o

def Turned (S : List Addr) (h h' : Heap) : Prop := ∀ b o, b ∉ S → h.get? b = some o → h'.get? b = some o
theorem Turned.of_sameBut {a : Addr} {h h' : Heap} (k : Heap.SameBut a h h') : Turned [a] h h' := fun b _ hb e => (k.2 b (by simpa using hb)).trans e
theorem Turned.of_extBut {a : Addr} {h h' : Heap} (k : Heap.ExtBut a h h') : Turned [a] h h' := fun b o hb e => k b o (by simpa using hb) e
theorem Turned.push (h : Heap) (o : Obj) : Turned [] h (h.push o) := fun _ _ _ e => Heap.get?_push_of_some o e
theorem Turned.mono {S S' : List Addr} {h h' : Heap} (k : Turned S h h') (hs : ∀ a, a ∈ S → a ∈ S') : Turned S' h h' := fun b o hb e => k b o (fun q => hb (hs b q)) e
theorem MO.holds_turned {φ ψ : FM} {h h' : Heap} {S : List Addr} (kφ : FM.le φ ψ) (kh : Turned S h h') : ∀ {x : MO}, x.holds φ h → (∀ a ∈ x.owned, a ∉ S) → x.holds ψ h'
  | .frame L kn ns vs, ⟨mv, hn, hm, hc⟩, hd => by
    refine ⟨mv, ?_, fun x d e => ?_, fun p hp => ?_⟩
    · obtain ⟨o, es, ep, ho, r⟩ := hn
      exact ⟨o, es, ep, kh L o (hd L (by simp [MO.owned])) ho, r⟩
    · obtain ⟨v, r, q⟩ := hm x d e
      refine ⟨v, r.mono kφ, ?_⟩
      revert q
      cases hx : (cellsK L kn).lookup x with
      | none => exact id
      | some c =>
        rintro ⟨o, ho, hd'⟩
        exact ⟨o, kh c o (hd c (by simp only [MO.owned, List.mem_cons, List.mem_map]; exact .inr ⟨_, mem_of_lookup hx, rfl⟩)) ho, hd'⟩
    · obtain ⟨v, o, ho, hd'⟩ := hc p hp
      exact ⟨v, o, kh p.2 o (hd p.2 (by simp only [MO.owned, List.mem_cons, List.mem_map]; exact .inr ⟨_, hp, rfl⟩)) ho, hd'⟩
  | .list a ds, ⟨vs, ⟨n, ho⟩, r⟩, hd => ⟨vs, ⟨n, kh a _ (hd a (by simp [MO.owned])) ho⟩, r.mono kφ⟩
  | .exc e cls tb, ⟨oe, vs, he, hc, hdat, hu⟩, hd => by
    refine ⟨oe, vs, kh e oe (hd e (by simp [MO.owned])) he, hc, hdat, ?_⟩
    cases tb with
    | none => exact hu
    | some T =>
      obtain ⟨T, fl⟩ := T
      obtain ⟨h1, oT, ts, h4, h5, h6⟩ := hu
      exact ⟨h1, oT, ts, kh T oT (hd T (by simp [MO.owned])) h4, h5, h6⟩
  | .raw a R, ⟨o, ho, r⟩, hd => ⟨o, kh a o (hd a (by simp [MO.owned])) ho, r⟩
  | .pin v d, h, _ => Rep.mono kφ h
  | .dep a R m, ⟨o, ho, r⟩, hd => ⟨o, kh a o (hd a (by simp [MO.owned])) ho, m _ _ _ kφ r⟩

theorem MO.holds_there {φ : FM} {h : Heap} : ∀ {x : MO}, x.holds φ h → ∀ a ∈ x.owned, ∃ o, h.get? a = some o
  | .frame L kn ns vs, ⟨mv, ⟨o, _, _, e, _⟩, _, hc⟩, a, ha => by
    simp only [MO.owned, List.mem_cons, List.mem_map] at ha
    rcases ha with rfl | ⟨p, hp, rfl⟩
    · exact ⟨o, e⟩
    · obtain ⟨v, o', e', _⟩ := hc p hp; exact ⟨o', e'⟩
  | .list a' ds, ⟨vs, ⟨n, e⟩, _⟩, a, ha => by simp only [MO.owned, List.mem_singleton] at ha; subst ha; exact ⟨_, e⟩
  | .exc e cls tb, ⟨oe, vs, e', _, _, hu⟩, a, ha => by
    simp only [MO.owned, List.mem_cons] at ha
    rcases ha with rfl | ha
    · exact ⟨oe, e'⟩
    · cases tb with
      | none => cases ha
      | some T => obtain ⟨T, fl⟩ := T; simp at ha; subst ha; obtain ⟨_, oT, ts, h4, _⟩ := hu; exact ⟨oT, h4⟩
  | .raw a' R, ⟨o, e, _⟩, a, ha => by simp only [MO.owned, List.mem_singleton] at ha; subst ha; exact ⟨o, e⟩
  | .pin _ _, _, a, ha => by simp [MO.owned] at ha
  | .dep a' R _, ⟨o, e, _⟩, a, ha => by simp only [MO.owned, List.mem_singleton] at ha; subst ha; exact ⟨o, e⟩

structure St (B : Shared) (F : List Addr) (T : List (Value × D)) (μ : List MO) (s : Shared) : Prop where
  ex : ∃ φ : FM, (∀ a o, B.heap.get? a = some o → φ a = some o) ∧ (∀ a o, φ a = some o → s.heap.get? a = some o) ∧
    (∀ x ∈ μ, x.holds φ s.heap) ∧ (∀ x ∈ μ, ∀ a ∈ x.owned, φ a = none) ∧ (μ.flatMap MO.owned).Nodup ∧ ∀ p ∈ T, Rep φ p.1 p.2
  os : s.os = B.os
  gf : s.gens = #[] ∧ ∀ L ∈ F, L ∈ μ.filterMap MO.fr

theorem St.stays {B : Shared} {F : List Addr} {T μ s} (h : St B F T μ s) : B.heap.StaysIn s.heap := by
  obtain ⟨⟨φ, h1, h2, _⟩, _, _⟩ := h
  exact fun b o e => h2 b o (h1 b o e)
theorem St.sub {B : Shared} {F : List Addr} {T T' μ s} (h : St B F T μ s) (k : ∀ p ∈ T', p ∈ T) : St B F T' μ s := by
  obtain ⟨⟨φ, h1, h2, h3, h4, h5, h6⟩, ho, hg⟩ := h
  exact ⟨⟨φ, h1, h2, h3, h4, h5, fun p hp => h6 p (k p hp)⟩, ho, hg⟩
theorem St.tail {B : Shared} {F : List Addr} {p T μ s} (h : St B F (p :: T) μ s) : St B F T μ s := h.sub fun _ => .tail _
theorem St.toks {B : Shared} {F : List Addr} {T μ s} (h : St B F T μ s) (t : Nat) : St B F T μ { s with toks := t } := ⟨h.ex, h.os, h.gf⟩
theorem St.add {B : Shared} {F : List Addr} {T μ s} {v : Value} {d : D} (h : St B F T μ s) (r : ∀ φ, Rep φ v d) : St B F ((v, d) :: T) μ s := by
  obtain ⟨⟨φ, h1, h2, h3, h4, h5, h6⟩, ho, hg⟩ := h
  exact ⟨⟨φ, h1, h2, h3, h4, h5, fun p hp => by rcases List.mem_cons.mp hp with rfl | hp; exact r φ; exact h6 p hp⟩, ho, hg⟩
theorem sub_owned {μ μ' : List MO} (k : List.Sublist μ' μ) : List.Sublist (μ'.flatMap MO.owned) (μ.flatMap MO.owned) := by
  induction k with
  | slnil => simp
  | cons a _ ih => simp only [List.flatMap_cons]; exact ih.trans (List.sublist_append_right _ _)
  | cons_cons a _ ih => simp only [List.flatMap_cons]; exact (List.Sublist.refl _).append ih
theorem St.forget {B : Shared} {F F' : List Addr} {T μ μ' s} (h : St B F T μ s) (k : List.Sublist μ' μ) (kf : ∀ L ∈ F', L ∈ μ'.filterMap MO.fr) : St B F' T μ' s := by
  obtain ⟨⟨φ, h1, h2, h3, h4, h5, h6⟩, ho, hg⟩ := h
  exact ⟨⟨φ, h1, h2, fun x hx => h3 x (k.subset hx), fun x hx => h4 x (k.subset hx), (sub_owned k).nodup h5, h6⟩, ho, hg.1, kf⟩
theorem St.perm {B : Shared} {F : List Addr} {T μ μ' s} (h : St B F T μ s) (k : μ'.Perm μ) : St B F T μ' s := by
  obtain ⟨⟨φ, h1, h2, h3, h4, h5, h6⟩, ho, hg⟩ := h
  refine ⟨⟨φ, h1, h2, fun x hx => h3 x (k.subset hx), fun x hx => h4 x (k.subset hx), (k.flatMap_right _).nodup_iff.mpr h5, h6⟩, ho, hg.1, fun L hL => ?_⟩
  obtain ⟨x, hx, e⟩ := List.mem_filterMap.mp (hg.2 L hL)
  exact List.mem_filterMap.mpr ⟨x, k.symm.subset hx, e⟩
theorem St.grown {B : Shared} {F : List Addr} {T μ s h'} (h : St B F T μ s) (k : s.heap.StaysIn h') (t : Nat) : St B F T μ { s with heap := h', toks := t } := by
  obtain ⟨⟨φ, h1, h2, h3, h4, h5, h6⟩, ho, hg⟩ := h
  refine ⟨⟨φ, h1, fun a o e => k a o (h2 a o e), fun x hx => MO.holds_turned (S := []) (fun _ _ e => e) (fun b o _ e => k b o e) (h3 x hx) (by simp), h4, h5, h6⟩, ho, hg⟩

theorem St.frozen {B : Shared} {F : List Addr} {T μ s d} {o : Obj} (h : St B F T μ s) (hf : o.isFreed = false) (t : Nat)
    (r : ∀ φ : FM, (∀ p ∈ T, Rep φ p.1 p.2) → φ s.heap.objs.size = some o → Rep φ (.ref s.heap.objs.size) d) : St B F ((.ref s.heap.objs.size, d) :: T) μ { s with heap := s.heap.push o, toks := t } := by
  obtain ⟨⟨φ, h1, h2, h3, h4, h5, h6⟩, ho, hg⟩ := h
  have new : φ s.heap.objs.size = none := by
    cases q : φ s.heap.objs.size with
    | none => rfl
    | some o' => exact absurd (Heap.lt_size (h2 _ _ q)) (Nat.lt_irrefl _)
  let ψ : FM := fun a => if a = s.heap.objs.size then some o else φ a
  have kψ : FM.le φ ψ := fun a o' e => by
    show (if a = s.heap.objs.size then some o else φ a) = some o'
    rw [if_neg (fun q => by rw [q, new] at e; cases e)]; exact e
  have kn : ∀ a, (s.heap.get? a).isSome → ψ a = φ a := fun a ha => by
    obtain ⟨oa, ha⟩ := Option.isSome_iff_exists.mp ha
    exact if_neg (fun q => by rw [q] at ha; exact absurd (Heap.lt_size ha) (Nat.lt_irrefl _))
  have lt : ∀ x ∈ μ, ∀ a ∈ x.owned, (s.heap.get? a).isSome := fun x hx a ha => by
    obtain ⟨o, e⟩ := MO.holds_there (h3 x hx) a ha; rw [e]; rfl
  refine ⟨⟨ψ, fun a o' e => kψ a o' (h1 a o' e), fun a o' e => ?_, fun x hx => ?_, fun x hx a ha => (kn a (lt x hx a ha)).trans (h4 x hx a ha), h5, fun p hp => ?_⟩, ho, hg⟩
  · by_cases q : a = s.heap.objs.size
    · subst q
      have : some o = some o' := by rw [← e]; exact (if_pos rfl).symm
      cases this; exact Heap.get?_push_size _ hf
    · have e' : φ a = some o' := by rw [← e]; exact (if_neg q).symm
      exact Heap.get?_push_of_some _ (h2 a o' e')
  · exact MO.holds_turned (S := []) kψ (Turned.push _ _) (h3 x hx) (by simp)
  · rcases List.mem_cons.mp hp with rfl | hp
    · exact r ψ (fun p hp => (h6 p hp).mono kψ) (if_pos rfl)
    · exact (h6 p hp).mono kψ

end Mine

open PySem PyProof.Rows
set_option linter.unusedVariables false
namespace Mine

structure Cx where
  prog : Program
  w : World
  A : Around
  B : Shared
  F : List Addr
abbrev Cx.M (C : Cx) : Model := model C.prog C.w
abbrev Post := D → List MO → Prop
abbrev XPost := Value → List MO → Prop

def TrT (C : Cx) (T : List (Value × D)) (μ : List MO) (t : Sem Value) (P : Post) (X : XPost) : Prop :=
  ∀ ρ s (Q E : Value → Shared → Prop), St C.B C.F T (μ ++ ρ) s → (∀ v d μ' s', P d μ' → St C.B C.F ((v, d) :: T) (μ' ++ ρ) s' → Q v s') → (∀ e c tb μ' s', X c μ' → St C.B C.F T (.exc e c tb :: (μ' ++ ρ)) s' → E (.ref e) s') → wpAny C.M C.A t Q E s
def TrV (C : Cx) (μ : List MO) (t : Sem Value) (P : Post) (X : XPost) : Prop := ∀ T, TrT C T μ t P X
def TrB (C : Cx) (μ : List MO) (t : Sem Bool) (P : Bool → List MO → Prop) (X : XPost) : Prop :=
  ∀ T ρ s (Q : Bool → Shared → Prop) (E : Value → Shared → Prop), St C.B C.F T (μ ++ ρ) s → (∀ b μ' s', P b μ' → St C.B C.F T (μ' ++ ρ) s' → Q b s') → (∀ e c tb μ' s', X c μ' → St C.B C.F T (.exc e c tb :: (μ' ++ ρ)) s' → E (.ref e) s') → wpAny C.M C.A t Q E s
def TrU (C : Cx) (T : List (Value × D)) (μ : List MO) (t : Sem Unit) (P : List MO → Prop) (X : XPost) : Prop :=
  ∀ ρ s (Q : Unit → Shared → Prop) (E : Value → Shared → Prop), St C.B C.F T (μ ++ ρ) s → (∀ μ' s', P μ' → St C.B C.F T (μ' ++ ρ) s' → Q () s') → (∀ e c tb μ' s', X c μ' → St C.B C.F T (.exc e c tb :: (μ' ++ ρ)) s' → E (.ref e) s') → wpAny C.M C.A t Q E s
inductive Fw where
  | next | brk | cont
  | ret (d : D)
def FwSt (B : Shared) (F : List Addr) (T : List (Value × D)) (μ : List MO) (s : Shared) : Flow → Fw → Prop
  | .next, .next => St B F T μ s
  | .brk, .brk => St B F T μ s
  | .cont, .cont => St B F T μ s
  | .ret v, .ret d => St B F ((v, d) :: T) μ s
  | _, _ => False
def TrF (C : Cx) (μ : List MO) (t : Sem Flow) (P : Fw → List MO → Prop) (X : XPost) : Prop :=
  ∀ T ρ s (Q : Flow → Shared → Prop) (E : Value → Shared → Prop), St C.B C.F T (μ ++ ρ) s → (∀ f fl μ' s', P fl μ' → FwSt C.B C.F T (μ' ++ ρ) s' f fl → Q f s') → (∀ e c tb μ' s', X c μ' → St C.B C.F T (.exc e c tb :: (μ' ++ ρ)) s' → E (.ref e) s') → wpAny C.M C.A t Q E s

def Ev (C : Cx) (env : Env) (μ : List MO) (e : Expr) (P : Post) (X : XPost) : Prop := TrV C μ (eval e env) P X
def Te (C : Cx) (env : Env) (μ : List MO) (e : Expr) (P : Bool → List MO → Prop) (X : XPost) : Prop := TrB C μ (isTrue e env (eval e env)) P X
def Ex (C : Cx) (env : Env) (μ : List MO) (ss : List Stmt) (P : Fw → List MO → Prop) (X : XPost) : Prop := TrF C μ (execs ss env) P X
def Ex1 (C : Cx) (env : Env) (μ : List MO) (st : Stmt) (P : Fw → List MO → Prop) (X : XPost) : Prop := TrF C μ (exec st env) P X
def Bin (C : Cx) (op : Operator) (d1 d2 : D) (μ : List MO) (P : Post) (X : XPost) : Prop := ∀ T a b, (a, d1) ∈ T → (b, d2) ∈ T → TrT C T μ (binaryOp op a b) P X
def Cmp (C : Cx) (op : CmpOp) (d1 d2 : D) (μ : List MO) (P : Bool → List MO → Prop) (X : XPost) : Prop := ∀ T a b, (a, d1) ∈ T → (b, d2) ∈ T → TrT C T μ (compareOp op a b) (fun d μ' => ∃ c, d = .bool c ∧ P c μ') X
def Ca (C : Cx) (f : Value) (ds : List D) (μ : List MO) (P : Post) (X : XPost) : Prop := ∀ T vs, vs.length = ds.length → (∀ p ∈ vs.zip ds, p ∈ T) → TrT C T μ (call f vs) P X
def EvL (C : Cx) (env : Env) : List MO → List Expr → (List D → List MO → Prop) → XPost → Prop
  | μ, [], P, _ => P [] μ
  | μ, e :: es, P, X => Ev C env μ e (fun d μ1 => EvL C env μ1 es (fun ds μ2 => P (d :: ds) μ2) X) X

theorem Rep.val_inv {φ : FM} {v x : Value} (h : Rep φ v (.val x)) : v = x := by
  have aux : ∀ {v d}, Rep φ v d → ∀ x, d = .val x → v = x := by
    intro v d h x e
    cases h <;> first | (injection e) | cases e
  exact aux h x rfl
section
variable {C : Cx} {env : Env} {μ : List MO} {P : Post} {X : XPost}

theorem TrT.mono {T t} {P' : Post} {X' : XPost} (h : TrT C T μ t P X) (hP : ∀ d μ', P d μ' → P' d μ') (hX : ∀ d μ', X d μ' → X' d μ') : TrT C T μ t P' X' :=
  fun ρ s Q E st hQ hE => h ρ s Q E st (fun v d μ' s' p => hQ v d μ' s' (hP d μ' p)) fun e c t μ' s' x => hE e c t μ' s' (hX c μ' x)
theorem TrV.mono {t} {P' : Post} {X' : XPost} (h : TrV C μ t P X) (hP : ∀ d μ', P d μ' → P' d μ') (hX : ∀ d μ', X d μ' → X' d μ') : TrV C μ t P' X' := fun T => (h T).mono hP hX
theorem TrF.mono {t} {P P' : Fw → List MO → Prop} {X' : XPost} (h : TrF C μ t P X) (hP : ∀ d μ', P d μ' → P' d μ') (hX : ∀ d μ', X d μ' → X' d μ') : TrF C μ t P' X' :=
  fun T ρ s Q E st hQ hE => h T ρ s Q E st (fun f v μ' s' p => hQ f v μ' s' (hP v μ' p)) fun e c t μ' s' x => hE e c t μ' s' (hX c μ' x)
theorem St.drop2 {B : Shared} {F : List Addr} {p q : Value × D} {T s} (h : St B F (p :: q :: T) μ s) : St B F (p :: T) μ s :=
  h.sub fun x hx => by rcases List.mem_cons.mp hx with rfl | hx; exact .head _; exact .tail _ (.tail _ hx)
theorem St.keepHead {B : Shared} {F : List Addr} {p : Value × D} {T T' : List (Value × D)} {s} (h : St B F (p :: T) μ s) (k : ∀ q ∈ T', q ∈ T) : St B F (p :: T') μ s :=
  h.sub fun x hx => by rcases List.mem_cons.mp hx with rfl | hx; exact .head _; exact .tail _ (k x hx)

theorem St.isInt {B : Shared} {F : List Addr} {T s a i} (h : St B F T μ s) (m : (a, D.int i) ∈ T) : ∃ t, a = .int i t := by
  obtain ⟨⟨φ, _, _, _, _, _, h6⟩, _, _⟩ := h
  have := h6 _ m; cases this; exact ⟨_, rfl⟩
theorem St.isBool {B : Shared} {F : List Addr} {T s a i} (h : St B F T μ s) (m : (a, D.bool i) ∈ T) : a = .bool i := by
  obtain ⟨⟨φ, _, _, _, _, _, h6⟩, _, _⟩ := h
  have := h6 _ m; cases this; rfl
theorem St.isNone {B : Shared} {F : List Addr} {T s a} (h : St B F T μ s) (m : (a, D.none) ∈ T) : a = .none := by
  obtain ⟨⟨φ, _, _, _, _, _, h6⟩, _, _⟩ := h
  have := h6 _ m; cases this; rfl
theorem St.isStr {B : Shared} {F : List Addr} {T s a x} (h : St B F T μ s) (m : (a, D.str x) ∈ T) : ∃ t, a = .str x t := by
  obtain ⟨⟨φ, _, _, _, _, _, h6⟩, _, _⟩ := h
  have := h6 _ m; cases this; exact ⟨_, rfl⟩
theorem St.isVal {B : Shared} {F : List Addr} {T s a x} (h : St B F T μ s) (m : (a, D.val x) ∈ T) : a = x := by
  obtain ⟨⟨φ, _, _, _, _, _, h6⟩, _, _⟩ := h
  exact Rep.val_inv (h6 _ m)
theorem St.isRef {B : Shared} {F : List Addr} {T s a x} (h : St B F T μ s) (m : (a, D.ref x) ∈ T) : a = .ref x := by
  obtain ⟨⟨φ, _, _, _, _, _, h6⟩, _, _⟩ := h
  have := h6 _ m; cases this; rfl

theorem rInt (i : Int) (t : Tok) : ∀ φ, Rep φ (.int i t) (.int i) := fun _ => .int i t
theorem rBool (b : Bool) : ∀ φ, Rep φ (.bool b) (.bool b) := fun _ => .bool b
theorem rStr (x : Str) (t : Tok) : ∀ φ, Rep φ (.str x t) (.str x) := fun _ => .str x t
theorem rNone : ∀ φ, Rep φ .none .none := fun _ => .none

theorem ev_int {i : Int} {k : Nat} {pos : Pos} (h : P (.int i) μ) : Ev C env μ (.Constant (.int i) k pos) P X :=
  fun _ _ _ _ _ st hQ _ => wpAny_Constant_int (hQ _ _ _ _ h ((st.toks _).add (rInt _ _)))
theorem ev_bool {b : Bool} {k : Nat} {pos : Pos} (h : P (.bool b) μ) : Ev C env μ (.Constant (.bool b) k pos) P X :=
  fun _ _ _ _ _ st hQ _ => wpAny_Constant_bool (hQ _ _ _ _ h (st.add (rBool _)))
theorem ev_none {k : Nat} {pos : Pos} (h : P .none μ) : Ev C env μ (.Constant .none k pos) P X :=
  fun _ _ _ _ _ st hQ _ => wpAny_Constant_none (hQ _ _ _ _ h (st.add rNone))
theorem ev_str {x : Str} {k : Nat} {pos : Pos} (h : P (.str x) μ) : Ev C env μ (.Constant (.str x) k pos) P X :=
  fun _ _ _ _ _ st hQ _ => Calls.Constant_str (hQ _ _ _ _ h ((st.toks _).add (rStr _ _)))

theorem ev_local {x : Str} {pos : Pos} {d : D} {L : Addr} {kn : List (Str × NameKind)} {ns : List Str} {vs : List (Option D)} {μ' : List MO} (hk : env.scope.kind = .function) (hl : env.kindOf x = some .local) (hL : env.locals = L) (hc : (cellsK L kn).lookup x = none) (hm : Look x d ns vs)
    (h : P d (.frame L kn ns vs :: μ')) (hd : (x == ("__debug__" : Str)) = false) : Ev C env (.frame L kn ns vs :: μ') (.Name x pos) P X := by
  intro T ρ s Q E st hQ hE
  have st' := st
  obtain ⟨⟨φ, h1, h2, h3, h4, h5, h6⟩, ho, hg⟩ := st'
  obtain ⟨mv, hn, hmv, hcs⟩ := h3 _ (.head _)
  obtain ⟨v, r, hv⟩ := hmv x d hm
  rw [hc] at hv
  refine wpAny_Name (wpAny_loadName_local hk hl (hL ▸ hn) hv (hQ v d _ s h ⟨⟨φ, h1, h2, h3, h4, h5, fun p hp => ?_⟩, ho, hg⟩)) hd
  rcases List.mem_cons.mp hp with rfl | hp
  · exact r
  · exact h6 p hp
theorem ev_cell {x : Str} {pos : Pos} {d : D} {L c : Addr} {kn : List (Str × NameKind)} {ns : List Str} {vs : List (Option D)} (hk : env.scope.kind = .function) (hl : env.kindOf x = some .cell) (hc : env.cells.lookup x = some c) (hf : MO.frame L kn ns vs ∈ μ) (hcs : (cellsK L kn).lookup x = some c) (hm : Look x d ns vs)
    (h : P d μ) (hd : (x == ("__debug__" : Str)) = false) : Ev C env μ (.Name x pos) P X := by
  intro T ρ s Q E st hQ hE
  have st' := st
  obtain ⟨⟨φ, h1, h2, h3, h4, h5, h6⟩, ho, hg⟩ := st'
  obtain ⟨mv, hn, hmv, _⟩ := h3 _ (List.mem_append_left _ hf)
  obtain ⟨v, r, hv⟩ := hmv x d hm
  rw [hcs] at hv
  refine wpAny_Name (wpAny_loadName_cell hk hl hc hv (hQ v d _ s h ⟨⟨φ, h1, h2, h3, h4, h5, fun p hp => ?_⟩, ho, hg⟩)) hd
  rcases List.mem_cons.mp hp with rfl | hp
  · exact r
  · exact h6 p hp
theorem ev_global {x : Str} {pos : Pos} {d : D} {v : Value} {mg : Str → Option Value} (hk : env.scope.kind = .function) (hl : env.kindOf x = some .globalImplicit) (hg : C.B.heap.Ns env.globals mg) (hv : mg x = some v) (hr : ∀ φ, Rep φ v d)
    (h : P d μ) (hd : (x == ("__debug__" : Str)) = false := by decide) : Ev C env μ (.Name x pos) P X :=
  fun _ _ _ _ _ st hQ _ => Calls.Name_function_global hk hl (Calls.loadGlobal_global (hg.keeps st.stays) hv (hQ _ _ _ _ h (st.add hr))) hd
theorem ev_builtin {x : Str} {pos : Pos} {v : Value} {mg mb : Str → Option Value} (hk : env.scope.kind = .function) (hl : env.kindOf x = some .globalImplicit) (hg : C.B.heap.Ns env.globals mg) (hmiss : mg x = none) (hb : C.B.heap.Ns env.builtins mb) (hv : mb x = some v)
    (h : P (.val v) μ) (hd : (x == ("__debug__" : Str)) = false := by decide) : Ev C env μ (.Name x pos) P X :=
  fun _ _ _ _ _ st hQ _ => Calls.Name_function_global hk hl (Calls.loadGlobal_builtin (hg.keeps st.stays) hmiss (hb.keeps st.stays) hv (hQ _ _ _ _ h (st.add fun _ => .val v))) hd

theorem ev_BinOp {l r : Expr} {op : Operator} {pos : Pos} (h : Ev C env μ l (fun d1 μ1 => Ev C env μ1 r (fun d2 μ2 => Bin C op d1 d2 μ2 P X) X) X) : Ev C env μ (.BinOp l op r pos) P X :=
  fun T ρ _ _ _ st hQ hE => wpAny_BinOp (h T ρ _ _ _ st (fun a d1 μ1 s1 h1 st1 => h1 ((a, d1) :: T) ρ s1 _ _ st1
    (fun b d2 μ2 s2 h2 st2 => h2 _ a b (.tail _ (.head _)) (.head _) ρ s2 _ _ st2 (fun v d μ' s' p st' => hQ v d μ' s' p (st'.keepHead fun _ hq => .tail _ (.tail _ hq))) fun e c t μ' s' x st' => hE e c t μ' s' x (st'.sub fun _ hq => .tail _ (.tail _ hq)))
    fun e c t μ' s' x st' => hE e c t μ' s' x st'.tail) hE)

theorem bin_add {a b : Int} (h : P (.int (a + b)) μ) : Bin C .Add (.int a) (.int b) μ P X := fun _ _ _ ha hb _ _ _ _ st hQ _ => by
  obtain ⟨t, rfl⟩ := st.isInt ha; obtain ⟨u, rfl⟩ := st.isInt hb
  exact add_int (hQ _ _ _ _ h ((st.toks _).add (rInt _ _)))
theorem bin_sub {a b : Int} (h : P (.int (a - b)) μ) : Bin C .Sub (.int a) (.int b) μ P X := fun _ _ _ ha hb _ _ _ _ st hQ _ => by
  obtain ⟨t, rfl⟩ := st.isInt ha; obtain ⟨u, rfl⟩ := st.isInt hb
  exact sub_int (hQ _ _ _ _ h ((st.toks _).add (rInt _ _)))
theorem bin_mul {a b : Int} (hm : IntMulOk a b) (h : P (.int (a * b)) μ) : Bin C .Mult (.int a) (.int b) μ P X := fun _ _ _ ha hb _ _ _ _ st hQ _ => by
  obtain ⟨t, rfl⟩ := st.isInt ha; obtain ⟨u, rfl⟩ := st.isInt hb
  exact mul_int (hQ _ _ _ _ h ((st.toks _).add (rInt _ _))) hm
theorem bin_mod {a b : Int} (hb0 : b ≠ 0) (h : P (.int (a.fmod b)) μ) : Bin C .Mod (.int a) (.int b) μ P X := fun _ _ _ ha hb _ _ _ _ st hQ _ => by
  obtain ⟨t, rfl⟩ := st.isInt ha; obtain ⟨u, rfl⟩ := st.isInt hb
  exact mod_int hb0 (hQ _ _ _ _ h ((st.toks _).add (rInt _ _)))
theorem bin_div {a b : Int} (hb0 : b ≠ 0) (hbs : b.natAbs < 1073741824) (h : P (.int (a.fdiv b)) μ) : Bin C .FloorDiv (.int a) (.int b) μ P X := fun _ _ _ ha hb _ _ _ _ st hQ _ => by
  obtain ⟨t, rfl⟩ := st.isInt ha; obtain ⟨u, rfl⟩ := st.isInt hb
  exact floordiv_int hb0 (hQ _ _ _ _ h ((st.toks _).add (rInt _ _))) (.inl (PyProof.noPylong_small hbs))
theorem bin_shl {a b : Int} (hn : 0 ≤ b) (hn2 : b ≤ 1000000) (hs : a.natAbs < 2 ^ 64) (h : P (.int (a * 2 ^ b.toNat)) μ) : Bin C .LShift (.int a) (.int b) μ P X := fun _ _ _ ha hb _ _ _ _ st hQ _ => by
  obtain ⟨t, rfl⟩ := st.isInt ha; obtain ⟨u, rfl⟩ := st.isInt hb
  exact lshift_int_small hn hn2 hs (hQ _ _ _ _ h ((st.toks _).add (rInt _ _)))
theorem bin_shr {a b : Int} (hn : 0 ≤ b) (h : P (.int (a.fdiv (2 ^ b.toNat))) μ) : Bin C .RShift (.int a) (.int b) μ P X := fun _ _ _ ha hb _ _ _ _ st hQ _ => by
  obtain ⟨t, rfl⟩ := st.isInt ha; obtain ⟨u, rfl⟩ := st.isInt hb
  exact rshift_int hn (hQ _ _ _ _ h ((st.toks _).add (rInt _ _)))

theorem cmp_lt {a b : Int} {P : Bool → List MO → Prop} (h : P (decide (a < b)) μ) : Cmp C .Lt (.int a) (.int b) μ P X := fun _ _ _ ha hb _ _ _ _ st hQ _ => by
  obtain ⟨t, rfl⟩ := st.isInt ha; obtain ⟨u, rfl⟩ := st.isInt hb
  exact lt_int (hQ _ _ _ _ ⟨_, rfl, h⟩ (st.add (rBool _)))
theorem cmp_gt {a b : Int} {P : Bool → List MO → Prop} (h : P (decide (b < a)) μ) : Cmp C .Gt (.int a) (.int b) μ P X := fun _ _ _ ha hb _ _ _ _ st hQ _ => by
  obtain ⟨t, rfl⟩ := st.isInt ha; obtain ⟨u, rfl⟩ := st.isInt hb
  exact gt_int (hQ _ _ _ _ ⟨_, rfl, h⟩ (st.add (rBool _)))
theorem cmp_le {a b : Int} {P : Bool → List MO → Prop} (h : P (decide (a ≤ b)) μ) : Cmp C .LtE (.int a) (.int b) μ P X := fun _ _ _ ha hb _ _ _ _ st hQ _ => by
  obtain ⟨t, rfl⟩ := st.isInt ha; obtain ⟨u, rfl⟩ := st.isInt hb
  exact le_int (hQ _ _ _ _ ⟨_, rfl, h⟩ (st.add (rBool _)))
theorem cmp_ge {a b : Int} {P : Bool → List MO → Prop} (h : P (decide (b ≤ a)) μ) : Cmp C .GtE (.int a) (.int b) μ P X := fun _ _ _ ha hb _ _ _ _ st hQ _ => by
  obtain ⟨t, rfl⟩ := st.isInt ha; obtain ⟨u, rfl⟩ := st.isInt hb
  exact ge_int (hQ _ _ _ _ ⟨_, rfl, h⟩ (st.add (rBool _)))
theorem cmp_eq {a b : Int} {P : Bool → List MO → Prop} (h : P (a == b) μ) : Cmp C .Eq (.int a) (.int b) μ P X := fun _ _ _ ha hb _ _ _ _ st hQ _ => by
  obtain ⟨t, rfl⟩ := st.isInt ha; obtain ⟨u, rfl⟩ := st.isInt hb
  exact eq_int (hQ _ _ _ _ ⟨_, rfl, h⟩ (st.add (rBool _)))
theorem cmp_ne {a b : Int} {P : Bool → List MO → Prop} (h : P (a != b) μ) : Cmp C .NotEq (.int a) (.int b) μ P X := fun _ _ _ ha hb _ _ _ _ st hQ _ => by
  obtain ⟨t, rfl⟩ := st.isInt ha; obtain ⟨u, rfl⟩ := st.isInt hb
  exact ne_int (hQ _ _ _ _ ⟨_, rfl, h⟩ (st.add (rBool _)))

theorem ev_Compare {l r : Expr} {op : CmpOp} {pos : Pos} (h : Ev C env μ l (fun d1 μ1 => Ev C env μ1 r (fun d2 μ2 => Cmp C op d1 d2 μ2 (fun c => P (.bool c)) X) X) X) (hm : behindInMarks op r = false) : Ev C env μ (.Compare l [op] [r] pos) P X :=
  fun T ρ _ _ _ st hQ hE => wpAny_Compare1 (h T ρ _ _ _ st (fun a d1 μ1 s1 h1 st1 => h1 ((a, d1) :: T) ρ s1 _ _ st1
    (fun b d2 μ2 s2 h2 st2 => h2 _ a b (.tail _ (.head _)) (.head _) ρ s2 _ _ st2 (fun v d μ' s' ⟨c, hc, p⟩ st' => hQ v d μ' s' (hc ▸ p) (st'.keepHead fun _ hq => .tail _ (.tail _ hq))) fun e c t μ' s' x st' => hE e c t μ' s' x (st'.sub fun _ hq => .tail _ (.tail _ hq)))
    fun e c t μ' s' x st' => hE e c t μ' s' x st'.tail) hE) hm
theorem te_Compare {l r : Expr} {op : CmpOp} {pos : Pos} {P : Bool → List MO → Prop} (h : Ev C env μ l (fun d1 μ1 => Ev C env μ1 r (fun d2 μ2 => Cmp C op d1 d2 μ2 P X) X) X) (hm : behindInMarks op r = false) : Te C env μ (.Compare l [op] [r] pos) P X :=
  fun T ρ _ _ _ st hQ hE => wpAny_isTrue_Compare1 (h T ρ _ _ _ st (fun a d1 μ1 s1 h1 st1 => h1 ((a, d1) :: T) ρ s1 _ _ st1
    (fun b d2 μ2 s2 h2 st2 => h2 _ a b (.tail _ (.head _)) (.head _) ρ s2 _ _ st2 (fun v d μ' s' ⟨c, hc, p⟩ st' => by
      subst hc
      have e := st'.isBool (.head _); subst e
      exact wpAny_truthy_bool (hQ c μ' s' p (st'.sub fun _ hq => .tail _ (.tail _ (.tail _ hq)))))
      fun e c t μ' s' x st' => hE e c t μ' s' x (st'.sub fun _ hq => .tail _ (.tail _ hq)))
    fun e c t μ' s' x st' => hE e c t μ' s' x st'.tail) hE) hm

theorem te_Not {x : Expr} {pos : Pos} {P : Bool → List MO → Prop} (h : Te C env μ x (fun b μ1 => P (!b) μ1) X) : Te C env μ (.UnaryOp .Not x pos) P X :=
  fun T ρ _ _ _ st hQ hE => wpAny_isTrue_Not (h T ρ _ _ _ st (fun b μ' s' p st' => hQ _ μ' s' p st') hE)
theorem te_value {e : Expr} {P : Bool → List MO → Prop} (h : Ev C env μ e (fun d μ1 => ∃ b, d = .bool b ∧ P b μ1) X)
    (he : isTrue e env (eval e env) = (do let v ← eval e env; standAt e.pos; holding [v] (truthy v))) : Te C env μ e P X :=
  fun T ρ _ _ _ st hQ hE => wpAny_isTrue_value (h T ρ _ _ _ st (fun v d μ' s' ⟨b, hb, p⟩ st' => by
    subst hb
    have e := st'.isBool (.head _); subst e
    exact wpAny_truthy_bool (hQ b μ' s' p st'.tail)) hE) he
def TeL (C : Cx) (env : Env) (op : BoolOp) (μ : List MO) (es : List Expr) (P : Bool → List MO → Prop) (X : XPost) : Prop := TrB C μ (allTrue op es env) P X
theorem te_BoolOp {op : BoolOp} {es : List Expr} {pos : Pos} {P : Bool → List MO → Prop} (h : TeL C env op μ es P X) : Te C env μ (.BoolOp op es pos) P X :=
  fun T ρ _ _ _ st hQ hE => wpAny_isTrue_BoolOp (h T ρ _ _ _ st hQ hE)
theorem tel_and_nil {P : Bool → List MO → Prop} (h : P true μ) : TeL C env .And μ [] P X := fun _ _ _ _ _ st hQ _ => wpAny_allTrue_And_nil (hQ _ _ _ h st)
theorem tel_or_nil {P : Bool → List MO → Prop} (h : P false μ) : TeL C env .Or μ [] P X := fun _ _ _ _ _ st hQ _ => wpAny_allTrue_Or_nil (hQ _ _ _ h st)
theorem tel_and {e : Expr} {es : List Expr} {P : Bool → List MO → Prop} (h : Te C env μ e (fun b μ1 => (b = true → TeL C env .And μ1 es P X) ∧ (b = false → P false μ1)) X) : TeL C env .And μ (e :: es) P X :=
  fun T ρ _ _ _ st hQ hE => wpAny_allTrue_And_cons (h T ρ _ _ _ st (fun b μ' s' p st' => by
    cases b with
    | true => exact p.1 rfl T ρ s' _ _ st' hQ hE
    | false => exact hQ _ _ _ (p.2 rfl) st') hE)
theorem tel_or {e : Expr} {es : List Expr} {P : Bool → List MO → Prop} (h : Te C env μ e (fun b μ1 => (b = true → P true μ1) ∧ (b = false → TeL C env .Or μ1 es P X)) X) : TeL C env .Or μ (e :: es) P X :=
  fun T ρ _ _ _ st hQ hE => wpAny_allTrue_Or_cons (h T ρ _ _ _ st (fun b μ' s' p st' => by
    cases b with
    | true => exact hQ _ _ _ (p.1 rfl) st'
    | false => exact p.2 rfl T ρ s' _ _ st' hQ hE) hE)

def EvB (C : Cx) (env : Env) (op : BoolOp) (pos : Pos) (μ : List MO) (es : List Expr) (P : Post) (X : XPost) : Prop := TrV C μ (boolOp pos op (evalEach es env)) P X
theorem ev_BoolOp {op : BoolOp} {es : List Expr} {pos : Pos} (h : EvB C env op pos μ es P X) : Ev C env μ (.BoolOp op es pos) P X := h
theorem evb_one {op : BoolOp} {e : Expr} {pos : Pos} (h : Ev C env μ e P X) : EvB C env op pos μ [e] P X := h
theorem evb_and {e e' : Expr} {es : List Expr} {pos : Pos} (h : Ev C env μ e (fun d μ1 => ∃ b, d = .bool b ∧ (b = true → EvB C env .And pos μ1 (e' :: es) P X) ∧ (b = false → P (.bool false) μ1)) X) : EvB C env .And pos μ (e :: e' :: es) P X := by
  intro T ρ s Q E st hQ hE
  show wpAny C.M C.A (do let v ← eval e env; standAt pos; let t ← holding [v] (truthy v); match BoolOp.And, t with | .And, false | .Or, true => pure v | _, _ => boolOp pos .And (evalEach (e' :: es) env)) Q E s
  refine wpAny_bind (h T ρ _ _ _ st (fun v d μ' s' ⟨b, hb, p⟩ st' => ?_) hE)
  subst hb
  have e := st'.isBool (.head _); subst e
  refine wpAny_bind (wpAny_standAt (wpAny_bind (wpAny_holding (wpAny_truthy_bool ?_))))
  cases b with
  | true => exact p.1 rfl T ρ s' _ _ st'.tail hQ hE
  | false => exact wpAny_pure (hQ _ _ _ _ (p.2 rfl) st')
theorem evb_or {e e' : Expr} {es : List Expr} {pos : Pos} (h : Ev C env μ e (fun d μ1 => ∃ b, d = .bool b ∧ (b = true → P (.bool true) μ1) ∧ (b = false → EvB C env .Or pos μ1 (e' :: es) P X)) X) : EvB C env .Or pos μ (e :: e' :: es) P X := by
  intro T ρ s Q E st hQ hE
  show wpAny C.M C.A (do let v ← eval e env; standAt pos; let t ← holding [v] (truthy v); match BoolOp.Or, t with | .And, false | .Or, true => pure v | _, _ => boolOp pos .Or (evalEach (e' :: es) env)) Q E s
  refine wpAny_bind (h T ρ _ _ _ st (fun v d μ' s' ⟨b, hb, p⟩ st' => ?_) hE)
  subst hb
  have e := st'.isBool (.head _); subst e
  refine wpAny_bind (wpAny_standAt (wpAny_bind (wpAny_holding (wpAny_truthy_bool ?_))))
  cases b with
  | false => exact p.2 rfl T ρ s' _ _ st'.tail hQ hE
  | true => exact wpAny_pure (hQ _ _ _ _ (p.1 rfl) st')
theorem ev_Not {x : Expr} {pos : Pos} (h : Ev C env μ x (fun d μ1 => ∃ b, d = .bool b ∧ P (.bool (!b)) μ1) X) : Ev C env μ (.UnaryOp .Not x pos) P X :=
  fun T ρ _ _ _ st hQ hE => wpAny_UnaryOp (h T ρ _ _ _ st (fun v d μ' s' ⟨b, hb, p⟩ st' => by
    subst hb
    have e := st'.isBool (.head _); subst e
    exact not_of (wpAny_truthy_bool (hQ _ _ _ _ p (st'.tail.add (rBool _))))) hE)

theorem ex_nil {P : Fw → List MO → Prop} (h : P .next μ) : Ex C env μ [] P X := fun _ _ _ _ _ st hQ _ => wpAny_execs_nil (hQ .next .next _ _ h st)
theorem ex_cons {st : Stmt} {ss : List Stmt} {P : Fw → List MO → Prop} (h : Ex1 C env μ st (fun fl μ1 => match fl with | .next => Ex C env μ1 ss P X | fl => P fl μ1) X) : Ex C env μ (st :: ss) P X :=
  fun T ρ _ _ _ st hQ hE => wpAny_execs_cons (h T ρ _ _ _ st (fun f fl μ' s' p st' => by
    cases f <;> cases fl <;> first | exact False.elim st' | exact p T ρ s' _ _ st' hQ hE | exact hQ _ _ _ _ p st') hE)
theorem ex_Return {e : Expr} {pos : Pos} {P : Fw → List MO → Prop} (h : Ev C env μ e (fun d μ1 => P (.ret d) μ1) X) : Ex1 C env μ (.Return (some e) pos) P X :=
  fun T ρ _ _ _ st hQ hE => wpAny_Return_some (h T ρ _ _ _ st (fun v d μ' s' p st' => hQ (.ret v) (.ret d) μ' s' p st') hE)
theorem ex_Return0 {pos : Pos} {P : Fw → List MO → Prop} (h : P (.ret .none) μ) : Ex1 C env μ (.Return none pos) P X :=
  fun _ _ _ _ _ st hQ _ => wpAny_Return_none (hQ (.ret .none) (.ret .none) _ _ h (st.add rNone))
theorem ex_If {test : Expr} {body orelse : List Stmt} {pos : Pos} {P : Fw → List MO → Prop} (h : Te C env μ test (fun b μ1 => (b = true → Ex C env μ1 body P X) ∧ (b = false → Ex C env μ1 orelse P X)) X) : Ex1 C env μ (.If test body orelse pos) P X :=
  fun T ρ _ _ _ st hQ hE => wpAny_If (h T ρ _ _ _ st (fun b μ' s' p st' => by
    cases b with
    | true => exact p.1 rfl T ρ s' _ _ st' hQ hE
    | false => exact p.2 rfl T ρ s' _ _ st' hQ hE) hE)
end

end Mine

open PySem PyProof.Rows
set_option linter.unusedVariables false
namespace Mine

structure FrOk (C : Cx) : Prop where
  ex : ∃ fs, C.A.frames = some fs ∧ ∀ env ∈ fs, env.scope.kind ≠ .module ∧ ∃ L ∈ C.F, env.frame = some L
structure FrAt (C : Cx) (env : Env) (L : Addr) : Prop where
  here : ∃ fs, C.A.frames = some (env :: fs) ∧ ∀ env ∈ fs, env.scope.kind ≠ .module ∧ ∃ L ∈ C.F, env.frame = some L
  frame : env.frame = some L
  kind : env.scope.kind ≠ .module
  own : L ∈ C.F

theorem fr_owned {μ : List MO} {L : Addr} (h : L ∈ μ.filterMap MO.fr) : ∃ kn ns vs, MO.frame L kn ns vs ∈ μ := by
  obtain ⟨x, hx, e⟩ := List.mem_filterMap.mp h
  cases x with
  | frame L' kn ns vs => simp only [MO.fr, Option.some.injEq] at e; subst e; exact ⟨kn, ns, vs, hx⟩
  | _ => simp [MO.fr] at e

theorem frame_there {φ : FM} {h : Heap} {L : Addr} {kn ns vs} (hh : (MO.frame L kn ns vs).holds φ h) : ∃ o, h.get? L = some o ∧ ∀ fs, o.data ≠ .fields fs := by
  obtain ⟨mv, ⟨o, es, ep, ho, hd, _⟩, _⟩ := hh
  exact ⟨o, ho, fun fs e => by rw [hd] at e; cases e⟩

theorem funFrames {h base : Heap} (hb : ∀ b, base.get? b = none) : ∀ {l : List Env}, (∀ env ∈ l, env.scope.kind ≠ .module ∧ ∃ L o, env.frame = some L ∧ h.get? L = some o ∧ ∀ fs, o.data ≠ .fields fs) → h.FunFrames base l
  | [], _ => trivial
  | env :: l, H => by
    obtain ⟨h1, L, o, h2, h3, h4⟩ := H env (.head _)
    exact ⟨h1, ⟨L, o, h2, hb L, h3, h4⟩, funFrames hb fun e he => H e (.tail _ he)⟩

theorem holds_slots {φ : FM} {S : List Addr} {h h' : Heap} (k : Heap.SlotsOnly S h h') : ∀ {x : MO}, x.holds φ h → (∀ a ∈ x.owned, a ∈ S → x.fr = some a) → x.holds φ h'
  | .frame L kn ns vs, ⟨mv, ⟨o, es, ep, ho, hd, r⟩, hm, hc⟩, hs => by
    have cell : ∀ c v, c ∈ (cellsK L kn).map (·.2) → h.IsCell c v → h'.IsCell c v := fun c v hcm ⟨o, ho, hd⟩ => by
      obtain ⟨sl, e⟩ := k.2.2 c o ho
      exact ⟨_, e, hd⟩
    obtain ⟨sl, e⟩ := k.2.2 L o ho
    refine ⟨mv, ⟨_, es, ep, e, hd, r⟩, fun x d q => ?_, fun p hp => ?_⟩
    · obtain ⟨v, r, q⟩ := hm x d q
      refine ⟨v, r, ?_⟩
      revert q
      cases hx : (cellsK L kn).lookup x with
      | none => exact id
      | some c => exact fun q => cell c _ (List.mem_map.mpr ⟨_, mem_of_lookup hx, rfl⟩) q
    · obtain ⟨v, q⟩ := hc p hp
      exact ⟨v, cell p.2 v (List.mem_map.mpr ⟨_, hp, rfl⟩) q⟩
  | .list a ds, ⟨vs, ⟨n, ho⟩, r⟩, hs => by
    have : a ∉ S := fun q => by have := hs a (by simp [MO.owned]) q; simp [MO.fr] at this
    exact ⟨vs, ⟨n, (k.2.1 a this).trans ho⟩, r⟩
  | .exc e cls tb, ⟨oe, vs, he, hc, hdat, hu⟩, hs => by
    have he' : e ∉ S := fun q => by have := hs e (by simp [MO.owned]) q; simp [MO.fr] at this
    refine ⟨oe, vs, (k.2.1 e he').trans he, hc, hdat, ?_⟩
    cases tb with
    | none => exact hu
    | some T =>
      obtain ⟨T, fl⟩ := T
      obtain ⟨h1, oT, ts, h4, h5, h6⟩ := hu
      have hT : T ∉ S := fun q => by have := hs T (by simp [MO.owned]) q; simp [MO.fr] at this
      exact ⟨h1, oT, ts, (k.2.1 T hT).trans h4, h5, h6⟩
  | .raw a R, ⟨o, ho, r⟩, hs => by
    have : a ∉ S := fun q => by have := hs a (by simp [MO.owned]) q; simp [MO.fr] at this
    exact ⟨o, (k.2.1 a this).trans ho, r⟩
  | .pin _ _, h, _ => h
  | .dep a R _, ⟨o, ho, r⟩, hs => by
    have : a ∉ S := fun q => by have := hs a (by simp [MO.owned]) q; simp [MO.fr] at this
    exact ⟨o, (k.2.1 a this).trans ho, r⟩

theorem own_fr {x : MO} {L : Addr} (h : x.fr = some L) : L ∈ x.owned := by
  cases x with
  | frame L' kn ns vs => simp only [MO.fr, Option.some.injEq] at h; subst h; simp [MO.owned]
  | _ => simp [MO.fr] at h
theorem owner_one {μ : List MO} (hn : (μ.flatMap MO.owned).Nodup) {x y : MO} {a : Addr} (hx : x ∈ μ) (hy : y ∈ μ) (ha : a ∈ x.owned) (hb : a ∈ y.owned) : x = y := by
  induction μ with
  | nil => cases hx
  | cons z μ ih =>
    rw [List.flatMap_cons] at hn
    obtain ⟨_, h2, h3⟩ := List.nodup_append.mp hn
    rcases List.mem_cons.mp hx with e | hx
    · rcases List.mem_cons.mp hy with e' | hy
      · exact e.trans e'.symm
      · exact absurd rfl (h3 a (e ▸ ha) a (List.mem_flatMap.mpr ⟨y, hy, hb⟩))
    · rcases List.mem_cons.mp hy with e' | hy
      · exact absurd rfl (h3 a (e' ▸ hb) a (List.mem_flatMap.mpr ⟨x, hx, ha⟩))
      · exact ih h2 hx hy

theorem St.slots {B : Shared} {F S : List Addr} {T : List (Value × D)} {μ : List MO} {s : Shared} {h' : Heap} (st : St B F T μ s) (k : Heap.SlotsOnly S s.heap h') (hS : ∀ L ∈ S, L ∈ F) : St B F T μ { s with heap := h' } := by
  obtain ⟨⟨φ, h1, h2, h3, h4, h5, h6⟩, ho, hg⟩ := st
  refine ⟨⟨φ, h1, fun a o e => ?_, fun x hx => holds_slots k (h3 x hx) fun a ha haS => ?_, h4, h5, h6⟩, ho, hg⟩
  · have : a ∉ S := fun q => by
      obtain ⟨x, hx, e'⟩ := List.mem_filterMap.mp (hg.2 a (hS a q))
      rw [h4 x hx a (own_fr e')] at e; cases e
    exact (k.2.1 a this).trans (h2 a o e)
  · obtain ⟨y, hy, e'⟩ := List.mem_filterMap.mp (hg.2 a (hS a haS))
    have := owner_one h5 hx hy ha (own_fr e')
    rw [this]; exact e'

theorem St.renew {B : Shared} {F : List Addr} {T : List (Value × D)} {μ : List MO} {s : Shared} {x x' : MO} {h' : Heap} (st : St B F T (x :: μ) s) (k : Turned x.owned s.heap h') (hf : x'.fr = x.fr)
    (hx : ∀ φ : FM, x.holds φ s.heap → x'.holds φ h') (ho : ∀ a ∈ x'.owned, a ∈ x.owned ∨ s.heap.get? a = none) (hn : x'.owned.Nodup) : St B F T (x' :: μ) { s with heap := h' } := by
  obtain ⟨⟨φ, h1, h2, h3, h4, h5, h6⟩, hos, hg⟩ := st
  rw [List.flatMap_cons] at h5
  obtain ⟨hb1, hb2, hb3⟩ := List.nodup_append.mp h5
  have new : ∀ a, s.heap.get? a = none → φ a = none := fun a e => by
    cases q : φ a with
    | none => rfl
    | some o => rw [h2 a o q] at e; cases e
  refine ⟨⟨φ, h1, fun a o e => k a o (fun q => by rw [h4 x (.head _) a q] at e; cases e) (h2 a o e), fun y hy => ?_, fun y hy a ha => ?_, ?_, h6⟩, hos, hg.1, fun L hL => ?_⟩
  · rcases List.mem_cons.mp hy with rfl | hy
    · exact hx φ (h3 x (.head _))
    · exact MO.holds_turned (fun _ _ e => e) k (h3 y (.tail _ hy)) fun a ha q => hb3 a q a (List.mem_flatMap.mpr ⟨y, hy, ha⟩) rfl
  · rcases List.mem_cons.mp hy with rfl | hy
    · rcases ho a ha with q | q
      · exact h4 x (.head _) a q
      · exact new a q
    · exact h4 y (.tail _ hy) a ha
  · rw [List.flatMap_cons]
    refine List.nodup_append.mpr ⟨hn, hb2, fun a ha b hb e => ?_⟩
    subst e
    rcases ho a ha with q | q
    · exact hb3 a q a hb rfl
    · obtain ⟨y, hy, hay⟩ := List.mem_flatMap.mp hb
      obtain ⟨o, e⟩ := MO.holds_there (h3 y (.tail _ hy)) a hay
      rw [e] at q; cases q
  · have := hg.2 L hL
    simp only [List.filterMap_cons] at this ⊢
    rw [hf]; exact this

theorem dict_mapFields (f : Array Value → Array Value) (o : Obj) : (Obj.mapFields f o).dict = o.dict := by
  obtain ⟨c, d, dt, sl⟩ := o
  cases dt <;> rfl
def emptyHeap : Heap := { (default : Heap) with objs := #[] }
theorem emptyHeap_none (b : Addr) : emptyHeap.get? b = none := by
  cases q : emptyHeap.get? b with
  | none => rfl
  | some o => exact absurd (Heap.lt_size q) (by simp [emptyHeap])

section
variable {C : Cx} {env : Env} {L : Addr} {T : List (Value × D)} {μ : List MO} {s : Shared} {E : Value → Shared → Prop}
theorem wp_frameOf {Q : Value → Shared → Prop} (H : FrAt C env L) (st : St C.B C.F T μ s) (h : ∀ s', St C.B C.F T μ s' → Q (.ref L) s') : wpAny C.M C.A (frameOf env) Q E s := by
  obtain ⟨fs, hfs, hall⟩ := H.here
  have hex : ∀ L ∈ C.F, ∃ o, s.heap.get? L = some o ∧ ∀ fs, o.data ≠ .fields fs := fun L hL => by
    obtain ⟨⟨φ, _, _, h3, _⟩, _, hg⟩ := st
    obtain ⟨kn, ns, vs, hm⟩ := fr_owned (hg.2 L hL)
    exact frame_there (h3 _ hm)
  have hall' : ∀ e ∈ env :: fs, e.scope.kind ≠ .module ∧ ∃ L ∈ C.F, e.frame = some L := fun e he => by
    rcases List.mem_cons.mp he with rfl | he
    · exact ⟨H.kind, L, H.own, H.frame⟩
    · exact hall e he
  refine wpAny_frameOf_fun (base := emptyHeap) hfs (funFrames emptyHeap_none fun e he => ?_) H.frame fun h' k => h _ (st.slots k fun L' hL' => ?_)
  · obtain ⟨h1, L', h2, h3⟩ := hall' e he
    obtain ⟨o, h4, h5⟩ := hex L' h2
    exact ⟨h1, L', o, h3, h4, h5⟩
  · obtain ⟨e, he, q⟩ := List.mem_filterMap.mp hL'
    obtain ⟨_, L2, h2, h3⟩ := hall' e he
    rw [h3] at q; cases q; exact h2

theorem wp_setFlight {e : Addr} {c : Value} {t : Addr} {fl : Value} {f : Option Addr} {Q : Unit → Shared → Prop} (st : St C.B C.F T (.exc e c (some (t, fl)) :: μ) s) (h : ∀ s', St C.B C.F T (.exc e c (some (t, f.elim .none fun f => rawInt f)) :: μ) s' → Q () s') : wpAny C.M C.A (setFlight (.ref e) f) Q E s := by
  obtain ⟨⟨φ, h1, h2, h3, h4, h5, h6⟩, ho, hg⟩ := id st
  obtain ⟨oe, vs, he, hc, hd, hv, oT, ts, hT, hdT, hts⟩ := h3 _ (.head _)
  have hne : e ≠ t := fun q => by
    rw [List.flatMap_cons] at h5
    have := (List.nodup_append.mp h5).1
    simp [MO.owned, q] at this
  unfold setFlight
  refine wpAny_bind (wpAny_field he hd hv ?_)
  rw [if_pos (by simp)]
  refine wpAny_setField hT hdT (Array.getElem?_eq_some_iff.mp hts).1 (h _ ?_)
  refine St.renew (x := .exc e c (some (t, fl))) (x' := .exc e c (some (t, f.elim .none fun f => rawInt f))) st (fun b o hb hbo => ?_) rfl (fun ψ _ => ?_) (fun a ha => .inl ha) ?_
  · exact (Heap.get?_update_other _ _ (fun q => hb (by subst q; simp [MO.owned]))).trans hbo
  · refine ⟨oe, vs, (Heap.get?_update_other _ _ (Ne.symm hne)).trans he, hc, hd, hv, _, _, Heap.get?_update_self _ hT (Obj.isFreed_of_fields (Obj.data_mapFields hdT _)), Obj.data_mapFields hdT _, ?_⟩
    have := (Array.getElem?_eq_some_iff.mp hts).1
    simp [Array.getElem?_setIfInBounds_self_of_lt this]
  · simp [MO.owned, hne]

theorem wp_entry {e : Addr} {c : Value} {tb : Option (Addr × Value)} {head : Value} {hadNext : Bool} {Q : Unit → Shared → Prop} (H : FrAt C env L) (st : St C.B C.F T (.exc e c tb :: μ) s) (h : ∀ t s', St C.B C.F T (.exc e c (some (t, rawInt L)) :: μ) s' → Q () s') :
    wpAny C.M C.A (do let a ← frameOf env; let pl ← entryPlaceOf L hadNext; let b ← EntryCells.newEntry head a .none (rawInt L) .none pl; setField (.ref e) 1 b) Q E s := by
  refine wpAny_bind (wp_frameOf H st fun s1 st1 => ?_)
  refine wpAny_bind (wpAny_entryPlaceOf fun pl hpl => ?_)
  unfold EntryCells.newEntry newFields
  refine wpAny_bind (wpAny_newObj_type ?_ (hpl.sizeOk5 _ _ _ _ _))
  obtain ⟨⟨φ, h1, h2, h3, h4, h5, h6⟩, ho, hg⟩ := id st1
  obtain ⟨oe, vs, he, hc, hd, hu⟩ := h3 _ (.head _)
  have hsz : 1 < vs.size := by
    cases tb with
    | none => exact (Array.getElem?_eq_some_iff.mp hu).1
    | some x => exact (Array.getElem?_eq_some_iff.mp hu.1).1
  have he₂ := Heap.get?_push_of_some (h := s1.heap) { cls := .type "traceback", dict := none, data := .fields ([head, .ref L, .none, rawInt L, .none] ++ (if pl.isEmpty then List.replicate 6 Value.none else pl)).toArray } he
  refine wpAny_setField he₂ hd hsz (h s1.heap.objs.size _ ?_)
  have hTe : s1.heap.objs.size ≠ e := Nat.ne_of_gt (Heap.lt_size he)
  have hd₃ := Obj.data_mapFields hd (·.setIfInBounds 1 (Value.ref s1.heap.objs.size))
  have he₃ := Heap.get?_update_self (Obj.mapFields (·.setIfInBounds 1 (Value.ref s1.heap.objs.size))) he₂ (Obj.isFreed_of_fields hd₃)
  refine St.renew (s := s1) (x := .exc e c tb) (x' := .exc e c (some (s1.heap.objs.size, rawInt L))) st1 (fun b o hb hbo => ?_) rfl (fun ψ _ => ?_) (fun a ha => ?_) ?_
  · exact (Heap.get?_update_other _ _ (fun q => hb (by subst q; simp [MO.owned]))).trans (Heap.get?_push_of_some _ hbo)
  · refine ⟨_, _, he₃, ⟨(Obj.cls_mapFields _ _).trans hc.1, (dict_mapFields _ _).trans hc.2⟩, hd₃, by simp [hsz], _, _, (Heap.get?_update_other _ _ (Ne.symm hTe)).trans (Heap.get?_push_size _ rfl), rfl, by simp⟩
  · simp only [MO.owned, Option.map_some, Option.toList_some, List.mem_cons, List.not_mem_nil, or_false] at ha
    rcases ha with rfl | rfl
    · exact .inl (by simp [MO.owned])
    · right
      cases q : s1.heap.get? s1.heap.objs.size with
      | none => rfl
      | some o => exact absurd (Heap.lt_size q) (Nat.lt_irrefl _)
  · simp [MO.owned, Ne.symm hTe]
theorem wp_note {e : Addr} {c : Value} {tb : Option (Addr × Value)} {Q : Unit → Shared → Prop} (H : FrAt C env L) (st : St C.B C.F T (.exc e c tb :: μ) s) (h : ∀ t s', St C.B C.F T (.exc e c (some (t, rawInt L)) :: μ) s' → Q () s') : wpAny C.M C.A (noteFrame (.ref e) env) Q E s := by
  obtain ⟨⟨φ, h1, h2, h3, h4, h5, h6⟩, ho, hg⟩ := id st
  obtain ⟨oe, vs, he, hc, hd, hu⟩ := h3 _ (.head _)
  unfold noteFrame
  simp only [H.frame]
  cases tb with
  | none =>
    refine wpAny_bind (wpAny_field he hd hu ?_)
    rw [if_neg (by decide)]
    exact wp_entry H st h
  | some x =>
    obtain ⟨t, fl⟩ := x
    obtain ⟨hv, oT, ts, hT, hdT, hts⟩ := hu
    refine wpAny_bind (wpAny_field he hd hv ?_)
    rw [if_pos (by simp)]
    refine wpAny_bind (wpAny_field hT hdT hts ?_)
    by_cases q : (fl == rawInt L) = true
    · rw [if_pos q]
      have : fl = rawInt L := beq_iff_eq.mp q
      subst this
      exact wpAny_pure (h t s st)
    · rw [if_neg q]
      have hne : e ≠ t := fun q => by
        rw [List.flatMap_cons] at h5
        have := (List.nodup_append.mp h5).1
        simp [MO.owned, q] at this
      refine wpAny_bind (wpAny_setField hT hdT (Array.getElem?_eq_some_iff.mp hts).1 ?_)
      refine wp_entry (tb := some (t, .none)) H ?_ h
      refine St.renew (x := .exc e c (some (t, fl))) (x' := .exc e c (some (t, .none))) st (fun b o hb hbo => ?_) rfl (fun ψ _ => ?_) (fun a ha => .inl ha) ?_
      · exact (Heap.get?_update_other _ _ (fun q => hb (by subst q; simp [MO.owned]))).trans hbo
      · refine ⟨oe, vs, (Heap.get?_update_other _ _ (Ne.symm hne)).trans he, hc, hd, hv, _, _, Heap.get?_update_self _ hT (Obj.isFreed_of_fields (Obj.data_mapFields hdT _)), Obj.data_mapFields hdT _, ?_⟩
        have := (Array.getElem?_eq_some_iff.mp hts).1
        simp [Array.getElem?_setIfInBounds_self_of_lt this]
      · simp [MO.owned, hne]
theorem wp_leaving {e : Addr} {c : Value} {tb : Option (Addr × Value)} {Q : Unit → Shared → Prop} (H : FrAt C env L) (st : St C.B C.F T (.exc e c tb :: μ) s) (h : ∀ t s', St C.B C.F T (.exc e c (some (t, .none)) :: μ) s' → Q () s') : wpAny C.M C.A (leaving env (.ref e)) Q E s := by
  unfold leaving
  refine wpAny_bind (wp_note H st fun t s1 st1 => ?_)
  exact wp_setFlight (f := none) st1 fun s2 st2 => h t s2 st2
theorem wp_noted {e : Addr} {c : Value} {tb : Option (Addr × Value)} {E' : Value → Shared → Prop} (H : FrAt C env L) (st : St C.B C.F T (.exc e c tb :: μ) s) (h : ∀ t s', St C.B C.F T (.exc e c (some (t, rawInt L)) :: μ) s' → E' (.ref e) s') : notedBy C.M C.A env E' (.ref e) s :=
  wp_note H st fun t s' st' => h t s' st'
theorem wp_cameBack {e : Addr} {c : Value} {t : Addr} {fl : Value} {E' : Value → Shared → Prop} (H : FrAt C env L) (st : St C.B C.F T (.exc e c (some (t, fl)) :: μ) s) (h : ∀ s', St C.B C.F T (.exc e c (some (t, rawInt L)) :: μ) s' → E' (.ref e) s') : cameBackBy C.M C.A env E' (.ref e) s := by
  obtain ⟨⟨φ, h1, h2, h3, h4, h5, h6⟩, ho, hg⟩ := id st
  obtain ⟨oe, vs, he, hc, hd, hv, _⟩ := h3 _ (.head _)
  unfold cameBackBy
  refine wpAny_bind (wpAny_field he hd hv ?_)
  rw [if_neg (by simp)]
  rw [H.frame]
  exact wp_setFlight (f := some L) st fun s' st' => h s' st'
end
end Mine

open PySem PyProof.Rows
set_option linter.unusedVariables false
namespace Mine

theorem cellsFrom_some' {x : Str} : ∀ (names : List (Str × NameKind)) (n : Nat) (acc : List (Str × Addr)), names.lookup x = some .cell ∨ (acc.lookup x).isSome = true → ((cellsFrom n names acc).lookup x).isSome = true
  | [], _, _, h => h.elim (fun e => by cases e) id
  | (y, k) :: r, n, acc, h => by
    unfold cellsFrom
    by_cases hk : (k == .cell) = true
    · rw [if_pos hk]
      refine cellsFrom_some' r (n + 1) ((y, n) :: acc) ?_
      by_cases hy : (x == y) = true
      · exact .inr (by rw [List.lookup_cons, hy]; rfl)
      · have hy' : (x == y) = false := by simpa using hy
        refine h.imp (fun e => ?_) fun e => ?_
        · rw [List.lookup_cons, hy'] at e; exact e
        · rw [List.lookup_cons, hy']; exact e
    · rw [if_neg hk]
      refine cellsFrom_some' r n acc ?_
      by_cases hy : (x == y) = true
      · refine .inr (h.elim (fun e => ?_) id)
        rw [List.lookup_cons, hy] at e
        exact absurd (by rw [Option.some.inj e]; rfl) hk
      · have hy' : (x == y) = false := by simpa using hy
        refine h.imp (fun e => ?_) id
        rw [List.lookup_cons, hy'] at e; exact e
theorem cellsFrom_none {x : Str} : ∀ (names : List (Str × NameKind)) (n : Nat) (acc : List (Str × Addr)), (names.all fun p => p.1 != x || p.2 != .cell) = true → acc.lookup x = none → (cellsFrom n names acc).lookup x = none
  | [], _, _, _, h => h
  | (y, k) :: r, n, acc, ha, h => by
    unfold cellsFrom
    rw [List.all_cons, Bool.and_eq_true] at ha
    by_cases hk : (k == .cell) = true
    · rw [if_pos hk]
      have hk' : k = .cell := by simpa using hk
      refine cellsFrom_none r (n + 1) _ ha.2 ?_
      have hy : (x == y) = false := by
        have := ha.1
        simp only [hk', bne_self_eq_false, Bool.or_false, bne_iff_ne, ne_eq] at this
        simpa using fun e => this e.symm
      rw [List.lookup_cons, hy]; exact h
    · rw [if_neg hk]; exact cellsFrom_none r n acc ha.2 h
theorem cellsFrom_mem {p : Str × Addr} : ∀ (names : List (Str × NameKind)) (n : Nat) (acc : List (Str × Addr)), p ∈ cellsFrom n names acc → p ∈ acc ∨ n ≤ p.2
  | [], _, _, h => .inl h
  | (y, k) :: r, n, acc, h => by
    unfold cellsFrom at h
    split at h
    · rcases cellsFrom_mem r (n + 1) _ h with h | h
      · rcases List.mem_cons.mp h with rfl | h
        · exact .inr (Nat.le_refl _)
        · exact .inl h
      · exact .inr (by lia)
    · exact cellsFrom_mem r n acc h

theorem lookup_of_nodup {α : Type} : ∀ {l : List (Str × α)} {p : Str × α}, (l.map (·.1)).Nodup → p ∈ l → l.lookup p.1 = some p.2
  | (y, v) :: r, p, hn, hp => by
    rw [List.lookup_cons]
    rcases List.mem_cons.mp hp with rfl | hp
    · rw [beq_self_eq_true]
    · simp only [List.map_cons, List.nodup_cons] at hn
      have : (p.1 == y) = false := by
        simpa using fun e => hn.1 (by rw [← e]; exact List.mem_map_of_mem hp)
      rw [this]; exact lookup_of_nodup hn.2 hp
theorem cellsFrom_names' : ∀ (names : List (Str × NameKind)) (n k : Nat) (acc bcc : List (Str × Addr)), acc.map (·.1) = bcc.map (·.1) → (cellsFrom n names acc).map (·.1) = (cellsFrom k names bcc).map (·.1)
  | [], _, _, _, _, h => h
  | (y, kd) :: r, n, k, acc, bcc, h => by
    unfold cellsFrom
    split
    · exact cellsFrom_names' r _ _ _ _ (by simp [h])
    · exact cellsFrom_names' r _ _ _ _ h

def paramsOk (sc : List (Str × NameKind)) (names : List Str) : Bool := decide ((cellsFrom 0 sc []).map (·.1)).Nodup && names.all fun x => (sc.lookup x == some .local && sc.all fun p => p.1 != x || p.2 != .cell) || sc.lookup x == some .cell

theorem lookup_zip_mem {α : Type} : ∀ {ns : List Str} {vs : List α} {x : Str} {v : α}, (ns.zip vs).lookup x = some v → x ∈ ns
  | n :: ns, v' :: vs, x, v, h => by
    rw [List.zip_cons_cons, List.lookup_cons] at h
    cases hb : x == n with
    | true => rw [beq_iff_eq.mp hb]; exact List.mem_cons_self
    | false => rw [hb] at h; exact .tail _ (lookup_zip_mem h)
  | [], _, _, _, h => by simp at h
  | _ :: _, [], _, _, h => by simp at h

theorem bindL_lookup (k : Str → Option NameKind) : ∀ {ns : List Str} {vs : List Value} (m : Str → Option Value) (x : Str), ns.Nodup → k x = some .local →
    bindL k (ns.zip vs) m x = ((ns.zip vs).lookup x).or (m x)
  | [], _, _, _, _, _ => by simp [bindL]
  | _ :: _, [], _, _, _, _ => by simp [bindL]
  | n :: ns, v :: vs, m, x, hnd, hk => by
    obtain ⟨h1, h2⟩ := List.nodup_cons.mp hnd
    rw [List.zip_cons_cons, bindL, bindL_lookup k _ x h2 hk, List.lookup_cons]
    by_cases hx : x = n
    · subst hx
      rw [beq_self_eq_true, if_pos hk, if_pos rfl]
      cases q : (ns.zip vs).lookup x with
      | none => rfl
      | some v' => exact absurd (lookup_zip_mem q) h1
    · have : (x == n) = false := by simpa using hx
      rw [this]
      split <;> simp [hx]
theorem bindC_lookup (k : Str → Option NameKind) : ∀ {ns : List Str} {vs : List Value} (m : Str → Option Value) (x : Str), ns.Nodup → k x = some .cell →
    bindC k (ns.zip vs) m x = ((ns.zip vs).lookup x).or (m x)
  | [], _, _, _, _, _ => by simp [bindC]
  | _ :: _, [], _, _, _, _ => by simp [bindC]
  | n :: ns, v :: vs, m, x, hnd, hk => by
    obtain ⟨h1, h2⟩ := List.nodup_cons.mp hnd
    rw [List.zip_cons_cons, bindC, bindC_lookup k _ x h2 hk, List.lookup_cons]
    by_cases hx : x = n
    · subst hx
      rw [beq_self_eq_true, if_neg (by rw [hk]; decide), if_pos rfl]
      cases q : (ns.zip vs).lookup x with
      | none => rfl
      | some v' => exact absurd (lookup_zip_mem q) h1
    · have : (x == n) = false := by simpa using hx
      rw [this]
      split <;> simp [hx]

theorem reps_lookup {φ : FM} : ∀ {ns : List Str} {vs : List Value} {ds : List D} {x : Str} {d : D}, vs.length = ds.length → (∀ p ∈ vs.zip ds, Rep φ p.1 p.2) → (ns.zip ds).lookup x = some d → ∃ v, (ns.zip vs).lookup x = some v ∧ Rep φ v d
  | [], _, _, _, _, _, _, h => by simp at h
  | _ :: _, [], [], _, _, _, _, h => by simp at h
  | n :: ns, v :: vs, d' :: ds, x, d, hl, hr, h => by
    rw [List.zip_cons_cons, List.lookup_cons] at h
    rw [List.zip_cons_cons, List.lookup_cons]
    cases hb : x == n with
    | true => rw [hb] at h; cases h; exact ⟨v, rfl, hr _ (.head _)⟩
    | false => rw [hb] at h; exact reps_lookup (by simpa using hl) (fun p hp => hr p (.tail _ hp)) h
  | _ :: _, _ :: _, [], _, _, hl, _, _ => by simp at hl
  | _ :: _, [], _ :: _, _, _, hl, _, _ => by simp at hl

theorem look_nones {x : Str} {d : D} : ∀ {rest : List Str}, ¬ Look x d rest (rest.map fun _ => none)
  | [], h => by cases h
  | _ :: _, h => by cases h with | there h => exact look_nones h
theorem look_params {x : Str} {d : D} : ∀ {names : List Str} {ds : List D} {rest : List Str}, names.length = ds.length → names.Nodup → Look x d (names ++ rest) (ds.map some ++ rest.map fun _ => none) → (names.zip ds).lookup x = some d
  | [], [], _, _, _, h => (look_nones h).elim
  | n :: ns, e :: ds, rest, hl, hn, h => by
    rw [List.zip_cons_cons, List.lookup_cons]
    have aux : ∀ {q : List Str} {w : List (Option D)}, Look x d (n :: q) (some e :: w) → (x = n ∧ d = e) ∨ Look x d q w := by
      intro q w h
      cases h with
      | here => exact .inl ⟨rfl, rfl⟩
      | there h => exact .inr h
    rcases aux (by simpa using h) with ⟨rfl, rfl⟩ | h'
    · simp
    · have r := look_params (by simpa using hl) (List.nodup_cons.mp hn).2 h'
      have : (x == n) = false := by
        refine beq_eq_false_iff_ne.mpr fun e' => (List.nodup_cons.mp hn).1 ?_
        rw [← e']; exact lookup_zip_mem r
      rw [this]; exact r

def Cx.deeper (C : Cx) (env : Env) : Cx := { C with A := C.A.deeper env, F := env.locals :: C.F }

structure FnAt (B : Shared) (f : Addr) (fd : FuncData) (body : List Stmt) (names : List Str) : Prop where
  obj : ∃ fo, B.heap.get? f = some fo ∧ fo.data = .func fd
  lim : B.heap.NoLimit
  code : B.heap.CodeRec fd.code fd.qualname
  body : fd.body = .stmts body
  clo : fd.closure = []
  bind : ∀ vs : List Value, vs.length = names.length → bindArgs fd ⟨vs, []⟩ = pure (names.zip vs)
  nodup : names.Nodup
  ok : paramsOk fd.scope.names names = true
  co : fd.scope.isCoroutine = false
  gen : fd.scope.isGenerator = false
  kind : fd.scope.kind = .function

section
variable {C : Cx} {env : Env} {μ : List MO} {P : Post} {X : XPost}

theorem kind_of_ok {sc : List (Str × NameKind)} {names : List Str} (ok : paramsOk sc names = true) {x : Str} (hx : x ∈ names) :
    (sc.lookup x = some .local ∧ ∀ n, (cellsFrom n sc []).lookup x = none) ∨ (sc.lookup x = some .cell ∧ ∀ n, ((cellsFrom n sc []).lookup x).isSome = true) := by
  have := List.all_eq_true.mp (Bool.and_eq_true_iff.mp ok).2 x hx
  rcases Bool.or_eq_true_iff.mp this with q | q
  · obtain ⟨a, b⟩ := Bool.and_eq_true_iff.mp q
    exact .inl ⟨beq_iff_eq.mp a, fun n => cellsFrom_none _ _ _ b rfl⟩
  · exact .inr ⟨beq_iff_eq.mp q, fun n => cellsFrom_some' _ _ _ (.inl (beq_iff_eq.mp q))⟩

theorem St.enter {B : Shared} {F : List Addr} {T : List (Value × D)} {s s₁ : Shared} {fd : FuncData} {f : Addr} {names rest : List Str} {vs : List Value} {ds : List D} (st : St B F T μ s) (ok : paramsOk fd.scope.names names = true) (hnd : names.Nodup) (hln : names.length = ds.length) (hl : vs.length = ds.length) (hv : ∀ p ∈ vs.zip ds, p ∈ T)
    (x : InCallC s (callEnvC fd s.heap.objs.size f).locals (bindL (callEnvC fd s.heap.objs.size f).kindOf (names.zip vs) fun _ => none) (callEnvC fd s.heap.objs.size f).cells (bindC (callEnvC fd s.heap.objs.size f).kindOf (names.zip vs) fun _ => none) s₁) :
    St B (s.heap.objs.size :: F) T (.frame s.heap.objs.size fd.scope.names (names ++ rest) (ds.map some ++ rest.map fun _ => none) :: μ) s₁ := by
  obtain ⟨⟨φ, h1, h2, h3, h4, h5, h6⟩, ho, hg⟩ := st
  obtain ⟨h', tk, rfl, keep⟩ := x.done
  have small : ∀ a o, s.heap.get? a = some o → a < s.heap.objs.size := fun a o e => Heap.lt_size e
  have ownLt : ∀ y ∈ μ, ∀ a ∈ y.owned, a < s.heap.objs.size := fun y hy a ha => by
    obtain ⟨o, e⟩ := MO.holds_there (h3 y hy) a ha; exact Heap.lt_size e
  have newGe : ∀ a ∈ (MO.frame s.heap.objs.size fd.scope.names (names ++ rest) (ds.map some ++ rest.map fun _ => none)).owned, s.heap.objs.size ≤ a := fun a ha => by
    simp only [MO.owned, List.mem_cons, List.mem_map] at ha
    rcases ha with rfl | ⟨p, hp, rfl⟩
    · exact Nat.le_refl _
    · rcases cellsFrom_mem _ _ _ hp with q | q
      · cases q
      · lia
  refine ⟨⟨φ, h1, fun a o e => keep a o (h2 a o e), fun y hy => ?_, fun y hy => ?_, ?_, h6⟩, ho, hg.1, fun L hL => ?_⟩
  · rcases List.mem_cons.mp hy with rfl | hy
    · refine ⟨_, x.toInCall.ns, fun n d hn => ?_, fun p hp => ?_⟩
      · replace hn := look_params hln hnd hn
        obtain ⟨v, hv', r⟩ := reps_lookup hl (fun p hp => h6 p (hv p hp)) hn
        refine ⟨v, r, ?_⟩
        unfold cellsK
        rcases kind_of_ok ok (lookup_zip_mem hn) with ⟨a, b⟩ | ⟨a, b⟩
        · rw [b]
          show bindL _ _ _ n = some v
          rw [bindL_lookup _ _ n hnd (show Env.kindOf (callEnvC fd s.heap.objs.size f) n = _ from a), hv']; rfl
        · obtain ⟨c, hc⟩ := Option.isSome_iff_exists.mp (b (s.heap.objs.size + 1))
          rw [hc]
          have := x.cell n c hc
          rw [bindC_lookup _ _ n hnd (show Env.kindOf (callEnvC fd s.heap.objs.size f) n = _ from a), hv'] at this
          exact this
      · refine ⟨_, x.cell p.1 p.2 (lookup_of_nodup ?_ hp)⟩
        have q := of_decide_eq_true (Bool.and_eq_true_iff.mp ok).1
        show ((cellsFrom (s.heap.objs.size + 1) fd.scope.names []).map (·.1)).Nodup
        rw [← cellsFrom_names' fd.scope.names 0 (s.heap.objs.size + 1) [] [] rfl]; exact q
    · exact MO.holds_turned (S := []) (fun _ _ e => e) (fun b o _ e => keep b o e) (h3 y hy) (by simp)
  · rcases List.mem_cons.mp hy with rfl | hy
    · intro a ha
      cases q : φ a with
      | none => rfl
      | some o => exact absurd (small a o (h2 a o q)) (Nat.not_lt.mpr (newGe a ha))
    · exact h4 y hy
  · rw [List.flatMap_cons]
    refine List.nodup_append.mpr ⟨?_, h5, fun a ha b hb e => ?_⟩
    · show (s.heap.objs.size :: (cellsFrom (s.heap.objs.size + 1) fd.scope.names []).map (·.2)).Nodup
      refine List.nodup_cons.mpr ⟨fun q => ?_, ?_⟩
      · obtain ⟨p, hp, e⟩ := List.mem_map.mp q
        have := x.above p.1 p.2 hp
        exact absurd e (Nat.ne_of_gt this)
      · exact List.pairwise_map.mpr x.apart
    · subst e
      obtain ⟨y, hy, ha'⟩ := List.mem_flatMap.mp hb
      exact absurd (ownLt y hy a ha') (Nat.not_lt.mpr (newGe a ha))
  · simp only [List.filterMap_cons, MO.fr]
    rcases List.mem_cons.mp hL with rfl | hL
    · exact .head _
    · exact .tail _ (hg.2 L hL)

theorem ca_fn {f : Addr} {fd : FuncData} {body : List Stmt} {names : List Str} {ds : List D} (rest : List Str) (F : FnAt C.B f fd body names) (hF : FrOk C) (hroom : C.A.depth < recursionLimit) (hlen : ds.length = names.length)
    (h : ∀ L, FrAt (C.deeper (callEnvC fd L f)) (callEnvC fd L f) L → Ex (C.deeper (callEnvC fd L f)) (callEnvC fd L f) (.frame L fd.scope.names (names ++ rest) (ds.map some ++ rest.map fun _ => none) :: μ) body
      (fun fl μ' => ∃ ns' vs' μ'', μ'.Perm (.frame L fd.scope.names ns' vs' :: μ'') ∧ P (match fl with | .ret d => d | _ => .none) μ'') (fun c μ' => ∃ ns' vs' μ'', μ'.Perm (.frame L fd.scope.names ns' vs' :: μ'') ∧ X c μ'')) : Ca C (.ref f) ds μ P X := by
  intro T vs hl hv ρ s Q E st hQ hE
  obtain ⟨fo, ho, hd⟩ := F.obj
  have hne : ∀ L ∈ C.F, L ≠ s.heap.objs.size := fun L hL => by
    obtain ⟨⟨φ, _, _, h3, _⟩, _, hg⟩ := id st
    obtain ⟨x, hx, e⟩ := List.mem_filterMap.mp (hg.2 L hL)
    obtain ⟨o, e'⟩ := MO.holds_there (h3 x hx) L (own_fr e)
    exact Nat.ne_of_lt (Heap.lt_size e')
  have drop : ∀ {T' : List (Value × D)} {ns' vs'} {pre μ'' : List MO} {s' : Shared}, St C.B (s.heap.objs.size :: C.F) T' (pre ++ .frame s.heap.objs.size fd.scope.names ns' vs' :: μ'') s' → St C.B C.F T' (pre ++ μ'') s' := by
    intro T' ns' vs' pre μ'' s' st'
    refine St.forget st' ((List.Sublist.refl pre).append (List.sublist_cons_self _ _)) fun L hL => ?_
    have := st'.gf.2 L (.tail _ hL)
    simp only [List.filterMap_append, List.filterMap_cons, MO.fr, List.mem_append, List.mem_cons] at this ⊢
    rcases this with q | q | q
    · exact .inl q
    · exact absurd q (hne L hL)
    · exact .inr q
  have hat : FrAt (C.deeper (callEnvC fd s.heap.objs.size f)) (callEnvC fd s.heap.objs.size f) s.heap.objs.size := by
    obtain ⟨fs, h1, h2⟩ := hF.ex
    refine ⟨⟨fs, PySem.Around.frames_deeper h1, fun e he => ?_⟩, rfl, by show fd.scope.kind ≠ _; rw [F.kind]; decide, .head _⟩
    obtain ⟨a, L, b, c⟩ := h2 e he
    exact ⟨a, L, .tail _ b, c⟩
  refine wpAny_call (codeAny_call_cells hroom (st.stays _ _ ho) hd (F.lim.keeps st.stays) (F.code.keeps st.stays) F.body (F.bind vs (hl.trans hlen)) F.clo (fun x hx => ?_) (fun s₁ x => ?_) F.co F.gen F.kind)
  · have := (List.of_mem_zip (show (x.1, x.2) ∈ _ from hx)).1
    rcases kind_of_ok F.ok this with ⟨a, _⟩ | ⟨a, b⟩
    · exact .inl a
    · exact .inr ⟨a, b _⟩
  · refine h s.heap.objs.size hat T ρ s₁ _ _ (st.enter F.ok F.nodup hlen.symm hl hv x) (fun f' fl μ' s' p st' => ?_) fun e c tb μ' s' q st' => ?_
    · obtain ⟨ns', vs', μ'', pm, p⟩ := p
      cases f' <;> cases fl <;> first
        | exact False.elim st'
        | exact hQ _ _ _ _ p ((drop (pre := []) (St.perm st' (pm.symm.append (List.Perm.refl ρ)))).add rNone)
        | exact hQ _ _ _ _ p (drop (pre := []) (St.perm st' (pm.symm.append (List.Perm.refl ρ))))
    · obtain ⟨ns', vs', μ'', pm, q⟩ := q
      refine wp_leaving hat st' fun t s'' st'' => hE e c _ μ'' s'' q (drop (pre := [.exc e c (some (t, .none))]) (St.perm st'' (.cons _ (pm.symm.append (List.Perm.refl ρ)))))
end
end Mine

open PySem PyProof.Rows
set_option linter.unusedVariables false
namespace Mine

def starred : Expr → Bool
  | .Starred .. => true
  | _ => false
def noStars : List Expr → Bool
  | [] => true
  | e :: es => !starred e && noStars es
theorem starEach_plain (env : Env) : ∀ {es : List Expr}, noStars es = true → starEach es env = es.map fun e => (false, eval e env)
  | [], _ => rfl
  | e :: es, h => by
    obtain ⟨h1, h2⟩ := Bool.and_eq_true_iff.mp h
    have : starEach (e :: es) env = (false, eval e env) :: starEach es env := by
      cases e <;> first | rfl | (simp [starred] at h1)
    rw [this, starEach_plain env h2]; rfl
theorem backTo_plain (pos : Pos) (env : Env) : ∀ (es : List Expr), backTo pos (es.map fun e => (false, eval e env)) = es.map fun e => (false, eval e env)
  | [] => rfl
  | e :: es => by
    have := backTo_plain pos env es
    unfold backTo at this ⊢
    simp only [List.map_cons, this]; rfl

section
variable {C : Cx} {env : Env} {P : Post} {X : XPost}

theorem evl_spliced : ∀ {es : List Expr} {μ : List MO} {P : List D → List MO → Prop}, EvL C env μ es P X → ∀ T ρ s (Q : List Value → Shared → Prop) (E : Value → Shared → Prop), St C.B C.F T (μ ++ ρ) s →
    (∀ vs ds μ' s' T', P ds μ' → vs.length = ds.length → (∀ p ∈ vs.zip ds, p ∈ T') → (∀ p ∈ T, p ∈ T') → St C.B C.F T' (μ' ++ ρ) s' → Q vs s') → (∀ e c tb μ' s', X c μ' → St C.B C.F T (.exc e c tb :: (μ' ++ ρ)) s' → E (.ref e) s') → wpAny C.M C.A (spliced (es.map fun e => (false, eval e env))) Q E s
  | [], μ, P, h, T, ρ, s, Q, E, st, hQ, hE => Calls.spliced_nil (hQ [] [] μ s T h rfl (fun _ q => nomatch q) (fun _ q => q) st)
  | e :: es, μ, P, h, T, ρ, s, Q, E, st, hQ, hE => by
    refine Calls.spliced_cons (h T ρ s _ _ st (fun v d μ1 s1 h1 st1 => ?_) hE)
    refine evl_spliced h1 ((v, d) :: T) ρ s1 _ _ st1 (fun vs ds μ' s' T' p hl hz hT st' => ?_) fun e c t μ' s' x st' => hE e c t μ' s' x st'.tail
    refine hQ (v :: vs) (d :: ds) μ' s' T' p (by simp [hl]) (fun q hq => ?_) (fun q hq => hT q (.tail _ hq)) st'
    rw [List.zip_cons_cons] at hq
    rcases List.mem_cons.mp hq with rfl | hq
    · exact hT _ (.head _)
    · exact hz q hq

theorem evl_evalArgs {es : List Expr} {μ : List MO} {f : Value} {P : List D → List MO → Prop} (h : EvL C env μ es P X) (T : List (Value × D)) (ρ : List MO) (s : Shared) (Q : Args → Shared → Prop) (E : Value → Shared → Prop) (st : St C.B C.F T (μ ++ ρ) s)
    (hQ : ∀ vs ds μ' s' T', P ds μ' → vs.length = ds.length → (∀ p ∈ vs.zip ds, p ∈ T') → (∀ p ∈ T, p ∈ T') → St C.B C.F T' (μ' ++ ρ) s' → Q ⟨vs, []⟩ s') (hE : ∀ e c tb μ' s', X c μ' → St C.B C.F T (.exc e c tb :: (μ' ++ ρ)) s' → E (.ref e) s') :
    wpAny C.M C.A (evalArgs f true (es.map fun e => (false, eval e env)) []) Q E s := by
  cases es with
  | nil => exact PyProof.Rows.evalArgs_nil3 (hQ [] [] μ s T h rfl (fun _ q => nomatch q) (fun _ q => q) st)
  | cons e es => exact Calls.evalArgs_plain (evl_spliced h T ρ s _ _ st hQ hE)

theorem TrT.from {T T' : List (Value × D)} {μ : List MO} {t : Sem Value} (h : TrT C T' μ t P X) (k : ∀ p ∈ T, p ∈ T') (ρ : List MO) (s : Shared) (Q E : Value → Shared → Prop) (st : St C.B C.F T' (μ ++ ρ) s)
    (hQ : ∀ v d μ' s', P d μ' → St C.B C.F ((v, d) :: T) (μ' ++ ρ) s' → Q v s') (hE : ∀ e c tb μ' s', X c μ' → St C.B C.F T (.exc e c tb :: (μ' ++ ρ)) s' → E (.ref e) s') : wpAny C.M C.A t Q E s :=
  h ρ s Q E st (fun v d μ' s' p st' => hQ v d μ' s' p (st'.keepHead k)) fun e c t μ' s' x st' => hE e c t μ' s' x (st'.sub k)

theorem ev_call {μ : List MO} {x : Str} {np pos : Pos} {args : List Expr} {f : Addr} {fo : Obj} {fd : FuncData} (hn : ∀ P', P' (.ref f) μ → Ev C env μ (.Name x np) P' X) (hf : C.B.heap.get? f = some fo) (hd : fo.data = .func fd) (hs : noStars args = true)
    (h : EvL C env μ args (fun ds μ1 => Ca C (.ref f) ds μ1 P X) X) : Ev C env μ (.Call (.Name x np) args [] pos) P X := by
  intro T ρ s Q E st hQ hE
  refine wpAny_Call_ofName (hn (fun d μ1 => d = .ref f ∧ μ1 = μ) ⟨rfl, rfl⟩ T ρ s _ _ st (fun v d μ1 s1 ⟨hd1, hμ⟩ st1 => ?_) hE)
  subst hd1 hμ
  have e := st1.isRef (.head _); subst e
  rw [starEach_plain env hs, backTo_plain]
  refine Calls.callWith_function (o := fo) (fd := fd) (evl_evalArgs h T ρ s1 _ _ st1.tail (fun vs ds μ' s' T' p hl hz hT st' => ?_) hE)
  exact ⟨⟨st'.stays _ _ hf, hd⟩, (p T' vs hl hz).from hT ρ s' Q E st' hQ hE⟩

theorem ev_callB {μ : List MO} {x : Str} {np pos : Pos} {args : List Expr} {id : String} (hn : ∀ P', P' (.val (.builtin id)) μ → Ev C env μ (.Name x np) P' X) (hs : noStars args = true)
    (h : EvL C env μ args (fun ds μ1 => Ca C (.builtin id) ds μ1 P X) X) : Ev C env μ (.Call (.Name x np) args [] pos) P X := by
  intro T ρ s Q E st hQ hE
  refine wpAny_Call_ofName (hn (fun d μ1 => d = .val (.builtin id) ∧ μ1 = μ) ⟨rfl, rfl⟩ T ρ s _ _ st (fun v d μ1 s1 ⟨hd1, hμ⟩ st1 => ?_) hE)
  subst hd1 hμ
  have e := st1.isVal (.head _); subst e
  rw [starEach_plain env hs, backTo_plain]
  refine Calls.callWith_builtin (by simp) (evl_evalArgs h T ρ s1 _ _ st1.tail (fun vs ds μ' s' T' p hl hz hT st' => ?_) hE)
  exact (p T' vs hl hz).from hT ρ s' Q E st' hQ hE
end
end Mine

open PySem PyProof.Rows
set_option linter.unusedVariables false
namespace Mine

inductive Upd (x : Str) (d : D) : List Str → List (Option D) → List (Option D) → Prop
  | here {ns : List Str} {v : Option D} {vs : List (Option D)} : Upd x d (x :: ns) (v :: vs) (some d :: vs)
  | there {y : Str} {v : Option D} {ns : List Str} {vs vs' : List (Option D)} : Upd x d ns vs vs' → Upd x d (y :: ns) (v :: vs) (v :: vs')
theorem Upd.mem {x : Str} {d : D} {ns : List Str} {vs vs' : List (Option D)} (h : Upd x d ns vs vs') : x ∈ ns := by
  induction h with
  | here => exact .head _
  | there _ ih => exact .tail _ ih
theorem Upd.look {x : Str} {d : D} {ns : List Str} {vs vs' : List (Option D)} (hn : ns.Nodup) (h : Upd x d ns vs vs') {y : Str} {e : D} (l : Look y e ns vs') : (y = x ∧ e = d) ∨ (y ≠ x ∧ Look y e ns vs) := by
  induction h with
  | here =>
    cases l with
    | here => exact .inl ⟨rfl, rfl⟩
    | there l => exact .inr ⟨fun q => (List.nodup_cons.mp hn).1 (q ▸ l.mem), .there l⟩
  | there h ih =>
    cases l with
    | here => exact .inr ⟨fun q => (List.nodup_cons.mp hn).1 (q ▸ h.mem), .here⟩
    | there l => exact (ih (List.nodup_cons.mp hn).2 l).imp id fun ⟨a, b⟩ => ⟨a, .there b⟩

section
variable {C : Cx} {env : Env} {μ : List MO} {X : XPost}
def Sto (C : Cx) (env : Env) (μ : List MO) (x : Str) (d : D) (P : List MO → Prop) (X : XPost) : Prop := ∀ T v, (v, d) ∈ T → TrU C T μ (storeName env x v) P X

theorem St.turn {B : Shared} {F : List Addr} {T T' : List (Value × D)} {s : Shared} {x x' : MO} {pre post : List MO} {h' : Heap} (st : St B F T (pre ++ x :: post) s) (ho : x'.owned = x.owned) (k : Turned x.owned s.heap h')
    (hx : ∀ φ : FM, (∀ a o, φ a = some o → s.heap.get? a = some o) → (∀ p ∈ T, Rep φ p.1 p.2) → x.holds φ s.heap → x'.holds φ h') (hT : ∀ p ∈ T', p ∈ T) (t : Nat) (hf : x'.fr = x.fr := by rfl) : St B F T' (pre ++ x' :: post) { s with heap := h', toks := t } := by
  obtain ⟨⟨φ, h1, h2, h3, h4, h5, h6⟩, hos, hg⟩ := st
  have mem : ∀ y, y ∈ pre ∨ y ∈ post → y ∈ pre ++ x :: post := fun y hy => hy.elim (fun q => List.mem_append_left _ q) fun q => List.mem_append_right _ (.tail _ q)
  have hxm : x ∈ pre ++ x :: post := List.mem_append_right _ (.head _)
  have apart : ∀ y, y ∈ pre ∨ y ∈ post → ∀ a ∈ y.owned, a ∉ x.owned := by
    rw [List.flatMap_append, List.flatMap_cons] at h5
    obtain ⟨_, hb, hc⟩ := List.nodup_append.mp h5
    obtain ⟨_, _, he⟩ := List.nodup_append.mp hb
    intro y hy a ha hax
    rcases hy with hy | hy
    · exact hc a (List.mem_flatMap.mpr ⟨y, hy, ha⟩) a (List.mem_append_left _ hax) rfl
    · exact he a hax a (List.mem_flatMap.mpr ⟨y, hy, ha⟩) rfl
  refine ⟨⟨φ, h1, fun a o e => k a o (fun q => by rw [h4 x hxm a q] at e; cases e) (h2 a o e), fun y hy => ?_, fun y hy => ?_, ?_, fun p hp => h6 p (hT p hp)⟩, hos, hg.1, fun L hL => by have := hg.2 L hL; simpa only [List.filterMap_append, List.filterMap_cons, hf] using this⟩
  · have keepO : ∀ y, y ∈ pre ∨ y ∈ post → y.holds φ h' := fun y hy => MO.holds_turned (fun _ _ e => e) k (h3 y (mem y hy)) (apart y hy)
    rcases List.mem_append.mp hy with hy | hy
    · exact keepO y (.inl hy)
    · rcases List.mem_cons.mp hy with rfl | hy
      · exact hx φ h2 h6 (h3 x hxm)
      · exact keepO y (.inr hy)
  · rcases List.mem_append.mp hy with hy | hy
    · exact h4 y (mem y (.inl hy))
    · rcases List.mem_cons.mp hy with rfl | hy
      · rw [ho]; exact h4 x hxm
      · exact h4 y (mem y (.inr hy))
  · rw [List.flatMap_append, List.flatMap_cons, ho]
    rw [List.flatMap_append, List.flatMap_cons] at h5
    exact h5

theorem sto_local {x : Str} {d : D} {L : Addr} {kn : List (Str × NameKind)} {ns : List Str} {vs vs' : List (Option D)} {P : List MO → Prop} (hk : env.scope.kind = .function) (hl : env.kindOf x = some .local) (hL : env.locals = L) (hc : (cellsK L kn).lookup x = none) (hnd : ns.Nodup) (hu : Upd x d ns vs vs')
    (h : P (.frame L kn ns vs' :: μ)) : Sto C env (.frame L kn ns vs :: μ) x d P X := by
  intro T v hv ρ s Q E st hQ hE
  have st' := st
  obtain ⟨⟨φ, h1, h2, h3, h4, h5, h6⟩, ho, hg⟩ := st'
  have hfr := h3 _ (.head _)
  obtain ⟨mv, hn, hmv, hcs⟩ := hfr
  refine wpAny_storeName_local hl (hL ▸ hn) (fun h' hn' hs' => hQ _ _ h (St.turn (pre := []) (T := T) (x := .frame L kn ns vs) (x' := .frame L kn ns vs') st rfl ?_ ?_ (fun _ q => q) _)) (by rw [hk]; rfl)
  · exact (Turned.of_sameBut hs').mono fun a ha => by rw [List.mem_singleton] at ha; rw [ha, hL]; exact List.mem_cons_self
  · intro φ' _ h6' ⟨mv', hn2, hmv2, hcs2⟩
    rw [hL] at hn' hs'
    rw [List.cons_append, List.flatMap_cons] at h5
    obtain ⟨ha, _, _⟩ := List.nodup_append.mp h5
    have apart : ∀ p ∈ cellsK L kn, p.2 ≠ L := fun p hp ec => (List.nodup_cons.mp ha).1 (List.mem_map.mpr ⟨p, hp, ec⟩)
    refine ⟨_, hn', fun y d' hy => ?_, fun p hp => ?_⟩
    · rcases hu.look hnd hy with ⟨rfl, rfl⟩ | ⟨e, hy⟩
      · refine ⟨v, h6' _ hv, ?_⟩
        rw [hc]; exact if_pos rfl
      · obtain ⟨v', r, q⟩ := hmv2 y d' hy
        refine ⟨v', r, ?_⟩
        revert q
        cases hcy : (cellsK L kn).lookup y with
        | none => intro q; show (if y = x then some v else mv y) = some v'; rw [if_neg e, ← q]; exact hn.agree hn2 y
        | some c => intro q; exact q.sameBut hs' (apart _ (mem_of_lookup hcy))
    · obtain ⟨v', q⟩ := hcs2 p hp
      exact ⟨v', q.sameBut hs' (apart p hp)⟩

theorem sto_cell {x : Str} {d : D} {L c : Addr} {kn : List (Str × NameKind)} {ns : List Str} {vs vs' : List (Option D)} {P : List MO → Prop} (hk : env.scope.kind = .function) (hl : env.kindOf x = some .cell) (hce : env.cells.lookup x = some c) (hc : (cellsK L kn).lookup x = some c) (hnd' : ns.Nodup) (hu : Upd x d ns vs vs')
    (h : P (.frame L kn ns vs' :: μ)) : Sto C env (.frame L kn ns vs :: μ) x d P X := by
  intro T v hv ρ s Q E st hQ hE
  have st' := st
  obtain ⟨⟨φ, h1, h2, h3, h4, h5, h6⟩, ho, hg⟩ := st'
  have hfr := h3 _ (.head _)
  obtain ⟨mv, hn, hmv, hcs⟩ := hfr
  obtain ⟨v₀, hcell⟩ := hcs _ (mem_of_lookup hc)
  rw [List.cons_append, List.flatMap_cons] at h5
  obtain ⟨hnd, _, _⟩ := List.nodup_append.mp h5
  obtain ⟨hL1, hnd⟩ := List.nodup_cons.mp hnd
  have hcL : c ≠ L := fun e => hL1 (List.mem_map.mpr ⟨_, mem_of_lookup hc, e⟩)
  refine wpAny_storeName_cell hk hl hce hcell fun h' hc' hs' => hQ _ _ h (St.turn (pre := []) (T := T) (x := .frame L kn ns vs) (x' := .frame L kn ns vs') st rfl ?_ ?_ (fun _ q => q) _)
  · exact (Turned.of_sameBut hs').mono fun a ha => by rw [List.mem_singleton] at ha; rw [ha]; exact List.mem_cons_of_mem _ (List.mem_map_of_mem (f := (·.2)) (mem_of_lookup hc))
  · intro φ' _ h6' ⟨mv', hn2, hmv2, hcs2⟩
    refine ⟨mv', hn2.sameBut hs' (Ne.symm hcL), fun y d' hy => ?_, fun p hp => ?_⟩
    · rcases hu.look hnd' hy with ⟨rfl, rfl⟩ | ⟨e, hy⟩
      · refine ⟨v, h6' _ hv, ?_⟩
        rw [hc]; exact hc'
      · obtain ⟨v', r, q⟩ := hmv2 y d' hy
        refine ⟨v', r, ?_⟩
        revert q
        cases hcy : (cellsK L kn).lookup y with
        | none => exact id
        | some c' =>
          intro q
          refine q.sameBut hs' fun ec => e ?_
          exact name_of_addr (List.pairwise_map.mp hnd) (mem_of_lookup hcy) (ec ▸ mem_of_lookup hc)
    · by_cases e : p.2 = c
      · exact ⟨_, e ▸ hc'⟩
      · obtain ⟨v', q⟩ := hcs2 p hp
        exact ⟨v', q.sameBut hs' e⟩

theorem ex_assign {x : Str} {p pos : Pos} {value : Expr} {P : Fw → List MO → Prop} (h : Ev C env μ value (fun d μ1 => Sto C env μ1 x d (P .next) X) X) (hs : swapsWith value (some (.Name x p)) pos.line env = pure false) :
    Ex1 C env μ (.Assign [.Name x p] value pos) P X :=
  fun T ρ _ _ _ st hQ hE => wpAny_Assign_Name (h T ρ _ _ _ st (fun v d μ1 s1 h1 st1 => h1 _ v (.head _) ρ s1 _ _ st1 (fun μ' s' p' st' => hQ .next .next μ' s' p' st'.tail) fun e c t μ' s' x' st' => hE e c t μ' s' x' st'.tail) hE) hs
end
end Mine

open PySem PyProof.Rows
set_option linter.unusedVariables false
namespace Mine

def Items (μ : List MO) (d : D) (ds : List D) : Prop := d = .lst ds ∨ ∃ a, d = .ref a ∧ MO.list a ds ∈ μ
theorem Items.app {μ : List MO} {d : D} {ds : List D} (h : Items μ d ds) (ρ : List MO) : Items (μ ++ ρ) d ds := h.imp id fun ⟨a, e, m⟩ => ⟨a, e, List.mem_append_left _ m⟩
theorem Items.cons {μ : List MO} {d : D} {ds : List D} (h : Items μ d ds) (x : MO) : Items (x :: μ) d ds := h.imp id fun ⟨a, e, m⟩ => ⟨a, e, .tail _ m⟩

section
variable {C : Cx} {env : Env} {μ : List MO} {X : XPost}

theorem zip_reps {φ : FM} {vs : List Value} {ds : List D} (h : Reps φ vs ds) : ∀ p ∈ vs.zip ds, Rep φ p.1 p.2 := by
  have aux : ∀ {vs ds}, Reps φ vs ds → ∀ p ∈ vs.zip ds, Rep φ p.1 p.2 := by
    intro vs
    induction vs with
    | nil => intro ds h p hp; simp at hp
    | cons v vs ih =>
      intro ds h p hp
      cases h with
      | cons h1 h2 =>
        rw [List.zip_cons_cons] at hp
        rcases List.mem_cons.mp hp with rfl | hp
        · exact h1
        · exact ih h2 p hp
  exact aux h
theorem reps_zip {φ : FM} : ∀ {vs : List Value} {ds : List D}, vs.length = ds.length → (∀ p ∈ vs.zip ds, Rep φ p.1 p.2) → Reps φ vs ds
  | [], [], _, _ => .nil
  | v :: vs, d :: ds, hl, h => .cons (h _ (.head _)) (reps_zip (by simpa using hl) fun p hp => h p (.tail _ hp))

theorem St.items {B : Shared} {F : List Addr} {T : List (Value × D)} {s : Shared} {v : Value} {d : D} {ds : List D} (st : St B F T μ s) (hv : (v, d) ∈ T) (hi : Items μ d ds) :
    ∃ a vs, v = .ref a ∧ s.heap.IsList a (List.toArray vs) ∧ vs.length = ds.length ∧ St B F (vs.zip ds ++ T) μ s := by
  obtain ⟨⟨φ, h1, h2, h3, h4, h5, h6⟩, ho, hg⟩ := st
  have fin : ∀ {a : Addr} {vs : List Value}, v = .ref a → s.heap.IsList a vs.toArray → Reps φ vs ds → ∃ a vs, v = .ref a ∧ s.heap.IsList a (List.toArray vs) ∧ vs.length = ds.length ∧ St B F (vs.zip ds ++ T) μ s := fun {a vs} e hl r =>
    ⟨a, vs, e, hl, r.length, ⟨⟨φ, h1, h2, h3, h4, h5, fun p hp => (List.mem_append.mp hp).elim (zip_reps r p) (h6 p)⟩, ho, hg⟩⟩
  have hr := h6 _ hv
  rcases hi with rfl | ⟨a, rfl, hm⟩
  · cases hr with
    | lst ha hc hd r => exact fin rfl ⟨_, h2 _ _ ha, hc, _, hd⟩ r
  · cases hr
    obtain ⟨vs, hl, r⟩ := h3 _ hm
    exact fin rfl hl.isList r

theorem St.perm' {B : Shared} {F : List Addr} {T μ μ' s} (h : St B F T μ s) (k : μ.Perm μ') : St B F T μ' s := h.perm k.symm

theorem St.alloc {B : Shared} {F : List Addr} {T : List (Value × D)} {s : Shared} {o : Obj} {x : MO} {μ ρ : List MO} (st : St B F T (μ ++ ρ) s) (hx : x.owned = [s.heap.objs.size]) (t : Nat)
    (hh : ∀ φ : FM, (∀ p ∈ T, Rep φ p.1 p.2) → x.holds φ (s.heap.push o)) : St B F T (μ ++ x :: ρ) { s with heap := s.heap.push o, toks := t } := by
  obtain ⟨⟨φ, h1, h2, h3, h4, h5, h6⟩, ho, hg⟩ := st
  have new : φ s.heap.objs.size = none := by
    cases q : φ s.heap.objs.size with
    | none => rfl
    | some o' => exact absurd (Heap.lt_size (h2 _ _ q)) (Nat.lt_irrefl _)
  refine St.perm' (μ := x :: (μ ++ ρ)) ⟨⟨φ, h1, fun a o' e => Heap.get?_push_of_some _ (h2 a o' e), fun y hy => ?_, fun y hy => ?_, ?_, h6⟩, ho, hg.1, fun L hL => by obtain ⟨y, hy, e⟩ := List.mem_filterMap.mp (hg.2 L hL); exact List.mem_filterMap.mpr ⟨y, .tail _ hy, e⟩⟩ List.perm_middle.symm
  · rcases List.mem_cons.mp hy with rfl | hy
    · exact hh φ h6
    · exact MO.holds_turned (S := []) (fun _ _ e => e) (Turned.push _ _) (h3 y hy) (by simp)
  · rcases List.mem_cons.mp hy with rfl | hy
    · intro a ha; rw [hx, List.mem_singleton] at ha; rw [ha]; exact new
    · exact h4 y hy
  · rw [List.flatMap_cons, hx]
    refine List.nodup_append.mpr ⟨by simp, h5, fun a ha b hb e => ?_⟩
    subst e
    rw [List.mem_singleton] at ha
    obtain ⟨y, hy, ha'⟩ := List.mem_flatMap.mp hb
    obtain ⟨o', e'⟩ := MO.holds_there (h3 y hy) a ha'
    exact absurd (ha ▸ Heap.lt_size e') (Nat.lt_irrefl _)

theorem St.turnAt {B : Shared} {F : List Addr} {T : List (Value × D)} {s : Shared} {x x' : MO} {μ ρ : List MO} {h' : Heap} (st : St B F T (μ ++ x :: ρ) s) (ho : x'.owned = x.owned) (k : Turned x.owned s.heap h')
    (hx : ∀ φ : FM, (∀ a o, φ a = some o → s.heap.get? a = some o) → (∀ p ∈ T, Rep φ p.1 p.2) → x.holds φ s.heap → x'.holds φ h') (t : Nat) (hf : x'.fr = x.fr := by rfl) : St B F T (μ ++ x' :: ρ) { s with heap := h', toks := t } :=
  St.turn st ho k hx (fun _ q => q) t hf
theorem fr_without {F : List Addr} {x : MO} {μ ρ : List MO} (h : ∀ L ∈ F, L ∈ (μ ++ x :: ρ).filterMap MO.fr) (hx : ∀ L ∈ F, x.fr ≠ some L) : ∀ L ∈ F, L ∈ (μ ++ ρ).filterMap MO.fr := fun L hL => by
  obtain ⟨y, hy, e⟩ := List.mem_filterMap.mp (h L hL)
  refine List.mem_filterMap.mpr ⟨y, ?_, e⟩
  rcases List.mem_append.mp hy with q | q
  · exact List.mem_append_left _ q
  · rcases List.mem_cons.mp q with rfl | q
    · exact absurd e (hx L hL)
    · exact List.mem_append_right _ q
theorem St.forgetAt {B : Shared} {F : List Addr} {T : List (Value × D)} {s : Shared} {x : MO} {μ ρ : List MO} (st : St B F T (μ ++ x :: ρ) s) (hx : ∀ L ∈ F, x.fr ≠ some L := by intro _ _ h; cases h) : St B F T (μ ++ ρ) s :=
  st.forget ((List.Sublist.refl μ).append (List.sublist_cons_self _ _)) (fr_without st.gf.2 hx)

theorem St.gone {B : Shared} {F : List Addr} {T : List (Value × D)} {s : Shared} {x : MO} {μ ρ : List MO} {h' : Heap} (st : St B F T (μ ++ x :: ρ) s) (k : Turned x.owned s.heap h') (t : Nat) (hx : ∀ L ∈ F, x.fr ≠ some L := by intro _ _ h; cases h) : St B F T (μ ++ ρ) { s with heap := h', toks := t } := by
  obtain ⟨⟨φ, h1, h2, h3, h4, h5, h6⟩, hos, hg⟩ := st
  have hxm : x ∈ μ ++ x :: ρ := List.mem_append_right _ (.head _)
  have sub : List.Sublist (μ ++ ρ) (μ ++ x :: ρ) := (List.Sublist.refl μ).append (List.sublist_cons_self _ _)
  have apart : ∀ y ∈ μ ++ ρ, ∀ a ∈ y.owned, a ∉ x.owned := by
    rw [List.flatMap_append, List.flatMap_cons] at h5
    obtain ⟨_, hb, hc⟩ := List.nodup_append.mp h5
    obtain ⟨_, _, he⟩ := List.nodup_append.mp hb
    intro y hy a ha hax
    rcases List.mem_append.mp hy with hy | hy
    · exact hc a (List.mem_flatMap.mpr ⟨y, hy, ha⟩) a (List.mem_append_left _ hax) rfl
    · exact he a hax a (List.mem_flatMap.mpr ⟨y, hy, ha⟩) rfl
  refine ⟨⟨φ, h1, fun a o e => k a o (fun q => by rw [h4 x hxm a q] at e; cases e) (h2 a o e), fun y hy => ?_, fun y hy => h4 y (sub.subset hy), ?_, h6⟩, hos, hg.1, fr_without hg.2 hx⟩
  · exact MO.holds_turned (fun _ _ e => e) k (h3 y (sub.subset hy)) (apart y hy)
  · rw [List.flatMap_append]
    rw [List.flatMap_append, List.flatMap_cons] at h5
    exact ((List.Sublist.refl _).append (List.sublist_append_right _ _)).nodup h5

structure Src (C : Cx) (T₀ : List (Value × D)) (it : Addr) (R : Nat → Obj → Prop) (ds : List D) (I : Nat → List MO → Prop) : Prop where
  next : ∀ {i d T μ ρ s} {Q : Option Value → Shared → Prop} {E : Value → Shared → Prop}, (∀ p ∈ T₀, p ∈ T) → I i μ → ds[i]? = some d → St C.B C.F T (μ ++ MO.raw it (R i) :: ρ) s →
    (∀ v s', St C.B C.F ((v, d) :: T) (μ ++ MO.raw it (R (i + 1)) :: ρ) s' → Q (some v) s') → wpAny C.M C.A (pyNext (.ref it)) Q E s
  fin : ∀ {T μ ρ s} {Q : Option Value → Shared → Prop} {E : Value → Shared → Prop}, (∀ p ∈ T₀, p ∈ T) → I ds.length μ → St C.B C.F T (μ ++ MO.raw it (R ds.length) :: ρ) s →
    (∀ s', St C.B C.F T (μ ++ ρ) s' → Q none s') → wpAny C.M C.A (pyNext (.ref it)) Q E s
  self : ∀ {T μ ρ s} {Q : Value → Shared → Prop} {E : Value → Shared → Prop}, St C.B C.F T (μ ++ MO.raw it (R 0) :: ρ) s → Q (.ref it) s → wpAny C.M C.A (pyIter (.ref it)) Q E s

def Itb (C : Cx) (d : D) (ds : List D) (I : Nat → List MO → Prop) : Prop := ∀ v T μ ρ s (Q : Value → Shared → Prop) (E : Value → Shared → Prop), (v, d) ∈ T → I 0 μ → St C.B C.F T (μ ++ ρ) s →
  (∀ it R s', Src C [(v, d)] it R ds I → St C.B C.F T (μ ++ MO.raw it (R 0) :: ρ) s' → Q (.ref it) s') → wpAny C.M C.A (pyIter v) Q E s

def Asg (C : Cx) (env : Env) (μ : List MO) (target : Expr) (d : D) (P : List MO → Prop) (X : XPost) : Prop := ∀ T v, (v, d) ∈ T → TrU C T μ (assign target env v) P X
theorem asg_name {x : Str} {p : Pos} {d : D} {P : List MO → Prop} (h : Sto C env μ x d P X) : Asg C env μ (.Name x p) d P X :=
  fun T v hv ρ s Q E st hQ hE => wpAny_assign_Name (h T v hv ρ s Q E st hQ hE)

def Turn (I : List MO → Prop) (P : Fw → List MO → Prop) : Fw → List MO → Prop
  | .next, μ => I μ
  | .cont, μ => I μ
  | .brk, μ => P .next μ
  | .ret d, μ => P (.ret d) μ
def noX : XPost := fun _ _ => False

theorem for_core {T₀ : List (Value × D)} {target : Expr} {body : List Stmt} {it L : Addr} {R : Nat → Obj → Prop} {ds : List D} {I : Nat → List MO → Prop} {P : Fw → List MO → Prop} (H : FrAt C env L) (S : Src C T₀ it R ds I) (ht : ∀ v, letOwnedTupleGo target (.ref it) v = pure ())
    (turn : ∀ i d μ, ds[i]? = some d → I i μ → Asg C env μ target d (fun μ1 => Ex C env μ1 body (Turn (I (i + 1)) P) X) X) (fin : ∀ μ, I ds.length μ → P .next μ)
    (T : List (Value × D)) (ρ : List MO) (s : Shared) (Q : Flow → Shared → Prop) (E : Value → Shared → Prop) (hT : ∀ p ∈ T₀, p ∈ T) (h0 : I 0 μ) (st : St C.B C.F T (μ ++ MO.raw it (R 0) :: ρ) s) (hQ : ∀ f fl μ' s', P fl μ' → FwSt C.B C.F T (μ' ++ ρ) s' f fl → Q f s')
    (hE : ∀ e c tb μ' s', X c μ' → St C.B C.F T (.exc e c tb :: (μ' ++ ρ)) s' → E (.ref e) s') :
    codeAny C.M C.A (.forLoop target (.ref it) body [] env) (fun r s' => match r with | .ok f => Q f s' | .error e => cameBackBy C.M C.A env E e s') s := by
  have err : ∀ {T' : List (Value × D)} {j e c tb μ' s'}, (∀ p ∈ T, p ∈ T') → X c μ' → St C.B C.F T' (.exc e c tb :: (μ' ++ MO.raw it (R j) :: ρ)) s' → notedBy C.M C.A env (cameBackBy C.M C.A env E) (.ref e) s' := by
    intro T' j e c tb μ' s' hT' x st'
    refine wp_noted H st' fun t s2 st2 => wp_cameBack H st2 fun s3 st3 => hE e c (some (t, rawInt L)) μ' s3 x ?_
    exact (St.forgetAt (μ := .exc e c (some (t, rawInt L)) :: μ') st3).sub hT'
  refine codeAny_forLoop (fun k s => ∃ i μ, k + i = ds.length ∧ I i μ ∧ St C.B C.F T (μ ++ MO.raw it (R i) :: ρ) s) (fun k s ⟨i, μ, hk, hI, st⟩ => ?_) ds.length ⟨0, μ, rfl, h0, st⟩ ht
  by_cases hi : i < ds.length
  · obtain ⟨d, hd⟩ : ∃ d, ds[i]? = some d := ⟨_, List.getElem?_eq_getElem hi⟩
    refine S.next hT hI hd st fun v s1 st1 => ?_
    refine turn i d μ hd hI ((v, d) :: T) v (.head _) (MO.raw it (R (i + 1)) :: ρ) s1 _ _ st1 (fun μ1 s2 h2 st2 => ?_) fun e c tb μ' s' x st' => err (fun _ q => .tail _ q) x st'
    refine h2 T (MO.raw it (R (i + 1)) :: ρ) s2 _ _ st2.tail (fun f fl μ' s' p st' => ?_) fun e c tb μ' s' x st' => err (fun _ q => q) x st'
    cases f <;> cases fl <;> first
      | exact False.elim st'
      | exact ⟨k - 1, by lia, i + 1, μ', by lia, p, st'⟩
      | exact hQ .next .next μ' s' p (St.forgetAt st')
      | exact hQ (.ret _) (.ret _) μ' s' p (St.forgetAt st')
  · have hi' : i = ds.length := by lia
    subst hi'
    refine S.fin hT hI st fun s1 st1 => ?_
    exact wpAny_execs_nil (hQ .next .next μ s1 (fin μ hI) st1)

def listIt (a : Addr) (i : Nat) (o : Obj) : Prop := o.cls = .type "list_iterator" ∧ o.data = .fields #[.ref a, .int i 0]
theorem FwSt.drop {B : Shared} {F : List Addr} {p : Value × D} {T : List (Value × D)} {s : Shared} {f : Flow} {fl : Fw} (h : FwSt B F (p :: T) μ s f fl) : FwSt B F T μ s f fl := by
  cases f <;> cases fl <;> first | exact h | exact St.tail h | exact St.drop2 h

theorem src_list {a it : Addr} {d : D} {ds : List D} {I : Nat → List MO → Prop} (hA : C.A.handled = none) (hit : ∀ i μ, I i μ → Items μ d ds) : Src C [(.ref a, d)] it (listIt a) ds I where
  next := by
    intro i x T μ ρ s Q E hT hI hx st hQ
    obtain ⟨a', vs, e, hl, hlen, st2⟩ := st.items (hT _ (.head _)) ((hit i μ hI).app _)
    cases e
    obtain ⟨⟨φ, _, _, h3, _⟩, _, _⟩ := id st
    obtain ⟨o, ho, hc, hd⟩ := h3 _ (List.mem_append_right _ (.head _))
    obtain ⟨v, hv⟩ : ∃ v, vs[i]? = some v := ⟨_, List.getElem?_eq_getElem (by rw [hlen]; exact (List.getElem?_eq_some_iff.mp hx).1)⟩
    refine wpAny_pyNext_list_item ⟨o, ho, hc, hd⟩ hl (by simpa using hv) fun h' hi hs => hQ v _ ?_
    have hz : (v, x) ∈ vs.zip ds := by
      refine List.mem_of_getElem? (i := i) ?_
      rw [List.getElem?_zip_eq_some]; exact ⟨hv, hx⟩
    have := St.turnAt (x' := .raw it (listIt a (i + 1))) (st2.sub (T' := (v, x) :: T) fun p hp => by
      rcases List.mem_cons.mp hp with rfl | hp
      · exact List.mem_append_left _ hz
      · exact List.mem_append_right _ hp) rfl (Turned.of_sameBut hs) (fun φ _ _ _ => by
        obtain ⟨o', ho', hc', hd'⟩ := hi; exact ⟨o', ho', hc', hd'⟩) s.toks
    exact this
  fin := by
    intro T μ ρ s Q E hT hI st hQ
    obtain ⟨a', vs, e, hl, hlen, st2⟩ := st.items (hT _ (.head _)) ((hit _ μ hI).app _)
    cases e
    obtain ⟨⟨φ, h1, h2, h3, h4, h5, h6⟩, ho', hg⟩ := id st
    obtain ⟨o, ho, hc, hd⟩ := h3 _ (List.mem_append_right _ (.head _))
    refine wpAny_pyNext_list_end hA ⟨o, ho, hc, hd⟩ hl (by simp [hlen]) fun h' hs => hQ _ ?_
    exact st.gone (Turned.of_extBut hs) s.toks
  self := by
    intro T μ ρ s Q E st hQ
    obtain ⟨⟨φ, _, _, h3, _⟩, _, _⟩ := st
    obtain ⟨o, ho, hc, hd⟩ := h3 _ (List.mem_append_right _ (.head _))
    exact wpAny_pyIter_listiter ⟨o, ho, hc, hd⟩ hQ

theorem itb_list {d : D} {ds : List D} {I : Nat → List MO → Prop} (hA : C.A.handled = none) (hit : ∀ i μ, I i μ → Items μ d ds) : Itb C d ds I := by
  intro v T μ ρ s Q E hv h0 st hQ
  obtain ⟨a, vs, rfl, hl, hlen, st2⟩ := st.items hv ((hit 0 μ h0).app ρ)
  exact wpAny_pyIter_list hl (hQ _ _ _ (src_list hA hit) (st.alloc rfl s.toks fun _ _ => ⟨_, Heap.get?_push_size _ rfl, rfl, rfl⟩))

theorem St.titems {B : Shared} {F : List Addr} {T : List (Value × D)} {s : Shared} {v : Value} {ds : List D} (st : St B F T μ s) (hv : (v, .tup ds) ∈ T) :
    ∃ a vs, v = .ref a ∧ s.heap.IsTuple a (List.toArray vs) ∧ vs.length = ds.length ∧ St B F (vs.zip ds ++ T) μ s := by
  obtain ⟨⟨φ, h1, h2, h3, h4, h5, h6⟩, ho, hg⟩ := st
  have hr := h6 _ hv
  cases hr with
  | tup ha hc hd r => exact ⟨_, _, rfl, ⟨_, h2 _ _ ha, hc.1, _, hd⟩, r.length, ⟨⟨φ, h1, h2, h3, h4, h5, fun p hp => (List.mem_append.mp hp).elim (zip_reps r p) (h6 p)⟩, ho, hg⟩⟩
theorem St.isRng {B : Shared} {F : List Addr} {T : List (Value × D)} {s : Shared} {v : Value} {a b c : Int} (st : St B F T μ s) (hv : (v, .rng a b c) ∈ T) : ∃ r t u w, v = .ref r ∧ IsRange s.heap r a b c t u w := by
  obtain ⟨⟨φ, h1, h2, h3, h4, h5, h6⟩, ho, hg⟩ := st
  have hr := h6 _ hv
  cases hr with
  | rng h => exact ⟨_, _, _, _, rfl, h2 _ _ h⟩
def rngList (a c : Int) (n : Nat) : List D := (List.range n).map fun (i : Nat) => D.int (a + i * c)
theorem rngList_get {a c : Int} {n i : Nat} {d : D} (h : (rngList a c n)[i]? = some d) : i < n ∧ d = .int (a + i * c) := by
  unfold rngList at h
  rw [List.getElem?_map] at h
  by_cases hi : i < n
  · rw [List.getElem?_range hi] at h; cases h; exact ⟨hi, rfl⟩
  · rw [List.getElem?_eq_none (by simpa using hi)] at h; cases h
theorem rngList_length (a c : Int) (n : Nat) : (rngList a c n).length = n := by simp [rngList]
def rngIt (a c : Int) (n i : Nat) (o : Obj) : Prop := o = { cls := .type "range_iterator", dict := none, data := .fields #[rawInt (a + i * c), rawInt ((n : Int) - i), rawInt c], slots := #[] }
theorem src_rng {T₀ : List (Value × D)} {a c : Int} {n : Nat} {it : Addr} {I : Nat → List MO → Prop} (hA : C.A.handled = none) : Src C T₀ it (rngIt a c n) (rngList a c n) I where
  next := by
    intro i x T μ ρ s Q E hT hI hx st hQ
    obtain ⟨hi, rfl⟩ := rngList_get hx
    obtain ⟨⟨φ, _, _, h3, _⟩, _, _⟩ := id st
    obtain ⟨o, ho, hc⟩ := h3 _ (List.mem_append_right _ (.head _))
    rw [hc] at ho
    refine wpAny_pyNext_range_item ho (by lia) fun h' hi' hs => hQ _ _ ?_
    refine St.add (St.turnAt (x' := .raw it (rngIt a c n (i + 1))) st rfl (Turned.of_sameBut hs) (fun φ _ _ _ => ⟨_, hi', ?_⟩) _) (rInt _ _)
    show _ = _
    have e1 : a + (i : Int) * c + c = a + ((i + 1 : Nat) : Int) * c := by rw [Int.natCast_add, Int.add_mul]; simp; lia
    have e2 : (n : Int) - i - 1 = (n : Int) - ((i + 1 : Nat) : Int) := by lia
    rw [e1, e2]
  fin := by
    intro T μ ρ s Q E hT hI st hQ
    rw [rngList_length] at st
    obtain ⟨⟨φ, _, _, h3, _⟩, _, _⟩ := id st
    obtain ⟨o, ho, hc⟩ := h3 _ (List.mem_append_right _ (.head _))
    rw [hc] at ho
    exact wpAny_pyNext_range_end hA ho (by lia) fun h' hs => hQ _ (st.gone (Turned.of_extBut hs) s.toks)
  self := by
    intro T μ ρ s Q E st hQ
    obtain ⟨⟨φ, _, _, h3, _⟩, _, _⟩ := st
    obtain ⟨o, ho, hc⟩ := h3 _ (List.mem_append_right _ (.head _))
    rw [hc] at ho
    exact wpAny_pyIter_rangeiter ho hQ
theorem itb_rng {a b c : Int} {n : Nat} {I : Nat → List MO → Prop} (hA : C.A.handled = none) (hs : Builtin.Range.small a b c = true) (hn : Builtin.Range.rangeSize a b c = n) : Itb C (.rng a b c) (rngList a c n) I := by
  intro v T μ ρ s Q E hv h0 st hQ
  obtain ⟨r, t, u, w, rfl, hr⟩ := st.isRng hv
  refine wpAny_pyIter_range hr hs (hQ _ (rngIt a c n) _ (src_rng hA) (st.alloc rfl s.toks fun _ _ => ⟨_, Heap.get?_push_size _ rfl, ?_⟩))
  show _ = _
  rw [hn]; simp
theorem itb_range {a b : Int} {I : Nat → List MO → Prop} (hA : C.A.handled = none) (ha : -(2 ^ 62) ≤ a) (ha' : a < 2 ^ 62) (hb : -(2 ^ 62) ≤ b) (hb' : b < 2 ^ 62) : Itb C (.rng a b 1) (rngList a 1 (b - a).toNat) I :=
  itb_rng hA (small_one ha ha' hb hb') (by rw [rangeSize_one]; split <;> lia)

theorem ex_for {target iter : Expr} {body : List Stmt} {pos : Pos} {L : Addr} {P : Fw → List MO → Prop} (H : FrAt C env L)
    (h : Ev C env μ iter (fun d μ1 => ∃ ds, ∃ I : Nat → List MO → Prop, Itb C d ds I ∧ I 0 μ1 ∧ (∀ i d μ, ds[i]? = some d → I i μ → Asg C env μ target d (fun μ1 => Ex C env μ1 body (Turn (I (i + 1)) P) X) X) ∧ ∀ μ, I ds.length μ → P .next μ) X)
    (ht : ∀ it v, letOwnedTupleGo target it v = pure ()) (hs : ∀ x, foldedSetIterable iter env x = pure x) : Ex1 C env μ (.For target iter body [] pos) P X := by
  intro T ρ s Q E st hQ hE
  refine wpAny_For (h T ρ s _ _ st (fun v d μ1 s1 ⟨ds, I, hit, h0, turn, fin⟩ st1 => ?_) hE) hs
  refine hit v _ μ1 ρ s1 _ _ (.head _) h0 st1 fun it R s2 S st2 => ?_
  exact for_core H S (ht _) turn fin ((v, d) :: T) ρ _ Q E (fun _ q => by rw [List.mem_singleton] at q; rw [q]; exact .head _) h0 st2 (fun f fl μ' s' p st' => hQ f fl μ' s' p (FwSt.drop st')) fun e c tb μ' s' x st' => hE e c tb μ' s' x st'.tail
end
end Mine

open PySem PyProof.Rows
set_option linter.unusedVariables false
namespace Mine

section
variable {C : Cx} {env : Env} {μ : List MO} {X : XPost}

def Ifs (C : Cx) (env : Env) (μ : List MO) (ifs : List Expr) (P : Bool → List MO → Prop) (X : XPost) : Prop :=
  TrB C μ (forIn ifs true fun c r => if r = true then do let ok ← isTrue c env (eval c env); pure (ForInStep.yield ok) else pure (ForInStep.yield r)) P X
theorem ifs_nil {P : Bool → List MO → Prop} (h : P true μ) : Ifs C env μ [] P X := fun T ρ s Q E st hQ hE => wpAny_tests_nil (hQ _ _ _ h st)
theorem ifs_one {c : Expr} {P : Bool → List MO → Prop} (h : Te C env μ c P X) : Ifs C env μ [c] P X := fun T ρ s Q E st hQ hE => wpAny_tests_one (h T ρ s Q E st hQ hE)

theorem St.weaken {B : Shared} {F : List Addr} {T : List (Value × D)} {s : Shared} {x x' : MO} {pre post : List MO} (st : St B F T (pre ++ x :: post) s) (ho : x'.owned = x.owned) (hx : ∀ φ : FM, x.holds φ s.heap → x'.holds φ s.heap) (hf : x'.fr = x.fr := by rfl) : St B F T (pre ++ x' :: post) s :=
  St.turn st ho (fun _ _ _ e => e) (fun φ _ _ h => hx φ h) (fun _ q => q) s.toks hf
theorem St.fr_lt {B : Shared} {F : List Addr} {T : List (Value × D)} {μ : List MO} {s : Shared} (st : St B F T μ s) : ∀ L ∈ F, L < s.heap.objs.size := fun L hL => by
  obtain ⟨⟨φ, _, _, h3, _⟩, _, hg⟩ := st
  obtain ⟨x, hx, e⟩ := List.mem_filterMap.mp (hg.2 L hL)
  obtain ⟨o, e'⟩ := MO.holds_there (h3 x hx) L (own_fr e)
  exact Heap.lt_size e'
theorem St.forgetLocals {B : Shared} {F : List Addr} {T : List (Value × D)} {s : Shared} {L : Addr} {kn : List (Str × NameKind)} {ns ns' : List Str} {vs : List (Option D)} {post : List MO} (st : St B F T (.frame L kn ns vs :: post) s) : St B F T (.frame L kn ns' (ns'.map fun _ => none) :: post) s :=
  St.weaken (pre := []) st rfl fun φ ⟨mv, hn, _, hc⟩ => ⟨mv, hn, fun x d e => (look_nones e).elim, hc⟩

theorem St.freeze {B : Shared} {F : List Addr} {T : List (Value × D)} {s : Shared} {a : Addr} {ds : List D} {μ ρ : List MO} (st : St B F T (μ ++ .list a ds :: ρ) s) : St B F ((.ref a, .lst ds) :: T) (μ ++ ρ) s := by
  obtain ⟨⟨φ, h1, h2, h3, h4, h5, h6⟩, ho, hg⟩ := st
  have hxm : MO.list a ds ∈ μ ++ .list a ds :: ρ := List.mem_append_right _ (.head _)
  have sub : List.Sublist (μ ++ ρ) (μ ++ .list a ds :: ρ) := (List.Sublist.refl μ).append (List.sublist_cons_self _ _)
  have ha : φ a = none := h4 _ hxm a (by simp [MO.owned])
  obtain ⟨vs, hpl, r⟩ := h3 _ hxm
  obtain ⟨o, hoa, hc, n, hd⟩ := hpl.isList
  let ψ : FM := fun b => if b = a then some o else φ b
  have kψ : FM.le φ ψ := fun b o' e => by
    show (if b = a then some o else φ b) = some o'
    rw [if_neg (fun q => by rw [q, ha] at e; cases e)]; exact e
  have apart : ∀ y ∈ μ ++ ρ, ∀ b ∈ y.owned, b ≠ a := by
    rw [List.flatMap_append, List.flatMap_cons] at h5
    obtain ⟨_, hb, hc⟩ := List.nodup_append.mp h5
    obtain ⟨_, _, he⟩ := List.nodup_append.mp hb
    intro y hy b hb' e
    subst e
    rcases List.mem_append.mp hy with hy | hy
    · exact hc b (List.mem_flatMap.mpr ⟨y, hy, hb'⟩) b (List.mem_append_left _ (by simp [MO.owned])) rfl
    · exact he b (by simp [MO.owned]) b (List.mem_flatMap.mpr ⟨y, hy, hb'⟩) rfl
  refine ⟨⟨ψ, fun b o' e => kψ b o' (h1 b o' e), fun b o' e => ?_, fun y hy => ?_, fun y hy b hb => ?_, ?_, fun p hp => ?_⟩, ho, hg.1, fr_without hg.2 (by intro _ _ h; cases h)⟩
  · by_cases q : b = a
    · subst q
      have : some o = some o' := by rw [← e]; exact (if_pos rfl).symm
      cases this; exact hoa
    · exact h2 b o' (by rw [← e]; exact (if_neg q).symm)
  · exact MO.holds_turned (S := []) kψ (fun _ _ _ e => e) (h3 y (sub.subset hy)) (by simp)
  · exact (if_neg (apart y hy b hb)).trans (h4 y (sub.subset hy) b hb)
  · rw [List.flatMap_append]
    rw [List.flatMap_append, List.flatMap_cons] at h5
    exact ((List.Sublist.refl _).append (List.sublist_append_right _ _)).nodup h5
  · rcases List.mem_cons.mp hp with rfl | hp
    · exact .lst (if_pos rfl) hc hd (r.mono kψ)
    · exact (h6 p hp).mono kψ

def ClOk (scope : Scope) (env : Env) (cl : List (Str × Addr)) : Prop := ∀ x, (x, NameKind.free) ∈ scope.names → cl.lookup x = env.cells.lookup x
theorem closureFor_ok {scope : Scope} (h : ∀ x, (x, NameKind.free) ∈ scope.names → ∃ c, env.cells.lookup x = some c) : ∃ cl, closureFor scope env = pure cl ∧ ClOk scope env cl := by
  have aux : ∀ (names : List (Str × NameKind)) (acc : List (Str × Addr)), (∀ x, (x, NameKind.free) ∈ names → ∃ c, env.cells.lookup x = some c) → (∀ p ∈ acc, env.cells.lookup p.1 = some p.2) →
      ∃ cl : List (Str × Addr), (forIn names acc fun (x : Str × NameKind) (cs : List (Str × Addr)) => (match x with | (name, kind) => if (kind == .free) = true then (do let a ← cellOf env name; pure (ForInStep.yield ((name, a) :: cs))) else pure (ForInStep.yield cs) : Sem (ForInStep (List (Str × Addr))))) = pure cl ∧
        (∀ p ∈ cl, env.cells.lookup p.1 = some p.2) ∧ (∀ p ∈ acc, p ∈ cl) ∧ ∀ x, (x, NameKind.free) ∈ names → ∃ c, (x, c) ∈ cl := by
    intro names
    induction names with
    | nil => intro acc _ ha; exact ⟨acc, by rw [List.forIn_nil], ha, fun _ q => q, fun _ q => nomatch q⟩
    | cons y names ih =>
      obtain ⟨n, k⟩ := y
      intro acc hx ha
      by_cases hk : k = .free
      · subst hk
        obtain ⟨c, hc⟩ := hx n (.head _)
        obtain ⟨cl, e, h1, h2, h3⟩ := ih ((n, c) :: acc) (fun x q => hx x (.tail _ q)) fun p hp => by
          rcases List.mem_cons.mp hp with rfl | hp
          · exact hc
          · exact ha p hp
        refine ⟨cl, ?_, h1, fun p hp => h2 p (.tail _ hp), fun x q => ?_⟩
        · rw [List.forIn_cons]
          have : cellOf env n = pure c := by unfold cellOf; rw [hc]
          simp only [beq_self_eq_true, if_true, this, pure_bind]
          exact e
        · rcases List.mem_cons.mp q with q | q
          · cases q; exact ⟨c, h2 _ (.head _)⟩
          · exact h3 x q
      · obtain ⟨cl, e, h1, h2, h3⟩ := ih acc (fun x q => hx x (.tail _ q)) ha
        refine ⟨cl, ?_, h1, h2, fun x q => ?_⟩
        · rw [List.forIn_cons]
          have : (k == NameKind.free) = false := by simpa using hk
          simp only [this, Bool.false_eq_true, if_false, pure_bind]
          exact e
        · rcases List.mem_cons.mp q with q | q
          · cases q; exact absurd rfl hk
          · exact h3 x q
  obtain ⟨cl, e, h1, _, h3⟩ := aux scope.names [] h (fun _ q => nomatch q)
  refine ⟨cl, ?_, fun x hx => ?_⟩
  · unfold closureFor
    simp only [] at e ⊢
    rw [show (forIn scope.names ([] : List (Str × Addr)) fun x r => (match x with | (name, kind) => if (kind == .free) = true then (do let a ← cellOf env name; pure (ForInStep.yield ((name, a) :: r))) else pure (ForInStep.yield r) : Sem (ForInStep (List (Str × Addr))))) = pure cl from e]
    rfl
  · obtain ⟨c, hc⟩ := h3 x hx
    obtain ⟨c', hc'⟩ : ∃ c', cl.lookup x = some c' := by
      cases q : cl.lookup x with
      | some c' => exact ⟨c', rfl⟩
      | none => exact absurd (List.lookup_eq_none_iff.mp q _ hc) (by simp)
    rw [hc', h1 _ (mem_of_lookup hc')]

def CompTurn (C : Cx) (env : Env) (scope : Scope) (tn : List Str) (μ1 : List MO) (target elt : Expr) (ifs : List Expr) (d : D) (g g' : List D) : Prop :=
  ∀ cl Lc, ClOk scope env cl → Asg C (compEnvC scope cl Lc env) (.frame Lc [] tn (tn.map fun _ => none) :: μ1) target d (fun μ2 => Ifs C (compEnvC scope cl Lc env) μ2 ifs (fun b μ3 =>
    (b = true → Ev C (compEnvC scope cl Lc env) μ3 elt (fun y μ4 => g' = g ++ [y] ∧ ∃ vs, μ4 = .frame Lc [] tn vs :: μ1) noX) ∧ (b = false → g' = g ∧ ∃ vs, μ3 = .frame Lc [] tn vs :: μ1)) noX) noX

theorem comp_core {T₀ : List (Value × D)} {target iter elt : Expr} {ifs : List Expr} {scope : Scope} {cl : List (Str × Addr)} {tn : List Str} {pos : Pos} {it : Addr} {R : Nat → Obj → Prop} {ds : List D} {G : Nat → List D} {I : Nat → List MO → Prop} {RR : Value → Addr → Result → Shared → Prop}
    (S : Src C T₀ it R ds I) (hI : ∀ i x, I i (x :: μ)) (hcl : ClOk scope env cl) (ht : ∀ v, letOwnedTupleGo target (.ref it) v = pure ()) (hcell : ∀ y ∈ scope.names, y.2 ≠ .cell) (hkind : scope.kind = .function) (hG0 : G 0 = []) (hlen : ∀ i, (G i).length ≤ sizeLine)
    (turn : ∀ i d, ds[i]? = some d → CompTurn C env scope tn μ target elt ifs d (G i) (G (i + 1)))
    (T : List (Value × D)) (ρ : List MO) (s : Shared) (E : Value → Shared → Prop) (hT : ∀ p ∈ T₀, p ∈ T) (st : St C.B C.F T (μ ++ MO.raw it (R 0) :: ρ) s)
    (hRR : ∀ Dl Cl s' vs, (∀ L ∈ C.F, L ≠ Cl) → St C.B C.F T (.frame Cl [] tn vs :: (μ ++ .list Dl (G ds.length) :: ρ)) s' → RR (.ref Dl) Cl (.ok .next) s') :
    wpAny C.M C.A (newList []) (fun acc s₃ => wpAny C.M C.A (newFunctionEnv scope env.globals cl [] env.qual none .none (some env)) (fun cenv s₄ =>
      codeAny C.M C.A (.compStart (.ListComp elt [⟨target, iter, ifs, 0⟩] scope pos) 0 (.ref it) acc { cenv with scope := relabel scope env }) (RR acc cenv.locals) s₄) E s₃) E s := by
  refine wpAny_newObj_type (wpAny_newFunctionEnv hcell (by intro y hy; simp at hy) (fun h₁ hns₁ hsb₁ => ?_) hkind)
  dsimp only at hns₁ hsb₁ ⊢
  have st1 : St C.B C.F T (μ ++ (.list s.heap.objs.size (G 0)) :: MO.raw it (R 0) :: ρ) { s with heap := s.heap.push { cls := .type "list", dict := none, data := .seq ([] : List Value).toArray } } :=
    st.alloc rfl s.toks fun φ _ => ⟨[], ⟨_, Heap.get?_push_size _ rfl⟩, by rw [hG0]; exact .nil⟩
  have hne : ∀ L ∈ C.F, L ≠ (s.heap.push { cls := .type "list", dict := none, data := .seq ([] : List Value).toArray }).objs.size := fun L hL => Nat.ne_of_lt (st1.fr_lt L hL)
  generalize hH : s.heap.push { cls := .type "list", dict := none, data := .seq ([] : List Value).toArray } = H at hns₁ hsb₁ st1 hne ⊢
  have st2 : St C.B C.F T (.frame H.objs.size [] tn (tn.map fun _ => none) :: (μ ++ (.list s.heap.objs.size (G 0)) :: MO.raw it (R 0) :: ρ)) { s with heap := h₁ } := by
    have a1 := St.alloc (μ := []) (x := .frame H.objs.size [] tn (tn.map fun _ => none)) (o := { cls := .type "dict", data := .dict #[] }) st1 rfl s.toks fun φ _ => ⟨_, Heap.Ns.new _ _, fun _ _ e => (look_nones e).elim, fun _ q => nomatch q⟩
    exact St.turnAt (μ := []) (x' := .frame H.objs.size [] tn (tn.map fun _ => none)) a1 rfl (Turned.of_sameBut hsb₁) (fun φ _ _ _ => ⟨_, hns₁, fun _ _ e => (look_nones e).elim, fun _ q => nomatch q⟩) s.toks
  have loop : ∀ t : Nat, codeAny C.M C.A (.compLoop (.ListComp elt [⟨target, iter, ifs, 0⟩] scope pos) 0 (.ref it) (.ref s.heap.objs.size) (compEnvC scope cl H.objs.size env)) (RR (.ref s.heap.objs.size) H.objs.size) { s with heap := h₁, toks := t } := by
    intro t
    refine codeAny_compLoop_tests (fun k s' => ∃ i vs, k + i = ds.length ∧ St C.B C.F T (.frame H.objs.size [] tn vs :: (μ ++ (.list s.heap.objs.size (G i)) :: MO.raw it (R i) :: ρ)) s') (fun k s' ⟨i, vs, hk, st⟩ => ?_) ds.length ⟨0, _, rfl, st2.toks t⟩ ht
    by_cases hi : i < ds.length
    · obtain ⟨d, hd⟩ : ∃ d, ds[i]? = some d := ⟨_, List.getElem?_eq_getElem hi⟩
      have st' : St C.B C.F T ((.frame H.objs.size [] tn (tn.map fun _ => none) :: μ) ++ MO.raw it (R i) :: .list s.heap.objs.size (G i) :: ρ) s' :=
        (st.forgetLocals (ns' := tn)).perm' (.cons _ ((List.Perm.refl μ).append (.swap _ _ _)))
      refine S.next hT (hI _ _) hd st' fun v s1 st1 => ?_
      refine turn i d hd cl H.objs.size hcl ((v, d) :: T) v (.head _) (MO.raw it (R (i + 1)) :: .list s.heap.objs.size (G i) :: ρ) s1 _ _ st1 (fun μ2 s2 h2 st2 => ?_) fun _ _ _ _ _ q => q.elim
      refine h2 T _ s2 _ _ st2.tail (fun b μ3 s3 h3 st3 => ?_) fun _ _ _ _ _ q => q.elim
      cases b with
      | false =>
        obtain ⟨hg, vs', rfl⟩ := h3.2 rfl
        refine ⟨k - 1, by lia, i + 1, vs', by lia, ?_⟩
        rw [hg]
        exact st3.perm' (.cons _ ((List.Perm.refl μ).append (.swap _ _ _)))
      | true =>
        refine h3.1 rfl T _ s3 _ _ st3 (fun y d' μ4 s4 h4 st4 => ?_) fun _ _ _ _ _ q => q.elim
        obtain ⟨hg, vs', rfl⟩ := h4
        have st5 : St C.B C.F ((y, d') :: T) ((.frame H.objs.size [] tn vs' :: μ) ++ .list s.heap.objs.size (G i) :: MO.raw it (R (i + 1)) :: ρ) s4 := st4.perm' (.cons _ ((List.Perm.refl μ).append (.swap _ _ _)))
        obtain ⟨⟨φ, _, _, hh, _⟩, _, _⟩ := id st5
        obtain ⟨us, hl, r⟩ := hh _ (List.mem_append_right _ (.head _))
        refine wpAny_list_append_plain hl (fun h' hl' hs' => ⟨k - 1, by lia, i + 1, vs', by lia, ?_⟩) (by rw [List.size_toArray, r.length]; exact hlen i)
        rw [hg]
        refine St.tail (p := (y, d')) (St.turnAt (x' := .list s.heap.objs.size (G i ++ [d'])) st5 rfl (Turned.of_sameBut hs') (fun φ' q6 q7 ⟨us', hl2, r2⟩ => ⟨us' ++ [y], ?_, r2.append (.cons (q7 _ (.head _)) .nil)⟩) s4.toks)
        have : us' = us := by
          obtain ⟨n, e⟩ := hl; obtain ⟨n', e'⟩ := hl2
          rw [e] at e'; cases e'; rfl
        subst this
        simpa using hl'
    · have hi' : i = ds.length := by lia
      subst hi'
      have st' : St C.B C.F T ((.frame H.objs.size [] tn vs :: μ) ++ MO.raw it (R ds.length) :: .list s.heap.objs.size (G ds.length) :: ρ) s' :=
        st.perm' (.cons _ ((List.Perm.refl μ).append (.swap _ _ _)))
      exact S.fin hT (hI _ _) st' fun s1 st1 => hRR _ _ _ _ hne st1
  refine codeAny_compStart_list (loop _) ?_
  have st3 : St C.B C.F T ((.frame H.objs.size [] tn (tn.map fun _ => none) :: μ) ++ MO.raw it (R 0) :: .list s.heap.objs.size (G 0) :: ρ) { s with heap := h₁, toks := s.toks + ([] : List (Str × Value)).length } :=
    (st2.toks _).perm' (.cons _ ((List.Perm.refl μ).append (.swap _ _ _)))
  exact S.self st3 (loop _)

def CompI (μ : List MO) : Nat → List MO → Prop := fun _ μ' => μ' = μ ∨ ∃ x, μ' = x :: μ
theorem compI_items {d : D} {ds : List D} (h : Items μ d ds) : ∀ i μ', CompI μ i μ' → Items μ' d ds
  | _, _, .inl e => by rw [e]; exact h
  | _, _, .inr ⟨x, e⟩ => by rw [e]; exact h.cons x

def compScope (scope : Scope) : Bool := scope.names.all (fun y => y.2 != .cell) && scope.names.all (fun y => y.2 != .local || scope.names.lookup y.1 == some .local)
theorem compScope_ok {scope : Scope} (h : compScope scope = true) : (∀ y ∈ scope.names, y.2 ≠ .cell) ∧ ∀ y ∈ scope.names, y.2 = .local → scope.names.lookup y.1 = some .local := by
  obtain ⟨a, b⟩ := Bool.and_eq_true_iff.mp h
  refine ⟨fun y hy e => ?_, fun y hy e => ?_⟩
  · have := List.all_eq_true.mp a y hy; rw [e] at this; simp at this
  · have := List.all_eq_true.mp b y hy; rw [e] at this; simpa using this

theorem ev_comp {target iter elt : Expr} {ifs : List Expr} {scope : Scope} {pos : Pos} {P : Post} {X : XPost} (tn : List Str)
    (h : Ev C env μ iter (fun d μ1 => ∃ ds, ∃ G : Nat → List D, Itb C d ds (CompI μ1) ∧ G 0 = [] ∧ (∀ i, (G i).length ≤ sizeLine) ∧ (∀ i d, ds[i]? = some d → CompTurn C env scope tn μ1 target elt ifs d (G i) (G (i + 1))) ∧ P (.lst (G ds.length)) μ1) X)
    (hfr : ∀ x, (x, NameKind.free) ∈ scope.names → ∃ c, env.cells.lookup x = some c) (hsc : compScope scope = true) (hkind : scope.kind = .function) (ht : ∀ it v, letOwnedTupleGo target it v = pure ()) (hs : ∀ x, foldedSetIterable iter env x = pure x) :
    Ev C env μ (.ListComp elt [⟨target, iter, ifs, 0⟩] scope pos) P X := by
  intro T ρ s Q E st hQ hE
  obtain ⟨hcell, hnames⟩ := compScope_ok hsc
  obtain ⟨cl, hclos, hclok⟩ := closureFor_ok hfr
  show wpAny C.M C.A (eval (.ListComp elt [⟨target, iter, ifs, 0⟩] scope pos) env) Q E s
  rw [eval_ListComp]
  refine wpAny_comprehension_free (use := none) rfl hs hclos hkind hnames (h T ρ s _ _ st (fun v d μ1 s1 ⟨ds, G, hit, hG0, hlen, turn, p⟩ st1 => ?_) hE)
  refine hit v _ μ1 ρ s1 _ _ (.head _) (.inl rfl) st1 fun it R s2 S st2 => ?_
  refine comp_core (RR := fun acc Cl => compPost C.M C.A E none Q acc Cl) S (fun _ x => .inr ⟨x, rfl⟩) hclok (ht _) hcell hkind hG0 hlen turn ((v, d) :: T) ρ s2 E (fun _ q => by rw [List.mem_singleton] at q; rw [q]; exact .head _) st2 fun Dl Cl s' vs' hne st' => ?_
  obtain ⟨⟨φ, _, _, h3, _⟩, _, _⟩ := id st'
  obtain ⟨mv, hn, _⟩ := h3 _ (.head _)
  refine ⟨mv, hn, fun h' hs' => hQ _ _ _ _ p ?_⟩
  have := St.gone (μ := []) st' ((Turned.of_sameBut hs').mono fun a ha => by rw [List.mem_singleton] at ha; rw [ha]; exact List.mem_cons_self) s'.toks (fun L hL e => hne L hL (Option.some.inj e).symm)
  exact (St.freeze this).drop2

theorem ex_assign_comp {x : Str} {p pos : Pos} {target iter elt : Expr} {ifs : List Expr} {scope : Scope} {cpos : Pos} {P : Fw → List MO → Prop} {X : XPost} (tn : List Str)
    (h : Ev C env μ iter (fun d μ1 => ∃ ds, ∃ G : Nat → List D, Itb C d ds (CompI μ1) ∧ G 0 = [] ∧ (∀ i, (G i).length ≤ sizeLine) ∧ (∀ i d, ds[i]? = some d → CompTurn C env scope tn μ1 target elt ifs d (G i) (G (i + 1))) ∧ Sto C env μ1 x (.lst (G ds.length)) (P .next) X) X)
    (hsw : swapsWith (.ListComp elt [⟨target, iter, ifs, 0⟩] scope cpos) (some (.Name x p)) pos.line env = pure true)
    (hfr : ∀ x, (x, NameKind.free) ∈ scope.names → ∃ c, env.cells.lookup x = some c) (hsc : compScope scope = true) (hkind : scope.kind = .function) (ht : ∀ it v, letOwnedTupleGo target it v = pure ()) (hs : ∀ x, foldedSetIterable iter env x = pure x) :
    Ex1 C env μ (.Assign [.Name x p] (.ListComp elt [⟨target, iter, ifs, 0⟩] scope cpos) pos) P X := by
  intro T ρ s Q E st hQ hE
  obtain ⟨hcell, hnames⟩ := compScope_ok hsc
  obtain ⟨cl, hclos, hclok⟩ := closureFor_ok hfr
  show wpAny C.M C.A (exec (.Assign [.Name x p] (.ListComp elt [⟨target, iter, ifs, 0⟩] scope cpos) pos) env) Q E s
  rw [exec_Assign_Name_used _ _ _ _ hsw]
  refine wpAny_bind (wpAny_standAt (wpAny_bind ?_))
  show wpAny _ C.A (do let _ ← comprehension (.ListComp elt [⟨target, iter, ifs, 0⟩] scope cpos) scope env _ (newList []) false (eval iter env) (some (assign (.Name x p) env))) _ _ s
  refine wpAny_bind (wpAny_mono (wpAny_comprehension_free (use := some (assign (.Name x p) env)) (Q := fun _ s' => Q .next s') rfl hs hclos hkind hnames
    (h T ρ s _ _ st (fun v d μ1 s1 ⟨ds, G, hit, hG0, hlen, turn, q⟩ st1 => ?_) hE)) (fun _ s' hq => wpAny_pure (wpAny_pure hq)) fun _ _ e => e)
  refine hit v _ μ1 ρ s1 _ _ (.head _) (.inl rfl) st1 fun it R s2 S st2 => ?_
  refine comp_core (RR := fun acc Cl => compPost C.M C.A E (some (assign (.Name x p) env)) (fun _ s' => Q .next s') acc Cl) S (fun _ x => .inr ⟨x, rfl⟩) hclok (ht _) hcell hkind hG0 hlen turn ((v, d) :: T) ρ s2 E (fun _ q => by rw [List.mem_singleton] at q; rw [q]; exact .head _) st2 fun Dl Cl s' vs' hne st' => ?_
  have stf : St C.B C.F ((.ref Dl, .lst (G ds.length)) :: T) (μ1 ++ .frame Cl [] tn vs' :: ρ) s' :=
    ((St.freeze (μ := .frame Cl [] tn vs' :: μ1) st').drop2).perm' List.perm_middle.symm
  show wpAny C.M C.A (assign (.Name x p) env (.ref Dl)) _ _ _
  refine wpAny_assign_Name (q _ (.ref Dl) (.head _) (.frame Cl [] tn vs' :: ρ) s' _ _ stf (fun μ' s'' pp st'' => ?_) fun e c tb μ' s'' xx st'' => hE e c tb μ' s'' xx (St.forgetAt (μ := .exc e c tb :: μ') st'' (fun L hL e => hne L hL (Option.some.inj e).symm)).tail)
  obtain ⟨⟨φ, _, _, h3, _⟩, _, _⟩ := id st''
  obtain ⟨mv, hn, _⟩ := h3 (.frame Cl [] tn vs') (List.mem_append_right _ (.head _))
  refine ⟨mv, hn, fun h' hs' => hQ .next .next _ _ pp ?_⟩
  exact (St.gone st'' ((Turned.of_sameBut hs').mono fun a ha => by rw [List.mem_singleton] at ha; rw [ha]; exact List.mem_cons_self) s''.toks (fun L hL e => hne L hL (Option.some.inj e).symm)).tail
end
end Mine

open PySem PyProof.Rows
set_option linter.unusedVariables false
namespace Mine
section
variable {C : Cx} {env : Env} {μ : List MO} {P : Post} {X : XPost}

theorem ev_callT {x : Str} {np pos : Pos} {args : List Expr} {T : String} (hn : ∀ P', P' (.val (.type T)) μ → Ev C env μ (.Name x np) P' X) (hs : noStars args = true)
    (h : EvL C env μ args (fun ds μ1 => Ca C (.type T) ds μ1 P X) X) : Ev C env μ (.Call (.Name x np) args [] pos) P X := by
  intro Ts ρ s Q E st hQ hE
  refine wpAny_Call_ofName (hn (fun d μ1 => d = .val (.type T) ∧ μ1 = μ) ⟨rfl, rfl⟩ Ts ρ s _ _ st (fun v d μ1 s1 ⟨hd1, hμ⟩ st1 => ?_) hE)
  subst hd1 hμ
  have e := st1.isVal (.head _); subst e
  rw [starEach_plain env hs, backTo_plain]
  refine PyProof.Rows.callWith_type (by simp) (evl_evalArgs h Ts ρ s1 _ _ st1.tail (fun vs ds μ' s' T' p hl hz hT st' => ?_) hE)
  exact (p T' vs hl hz).from hT ρ s' Q E st' hQ hE

theorem ca1 {f : Value} {d : D} (h : ∀ T v, (v, d) ∈ T → TrT C T μ (call f [v]) P X) : Ca C f [d] μ P X := fun T vs hl hz => by
  match vs, hl, hz with
  | [v], _, hz => exact h T v (hz _ (.head _))
theorem ca2 {f : Value} {d e : D} (h : ∀ T v w, (v, d) ∈ T → (w, e) ∈ T → TrT C T μ (call f [v, w]) P X) : Ca C f [d, e] μ P X := fun T vs hl hz => by
  match vs, hl, hz with
  | [v, w], _, hz => exact h T v w (hz _ (.head _)) (hz _ (.tail _ (.head _)))
inductive Kd (μ : List MO) : D → String → Prop
  | none : Kd μ .none "NoneType"
  | bool (b : Bool) : Kd μ (.bool b) "bool"
  | int (i : Int) : Kd μ (.int i) "int"
  | str (x : Str) : Kd μ (.str x) "str"
  | tup (ds : List D) : Kd μ (.tup ds) "tuple"
  | lst (ds : List D) : Kd μ (.lst ds) "list"
  | own {a : Addr} {ds : List D} : MO.list a ds ∈ μ → Kd μ (.ref a) "list"
def isT (T K : String) : Bool := T == K || (T == "int" && K == "bool")
theorem St.isTup {B : Shared} {F : List Addr} {T : List (Value × D)} {s : Shared} {v : Value} {ds : List D} (st : St B F T μ s) (hv : (v, .tup ds) ∈ T) : ∃ a o, v = .ref a ∧ s.heap.get? a = some o ∧ o.cls = .type "tuple" := by
  obtain ⟨a, vs, e, ⟨o, ho, hc, _⟩, _⟩ := st.titems hv; exact ⟨a, o, e, ho, hc⟩
theorem St.isLst {B : Shared} {F : List Addr} {T : List (Value × D)} {s : Shared} {v : Value} {d : D} {ds : List D} (st : St B F T μ s) (hv : (v, d) ∈ T) (hi : Items μ d ds) : ∃ a o, v = .ref a ∧ s.heap.get? a = some o ∧ o.cls = .type "list" := by
  obtain ⟨a, vs, e, ⟨o, ho, hc, _⟩, _⟩ := st.items hv hi; exact ⟨a, o, e, ho, hc⟩

theorem ca_isi {d : D} {K T : String} (k : Kd μ d K) (hT : T ∈ ["int", "bool", "str", "list", "tuple"]) (h : P (.bool (isT T K)) μ) : Ca C (.builtin "isinstance") [d, .val (.type T)] μ P X := by
  refine ca2 fun Ts v w hv hw ρ s Q E st hQ hE => ?_
  have e := st.isVal hw; subst e
  have q0 : ∀ b, isT T K = b → Q (.bool b) s := fun b e => hQ _ _ _ _ h (by rw [e]; exact st.add (rBool _))
  have q1 : ∀ b, isT T K = b → Q (.bool b) { s with toks := s.toks + 1 } := fun b e => hQ _ _ _ _ h (by rw [e]; exact (st.toks _).add (rBool _))
  simp only [List.mem_cons, List.not_mem_nil, or_false] at hT
  cases k with
  | none =>
    have e := st.isNone hv; subst e
    rcases hT with rfl | rfl | rfl | rfl | rfl
    · exact IsiPair.NoneType_int (q1 _ rfl)
    · exact IsiPair.NoneType_bool (q1 _ rfl)
    · exact IsiPair.NoneType_str (q1 _ rfl)
    · exact IsiPair.NoneType_list (q1 _ rfl)
    · exact IsiPair.NoneType_tuple (q1 _ rfl)
  | bool b =>
    have e := st.isBool hv; subst e
    rcases hT with rfl | rfl | rfl | rfl | rfl
    · exact IsiPair.bool_int (q0 _ rfl)
    · exact IsiPair.bool_bool (q0 _ rfl)
    · exact IsiPair.bool_str (q1 _ rfl)
    · exact IsiPair.bool_list (q1 _ rfl)
    · exact IsiPair.bool_tuple (q1 _ rfl)
  | int i =>
    obtain ⟨t, rfl⟩ := st.isInt hv
    rcases hT with rfl | rfl | rfl | rfl | rfl
    · exact IsiPair.int_int (q0 _ rfl)
    · exact IsiPair.int_bool (q1 _ rfl)
    · exact IsiPair.int_str (q1 _ rfl)
    · exact IsiPair.int_list (q1 _ rfl)
    · exact IsiPair.int_tuple (q1 _ rfl)
  | str x =>
    obtain ⟨t, rfl⟩ := st.isStr hv
    rcases hT with rfl | rfl | rfl | rfl | rfl
    · exact IsiPair.str_int (q1 _ rfl)
    · exact IsiPair.str_bool (q1 _ rfl)
    · exact IsiPair.str_str (q0 _ rfl)
    · exact IsiPair.str_list (q1 _ rfl)
    · exact IsiPair.str_tuple (q1 _ rfl)
  | tup ds =>
    obtain ⟨a, o, rfl, ho, hc⟩ := st.isTup hv
    rcases hT with rfl | rfl | rfl | rfl | rfl
    · exact IsiPair.tuple_int ho hc (q1 _ rfl)
    · exact IsiPair.tuple_bool ho hc (q1 _ rfl)
    · exact IsiPair.tuple_str ho hc (q1 _ rfl)
    · exact IsiPair.tuple_list ho hc (q1 _ rfl)
    · exact IsiPair.tuple_tuple ho hc (q0 _ rfl)
  | lst ds =>
    obtain ⟨a, o, rfl, ho, hc⟩ := st.isLst hv (.inl rfl)
    rcases hT with rfl | rfl | rfl | rfl | rfl
    · exact IsiPair.list_int ho hc (q1 _ rfl)
    · exact IsiPair.list_bool ho hc (q1 _ rfl)
    · exact IsiPair.list_str ho hc (q1 _ rfl)
    · exact IsiPair.list_list ho hc (q0 _ rfl)
    · exact IsiPair.list_tuple ho hc (q1 _ rfl)
  | own hm =>
    obtain ⟨a, o, rfl, ho, hc⟩ := st.isLst hv (.inr ⟨_, rfl, List.mem_append_left _ hm⟩)
    rcases hT with rfl | rfl | rfl | rfl | rfl
    · exact IsiPair.list_int ho hc (q1 _ rfl)
    · exact IsiPair.list_bool ho hc (q1 _ rfl)
    · exact IsiPair.list_str ho hc (q1 _ rfl)
    · exact IsiPair.list_list ho hc (q0 _ rfl)
    · exact IsiPair.list_tuple ho hc (q1 _ rfl)

theorem ca_len {d : D} {ds : List D} (hi : Items μ d ds) (hl : ds.length < 2 ^ 62) (h : P (.int ds.length) μ) : Ca C (.builtin "len") [d] μ P X := by
  refine ca1 fun T v hv ρ s Q E st hQ hE => ?_
  obtain ⟨a, vs, rfl, hL, hlen, st2⟩ := st.items hv (hi.app ρ)
  refine Calls.call_len_list hL (by simp only [List.size_toArray]; lia) (hQ _ _ _ _ h ?_)
  rw [List.size_toArray, hlen]
  exact (st.toks _).add (rInt _ _)

theorem ca_list {d : D} {ds : List D} (hi : Items μ d ds) (hl : ds.length ≤ sizeLine) (h : P (.lst ds) μ) : Ca C (.type "list") [d] μ P X := by
  refine ca1 fun T v hv ρ s Q E st hQ hE => ?_
  obtain ⟨a, vs, rfl, ⟨o, ho, hc, n, hd⟩, hlen, st2⟩ := st.items hv (hi.app ρ)
  refine call_list_seq a (.inl rfl) ho hc hd (fun h' c' hk hD => hQ _ _ _ _ h ?_) (by simpa [hlen] using hl)
  have a1 : St C.B C.F (vs.zip ds ++ T) (μ ++ ρ) { s with heap := h' } := st2.grown hk s.toks
  obtain ⟨⟨φ, h1, h2, h3, h4, h5, h6⟩, hos, hg⟩ := st2
  have new : φ s.heap.objs.size = none := by
    cases q : φ s.heap.objs.size with
    | none => rfl
    | some o' => exact absurd (Heap.lt_size (h2 _ _ q)) (Nat.lt_irrefl _)
  let ψ : FM := fun b => if b = s.heap.objs.size then some { cls := .type "list", dict := none, data := .seq vs.toArray c', slots := #[] } else φ b
  have kψ : FM.le φ ψ := fun b o' e => by
    show (if b = s.heap.objs.size then some _ else φ b) = some o'
    rw [if_neg (fun q => by rw [q, new] at e; cases e)]; exact e
  refine ⟨⟨ψ, fun b o' e => kψ b o' (h1 b o' e), fun b o' e => ?_, fun y hy => MO.holds_turned (S := []) kψ (fun b o _ e => hk b o e) (h3 y hy) (by simp), fun y hy b hb => ?_, h5, fun p hp => ?_⟩, hos, hg⟩
  · by_cases q : b = s.heap.objs.size
    · subst q
      have : some ({ cls := .type "list", dict := none, data := .seq vs.toArray c', slots := #[] } : Obj) = some o' := by rw [← e]; exact (if_pos rfl).symm
      cases this; exact hD
    · exact hk b o' (h2 b o' (by rw [← e]; exact (if_neg q).symm))
  · obtain ⟨o', e'⟩ := MO.holds_there (h3 y hy) b hb
    exact (if_neg (Nat.ne_of_lt (Heap.lt_size e'))).trans (h4 y hy b hb)
  · rcases List.mem_cons.mp hp with rfl | hp
    · exact .lst (if_pos rfl) rfl rfl ((reps_zip hlen fun p hp => h6 p (List.mem_append_left _ hp)).mono kψ)
    · exact (h6 p (List.mem_append_right _ hp)).mono kψ

theorem ca_range1 {n : Int} (h : P (.rng 0 n 1) μ) : Ca C (.type "range") [.int n] μ P X := by
  refine ca1 fun T v hv ρ s Q E st hQ hE => ?_
  obtain ⟨t, rfl⟩ := st.isInt hv
  exact call_range_1 (hQ _ _ _ _ h (st.frozen rfl _ fun φ _ e => .rng e))
def intsD (ns : List Int) : List D := ns.map D.int
end
end Mine

open PySem PyProof.Rows
set_option linter.unusedVariables false
namespace Mine
section
variable {C : Cx} {env : Env} {μ : List MO} {P : Post} {X : XPost}

theorem bin_add_list {d e : D} {ds es : List D} (hd : Items μ d ds) (he : Items μ e es) (hl : ds.length + es.length ≤ sizeLine) (h : P (.lst (ds ++ es)) μ) : Bin C .Add d e μ P X := by
  intro T a b ha hb ρ s Q E st hQ hE
  obtain ⟨a', vs, rfl, hL, hlen, st2⟩ := st.items ha (hd.app ρ)
  obtain ⟨b', ws, rfl, hL2, hlen2, st3⟩ := st2.items (List.mem_append_right _ hb) (he.app ρ)
  obtain ⟨⟨cls, dd, data, sl⟩, ho, hc, n, hdat⟩ := hL
  obtain ⟨⟨cls2, dd2, data2, sl2⟩, ho2, hc2, n2, hdat2⟩ := hL2
  simp only at hc hdat hc2 hdat2
  subst hc hdat hc2 hdat2
  have e : vs.toArray ++ ws.toArray = (vs ++ ws).toArray := by simp
  refine concat_meets ⟨_, ho, rfl⟩ ⟨_, ho2, rfl⟩ noFill_list_add seq_list_add PySem.F.slot_list_add PySem.F.entry_list_add (PySem.F.args_list_add_2 _ _) (list_addW a' b' vs.toArray ws.toArray n n2 dd dd2 sl sl2 (by simp only [List.size_toArray]; lia)) ⟨ho, ho2, ?_⟩
  rw [e]
  refine hQ _ _ _ _ h ((st3.frozen (d := .lst (ds ++ es)) rfl _ fun φ hT hφ => ?_).keepHead fun p hp => List.mem_append_right _ (List.mem_append_right _ hp))
  exact .lst hφ rfl rfl ((reps_zip hlen fun p hp => hT p (List.mem_append_right _ (List.mem_append_left _ hp))).append (reps_zip hlen2 fun p hp => hT p (List.mem_append_left _ hp)))

def Sub (C : Cx) (value slice : Expr) (d i : D) (μ : List MO) (P : Post) (X : XPost) : Prop := ∀ T o iv, (o, d) ∈ T → (iv, i) ∈ T → TrT C T μ (subscriptTail value slice o iv) P X
theorem ev_Subscript {value slice : Expr} {pos : Pos} (h : Ev C env μ value (fun d μ1 => Ev C env μ1 slice (fun i μ2 => Sub C value slice d i μ2 P X) X) X) : Ev C env μ (.Subscript value slice pos) P X :=
  fun T ρ _ _ _ st hQ hE => Subscript_ (h T ρ _ _ _ st (fun a d1 μ1 s1 h1 st1 => h1 ((a, d1) :: T) ρ s1 _ _ st1
    (fun b d2 μ2 s2 h2 st2 => h2 _ a b (.tail _ (.head _)) (.head _) ρ s2 _ _ st2 (fun v d μ' s' p st' => hQ v d μ' s' p (st'.keepHead fun _ hq => .tail _ (.tail _ hq))) fun e c t μ' s' x st' => hE e c t μ' s' x (st'.sub fun _ hq => .tail _ (.tail _ hq)))
    fun e c t μ' s' x st' => hE e c t μ' s' x st'.tail) hE)
def noSlice : Expr → Bool
  | .Slice .. => false
  | _ => true
theorem sub_plain {slice : Expr} (h : noSlice slice = true) (o i : Value) : subscripted slice false o i = operate [o, i] (getItem o i) := by
  cases slice <;> first | rfl | (simp [noSlice] at h)
theorem zip_at {vs : List Value} {ds : List D} {k : Nat} {v : Value} {x : D} (h1 : vs[k]? = some v) (h2 : ds[k]? = some x) : (v, x) ∈ vs.zip ds :=
  List.mem_of_getElem? (i := k) (by rw [List.getElem?_zip_eq_some]; exact ⟨h1, h2⟩)
theorem at_of_len {vs : List Value} {ds : List D} {k : Nat} {x : D} (hl : vs.length = ds.length) (h : ds[k]? = some x) : ∃ v, vs[k]? = some v :=
  ⟨_, List.getElem?_eq_getElem (by rw [hl]; exact (List.getElem?_eq_some_iff.mp h).1)⟩

theorem sub_list {value slice : Expr} {d : D} {ds : List D} {k : Int} {x : D} (hi : Items μ d ds) (h0 : 0 ≤ k) (hx : ds[k.toNat]? = some x) (hk : k < 2 ^ 63) (hs : noSlice slice = true) (h : P x μ) : Sub C value slice d (.int k) μ P X := by
  intro T o iv ho hiv ρ s Q E st hQ hE
  obtain ⟨t, rfl⟩ := st.isInt hiv
  obtain ⟨a, vs, rfl, hL, hlen, st2⟩ := st.items ho (hi.app ρ)
  obtain ⟨v, hv⟩ := at_of_len hlen hx
  refine tail_any hL.typeIs slot_list_getitem.lookup (wpAny_getItem_list hL h0 hk (by simpa using hv) (hQ v x _ _ h ?_)) (sub_plain hs _ _)
  exact st2.sub fun p hp => by
    rcases List.mem_cons.mp hp with rfl | hp
    · exact List.mem_append_left _ (zip_at hv hx)
    · exact List.mem_append_right _ hp
theorem sub_tup {value slice : Expr} {ds : List D} {k : Int} {j : Nat} {x : D} (hj : seqIndex? k ds.length = some j) (hx : ds[j]? = some x) (hlo : -(2 ^ 63) ≤ k) (hk : k < 2 ^ 63) (hs : noSlice slice = true) (h : P x μ) : Sub C value slice (.tup ds) (.int k) μ P X := by
  intro T o iv ho hiv ρ s Q E st hQ hE
  obtain ⟨t, rfl⟩ := st.isInt hiv
  obtain ⟨a, vs, rfl, hL, hlen, st2⟩ := st.titems ho
  obtain ⟨v, hv⟩ := at_of_len hlen hx
  refine item_tupleT (show IsTup s.heap a vs.toArray from hL) hlo hk (by rw [hlen]; exact hj) hv (hQ v x _ _ h ?_) (sub_plain hs _ _)
  exact st2.sub fun p hp => by
    rcases List.mem_cons.mp hp with rfl | hp
    · exact List.mem_append_left _ (zip_at hv hx)
    · exact List.mem_append_right _ hp

theorem slice_upto (vs : List Value) (b : Int) (hb : 0 ≤ b) : slicePick vs.toArray none (some b) none = (vs.take b.toNat).toArray := by
  unfold slicePick
  have e : sliceBounds none (some b) none vs.toArray.size = (((0 : Nat) : Int), ((min b.toNat vs.length : Nat) : Int), 1) := by
    simp only [sliceBounds, Option.getD_none]
    have h2 : ¬ (b < 0) := by lia
    simp only [h2, if_false, show (1 : Int) > 0 by decide, if_true, List.size_toArray]
    congr 1
    congr 1; lia
  rw [e]
  simp only [sliceRange_one, pick_run]
  simp [List.take_eq_take_iff]
theorem slice_from (vs : List Value) (a : Int) (ha : 0 ≤ a) : slicePick vs.toArray (some a) none none = (vs.drop a.toNat).toArray := by
  unfold slicePick
  have e : sliceBounds (some a) none none vs.toArray.size = (((min a.toNat vs.length : Nat) : Int), ((vs.length : Nat) : Int), 1) := by
    simp only [sliceBounds, Option.getD_none]
    have h1 : ¬ (a < 0) := by lia
    simp only [h1, if_false, show (1 : Int) > 0 by decide, if_true, List.size_toArray]
    congr 1
    lia
  rw [e]
  simp only [sliceRange_one, pick_run]
  by_cases h : a.toNat ≤ vs.length
  · rw [Nat.min_eq_left h, List.take_of_length_le (by simp)]
  · rw [Nat.min_eq_right (by lia)]; simp; lia
theorem slice_both (vs : List Value) (a b : Int) (ha : 0 ≤ a) (hb : 0 ≤ b) : slicePick vs.toArray (some a) (some b) none = ((vs.drop a.toNat).take (b.toNat - a.toNat)).toArray := by
  unfold slicePick
  have e : sliceBounds (some a) (some b) none vs.toArray.size = (((min a.toNat vs.length : Nat) : Int), ((min b.toNat vs.length : Nat) : Int), 1) := by
    simp only [sliceBounds, Option.getD_none]
    have h1 : ¬ (a < 0) := by lia
    have h2 : ¬ (b < 0) := by lia
    simp only [h1, h2, if_false, show (1 : Int) > 0 by decide, if_true, List.size_toArray]
    congr 1
    · lia
    · congr 1; lia
  rw [e]
  simp only [sliceRange_one, pick_run]
  by_cases h : a.toNat ≤ vs.length
  · rw [Nat.min_eq_left h]
    congr 1
    rw [List.take_eq_take_iff]; simp; lia
  · have hm : min a.toNat vs.length = vs.length := by lia
    have h2 : vs.drop a.toNat = [] := by simp; lia
    rw [hm, h2]; simp

def EvO (C : Cx) (env : Env) (μ : List MO) (e : Option Expr) (P : Post) (X : XPost) : Prop := TrV C μ (evalPart e env) P X
theorem evo_none (h : P .none μ) : EvO C env μ none P X := fun T ρ s Q E st hQ hE => wpAny_pure (hQ _ _ _ _ h (st.add rNone))
theorem evo_some {e : Expr} (h : Ev C env μ e P X) : EvO C env μ (some e) P X := h
def partD : D → Option Int → Prop
  | .none, none => True
  | .int i, some j => i = j
  | _, _ => False
def cutD (lo hi : Option Int) (ds : List D) : List D := match lo, hi with
  | none, none => ds
  | none, some b => ds.take b.toNat
  | some a, none => ds.drop a.toNat
  | some a, some b => (ds.drop a.toNat).take (b.toNat - a.toNat)
theorem cut_vals {φ : FM} {vs : List Value} {ds : List D} (r : Reps φ vs ds) (lo hi : Option Int) (hlo : ∀ a, lo = some a → 0 ≤ a) (hhi : ∀ a, hi = some a → 0 ≤ a) (hb : lo.isSome ∨ hi.isSome) : ∃ ws : List Value, slicePick vs.toArray lo hi none = ws.toArray ∧ Reps φ ws (cutD lo hi ds) := by
  match lo, hi with
  | none, none => simp at hb
  | none, some b => exact ⟨_, slice_upto vs b (hhi b rfl), r.take _⟩
  | some a, none => exact ⟨_, slice_from vs a (hlo a rfl), r.drop _⟩
  | some a, some b => exact ⟨_, slice_both vs a b (hlo a rfl) (hhi b rfl), (r.drop _).take _⟩
mutual
def toP : D → PyData
  | .none => .none
  | .bool b => .bool b
  | .int i => .int i
  | .str x => .str x
  | .tup ds => .tuple (toPs ds)
  | .lst ds => .list (toPs ds)
  | _ => .none
def toPs : List D → List PyData
  | [] => []
  | d :: ds => toP d :: toPs ds
end
mutual
def plainD : D → Bool
  | .none | .bool _ | .int _ | .str _ => true
  | .tup ds => plainDs ds
  | .lst ds => plainDs ds
  | _ => false
def plainDs : List D → Bool
  | [] => true
  | d :: ds => plainD d && plainDs ds
end
mutual
theorem Rep.reads {φ : FM} {h : Heap} (k : ∀ a o, φ a = some o → h.get? a = some o) : ∀ {v d}, Rep φ v d → plainD d = true → ∃ as, Reads h v (toP d) as
  | _, _, .none, _ => ⟨_, by simp only [toP]; exact .none⟩
  | _, _, .bool b, _ => ⟨_, by simp only [toP]; exact .bool b⟩
  | _, _, .int i t, _ => ⟨_, by simp only [toP]; exact .int i t⟩
  | _, _, .str x t, _ => ⟨_, by simp only [toP]; exact .str x t⟩
  | _, _, .tup ha hc hd r, hp => by
    obtain ⟨as, q⟩ := Reps.reads k r (by simpa [plainD] using hp)
    exact ⟨as, by simp only [toP]; exact .tuple (k _ _ ha) hc.1 hd q⟩
  | _, _, .lst ha hc hd r, hp => by
    obtain ⟨as, q⟩ := Reps.reads k r (by simpa [plainD] using hp)
    exact ⟨_ :: as, by simp only [toP]; exact .list (k _ _ ha) hc hd q⟩
  | _, _, .rng _, hp => by simp [plainD] at hp
  | _, _, .ref _, hp => by simp [plainD] at hp
  | _, _, .val _, hp => by simp [plainD] at hp
theorem Reps.reads {φ : FM} {h : Heap} (k : ∀ a o, φ a = some o → h.get? a = some o) : ∀ {vs ds}, Reps φ vs ds → plainDs ds = true → ∃ as, ReadsAll h vs (toPs ds) as
  | _, _, .nil, _ => ⟨[], by simp only [toPs]; exact .nil⟩
  | _, _, .cons h1 h2, hp => by
    simp only [plainDs, Bool.and_eq_true] at hp
    obtain ⟨a, q⟩ := Rep.reads k h1 hp.1
    obtain ⟨b, r⟩ := Reps.reads k h2 hp.2
    exact ⟨a ++ b, by simp only [toPs]; exact .cons q r⟩
end
def Seen (μ : List MO) (d : D) (e : D) : Prop := d = e ∨ ∃ a ds, d = .ref a ∧ MO.list a ds ∈ μ ∧ e = .lst ds
theorem Seen.app {d e : D} (h : Seen μ d e) (ρ : List MO) : Seen (μ ++ ρ) d e := h.imp id fun ⟨a, ds, h1, h2, h3⟩ => ⟨a, ds, h1, List.mem_append_left _ h2, h3⟩
theorem St.reads {B : Shared} {F : List Addr} {T : List (Value × D)} {s : Shared} {v : Value} {d e : D} (st : St B F T μ s) (hv : (v, d) ∈ T) (hs : Seen μ d e) (hp : plainD e = true) : ∃ as, Reads s.heap v (toP e) as := by
  obtain ⟨⟨φ, h1, h2, h3, h4, h5, h6⟩, ho, hg⟩ := st
  rcases hs with rfl | ⟨a, ds, rfl, hm, rfl⟩
  · exact (h6 _ hv).reads h2 hp
  · have := h6 _ hv
    cases this
    obtain ⟨vs, hpl, r⟩ := h3 _ hm
    obtain ⟨o, hoo, hc, n, hd⟩ := hpl.isList
    obtain ⟨as, q⟩ := r.reads h2 (by simpa [plainD] using hp)
    exact ⟨_ :: as, by simp only [toP]; exact .list hoo hc hd q⟩
theorem cmp_eqD {d e d' e' : D} {P : Bool → List MO → Prop} (hd : Seen μ d d') (he : Seen μ e e') (pd : plainD d' = true) (pe : plainD e' = true) (sd : SeqAt.shaped (toP d') = true) (se : SeqAt.shaped (toP e') = true) (hu : C.A.units + 64 < cLine)
    (h : P (PyData.eqv (toP d') (toP e')) μ) : Cmp C .Eq d e μ P X := by
  intro T a b ha hb ρ s Q E st hQ hE
  obtain ⟨as, ra⟩ := st.reads ha (hd.app ρ) pd
  obtain ⟨bs, rb⟩ := st.reads hb (he.app ρ) pe
  exact SeqAt.compareEq_shaped ra rb sd se hu (hQ _ _ _ _ ⟨_, rfl, h⟩ (st.add (rBool _)))
theorem cmp_neD {d e d' e' : D} {P : Bool → List MO → Prop} (hd : Seen μ d d') (he : Seen μ e e') (pd : plainD d' = true) (pe : plainD e' = true) (sd : SeqAt.shaped (toP d') = true) (se : SeqAt.shaped (toP e') = true) (hu : C.A.units + 64 < cLine)
    (h : P (!PyData.eqv (toP d') (toP e')) μ) : Cmp C .NotEq d e μ P X := by
  intro T a b ha hb ρ s Q E st hQ hE
  obtain ⟨as, ra⟩ := st.reads ha (hd.app ρ) pd
  obtain ⟨bs, rb⟩ := st.reads hb (he.app ρ) pe
  exact SeqAt.compareNe_shaped ra rb sd se hu (hQ _ _ _ _ ⟨_, rfl, h⟩ (st.add (rBool _)))
end
end Mine

open PySem PyProof.Rows
set_option linter.unusedVariables false
namespace Mine
theorem mHead {α : Type} {a : α} {l : List α} : a ∈ a :: l := .head _
theorem mTail {α : Type} {a b : α} {l : List α} (h : a ∈ l) : a ∈ b :: l := .tail _ h

def stAt (p : Program) (n : Nat) : Stmt := p.main.body.getD n (.Pass ⟨0, 0, 0, 0⟩)
def fBody : Stmt → List Stmt
  | .FunctionDef _ _ b _ _ _ _ _ _ _ => b
  | _ => []
def fScope : Stmt → Scope
  | .FunctionDef _ _ _ _ _ _ sc _ _ _ => sc
  | _ => ⟨.function, [], false, false, []⟩
def fParams : Stmt → Arguments
  | .FunctionDef _ a _ _ _ _ _ _ _ _ => a
  | _ => ⟨[], [], none, [], [], none, []⟩
structure Fq where
  name : Str
  qual : Str
  dV : Value
  kV : Value
  doc : Value
  pm : Value
  an : Option Addr
  cd : Value
  ct : Value
def mkFd (st : Stmt) (q : Fq) : FuncData :=
  { name := q.name, qualname := q.qual, params := fParams st, body := .stmts (fBody st), scope := fScope st, globals := mainGlobals, closure := [], defaults := q.dV, kwdefaults := q.kV, doc := q.doc, pyModule := q.pm, annotations := q.an, code := q.cd, closureTuple := q.ct, builtins := builtinsNs }
def FnSt (B : Shared) (f : Addr) (st : Stmt) (names : List Str) : Prop := ∃ q, FnAt B f (mkFd st q) (fBody st) names
def envK (kn : List (Str × NameKind)) (more : List (Str × Const)) (q : Fq) (L f : Addr) : Env :=
  { scope := ⟨.function, kn, false, false, more⟩, locals := L, globals := mainGlobals, cells := cellsK L kn, qual := q.qual ++ ".<locals>.", func := some f, code := q.cd, frame := some L, builtins := builtinsNs }
structure KN (kn : List (Str × NameKind)) : Prop where
  nd : (kn.map (·.1)).Nodup
  dbg : ∀ p ∈ kn, (p.1 == ("__debug__" : Str)) = false
def knOk (kn : List (Str × NameKind)) : Bool := decide (kn.map (·.1)).Nodup && kn.all fun p => !(p.1 == ("__debug__" : Str))
theorem KN.of {kn : List (Str × NameKind)} (h : knOk kn = true) : KN kn := by
  obtain ⟨a, b⟩ := Bool.and_eq_true_iff.mp h
  exact ⟨of_decide_eq_true a, fun p hp => by simpa using List.all_eq_true.mp b p hp⟩
structure LN (ns : List Str) : Prop where
  nd : ns.Nodup
theorem KN.look {kn : List (Str × NameKind)} (K : KN kn) {x : Str} {k : NameKind} (h : (x, k) ∈ kn) : kn.lookup x = some k := lookup_of_nodup K.nd h
theorem KN.noCell {kn : List (Str × NameKind)} (K : KN kn) {x : Str} {k : NameKind} (h : (x, k) ∈ kn) (hk : k ≠ .cell) (L : Addr) : (cellsK L kn).lookup x = none := by
  refine cellsFrom_none _ _ _ (List.all_eq_true.mpr fun p hp => ?_) rfl
  by_cases e : p.1 = x
  · have h1 := lookup_of_nodup K.nd hp
    have h2 := K.look h
    rw [e, h2] at h1
    cases h1
    simp [hk]
  · simp [e]
theorem KN.cell {kn : List (Str × NameKind)} (K : KN kn) {x : Str} (h : (x, NameKind.cell) ∈ kn) (L : Addr) : ∃ c, (cellsK L kn).lookup x = some c :=
  Option.isSome_iff_exists.mp (cellsFrom_some' _ _ _ (.inl (K.look h)))
structure KindE (env : Env) (x : Str) (k : NameKind) : Prop where
  fn : env.scope.kind = .function
  kind : env.kindOf x = some k
  dbg : (x == ("__debug__" : Str)) = false
theorem kindK {kn : List (Str × NameKind)} {more : List (Str × Const)} {q : Fq} {L f : Addr} {x : Str} {k : NameKind} (K : KN kn) (h : (x, k) ∈ kn) : KindE (envK kn more q L f) x k := ⟨rfl, K.look h, K.dbg _ h⟩
theorem lookup_relabel {env : Env} {names : List (Str × NameKind)} {x : Str} {k : NameKind} (hk : k ≠ .free) : names.lookup x = some k →
    (names.map fun (n, k) => if (k == NameKind.free && env.scope.kind == .function && env.kindOf n == some .cell) then (n, NameKind.cell) else (n, k)).lookup x = some k := by
  induction names with
  | nil => intro h; simp at h
  | cons y r ih =>
    obtain ⟨n, k'⟩ := y
    intro h
    rw [List.lookup_cons] at h
    show List.lookup x ((if (k' == NameKind.free && env.scope.kind == .function && env.kindOf n == some .cell) = true then (n, NameKind.cell) else (n, k')) :: _) = _
    cases hx : x == n with
    | true =>
      rw [hx] at h; cases h
      have : (k == NameKind.free) = false := by simpa using hk
      simp [this, List.lookup_cons, hx]
    | false =>
      rw [hx] at h
      split <;> (rw [List.lookup_cons, hx]; exact ih h)
theorem lookup_relabel_free {env : Env} {names : List (Str × NameKind)} {x : Str} (hc : (env.scope.kind == .function && env.kindOf x == some .cell) = true) : names.lookup x = some .free →
    (names.map fun (n, k) => if (k == NameKind.free && env.scope.kind == .function && env.kindOf n == some .cell) then (n, NameKind.cell) else (n, k)).lookup x = some .cell := by
  induction names with
  | nil => intro h; simp at h
  | cons y r ih =>
    obtain ⟨n, k'⟩ := y
    intro h
    rw [List.lookup_cons] at h
    show List.lookup x ((if (k' == NameKind.free && env.scope.kind == .function && env.kindOf n == some .cell) = true then (n, NameKind.cell) else (n, k')) :: _) = _
    cases hx : x == n with
    | true =>
      rw [hx] at h; cases h
      have e := beq_iff_eq.mp hx; subst e
      rw [Bool.and_assoc, hc]
      simp [List.lookup_cons]
    | false =>
      rw [hx] at h
      split <;> (rw [List.lookup_cons, hx]; exact ih h)
theorem kindC {scope : Scope} {cl : List (Str × Addr)} {Lc : Addr} {env : Env} {x : Str} {k : NameKind} (hf : scope.kind = .function) (K : KN scope.names) (h : (x, k) ∈ scope.names) (hk : k ≠ .free) : KindE (compEnvC scope cl Lc env) x k :=
  ⟨hf, lookup_relabel hk (K.look h), K.dbg _ h⟩
theorem kindCap {scope : Scope} {cl : List (Str × Addr)} {Lc : Addr} {env : Env} {x : Str} (hf : scope.kind = .function) (K : KN scope.names) (h : (x, NameKind.free) ∈ scope.names) (ho : KindE env x .cell) : KindE (compEnvC scope cl Lc env) x .cell :=
  ⟨hf, lookup_relabel_free (by rw [ho.fn, ho.kind]; rfl) (K.look h), K.dbg _ h⟩

structure AOk (C : Cx) (n : Nat) : Prop where
  handled : C.A.handled = none
  depth : C.A.depth + n < recursionLimit
  units : C.A.units + 64 + 4 * n < cLine
  fr : FrOk C
theorem FrAt.ok {C : Cx} {env : Env} {L : Addr} (h : FrAt C env L) : FrOk C := by
  obtain ⟨fs, h1, h2⟩ := h.here
  refine ⟨env :: fs, h1, fun e he => ?_⟩
  rcases List.mem_cons.mp he with rfl | he
  · exact ⟨h.kind, L, h.own, h.frame⟩
  · exact h2 e he
theorem AOk.deeper {C : Cx} {n : Nat} {env : Env} {L : Addr} (h : AOk C (n + 1)) (hat : FrAt (C.deeper env) env L) : AOk (C.deeper env) n :=
  ⟨h.handled, by have := h.depth; show C.A.depth + 1 + n < recursionLimit; lia, by have := h.units; show C.A.units + 3 + 64 + 4 * n < cLine; lia, hat.ok⟩
structure AOkW (C : Cx) (n : Nat) : Prop where
  depth : C.A.depth + n < recursionLimit
  units : C.A.units + 64 + 4 * n < cLine
  fr : FrOk C
theorem AOk.weak {C : Cx} {n : Nat} (h : AOk C n) : AOkW C n := ⟨h.depth, h.units, h.fr⟩
def Cx.marked (C : Cx) (e : Addr) : Cx := { C with A := C.A.mark (some (.ref e)) }
theorem AOkW.marked {C : Cx} {n : Nat} {e : Addr} (h : AOkW C n) : AOkW (C.marked e) n := ⟨h.depth, h.units, ⟨h.fr.ex⟩⟩
theorem AOkW.room {C : Cx} {n : Nat} (h : AOkW C n) : C.A.depth < recursionLimit := by have := h.depth; lia
theorem AOkW.mono {C : Cx} {n m : Nat} (h : AOkW C n) (hm : m ≤ n) : AOkW C m := ⟨by have := h.depth; lia, by have := h.units; lia, h.fr⟩
theorem AOkW.deeper {C : Cx} {n : Nat} {env : Env} {L : Addr} (h : AOkW C (n + 1)) (hat : FrAt (C.deeper env) env L) : AOkW (C.deeper env) n :=
  ⟨by have := h.depth; show C.A.depth + 1 + n < recursionLimit; lia, by have := h.units; show C.A.units + 3 + 64 + 4 * n < cLine; lia, hat.ok⟩
theorem AOk.mono {C : Cx} {n m : Nat} (h : AOk C n) (hm : m ≤ n) : AOk C m := ⟨h.handled, by have := h.depth; lia, by have := h.units; lia, h.fr⟩
theorem AOk.room {C : Cx} {n : Nat} (h : AOk C n) : C.A.depth < recursionLimit := by have := h.depth; lia
structure GOk (B : Shared) (gt bt ct : List (Str × Value)) : Prop where
  ex : ∃ mg mb, B.heap.Ns mainGlobals mg ∧ B.heap.Ns builtinsNs mb ∧ (∀ n v, (n, v) ∈ gt → mg n = some v) ∧ (∀ n v, (n, v) ∈ bt → mg n = none ∧ mb n = some v)
  cl : ∃ mg, B.heap.Ns mainGlobals mg ∧ ∀ n v, (n, v) ∈ ct → mg n = some v
  fn : ∀ n f, (n, Value.ref f) ∈ gt → ∃ fo fd, B.heap.get? f = some fo ∧ fo.data = .func fd

section
variable {C : Cx} {env : Env} {μ : List MO} {P : Post} {X : XPost}
theorem ev_g {gt bt ct : List (Str × Value)} {x : Str} {pos : Pos} {v : Value} {d : D} (G : GOk C.B gt bt ct) (hk : KindE env x .globalImplicit) (hgl : env.globals = mainGlobals) (hv : (x, v) ∈ gt) (hr : ∀ φ, Rep φ v d) (h : P d μ) : Ev C env μ (.Name x pos) P X := by
  obtain ⟨mg, mb, h1, h2, h3, h4⟩ := G.ex
  exact ev_global hk.fn hk.kind (hgl ▸ h1) (h3 x v hv) hr h hk.dbg
theorem ev_b {gt bt ct : List (Str × Value)} {x : Str} {pos : Pos} {v : Value} (G : GOk C.B gt bt ct) (hk : KindE env x .globalImplicit) (hgl : env.globals = mainGlobals) (hbl : env.builtins = builtinsNs) (hv : (x, v) ∈ bt) (h : P (.val v) μ) : Ev C env μ (.Name x pos) P X := by
  obtain ⟨mg, mb, h1, h2, h3, h4⟩ := G.ex
  exact ev_builtin hk.fn hk.kind (hgl ▸ h1) (h4 x v hv).1 (hbl ▸ h2) (h4 x v hv).2 h hk.dbg
theorem ev_c {gt bt ct : List (Str × Value)} {x : Str} {pos : Pos} {c : Addr} (G : GOk C.B gt bt ct) (hk : KindE env x .globalImplicit) (hgl : env.globals = mainGlobals) (hv : (x, Value.ref c) ∈ ct) (h : P (.ref c) μ) : Ev C env μ (.Name x pos) P X := by
  obtain ⟨mg, h1, h2⟩ := G.cl
  exact ev_global hk.fn hk.kind (hgl ▸ h1) (h2 x _ hv) (fun _ => .ref c) h hk.dbg
theorem nm_local {kn : List (Str × NameKind)} {more : List (Str × Const)} {q : Fq} {L f : Addr} {x : Str} {pos : Pos} {d : D} {ns : List Str} {vs : List (Option D)} (K : KN kn) (hx : (x, NameKind.local) ∈ kn) (hm : Look x d ns vs) (h : P d (.frame L kn ns vs :: μ)) : Ev C (envK kn more q L f) (.frame L kn ns vs :: μ) (.Name x pos) P X :=
  ev_local rfl (K.look hx) rfl (K.noCell hx (by decide) L) hm h (K.dbg _ hx)
theorem nm_cell {kn : List (Str × NameKind)} {more : List (Str × Const)} {q : Fq} {L f : Addr} {x : Str} {pos : Pos} {d : D} {ns : List Str} {vs : List (Option D)} (K : KN kn) (hx : (x, NameKind.cell) ∈ kn) (hm : Look x d ns vs) (h : P d (.frame L kn ns vs :: μ)) : Ev C (envK kn more q L f) (.frame L kn ns vs :: μ) (.Name x pos) P X := by
  obtain ⟨c, hc⟩ := K.cell hx L
  exact ev_cell rfl (K.look hx) hc (.head _) hc hm h (K.dbg _ hx)
theorem nc_local {scope : Scope} {cl : List (Str × Addr)} {Lc : Addr} {env : Env} {x : Str} {pos : Pos} {d : D} {ns : List Str} {vs : List (Option D)} (hf : scope.kind = .function) (K : KN scope.names) (hx : (x, NameKind.local) ∈ scope.names) (hm : Look x d ns vs) (h : P d (.frame Lc [] ns vs :: μ)) : Ev C (compEnvC scope cl Lc env) (.frame Lc [] ns vs :: μ) (.Name x pos) P X :=
  ev_local hf (kindC hf K hx (by decide)).kind rfl rfl hm h (K.dbg _ hx)
theorem nc_cap {scope : Scope} {cl : List (Str × Addr)} {Lc : Addr} {kn : List (Str × NameKind)} {more : List (Str × Const)} {q : Fq} {L f : Addr} {x : Str} {pos : Pos} {d : D} {ns tn : List Str} {vs ts : List (Option D)} (hf : scope.kind = .function) (K : KN scope.names) (Ko : KN kn) (hcl : ClOk scope (envK kn more q L f) cl) (hx : (x, NameKind.free) ∈ scope.names) (hxo : (x, NameKind.cell) ∈ kn)
    (hm : Look x d ns vs) (h : P d (.frame Lc [] tn ts :: .frame L kn ns vs :: μ)) : Ev C (compEnvC scope cl Lc (envK kn more q L f)) (.frame Lc [] tn ts :: .frame L kn ns vs :: μ) (.Name x pos) P X := by
  obtain ⟨c, hc⟩ := Ko.cell hxo L
  exact ev_cell hf (kindCap hf K hx (kindK Ko hxo)).kind ((hcl x hx).trans hc) (.tail _ (.head _)) hc hm h (K.dbg _ hx)
theorem st_local {kn : List (Str × NameKind)} {more : List (Str × Const)} {q : Fq} {L f : Addr} {x : Str} {d : D} {ns : List Str} {vs vs' : List (Option D)} {P : List MO → Prop} (K : KN kn) (hN : LN ns) (hx : (x, NameKind.local) ∈ kn) (hu : Upd x d ns vs vs') (h : P (.frame L kn ns vs' :: μ)) : Sto C (envK kn more q L f) (.frame L kn ns vs :: μ) x d P X :=
  sto_local rfl (K.look hx) rfl (K.noCell hx (by decide) L) hN.nd hu h
theorem st_cell {kn : List (Str × NameKind)} {more : List (Str × Const)} {q : Fq} {L f : Addr} {x : Str} {d : D} {ns : List Str} {vs vs' : List (Option D)} {P : List MO → Prop} (K : KN kn) (hN : LN ns) (hx : (x, NameKind.cell) ∈ kn) (hu : Upd x d ns vs vs') (h : P (.frame L kn ns vs' :: μ)) : Sto C (envK kn more q L f) (.frame L kn ns vs :: μ) x d P X := by
  obtain ⟨c, hc⟩ := K.cell hx L
  exact sto_cell rfl (K.look hx) hc hc hN.nd hu h
theorem st_comp {scope : Scope} {cl : List (Str × Addr)} {Lc : Addr} {env : Env} {x : Str} {d : D} {ns : List Str} {vs vs' : List (Option D)} {P : List MO → Prop} (hf : scope.kind = .function) (K : KN scope.names) (hN : LN ns) (hx : (x, NameKind.local) ∈ scope.names) (hu : Upd x d ns vs vs') (h : P (.frame Lc [] ns vs' :: μ)) : Sto C (compEnvC scope cl Lc env) (.frame Lc [] ns vs :: μ) x d P X :=
  sto_local hf (kindC hf K hx (by decide)).kind rfl rfl hN.nd hu h

theorem call_g {gt bt ct : List (Str × Value)} {x : Str} {np pos : Pos} {args : List Expr} {f : Addr} (G : GOk C.B gt bt ct) (hk : KindE env x .globalImplicit) (hgl : env.globals = mainGlobals) (hv : (x, Value.ref f) ∈ gt) (hs : noStars args = true)
    (h : EvL C env μ args (fun ds μ1 => Ca C (.ref f) ds μ1 P X) X) : Ev C env μ (.Call (.Name x np) args [] pos) P X := by
  obtain ⟨fo, fd, ho, hdat⟩ := G.fn x f hv
  exact ev_call (fun P' h' => ev_g G hk hgl hv (fun _ => .ref f) h') ho hdat hs h
theorem call_b {gt bt ct : List (Str × Value)} {x : Str} {np pos : Pos} {args : List Expr} {id : String} (G : GOk C.B gt bt ct) (hk : KindE env x .globalImplicit) (hgl : env.globals = mainGlobals) (hbl : env.builtins = builtinsNs) (hv : (x, Value.builtin id) ∈ bt) (hs : noStars args = true)
    (h : EvL C env μ args (fun ds μ1 => Ca C (.builtin id) ds μ1 P X) X) : Ev C env μ (.Call (.Name x np) args [] pos) P X :=
  ev_callB (fun P' h' => ev_b G hk hgl hbl hv h') hs h
theorem call_t {gt bt ct : List (Str × Value)} {x : Str} {np pos : Pos} {args : List Expr} {T : String} (G : GOk C.B gt bt ct) (hk : KindE env x .globalImplicit) (hgl : env.globals = mainGlobals) (hbl : env.builtins = builtinsNs) (hv : (x, Value.type T) ∈ bt) (hs : noStars args = true)
    (h : EvL C env μ args (fun ds μ1 => Ca C (.type T) ds μ1 P X) X) : Ev C env μ (.Call (.Name x np) args [] pos) P X :=
  ev_callT (fun P' h' => ev_b G hk hgl hbl hv h') hs h
theorem ev_Chain2 {l r1 r2 : Expr} {op1 op2 : CmpOp} {pos : Pos} (h : Ev C env μ l (fun d1 μ1 => Ev C env μ1 r1 (fun d2 μ2 => Cmp C op1 d1 d2 μ2 (fun c μ3 => (c = true → Ev C env μ3 r2 (fun d3 μ4 => Cmp C op2 d2 d3 μ4 (fun c => P (.bool c)) X) X) ∧ (c = false → P (.bool false) μ3)) X) X) X)
    (hm : lastMarks [op1, op2] [r1, r2] = false) : Ev C env μ (.Compare l [op1, op2] [r1, r2] pos) P X := by
  intro T ρ s Q E st hQ hE
  refine Compare_chain (rs := []) (ops := []) (h T ρ _ _ _ st (fun a d1 μ1 s1 h1 st1 => chain_link (h1 ((a, d1) :: T) ρ s1 _ _ st1 (fun b d2 μ2 s2 h2 st2 => ?_) fun e c t μ' s' x st' => hE e c t μ' s' x st'.tail)) hE) hm
  refine h2 _ a b (.tail _ (.head _)) (.head _) ρ s2 _ _ st2 (fun v d μ' s' ⟨c, hc, p⟩ st' => ?_) fun e c t μ' s' x st' => hE e c t μ' s' x (st'.sub fun _ hq => .tail _ (.tail _ hq))
  subst hc
  have e := st'.isBool (.head _); subst e
  refine wpAny_truthy_bool ?_
  cases c with
  | false => exact hQ _ _ _ _ (p.2 rfl) (st'.keepHead fun _ hq => .tail _ (.tail _ hq))
  | true =>
    refine chain_last (p.1 rfl _ ρ s' _ _ st'.tail (fun e d3 μ4 s4 h4 st4 => ?_) fun e c t μ' s' x st' => hE e c t μ' s' x (st'.sub fun _ hq => .tail _ (.tail _ hq)))
    refine h4 _ b e (.tail _ (.head _)) (.head _) ρ s4 _ _ st4 (fun v d μ' s' ⟨c, hc, p⟩ st' => hQ v d μ' s' (hc ▸ p) (st'.keepHead fun _ hq => .tail _ (.tail _ (.tail _ hq)))) fun e c t μ' s' x st' => hE e c t μ' s' x (st'.sub fun _ hq => .tail _ (.tail _ (.tail _ hq)))
theorem te_Chain2 {l r1 r2 : Expr} {op1 op2 : CmpOp} {pos : Pos} {P : Bool → List MO → Prop} (h : Ev C env μ l (fun d1 μ1 => Ev C env μ1 r1 (fun d2 μ2 => Cmp C op1 d1 d2 μ2 (fun c μ3 => (c = true → Ev C env μ3 r2 (fun d3 μ4 => Cmp C op2 d2 d3 μ4 P X) X) ∧ (c = false → P false μ3)) X) X) X)
    (hm : lastMarks [op1, op2] [r1, r2] = false) : Te C env μ (.Compare l [op1, op2] [r1, r2] pos) P X := by
  intro T ρ s Q E st hQ hE
  refine isTrue_chain (rs := []) (ops := []) (h T ρ _ _ _ st (fun a d1 μ1 s1 h1 st1 => test_link (h1 ((a, d1) :: T) ρ s1 _ _ st1 (fun b d2 μ2 s2 h2 st2 => ?_) fun e c t μ' s' x st' => hE e c t μ' s' x st'.tail)) hE) hm
  refine h2 _ a b (.tail _ (.head _)) (.head _) ρ s2 _ _ st2 (fun v d μ' s' ⟨c, hc, p⟩ st' => ?_) fun e c t μ' s' x st' => hE e c t μ' s' x (st'.sub fun _ hq => .tail _ (.tail _ hq))
  subst hc
  have e := st'.isBool (.head _); subst e
  refine wpAny_truthy_bool ?_
  cases c with
  | false => exact hQ _ _ _ (p.2 rfl) (st'.sub fun _ hq => .tail _ (.tail _ (.tail _ hq)))
  | true =>
    refine test_last (p.1 rfl _ ρ s' _ _ st'.tail (fun e d3 μ4 s4 h4 st4 => ?_) fun e c t μ' s' x st' => hE e c t μ' s' x (st'.sub fun _ hq => .tail _ (.tail _ hq)))
    refine h4 _ b e (.tail _ (.head _)) (.head _) ρ s4 _ _ st4 (fun v d μ' s' ⟨c, hc, p⟩ st' => ?_) fun e c t μ' s' x st' => hE e c t μ' s' x (st'.sub fun _ hq => .tail _ (.tail _ (.tail _ hq)))
    subst hc
    have e := st'.isBool (.head _); subst e
    exact wpAny_truthy_bool (hQ _ _ _ p (st'.sub fun _ hq => .tail _ (.tail _ (.tail _ (.tail _ hq)))))
theorem ex_Expr {e : Expr} {pos : Pos} {P : Fw → List MO → Prop} (h : Ev C env μ e (fun _ μ1 => P .next μ1) X) (hi : interactive env = false) (hs : swapsWith e none pos.line env = pure false) : Ex1 C env μ (.Expr e pos) P X := by
  intro T ρ s Q E st hQ hE
  show wpAny C.M C.A (exec (.Expr e pos) env) Q E s
  rw [exec_Expr env e pos hi hs]
  exact wpAny_bind (wpAny_standAt (wpAny_bind (h T ρ _ _ _ st (fun v d μ' s' p st' => wpAny_dropValue (hQ .next .next μ' s' p st'.tail)) hE)))
theorem gEv {e : Expr} (h : Ev C env μ e P X) : Ev C env μ e P X := h
theorem gTe {e : Expr} {P : Bool → List MO → Prop} (h : Te C env μ e P X) : Te C env μ e P X := h
theorem gEx1 {e : Stmt} {P : Fw → List MO → Prop} (h : Ex1 C env μ e P X) : Ex1 C env μ e P X := h
theorem gBin {op : Operator} {a b : D} (h : Bin C op a b μ P X) : Bin C op a b μ P X := h
theorem gCmp {op : CmpOp} {a b : D} {P : Bool → List MO → Prop} (h : Cmp C op a b μ P X) : Cmp C op a b μ P X := h
theorem gSto {x : Str} {d : D} {P : List MO → Prop} (h : Sto C env μ x d P X) : Sto C env μ x d P X := h
theorem evl_nil {P : List D → List MO → Prop} (h : P [] μ) : EvL C env μ [] P X := h
theorem evl_cons {e : Expr} {es : List Expr} {P : List D → List MO → Prop} (h : Ev C env μ e (fun d μ1 => EvL C env μ1 es (fun ds μ2 => P (d :: ds) μ2) X) X) : EvL C env μ (e :: es) P X := h

def Seq (C : Cx) (env : Env) (ss : List Stmt) (P : Fw → List MO → Prop) (X : XPost) : Fw → List MO → Prop
  | .next, μ => Ex C env μ ss P X
  | fl, μ => P fl μ
theorem ex_seq {st : Stmt} {ss : List Stmt} {P : Fw → List MO → Prop} (h : Ex1 C env μ st (Seq C env ss P X) X) : Ex C env μ (st :: ss) P X :=
  ex_cons (TrF.mono h (fun fl μ' p => by cases fl <;> exact p) fun _ _ x => x)
def Cut (R : List MO → Prop) (P : Fw → List MO → Prop) : Fw → List MO → Prop
  | .next, μ => R μ
  | fl, μ => P fl μ
theorem ex_cut {st : Stmt} {ss : List Stmt} {P : Fw → List MO → Prop} (R : List MO → Prop) (h : Ex1 C env μ st (Cut R P) X) (h2 : ∀ μ', R μ' → Ex C env μ' ss P X) : Ex C env μ (st :: ss) P X :=
  ex_cons (TrF.mono h (fun fl μ' p => by cases fl <;> first | exact p | exact h2 _ p) fun _ _ x => x)
theorem ex_cutF {α : Type} {L : Addr} {kn : List (Str × NameKind)} {ns : List Str} {vs0 : List (Option D)} {st : Stmt} {ss : List Stmt} {P : Fw → List MO → Prop} (vs : α → List (Option D)) (R : α → Prop) (h : Ex1 C env (.frame L kn ns vs0 :: μ) st (Cut (fun μ' => ∃ a, R a ∧ μ' = .frame L kn ns (vs a) :: μ) P) X) (h2 : ∀ a, R a → Ex C env (.frame L kn ns (vs a) :: μ) ss P X) : Ex C env (.frame L kn ns vs0 :: μ) (st :: ss) P X :=
  ex_cut _ h fun μ' ⟨a, ha, e⟩ => e ▸ h2 a ha
theorem cut_next {R : List MO → Prop} {P : Fw → List MO → Prop} (h : R μ) : Cut R P .next μ := h
theorem cut_ret {R : List MO → Prop} {P : Fw → List MO → Prop} {d : D} (h : P (.ret d) μ) : Cut R P (.ret d) μ := h
theorem cut_brk {R : List MO → Prop} {P : Fw → List MO → Prop} (h : P .brk μ) : Cut R P .brk μ := h
theorem cut_cont {R : List MO → Prop} {P : Fw → List MO → Prop} (h : P .cont μ) : Cut R P .cont μ := h
theorem gIf {t : Expr} {b o ss : List Stmt} {p : Pos} {P : Fw → List MO → Prop} (h : Ex C env μ (.If t b o p :: ss) P X) : Ex C env μ (.If t b o p :: ss) P X := h
theorem seq_next {ss : List Stmt} {P : Fw → List MO → Prop} (h : Ex C env μ ss P X) : Seq C env ss P X .next μ := h
theorem seq_ret {ss : List Stmt} {P : Fw → List MO → Prop} {d : D} (h : P (.ret d) μ) : Seq C env ss P X (.ret d) μ := h
theorem seq_brk {ss : List Stmt} {P : Fw → List MO → Prop} (h : P .brk μ) : Seq C env ss P X .brk μ := h
theorem seq_cont {ss : List Stmt} {P : Fw → List MO → Prop} (h : P .cont μ) : Seq C env ss P X .cont μ := h
theorem turn_next {I : List MO → Prop} {P : Fw → List MO → Prop} (h : I μ) : Turn I P .next μ := h
theorem turn_ret {I : List MO → Prop} {P : Fw → List MO → Prop} {d : D} (h : P (.ret d) μ) : Turn I P (.ret d) μ := h
theorem turn_cont {I : List MO → Prop} {P : Fw → List MO → Prop} (h : I μ) : Turn I P .cont μ := h
theorem turn_brk {I : List MO → Prop} {P : Fw → List MO → Prop} (h : P .next μ) : Turn I P .brk μ := h
def Leave (L : Addr) (kn : List (Str × NameKind)) (P : Post) : Fw → List MO → Prop := fun fl μ' => ∃ ns' vs' μ'', μ'.Perm (.frame L kn ns' vs' :: μ'') ∧ P (match fl with | .ret d => d | _ => .none) μ''
def LeaveX (L : Addr) (kn : List (Str × NameKind)) (X : XPost) : XPost := fun c μ' => ∃ ns' vs' μ'', μ'.Perm (.frame L kn ns' vs' :: μ'') ∧ X c μ''
theorem leave_ret {L : Addr} {kn : List (Str × NameKind)} {ns : List Str} {vs : List (Option D)} {d : D} (h : P d μ) : Leave L kn P (.ret d) (.frame L kn ns vs :: μ) := ⟨ns, vs, μ, .refl _, h⟩
theorem leave_next {L : Addr} {kn : List (Str × NameKind)} {ns : List Str} {vs : List (Option D)} (h : P .none μ) : Leave L kn P .next (.frame L kn ns vs :: μ) := ⟨ns, vs, μ, .refl _, h⟩
theorem leave_x {L : Addr} {kn : List (Str × NameKind)} {ns : List Str} {vs : List (Option D)} {c : Value} (h : X c μ) : LeaveX L kn X c (.frame L kn ns vs :: μ) := ⟨ns, vs, μ, .refl _, h⟩

theorem ca_def {f : Addr} {st : Stmt} {names : List Str} {ds : List D} {n : Nat} {kn : List (Str × NameKind)} {more : List (Str × Const)} {b1 : Stmt} {bs : List Stmt} (rest : List Str) (F : FnSt C.B f st names) (hA : AOk C (n + 1)) (hlen : ds.length = names.length) (hsc : fScope st = ⟨.function, kn, false, false, more⟩) (hb : fBody st = b1 :: bs) (hk : knOk kn = true) (hn : decide (names ++ rest).Nodup = true)
    (h : ∀ q L C', C'.B = C.B → AOk C' n → KN kn → LN (names ++ rest) → FrAt C' (envK kn more q L f) L → Ex C' (envK kn more q L f) (.frame L kn (names ++ rest) (ds.map some ++ rest.map fun _ => none) :: μ) (b1 :: bs) (Leave L kn P) (LeaveX L kn X)) : Ca C (.ref f) ds μ P X := by
  obtain ⟨q, F⟩ := F
  have e : ∀ L, callEnvC (mkFd st q) L f = envK kn more q L f := fun L => by
    unfold callEnvC mkFd
    simp only [hsc]; rfl
  have en : (mkFd st q).scope.names = kn := by show (fScope st).names = kn; rw [hsc]
  refine ca_fn rest F hA.fr hA.room hlen fun L hat => ?_
  rw [e L, en, hb]
  rw [e L] at hat
  exact h q L (C.deeper (envK kn more q L f)) rfl (hA.deeper hat) (KN.of hk) ⟨of_decide_eq_true hn⟩ hat
theorem ca_defW1 {f : Addr} {st : Stmt} {n1 : Str} {d1 : D} {n : Nat} {kn : List (Str × NameKind)} {more : List (Str × Const)} {b1 : Stmt} {bs : List Stmt} (rest : List Str) (F : FnSt C.B f st [n1]) (hA : AOkW C (n + 1)) (hsc : fScope st = ⟨.function, kn, false, false, more⟩) (hb : fBody st = b1 :: bs) (hk : knOk kn = true) (hn : decide (n1 :: rest).Nodup = true)
    (h : ∀ q L C', C'.B = C.B → AOkW C' n → KN kn → LN (n1 :: rest) → FrAt C' (envK kn more q L f) L → Ex C' (envK kn more q L f) (.frame L kn (n1 :: rest) (some d1 :: rest.map fun _ => none) :: μ) (b1 :: bs) (Leave L kn P) (LeaveX L kn X)) : Ca C (.ref f) [d1] μ P X := by
  obtain ⟨q, F⟩ := F
  have e : ∀ L, callEnvC (mkFd st q) L f = envK kn more q L f := fun L => by
    unfold callEnvC mkFd
    simp only [hsc]; rfl
  have en : (mkFd st q).scope.names = kn := by show (fScope st).names = kn; rw [hsc]
  refine ca_fn rest F hA.fr hA.room rfl fun L hat => ?_
  rw [e L, en, hb]
  rw [e L] at hat
  exact h q L (C.deeper (envK kn more q L f)) rfl (hA.deeper hat) (KN.of hk) ⟨of_decide_eq_true hn⟩ hat
theorem ca_def1 {f : Addr} {st : Stmt} {n1 : Str} {d1 : D} {n : Nat} {kn : List (Str × NameKind)} {more : List (Str × Const)} {b1 : Stmt} {bs : List Stmt} (rest : List Str) (F : FnSt C.B f st [n1]) (hA : AOk C (n + 1)) (hsc : fScope st = ⟨.function, kn, false, false, more⟩) (hb : fBody st = b1 :: bs) (hk : knOk kn = true) (hn : decide (n1 :: rest).Nodup = true)
    (h : ∀ q L C', C'.B = C.B → AOk C' n → KN kn → LN (n1 :: rest) → FrAt C' (envK kn more q L f) L → Ex C' (envK kn more q L f) (.frame L kn (n1 :: rest) (some d1 :: rest.map fun _ => none) :: μ) (b1 :: bs) (Leave L kn P) (LeaveX L kn X)) : Ca C (.ref f) [d1] μ P X := ca_def rest F hA rfl hsc hb hk hn h
theorem ca_def2 {f : Addr} {st : Stmt} {n1 n2 : Str} {d1 d2 : D} {n : Nat} {kn : List (Str × NameKind)} {more : List (Str × Const)} {b1 : Stmt} {bs : List Stmt} (rest : List Str) (F : FnSt C.B f st [n1, n2]) (hA : AOk C (n + 1)) (hsc : fScope st = ⟨.function, kn, false, false, more⟩) (hb : fBody st = b1 :: bs) (hk : knOk kn = true) (hn : decide (n1 :: n2 :: rest).Nodup = true)
    (h : ∀ q L C', C'.B = C.B → AOk C' n → KN kn → LN (n1 :: n2 :: rest) → FrAt C' (envK kn more q L f) L → Ex C' (envK kn more q L f) (.frame L kn (n1 :: n2 :: rest) (some d1 :: some d2 :: rest.map fun _ => none) :: μ) (b1 :: bs) (Leave L kn P) (LeaveX L kn X)) : Ca C (.ref f) [d1, d2] μ P X := ca_def rest F hA rfl hsc hb hk hn h
theorem ca_def3 {f : Addr} {st : Stmt} {n1 n2 n3 : Str} {d1 d2 d3 : D} {n : Nat} {kn : List (Str × NameKind)} {more : List (Str × Const)} {b1 : Stmt} {bs : List Stmt} (rest : List Str) (F : FnSt C.B f st [n1, n2, n3]) (hA : AOk C (n + 1)) (hsc : fScope st = ⟨.function, kn, false, false, more⟩) (hb : fBody st = b1 :: bs) (hk : knOk kn = true) (hn : decide (n1 :: n2 :: n3 :: rest).Nodup = true)
    (h : ∀ q L C', C'.B = C.B → AOk C' n → KN kn → LN (n1 :: n2 :: n3 :: rest) → FrAt C' (envK kn more q L f) L → Ex C' (envK kn more q L f) (.frame L kn (n1 :: n2 :: n3 :: rest) (some d1 :: some d2 :: some d3 :: rest.map fun _ => none) :: μ) (b1 :: bs) (Leave L kn P) (LeaveX L kn X)) : Ca C (.ref f) [d1, d2, d3] μ P X := ca_def rest F hA rfl hsc hb hk hn h
theorem ca_def5 {f : Addr} {st : Stmt} {n1 n2 n3 n4 n5 : Str} {d1 d2 d3 d4 d5 : D} {n : Nat} {kn : List (Str × NameKind)} {more : List (Str × Const)} {b1 : Stmt} {bs : List Stmt} (rest : List Str) (F : FnSt C.B f st [n1, n2, n3, n4, n5]) (hA : AOk C (n + 1)) (hsc : fScope st = ⟨.function, kn, false, false, more⟩) (hb : fBody st = b1 :: bs) (hk : knOk kn = true) (hn : decide (n1 :: n2 :: n3 :: n4 :: n5 :: rest).Nodup = true)
    (h : ∀ q L C', C'.B = C.B → AOk C' n → KN kn → LN (n1 :: n2 :: n3 :: n4 :: n5 :: rest) → FrAt C' (envK kn more q L f) L → Ex C' (envK kn more q L f) (.frame L kn (n1 :: n2 :: n3 :: n4 :: n5 :: rest) (some d1 :: some d2 :: some d3 :: some d4 :: some d5 :: rest.map fun _ => none) :: μ) (b1 :: bs) (Leave L kn P) (LeaveX L kn X)) : Ca C (.ref f) [d1, d2, d3, d4, d5] μ P X := ca_def rest F hA rfl hsc hb hk hn h
end
end Mine

open PySem PyProof.Rows
set_option linter.unusedVariables false
namespace Mine

inductive Pl : Nat → D → Prop
  | none {n : Nat} : Pl n .none
  | int {n : Nat} (i : Int) : Pl n (.int i)
  | str {n : Nat} {x : Str} : PyData.strOk x = true → Pl n (.str x)
  | tup {n : Nat} {ds : List D} : (∀ d ∈ ds, Pl n d) → Pl (n + 1) (.tup ds)
  | lst {n : Nat} {ds : List D} : (∀ d ∈ ds, Pl n d) → Pl (n + 1) (.lst ds)
theorem plainDs_of : ∀ {ds : List D}, (∀ d ∈ ds, plainD d = true) → plainDs ds = true
  | [], _ => rfl
  | d :: ds, h => by simp only [plainDs, Bool.and_eq_true]; exact ⟨h d (.head _), plainDs_of fun x hx => h x (.tail _ hx)⟩
theorem toPs_map : ∀ (ds : List D), toPs ds = ds.map toP
  | [] => rfl
  | d :: ds => by simp only [toPs, toPs_map ds, List.map_cons]
theorem canLayAll_of : ∀ {ds : List D}, (∀ d ∈ ds, (toP d).canLay0 = true) → PyData.canLayAll0 (toPs ds) = true
  | [], _ => rfl
  | d :: ds, h => by simp only [toPs, PyData.canLayAll0, Bool.and_eq_true]; exact ⟨h d (.head _), canLayAll_of fun x hx => h x (.tail _ hx)⟩
theorem depthAll_of {n : Nat} : ∀ {ds : List D}, (∀ d ∈ ds, (toP d).depth ≤ n) → PyData.depthAll (toPs ds) ≤ n
  | [], _ => Nat.zero_le _
  | d :: ds, h => by simp only [toPs, PyData.depthAll]; exact Nat.max_le.mpr ⟨h d (.head _), depthAll_of fun x hx => h x (.tail _ hx)⟩
theorem Pl.plain {n : Nat} {d : D} (h : Pl n d) : plainD d = true ∧ (toP d).canLay0 = true ∧ (toP d).depth ≤ n := by
  induction h with
  | none => simp [plainD, toP, PyData.canLay0, PyData.depth]
  | int i => simp [plainD, toP, PyData.canLay0, PyData.depth]
  | str hx => simp [plainD, toP, PyData.canLay0, PyData.depth, hx]
  | tup _ ih => simp only [plainD, toP, PyData.canLay0, PyData.depth]; exact ⟨plainDs_of fun x hx => (ih x hx).1, canLayAll_of fun x hx => (ih x hx).2.1, Nat.succ_le_succ (depthAll_of fun x hx => (ih x hx).2.2)⟩
  | lst _ ih => simp only [plainD, toP, PyData.canLay0, PyData.depth]; exact ⟨plainDs_of fun x hx => (ih x hx).1, canLayAll_of fun x hx => (ih x hx).2.1, Nat.succ_le_succ (depthAll_of fun x hx => (ih x hx).2.2)⟩
theorem Pl.shaped {n : Nat} {d : D} (h : Pl n d) (hn : n ≤ 64) : SeqAt.shaped (toP d) = true := by
  unfold SeqAt.shaped
  rw [h.plain.2.1, decide_eq_true (Nat.le_trans h.plain.2.2 hn)]; rfl
theorem eqvAll_iff : ∀ {ds es : List D}, (∀ d ∈ ds, ∀ e ∈ es, PyData.eqv (toP d) (toP e) = true ↔ d = e) → (PyData.eqvAll (toPs ds) (toPs es) = true ↔ ds = es)
  | [], [], _ => by simp [toPs, PyData.eqvAll]
  | [], _ :: _, _ => by simp [toPs, PyData.eqvAll]
  | _ :: _, [], _ => by simp [toPs, PyData.eqvAll]
  | d :: ds, e :: es, h => by
    simp only [toPs, PyData.eqvAll, Bool.and_eq_true, List.cons.injEq]
    rw [h d (.head _) e (.head _), eqvAll_iff fun x hx y hy => h x (.tail _ hx) y (.tail _ hy)]
theorem Pl.eqv_iff {n : Nat} {d : D} (h : Pl n d) : ∀ {m : Nat} {e : D}, Pl m e → (PyData.eqv (toP d) (toP e) = true ↔ d = e) := by
  induction h with
  | none => intro m e he; cases he <;> simp [toP, PyData.eqv]
  | int i => intro m e he; cases he <;> simp [toP, PyData.eqv]
  | str hx => intro m e he; cases he <;> simp [toP, PyData.eqv]
  | tup _ ih =>
    intro m e he
    cases he with
    | tup he => simp only [toP, PyData.eqv, D.tup.injEq]; exact eqvAll_iff fun x hx y hy => ih x hx (he y hy)
    | _ => simp [toP, PyData.eqv]
  | lst _ ih =>
    intro m e he
    cases he with
    | lst he => simp only [toP, PyData.eqv, D.lst.injEq]; exact eqvAll_iff fun x hx y hy => ih x hx (he y hy)
    | _ => simp [toP, PyData.eqv]
theorem Pl.ints {n : Nat} (ns : List Int) : Pl (n + 1) (.lst (intsD ns)) := .lst fun d hd => by
  obtain ⟨i, _, rfl⟩ := List.mem_map.mp hd; exact .int i

section
variable {C : Cx} {env : Env} {μ : List MO} {P : Post} {X : XPost}
theorem cmp_eqP {d e d' e' : D} {n m : Nat} {P : Bool → List MO → Prop} (hd : Seen μ d d') (he : Seen μ e e') (pd : Pl n d') (pe : Pl m e') (hn : n ≤ 64) (hm : m ≤ 64) (hu : C.A.units + 64 < cLine)
    (h : ∀ c, (c = true ↔ d' = e') → P c μ) : Cmp C .Eq d e μ P X :=
  cmp_eqD hd he pd.plain.1 pe.plain.1 (pd.shaped hn) (pe.shaped hm) hu (h _ (pd.eqv_iff pe))
theorem cmp_neP {d e d' e' : D} {n m : Nat} {P : Bool → List MO → Prop} (hd : Seen μ d d') (he : Seen μ e e') (pd : Pl n d') (pe : Pl m e') (hn : n ≤ 64) (hm : m ≤ 64) (hu : C.A.units + 64 < cLine)
    (h : ∀ c, (c = true ↔ ¬ d' = e') → P c μ) : Cmp C .NotEq d e μ P X := by
  refine cmp_neD hd he pd.plain.1 pe.plain.1 (pd.shaped hn) (pe.shaped hm) hu (h _ ?_)
  rw [← pd.eqv_iff pe]; simp

def freeOk (sn kn : List (Str × NameKind)) : Bool := sn.all fun p => p.2 != .free || kn.contains (p.1, .cell)
theorem free_ok {kn : List (Str × NameKind)} {more : List (Str × Const)} {q : Fq} {L f : Addr} {scope : Scope} (K : KN kn) (h : freeOk scope.names kn = true) : ∀ x, (x, NameKind.free) ∈ scope.names → ∃ c, (envK kn more q L f).cells.lookup x = some c := fun x hx => by
  have := List.all_eq_true.mp h _ hx
  simp at this
  exact K.cell this L
theorem cmap {d : D} {ds : List D} {scope : Scope} {tn : List Str} {target elt : Expr} {Q : List D → List MO → Prop} (g : Nat → D) (hit : Itb C d ds (CompI μ)) (hl : ds.length ≤ sizeLine)
    (turn : ∀ i x, ds[i]? = some x → ∀ cl Lc, ClOk scope env cl → Asg C (compEnvC scope cl Lc env) (.frame Lc [] tn (tn.map fun _ => none) :: μ) target x (fun μ2 => Ev C (compEnvC scope cl Lc env) μ2 elt (fun y μ4 => y = g i ∧ ∃ vs, μ4 = .frame Lc [] tn vs :: μ) noX) noX)
    (h : Q ((List.range ds.length).map g) μ) :
    ∃ ds, ∃ G : Nat → List D, Itb C d ds (CompI μ) ∧ G 0 = [] ∧ (∀ i, (G i).length ≤ sizeLine) ∧ (∀ i d, ds[i]? = some d → CompTurn C env scope tn μ target elt [] d (G i) (G (i + 1))) ∧ Q (G ds.length) μ := by
  refine ⟨ds, fun n => (List.range (min n ds.length)).map g, hit, rfl, fun i => ?_, fun i x hx cl Lc hcl => ?_, ?_⟩
  · simp only [List.length_map, List.length_range]; lia
  · have hi := (List.getElem?_eq_some_iff.mp hx).1
    intro T v hv ρ s Q E st hQ hE
    refine turn i x hx cl Lc hcl T v hv ρ s Q E st (fun μ' s' h' st' => hQ μ' s' (ifs_nil ⟨fun _ => ?_, fun q => nomatch q⟩) st') hE
    refine TrV.mono h' (fun y μ'' ⟨e, r⟩ => ⟨?_, r⟩) fun _ _ q => q
    subst e
    dsimp only
    rw [Nat.min_eq_left (show i + 1 ≤ ds.length from hi), Nat.min_eq_left (Nat.le_of_lt hi), List.range_succ, List.map_append]; rfl
  · simp only [Nat.min_self]; exact h

def CTurns (C : Cx) (env : Env) (scope : Scope) (tn : List Str) (target elt : Expr) (μ : List MO) (ds : List D) (g : Nat → D) : Prop :=
  ∀ i x, ds[i]? = some x → ∀ cl Lc, KN scope.names → LN tn → ClOk scope env cl → Asg C (compEnvC scope cl Lc env) (.frame Lc [] tn (tn.map fun _ => none) :: μ) target x (fun μ2 => Ev C (compEnvC scope cl Lc env) μ2 elt (fun y μ4 => y = g i ∧ ∃ vs, μ4 = .frame Lc [] tn vs :: μ) noX) noX
theorem ev_cmap {target iter elt : Expr} {kn : List (Str × NameKind)} {more : List (Str × Const)} {q : Fq} {L f : Addr} {scope : Scope} {pos : Pos} (tn : List Str) (K : KN kn)
    (h : Ev C (envK kn more q L f) μ iter (fun d μ1 => ∃ ds g, Itb C d ds (CompI μ1) ∧ ds.length ≤ sizeLine ∧ CTurns C (envK kn more q L f) scope tn target elt μ1 ds g ∧ P (.lst ((List.range ds.length).map g)) μ1) X)
    (hfr : freeOk scope.names kn = true) (hsc : compScope scope = true) (hk : knOk scope.names = true) (hn : decide tn.Nodup = true) (hkind : scope.kind = .function) (ht : ∀ it v, letOwnedTupleGo target it v = pure ()) (hs : ∀ x, foldedSetIterable iter (envK kn more q L f) x = pure x) :
    Ev C (envK kn more q L f) μ (.ListComp elt [⟨target, iter, [], 0⟩] scope pos) P X :=
  ev_comp tn (TrV.mono h (fun d μ1 ⟨ds, g, h1, h2, h3, h4⟩ => cmap (Q := fun ds μ => P (.lst ds) μ) g h1 h2 (fun i x hx cl Lc hcl => h3 i x hx cl Lc (KN.of hk) ⟨of_decide_eq_true hn⟩ hcl) h4) fun _ _ x => x) (free_ok K hfr) hsc hkind ht hs
theorem forF {α : Type} {L : Addr} {kn : List (Str × NameKind)} {ns : List Str} {vs0 : List (Option D)} {target : Expr} {body : List Stmt} {d : D} {Pf : Fw → List MO → Prop} (ds : List D) (vs : Nat → α → List (Option D)) (ms : Nat → α → List MO) (R : Nat → α → Prop) (a0 : α) (hit : Itb C d ds (fun i μ' => ∃ a, R i a ∧ μ' = .frame L kn ns (vs i a) :: ms i a)) (h0 : R 0 a0) (hv : vs0 = vs 0 a0) (hm : μ = ms 0 a0)
    (turn : ∀ i x a, ds[i]? = some x → R i a → Asg C env (.frame L kn ns (vs i a) :: ms i a) target x (fun μ1 => Ex C env μ1 body (Turn (fun μ' => ∃ a, R (i + 1) a ∧ μ' = .frame L kn ns (vs (i + 1) a) :: ms (i + 1) a) Pf) X) X) (fin : ∀ a, R ds.length a → Pf .next (.frame L kn ns (vs ds.length a) :: ms ds.length a)) :
    ∃ ds, ∃ I : Nat → List MO → Prop, Itb C d ds I ∧ I 0 (.frame L kn ns vs0 :: μ) ∧ (∀ i d μ, ds[i]? = some d → I i μ → Asg C env μ target d (fun μ1 => Ex C env μ1 body (Turn (I (i + 1)) Pf) X) X) ∧ ∀ μ, I ds.length μ → Pf .next μ :=
  ⟨ds, fun i μ' => ∃ a, R i a ∧ μ' = .frame L kn ns (vs i a) :: ms i a, hit, ⟨a0, h0, by rw [hv, hm]⟩, fun i x μ' hx ⟨a, ha, e⟩ => e ▸ turn i x a hx ha, fun μ' ⟨a, ha, e⟩ => e ▸ fin a ha⟩
end
end Mine

open PySem PyProof.Rows
set_option linter.unusedVariables false
namespace Mine

abbrev vbm : List Value := [.type "ValueError", .type "Exception", .type "BaseException", .type "object"]
structure ECls (B : Shared) (c : Addr) (bm : List Value) : Prop where
  ex : ∃ N nm q bs hdct sn sub ab col dd k0 k1 k2 k3 k5 mN, B.heap.get? c = some (excClassObj nm q c N bs bm hdct sn sub ab col dd k0 k1 k2 k3 k5 "ValueError.__new__") ∧ B.heap.Ns N mN ∧ mN "__init__" = none ∧ OwnTail B.heap vbm bm

theorem St.fresh {B : Shared} {F : List Addr} {T : List (Value × D)} {μ : List MO} {s : Shared} {x : MO} {h' : Heap} (st : St B F T μ s) (k : ∀ b o, s.heap.get? b = some o → h'.get? b = some o) (hx : ∀ φ : FM, x.holds φ h') (hn : ∀ a ∈ x.owned, s.heap.get? a = none) (hd : x.owned.Nodup) : St B F T (x :: μ) { s with heap := h' } := by
  obtain ⟨⟨φ, h1, h2, h3, h4, h5, h6⟩, ho, hg⟩ := st
  refine ⟨⟨φ, h1, fun a o e => k a o (h2 a o e), fun y hy => ?_, fun y hy a ha => ?_, ?_, h6⟩, ho, hg.1, fun L hL => ?_⟩
  · rcases List.mem_cons.mp hy with rfl | hy
    · exact hx φ
    · exact MO.holds_turned (S := []) (fun _ _ e => e) (fun b o _ e => k b o e) (h3 y hy) (by simp)
  · rcases List.mem_cons.mp hy with rfl | hy
    · cases q : φ a with
      | none => rfl
      | some o => have := h2 a o q; rw [hn a ha] at this; cases this
    · exact h4 y hy a ha
  · rw [List.flatMap_cons]
    refine List.nodup_append.mpr ⟨hd, h5, fun a ha b hb e => ?_⟩
    subst e
    obtain ⟨y, hy, hay⟩ := List.mem_flatMap.mp hb
    obtain ⟨o, e⟩ := MO.holds_there (h3 y hy) a hay
    rw [hn a ha] at e; cases e
  · obtain ⟨y, hy, e⟩ := List.mem_filterMap.mp (hg.2 L hL)
    exact List.mem_filterMap.mpr ⟨y, .tail _ hy, e⟩

section
variable {C : Cx} {env : Env} {μ : List MO} {P : Post} {X : XPost}
theorem noStars_any {args : List Expr} {env : Env} {cpos : Pos} (hs : noStars args = true) : (backTo cpos (starEach args env)).any (·.1) = false := by
  rw [starEach_plain env hs, backTo_plain]
  induction args with
  | nil => rfl
  | cons e es ih => simp only [List.map_cons, List.any_cons, Bool.false_or]; exact ih (Bool.and_eq_true_iff.mp hs).2

theorem ex_raise {x : Str} {np cpos pos : Pos} {args : List Expr} {c : Addr} {bm : List Value} {Pf : Fw → List MO → Prop} (K : ECls C.B c bm) (hA : C.A.handled = none) (hn : ∀ P', P' (.ref c) μ → Ev C env μ (.Name x np) P' X) (hs : noStars args = true)
    (h : EvL C env μ args (fun ds μ1 => ds.length ≤ 100 ∧ X (.ref c) μ1) X) : Ex1 C env μ (.Raise (some (.Call (.Name x np) args [] cpos)) none pos) Pf X := by
  intro T ρ s Q E st hQ hE
  obtain ⟨N, nm, q, bs, hdct, sn, sub, ab, col, dd, k0, k1, k2, k3, k5, mN, hC, hN, hni, hT⟩ := K.ex
  refine wpAny_Raise_call_subT (F := PySem.F.excBase_ValueError) (C := c) (nm := nm) (q := q) (N := N) (bs := bs) (bm := bm) (hdct := hdct) (sn := sn) (sub := sub) (ab := ab) (col := col) (dd := dd) (k0 := k0) (k1 := k1) (k2 := k2) (k3 := k3) (k5 := k5) (hT.hasType (by decide)) hA (noStars_any hs) hni ?_
  refine hn (fun d μ1 => d = .ref c ∧ μ1 = μ) ⟨rfl, rfl⟩ T ρ s _ _ st (fun v d μ1 s1 ⟨hd1, hμ⟩ st1 => ?_) hE
  subst hd1 hμ
  have e := st1.isRef (.head _); subst e
  refine ⟨rfl, ?_⟩
  rw [starEach_plain env hs, backTo_plain]
  refine evl_evalArgs h T ρ s1 _ _ st1.tail (fun vs ds μ' s' T' p hl hz hT' st' => ?_) hE
  refine ⟨rfl, by show vs.length ≤ sizeLine; rw [hl]; exact Nat.le_trans p.1 (by decide), st'.stays _ _ hC, hN.keeps st'.stays, hT.keeps st'.stays, fun h' e hm => ?_⟩
  obtain ⟨t, ht, _, _⟩ := hm.there
  refine hE e (.ref c) none μ' _ p.2 (St.fresh (st'.sub hT') hm.keeps (fun φ => ⟨_, _, ht, ⟨rfl, rfl⟩, rfl, rfl⟩) (fun a ha => ?_) (by simp [MO.owned]))
  simp only [MO.owned, Option.map_none, Option.toList_none, List.mem_singleton] at ha
  rw [ha]; exact hm.new

theorem ex_raiseS {gt bt ct : List (Str × Value)} {x : Str} {np cpos pos p : Pos} {msg : Str} {k : Nat} {c : Addr} {bm : List Value} {Pf : Fw → List MO → Prop} (G : GOk C.B gt bt ct) (hk : KindE env x .globalImplicit) (hgl : env.globals = mainGlobals) (hv : (x, Value.ref c) ∈ ct) (K : ECls C.B c bm) (hA : C.A.handled = none)
    (h : X (.ref c) μ) : Ex1 C env μ (.Raise (some (.Call (.Name x np) [.Constant (.str msg) k p] [] cpos)) none pos) Pf X :=
  ex_raise K hA (fun P' h' => ev_c G hk hgl hv h') rfl (evl_cons (ev_str (evl_nil ⟨by show 1 ≤ 100; decide, h⟩)))
theorem excMatches_own {M : Model} {A : Around} {E : Value → Shared → Prop} {s : Shared} {e : Addr} {oe : Obj} {c c' : Addr} {bm bm' : List Value} {B : Shared} {Q : Bool → Shared → Prop} (K : ECls B c bm) (K' : ECls B c' bm') (hst : B.heap.StaysIn s.heap) (he : s.heap.get? e = some oe) (hcls : oe.cls = .ref c)
    (hq : Q ((Value.ref c :: bm).contains (.ref c')) s) : wpAny M A (excMatches (.ref e) (.ref c')) Q E s := by
  obtain ⟨N, nm, q, bs, hdct, sn, sub, ab, col, dd, k0, k1, k2, k3, k5, mN, hC, hN, hni, hT⟩ := K.ex
  obtain ⟨N', nm', q', bs', hdct', sn', sub', ab', col', dd', k0', k1', k2', k3', k5', mN', hC', hN', hni', hT'⟩ := K'.ex
  replace hC := hst _ _ hC
  replace hC' := hst _ _ hC'
  have hcB : (Value.ref c' :: bm').contains (.type "BaseException") = true := by rw [List.contains_cons, hT'.hasType (b := true) (by decide), Bool.or_true]
  have f := tc_notTuple
  obtain ⟨hp, g, d, t, os⟩ := s
  unfold excMatches
  repeat (first | (with_reducible refine wpAny_loadPart_at he ?_; rw [hcls]) | with_reducible refine wpAny_loadPart_at hC' ?_ | (with_reducible refine wpAny_isSubtype_exc hC' ?_; rw [hcB]) | (with_reducible refine wpAny_isSubtype_exc hC ?_) | wp_step)
  cases hb : (Value.ref c :: bm).contains (.ref c') <;> (rw [hb] at hq; first | exact hq | (wp_walk; exact hq))


def AsEnd (L : Addr) (kn : List (Str × NameKind)) (e : Addr) (k : Value) (Pf : Fw → List MO → Prop) : Fw → List MO → Prop := fun fl μ3 => ∃ ns3 vs3 μ4 tb', μ3.Perm (.frame L kn ns3 vs3 :: .exc e k tb' :: μ4) ∧ Pf fl (.frame L kn [] [] :: μ4)
theorem FwSt.perm {B : Shared} {F : List Addr} {T : List (Value × D)} {s : Shared} {μ μ' : List MO} {f : Flow} {fl : Fw} (st : FwSt B F T μ s f fl) (k : μ'.Perm μ) : FwSt B F T μ' s f fl := by
  cases f <;> cases fl <;> first | exact st.elim | exact St.perm st k
theorem ex_try_as {body : List Stmt} {b₀ : Stmt} {suite : List Stmt} {x n : Str} {np hpos pos : Pos} {L c : Addr} {bm : List Value} {kn : List (Str × NameKind)} {more : List (Str × Const)} {q : Fq} {f : Addr} {Pf : Fw → List MO → Prop} (K0 : KN kn) (H : FrAt C (envK kn more q L f) L) (K : ECls C.B c bm) (hn : ∀ e μ P', P' (.ref c) μ → Ev (C.marked e) (envK kn more q L f) μ (.Name x np) P' noX) (hloc : (n, NameKind.local) ∈ kn)
    (h : Ex C (envK kn more q L f) μ body Pf (fun k μ' => ∃ k' bm' ns vs μ0, k = .ref k' ∧ ECls C.B k' bm' ∧ (Value.ref k' :: bm').contains (.ref c) = true ∧ μ' = .frame L kn ns vs :: μ0 ∧ ∀ e tb, Sto (C.marked e) (envK kn more q L f) (.frame L kn ns vs :: .exc e k tb :: μ0) n (.ref e) (fun μ2 => Ex (C.marked e) (envK kn more q L f) μ2 (b₀ :: suite) (AsEnd L kn e k Pf) noX) noX)) :
    Ex1 C (envK kn more q L f) μ (.Try body [.ExceptHandler (some (.Name x np)) (some n) (b₀ :: suite) hpos] [] [] pos) Pf X := by
  intro T ρ s Q E st hQ hE
  refine wpAny_Try_except (h T ρ s _ _ st (fun f fl μ' s' p st' => ?_) fun e k tb μ' s' ⟨k', bm', ns, vs, μ0, hk, K', hm, hμ', hx⟩ st' => ?_)
  · cases f <;> cases fl <;> first
      | exact False.elim st'
      | exact wpAny_execs_nil (hQ _ _ _ _ p st')
      | exact hQ _ _ _ _ p st'
  · subst hk hμ'
    refine wp_note H st' fun t s2 st2 => wp_setFlight (f := none) st2 fun s3 st3 => ?_
    refine wpAny_handleBy_cons (codeAny_handlers_test ?_) (by intro q; cases q)
    refine hn e [] (fun d μ1 => d = .ref c ∧ μ1 = []) ⟨rfl, rfl⟩ T (.exc e (.ref k') (some (t, .none)) :: ((.frame L kn ns vs :: μ0) ++ ρ)) s3 _ _ st3 (fun v d μ1 s4 ⟨hd1, hμ⟩ st4 => ?_) fun _ _ _ _ _ q => q.elim
    subst hd1 hμ
    have e1 := st4.isRef (.head _); subst e1
    obtain ⟨⟨φ, _, _, h3, _⟩, _, _⟩ := id st4
    obtain ⟨oe, vs', he, hc, _⟩ := h3 (.exc e (.ref k') (some (t, .none))) (.head _)
    refine excMatches_own K' K st4.stays he hc.1 ?_
    rw [hm]
    refine codeAny_handlers_suite_as ?_
    refine wp_setFlight (C := C.marked e) (f := none) st4.tail fun s5 st5 => ?_
    refine hx e (some (t, .none)) ((.ref e, .ref e) :: T) (.ref e) (.head _) ρ s5 _ _ ((st5.add fun _ => .ref e).perm (.swap _ _ _)) (fun μ2 s6 h2 st6 => ?_) fun _ _ _ _ _ q => q.elim
    refine h2 T ρ s6 _ _ st6.tail (fun g fl μ3 s7 ⟨ns3, vs3, μ4, tb', pm, hp⟩ st7 => ?_) fun _ _ _ _ _ q => q.elim
    have st8 : FwSt C.B C.F T (.frame L kn ns3 vs3 :: .exc e (.ref k') tb' :: (μ4 ++ ρ)) s7 g fl := FwSt.perm st7 (pm.symm.append (List.Perm.refl ρ))
    have goes : ∀ {T' : List (Value × D)} {g' : Flow}, St C.B C.F T' (.frame L kn ns3 vs3 :: .exc e (.ref k') tb' :: (μ4 ++ ρ)) s7 → (∀ s8, St C.B C.F T' (.frame L kn [] [] :: (μ4 ++ ρ)) s8 → Q g' s8) → wpAny C.M C.A (do bindName (envK kn more q L f) n .none; unbindBehindTheSuite (envK kn more q L f) n hpos) (fun _ s8 => Q g' s8) E s7 := by
      intro T' g' st9 hq
      obtain ⟨⟨φ, _, _, h3, _⟩, _, _⟩ := id st9
      obtain ⟨mv, hns, _, _⟩ := h3 (.frame L kn ns3 vs3) (.head _)
      refine wpAny_nameGoes (m := mv) (K0.look hloc) hns rfl fun h' m' hns' hsb => hq _ ?_
      have := St.turnAt (μ := []) (x' := .frame L kn [] []) (t := s7.toks + 1) st9 rfl ((Turned.of_sameBut hsb).mono fun a ha => by rw [List.mem_singleton] at ha; rw [ha]; exact List.mem_cons_self) (fun ψ _ _ ⟨_, _, _, hcs⟩ => ⟨m', hns', fun _ _ e => (nomatch e), fun p hp => ?_⟩)
      · exact St.forgetAt (μ := [.frame L kn [] []]) this
      · obtain ⟨v, o, ho, hd⟩ := hcs p hp
        refine ⟨v, o, (hsb.2 p.2 fun e => ?_).trans ho, hd⟩
        have hnd := (let ⟨⟨_, _, _, _, _, h5, _⟩, _, _⟩ := st9; h5)
        rw [List.flatMap_cons] at hnd
        have := (List.nodup_cons.mp (List.nodup_append.mp hnd).1).1
        exact this (List.mem_map.mpr ⟨p, hp, e⟩)
    cases g <;> cases fl <;> first
      | exact False.elim st8
      | exact goes st8 fun s8 st9 => hQ _ _ _ _ hp st9
end
end Mine

open PySem PyProof.Rows
set_option linter.unusedVariables false
namespace Mine

inductive SetL (a : Addr) (ds ds' : List D) : List MO → List MO → Prop
  | here {μ : List MO} : SetL a ds ds' (.list a ds :: μ) (.list a ds' :: μ)
  | there {x : MO} {μ μ' : List MO} : SetL a ds ds' μ μ' → SetL a ds ds' (x :: μ) (x :: μ')
theorem SetL.split {a : Addr} {ds ds' : List D} {μ μ' : List MO} (h : SetL a ds ds' μ μ') : ∃ pre post, μ = pre ++ .list a ds :: post ∧ μ' = pre ++ .list a ds' :: post := by
  induction h with
  | here => exact ⟨[], _, rfl, rfl⟩
  | there _ ih => obtain ⟨pre, post, rfl, rfl⟩ := ih; exact ⟨_ :: pre, post, rfl, rfl⟩
theorem St.ownList {B : Shared} {F : List Addr} {T : List (Value × D)} {μ : List MO} {s : Shared} {a : Addr} {ds : List D} (st : St B F T μ s) (h : MO.list a ds ∈ μ) : ∃ vs n, IsL s.heap a (List.toArray vs) n ∧ vs.length = ds.length := by
  obtain ⟨⟨φ, _, _, h3, _⟩, _, _⟩ := st
  obtain ⟨vs, ⟨n, hl⟩, r⟩ := h3 _ h
  exact ⟨vs, n, hl, r.length⟩
theorem St.setL {B : Shared} {F : List Addr} {T : List (Value × D)} {μ μ' ρ : List MO} {s : Shared} {a : Addr} {ds ds' : List D} {vs : List Value} {n : Nat} {f : Array Value → Array Value} (st : St B F T (μ ++ ρ) s) (h : SetL a ds ds' μ μ') (hl : IsL s.heap a vs.toArray n)
    (hr : ∀ φ : FM, (∀ p ∈ T, Rep φ p.1 p.2) → Reps φ vs ds → ∃ vs' : List Value, f vs.toArray = vs'.toArray ∧ Reps φ vs' ds') (t : Nat) : St B F T (μ' ++ ρ) { s with heap := s.heap.update a (Obj.mapSeq f), toks := t } := by
  obtain ⟨pre, post, rfl, rfl⟩ := h.split
  have st' : St B F T (pre ++ .list a ds :: (post ++ ρ)) s := by simpa using st
  have := St.turnAt (x' := .list a ds') (h' := s.heap.update a (Obj.mapSeq f)) (t := t) st' rfl (fun b o hb e => ?_) (fun φ _ hT ⟨us, ⟨n', hu⟩, r⟩ => ?_)
  · simpa using this
  · exact (Heap.get?_update_other _ _ (fun q => hb (by subst q; simp [MO.owned]))).trans e
  · have e : us = vs := by rw [hl] at hu; exact (show us = vs ∧ n' = n by simpa using hu.symm).1
    subst e
    obtain ⟨vs', e', r'⟩ := hr φ hT r
    refine ⟨vs', ?_, r'⟩
    have hx : IsL (s.heap.update a (Obj.mapSeq f)) a (f us.toArray) _ := IsL.update hl f
    rw [e'] at hx
    exact ⟨_, hx⟩

section
variable {C : Cx} {env : Env} {μ : List MO} {P : Post} {X : XPost}
theorem ev_Tuple {elts : List Expr} {k : Nat} {pos : Pos} (h : EvL C env μ elts (fun ds μ1 => ds.length ≤ 100 ∧ P (.tup ds) μ1) X) (hs : noStars elts = true) : Ev C env μ (.Tuple elts k pos) P X := by
  intro T ρ s Q E st hQ hE
  refine wpAny_Tuple ?_
  rw [starEach_plain env hs, backTo_plain]
  refine evl_spliced h T ρ s _ _ st (fun vs ds μ' s' T' p hl hz hT st' => ⟨by rw [hl]; exact Nat.le_trans p.1 (by decide), hQ _ _ _ _ p.2 ?_⟩) hE
  refine (st'.frozen (d := .tup ds) rfl s'.toks fun φ hT' hφ => ?_).keepHead hT
  exact .tup hφ ⟨rfl, rfl⟩ rfl (reps_zip hl fun p hp => hT' p (hz p hp))
theorem ev_ListF {elts : List Expr} {pos : Pos} (h : EvL C env μ elts (fun ds μ1 => ds.length ≤ 100 ∧ P (.lst ds) μ1) X) (hs : noStars elts = true) : Ev C env μ (.List elts pos) P X := by
  intro T ρ s Q E st hQ hE
  refine wpAny_List ?_
  rw [starEach_plain env hs, backTo_plain]
  refine evl_spliced h T ρ s _ _ st (fun vs ds μ' s' T' p hl hz hT st' => ⟨by rw [hl]; exact Nat.le_trans p.1 (by decide), hQ _ _ _ _ p.2 ?_⟩) hE
  refine (st'.frozen (d := .lst ds) rfl s'.toks fun φ hT' hφ => ?_).keepHead hT
  exact .lst hφ rfl rfl (reps_zip hl fun p hp => hT' p (hz p hp))
theorem ev_ListO {elts : List Expr} {pos : Pos} (h : EvL C env μ elts (fun ds μ1 => ds.length ≤ 100 ∧ ∃ f μ2, μ1 = f :: μ2 ∧ ∀ a, P (.ref a) (f :: .list a ds :: μ2)) X) (hs : noStars elts = true) : Ev C env μ (.List elts pos) P X := by
  intro T ρ s Q E st hQ hE
  refine wpAny_List ?_
  rw [starEach_plain env hs, backTo_plain]
  refine evl_spliced h T ρ s _ _ st (fun vs ds μ' s' T' ⟨p1, f, μ2, e, p⟩ hl hz hT st' => ⟨by rw [hl]; exact Nat.le_trans p1 (by decide), ?_⟩) hE
  subst e
  refine hQ _ _ _ _ (p s'.heap.objs.size) (St.add ?_ fun _ => .ref _)
  exact (St.alloc (μ := [f]) (x := .list s'.heap.objs.size ds) st' rfl s'.toks fun φ hT' => ⟨vs, ⟨0, Heap.get?_push_size _ rfl⟩, reps_zip hl fun p hp => hT' p (hz p hp)⟩).sub hT

theorem ev_append {o e : Expr} {apos pos : Pos} (h : Ev C env μ o (fun d μ1 => ∃ a ds0, d = .ref a ∧ MO.list a ds0 ∈ μ1 ∧ Ev C env μ1 e (fun x μ2 => ∃ ds μ3, SetL a ds (ds ++ [x]) μ2 μ3 ∧ ds.length ≤ 1000 ∧ P .none μ3) X) X)
    (hbase : attributeBase o "append" env (eval o env) = eval o env) (hline : (apos.endLine == pos.line) = true) (hs : noStars [e] = true) : Ev C env μ (.Call (.Attribute o "append" apos) [e] [] pos) P X := by
  intro T ρ s Q E st hQ hE
  have ht : backTo pos (starEach [e] env) = [(false, eval e env)] := by rw [starEach_plain env hs, backTo_plain]; rfl
  refine wpAny_Call_method (T := "list") hbase (by rw [ht]; rfl) hline PySem.F.plainAttrs_list PySem.F.slot_list_append PySem.F.type_list_append ?_
  refine h T ρ s _ _ st (fun ov d μ1 s1 ⟨a, ds0, hd, hm, h1⟩ st1 => ?_) hE
  subst hd
  have e1 := st1.isRef (.head _); subst e1
  obtain ⟨vs0, n0, hl0, _⟩ := st1.ownList (List.mem_append_left ρ hm)
  refine ⟨⟨_, hl0, rfl⟩, fun b hb => by cases hb; exact ⟨_, hl0, rfl⟩, ?_⟩
  rw [ht]
  refine PySem.P.append_list (h1 T ρ s1 _ _ st1.tail (fun v x μ2 s2 ⟨ds, μ3, hset, hlen, p⟩ st2 => ?_) hE)
  have hm2 : MO.list a ds ∈ μ2 := by obtain ⟨pre, post, rfl, _⟩ := hset.split; exact List.mem_append_right _ (.head _)
  obtain ⟨vs, n, hl, hvl⟩ := st2.ownList (List.mem_append_left ρ hm2)
  refine ⟨vs.toArray, n, by rw [List.size_toArray, hvl]; exact Nat.le_trans hlen (by decide), hl, hQ _ _ _ _ p ?_⟩
  refine (St.add (st2.setL hset hl (fun φ hT r => ⟨vs ++ [v], by simp, r.append (.cons (hT _ (.head _)) .nil)⟩) s2.toks) rNone).keepHead fun _ hq => .tail _ hq
end
end Mine

open PySem PyProof.Rows
set_option linter.unusedVariables false
namespace Mine

theorem St.freshL {B : Shared} {F : List Addr} {T : List (Value × D)} {μ xs : List MO} {s : Shared} {h' : Heap} (st : St B F T μ s) (k : ∀ b o, s.heap.get? b = some o → h'.get? b = some o) (hx : ∀ φ : FM, (∀ p ∈ T, Rep φ p.1 p.2) → ∀ x ∈ xs, x.holds φ h') (hn : ∀ a ∈ xs.flatMap MO.owned, s.heap.get? a = none) (hd : (xs.flatMap MO.owned).Nodup) (t : Nat) : St B F T (xs ++ μ) { s with heap := h', toks := t } := by
  obtain ⟨⟨φ, h1, h2, h3, h4, h5, h6⟩, ho, hg⟩ := st
  refine ⟨⟨φ, h1, fun a o e => k a o (h2 a o e), fun y hy => ?_, fun y hy a ha => ?_, ?_, h6⟩, ho, hg.1, fun L hL => ?_⟩
  · rcases List.mem_append.mp hy with hy | hy
    · exact hx φ h6 y hy
    · exact MO.holds_turned (S := []) (fun _ _ e => e) (fun b o _ e => k b o e) (h3 y hy) (by simp)
  · rcases List.mem_append.mp hy with hy | hy
    · cases q : φ a with
      | none => rfl
      | some o => have := h2 a o q; rw [hn a (List.mem_flatMap.mpr ⟨y, hy, ha⟩)] at this; cases this
    · exact h4 y hy a ha
  · rw [List.flatMap_append]
    refine List.nodup_append.mpr ⟨hd, h5, fun a ha b hb e => ?_⟩
    subst e
    obtain ⟨y, hy, hay⟩ := List.mem_flatMap.mp hb
    obtain ⟨o, e⟩ := MO.holds_there (h3 y hy) a hay
    rw [hn a ha] at e; cases e
  · obtain ⟨y, hy, e⟩ := List.mem_filterMap.mp (hg.2 L hL)
    exact List.mem_filterMap.mpr ⟨y, List.mem_append_right _ hy, e⟩
section
variable {C : Cx} {env : Env} {μ : List MO} {P : Post} {X : XPost}
theorem asg_pair {x y : Str} {px py tp : Pos} {k : Nat} {d1 d2 : D} {P : List MO → Prop} (hA : C.A.handled = none) (h : Sto C env μ x d1 (fun μ2 => Sto C env μ2 y d2 P X) X) : Asg C env μ (.Tuple [.Name x px, .Name y py] k tp) (.tup [d1, d2]) P X := by
  intro T v hv ρ s Q E st hQ hE
  obtain ⟨a, vs, rfl, ht, hlen, st2⟩ := st.titems hv
  match vs, hlen with
  | [v1, v2], _ =>
    refine wpAny_assign_Tuple hA ht rfl rfl fun h' hk => ?_
    have st3 : St C.B C.F ((v1, d1) :: (v2, d2) :: T) (μ ++ ρ) { s with heap := h' } := St.grown st2 (fun b o e => hk b o (fun q => by rw [q] at e; exact absurd (Heap.lt_size e) (Nat.lt_irrefl _)) e) s.toks
    show wpAny C.M C.A (assignInOrder [assign (.Name x px) env, assign (.Name y py) env] [v1, v2]) Q E _
    refine PySem.wpAny_assignInOrder_more ?_
    refine wpAny_assign_Name (h ((v1, d1) :: (v2, d2) :: T) v1 (.head _) ρ _ _ _ st3 (fun μ2 s2 h2 st4 => ?_) fun e c t μ' s' x st' => hE e c t μ' s' x (st'.sub fun _ hq => .tail _ (.tail _ hq)))
    refine PySem.wpAny_assignInOrder_more ?_
    refine wpAny_assign_Name (h2 ((v1, d1) :: (v2, d2) :: T) v2 (.tail _ (.head _)) ρ _ _ _ st4 (fun μ3 s3 h3 st5 => ?_) fun e c t μ' s' x st' => hE e c t μ' s' x (st'.sub fun _ hq => .tail _ (.tail _ hq)))
    exact PySem.wpAny_assignInOrder_none (hQ _ _ h3 (st5.sub fun _ hq => .tail _ (.tail _ hq)))
end
end Mine

open PySem PyProof.Rows
set_option linter.unusedVariables false
namespace Mine
section
variable {C : Cx} {env : Env} {μ : List MO} {P : Post} {X : XPost} {f : MO}

def FzP (P : Post) : Post := fun d μ' => P d μ' ∨ ∃ a ds μ2, d = .ref a ∧ μ'.Perm (.list a ds :: μ2) ∧ P (.lst ds) μ2
theorem fzP_mk {a : Addr} {ds : List D} {w : MO} (h : P (.lst ds) (w :: μ)) : FzP P (.ref a) (w :: .list a ds :: μ) := .inr ⟨a, ds, w :: μ, rfl, .swap _ _ _, h⟩
theorem bin_add_listO {d e : D} {ds es : List D} (hd : Items (f :: μ) d ds) (he : Items (f :: μ) e es) (hl : ds.length + es.length ≤ sizeLine) (h : ∀ a, P (.ref a) (f :: .list a (ds ++ es) :: μ)) : Bin C .Add d e (f :: μ) P X := by
  intro T a b ha hb ρ s Q E st hQ hE
  obtain ⟨a', vs, rfl, hL, hlen, st2⟩ := st.items ha (hd.app ρ)
  obtain ⟨b', ws, rfl, hL2, hlen2, st3⟩ := st2.items (List.mem_append_right _ hb) (he.app ρ)
  obtain ⟨⟨cls, dd, data, sl⟩, ho, hc, n, hdat⟩ := hL
  obtain ⟨⟨cls2, dd2, data2, sl2⟩, ho2, hc2, n2, hdat2⟩ := hL2
  simp only at hc hdat hc2 hdat2
  subst hc hdat hc2 hdat2
  have e : vs.toArray ++ ws.toArray = (vs ++ ws).toArray := by simp
  refine concat_meets ⟨_, ho, rfl⟩ ⟨_, ho2, rfl⟩ noFill_list_add seq_list_add PySem.F.slot_list_add PySem.F.entry_list_add (PySem.F.args_list_add_2 _ _) (list_addW a' b' vs.toArray ws.toArray n n2 dd dd2 sl sl2 (by simp only [List.size_toArray]; lia)) ⟨ho, ho2, ?_⟩
  rw [e]
  refine hQ _ _ _ _ (h s.heap.objs.size) (St.add ?_ fun _ => .ref _)
  exact (St.alloc (μ := [f]) (x := .list s.heap.objs.size (ds ++ es)) st3 rfl _ fun φ hT => ⟨vs ++ ws, ⟨0, Heap.get?_push_size _ rfl⟩, (reps_zip hlen fun p hp => hT p (List.mem_append_right _ (List.mem_append_left _ hp))).append (reps_zip hlen2 fun p hp => hT p (List.mem_append_left _ hp))⟩).sub fun p hp => List.mem_append_right _ (List.mem_append_right _ hp)
theorem ca_listO {d : D} {ds : List D} (hi : Items (f :: μ) d ds) (hl : ds.length ≤ sizeLine) (h : ∀ a, P (.ref a) (f :: .list a ds :: μ)) : Ca C (.type "list") [d] (f :: μ) P X := by
  refine ca1 fun T v hv ρ s Q E st hQ hE => ?_
  obtain ⟨a, vs, rfl, ⟨o, ho, hc, n, hd⟩, hlen, st2⟩ := st.items hv (hi.app ρ)
  refine call_list_seq a (.inl rfl) ho hc hd (fun h' c' hk hD => hQ _ _ _ _ (h s.heap.objs.size) (St.add ?_ fun _ => .ref _)) (by simpa [hlen] using hl)
  have := St.freshL (xs := [.list s.heap.objs.size ds]) st2 hk (fun φ hT x hx => ?_) (fun b hb => ?_) (by simp [MO.owned]) s.toks
  · exact (this.perm (List.perm_middle (l₁ := [f]) (a := MO.list s.heap.objs.size ds) (l₂ := μ ++ ρ))).sub fun p hp => List.mem_append_right _ hp
  · rw [List.mem_singleton] at hx; subst hx
    exact ⟨vs, ⟨c', hD⟩, reps_zip hlen fun p hp => hT p (List.mem_append_left _ hp)⟩
  · simp only [List.flatMap_cons, List.flatMap_nil, MO.owned, List.append_nil, List.mem_singleton] at hb
    rw [hb]; exact Heap.get?_none_of_le (Nat.le_refl _)
theorem SetL.mem {a : Addr} {ds ds' : List D} {μ μ' : List MO} (h : SetL a ds ds' μ μ') : MO.list a ds ∈ μ := by
  obtain ⟨pre, post, rfl, _⟩ := h.split; exact List.mem_append_right _ (.head _)
theorem Reps.erase {φ : FM} : ∀ {vs : List Value} {ds : List D}, Reps φ vs ds → ∀ i, Reps φ (vs.eraseIdx i) (ds.eraseIdx i)
  | _, _, .nil, i => by simp; exact .nil
  | _, _, .cons h r, 0 => by simpa using r
  | _, _, .cons h r, i + 1 => by simpa using .cons h (r.erase i)
theorem ev_pop {o e : Expr} {apos pos : Pos} (h : Ev C env μ o (fun d μ1 => ∃ a ds0, d = .ref a ∧ MO.list a ds0 ∈ μ1 ∧ Ev C env μ1 e (fun x μ2 => ∃ (i : Int) (ds : List D) (μ3 : List MO) (y : D), x = .int i ∧ 0 ≤ i ∧ ds[i.toNat]? = some y ∧ SetL a ds (ds.eraseIdx i.toNat) μ2 μ3 ∧ ds.length ≤ 1000 ∧ P y μ3) X) X)
    (hbase : attributeBase o "pop" env (eval o env) = eval o env) (hline : (apos.endLine == pos.line) = true) (hs : noStars [e] = true) : Ev C env μ (.Call (.Attribute o "pop" apos) [e] [] pos) P X := by
  intro T ρ s Q E st hQ hE
  have ht : backTo pos (starEach [e] env) = [(false, eval e env)] := by rw [starEach_plain env hs, backTo_plain]; rfl
  refine wpAny_Call_method (T := "list") hbase (by rw [ht]; rfl) hline PySem.F.plainAttrs_list PySem.F.slot_list_pop PySem.F.type_list_pop ?_
  refine h T ρ s _ _ st (fun ov d μ1 s1 ⟨a, ds0, hd, hm, h1⟩ st1 => ?_) hE
  subst hd
  have e1 := st1.isRef (.head _); subst e1
  obtain ⟨vs0, n0, hl0, _⟩ := st1.ownList (List.mem_append_left ρ hm)
  refine ⟨⟨_, hl0, rfl⟩, fun b hb => by cases hb; exact ⟨_, hl0, rfl⟩, ?_⟩
  rw [ht]
  refine PySem.P.pop_at_list (h1 T ρ s1 _ _ st1.tail (fun v x μ2 s2 ⟨i, ds, μ3, y, hx, hi0, hy, hset, hlen, p⟩ st2 => ?_) hE)
  subst hx
  obtain ⟨u, rfl⟩ := st2.isInt (.head _)
  obtain ⟨a', vs, e', hL, hvl, st3⟩ := (St.add st2 (v := .ref a) (d := .ref a) fun _ => .ref a).items (.head _) (.inr ⟨a, rfl, List.mem_append_left ρ hset.mem⟩)
  cases e'
  obtain ⟨vs', n, hl, hvl'⟩ := st2.ownList (List.mem_append_left ρ hset.mem)
  have ev : vs' = vs := by
    obtain ⟨ox, hox, _, nx, hdx⟩ := hL
    rw [hl] at hox; cases hox; simpa using congrArg (fun d => match d with | Data.seq xs _ => xs.toList | _ => []) hdx
  subst ev
  obtain ⟨yv, hyv⟩ := at_of_len hvl hy
  have hlt := (List.getElem?_eq_some_iff.mp hy).1
  refine ⟨vs'.toArray, n, i, u, i.toNat, yv, by rw [List.size_toArray, hvl]; exact Nat.le_trans hlen (by decide), rfl, hl, by simp [Builtin.List.listFitsIndex]; lia, ?_, by simpa using hyv, hQ _ _ _ _ p ?_⟩
  · unfold seqIndex?
    rw [List.size_toArray, hvl, if_neg (show ¬ i < 0 by lia)]
    have h1 : (decide (0 ≤ i) && decide (i < (ds.length : Int))) = true := by simp; lia
    simp only [h1, if_true]
  · have := St.setL (f := fun xs => xs.eraseIdxIfInBounds i.toNat) st3 hset hl (fun φ hT r => ⟨vs'.eraseIdx i.toNat, ?_, r.erase _⟩) s2.toks
    · exact this.sub fun q hq => by
        rcases List.mem_cons.mp hq with rfl | hq
        · exact List.mem_append_left _ (zip_at hyv hy)
        · exact List.mem_append_right _ (.tail _ (.tail _ hq))
    · have : i.toNat < vs'.length := by rw [hvl]; exact hlt
      simp [Array.eraseIdxIfInBounds, this]

end
end Mine

open PySem PyProof.Rows
set_option linter.unusedVariables false
namespace Mine
section
variable {C : Cx} {env : Env} {μ : List MO} {P : Post} {X : XPost} {f : MO}

def Slc (C : Cx) (value : Expr) (lower upper : Option Expr) (p : Pos) (d l u : D) (μ : List MO) (P : Post) (X : XPost) : Prop :=
  ∀ T o lv uv, (o, d) ∈ T → (lv, l) ∈ T → (uv, u) ∈ T → ∀ ρ s (Q E : Value → Shared → Prop), St C.B C.F T (μ ++ ρ) s → (∀ v d μ' s', P d μ' → St C.B C.F ((v, d) :: T) (μ' ++ ρ) s' → Q v s') →
    wpAny C.M C.A (subscriptTail value (.Slice lower upper none p) o (.ref s.heap.objs.size)) Q E { s with heap := s.heap.push { cls := .type "slice", data := .fields #[lv, uv, .none] } }
theorem ev_sliceG {value : Expr} {lower upper : Option Expr} {p pos : Pos}
    (h : Ev C env μ value (fun d μ1 => EvO C env μ1 lower (fun l μ2 => EvO C env μ2 upper (fun u μ3 => Slc C value lower upper p d l u μ3 P X) X) X) X) : Ev C env μ (.Subscript value (.Slice lower upper none p) pos) P X := by
  intro T ρ s Q E st hQ hE
  refine Subscript_ (h T ρ _ _ _ st (fun o d μ1 s1 h1 st1 => ?_) hE)
  refine wpAny_Slice (h1 ((o, d) :: T) ρ s1 _ _ st1 (fun l dl μ2 s2 h2 st2 => ?_) fun e c t μ' s' x st' => hE e c t μ' s' x st'.tail)
  refine h2 ((l, dl) :: (o, d) :: T) ρ s2 _ _ st2 (fun u du μ3 s3 h3 st3 => ?_) fun e c t μ' s' x st' => hE e c t μ' s' x (st'.sub fun _ hq => .tail _ (.tail _ hq))
  rw [evalPart_none]
  refine wpAny_pure ?_
  exact h3 _ o l u (.tail _ (.tail _ (.head _))) (.tail _ (.head _)) (.head _) ρ s3 Q E st3 fun v d μ' s' p st' => hQ v d μ' s' p (st'.keepHead fun _ hq => .tail _ (.tail _ (.tail _ hq)))
theorem slc_parts {B : Shared} {F : List Addr} {T : List (Value × D)} {s : Shared} {v : Value} {d : D} {k : Option Int} (st : St B F T μ s) (h : partD d k) (hv : (v, d) ∈ T) : IsPart v k := by
  match d, k, h with
  | .none, none, _ => have := st.isNone hv; subst this; exact .none
  | .int i, some j, e => have e : i = j := e; subst e; obtain ⟨t, rfl⟩ := st.isInt hv; exact .int _ _
theorem slc_listO {value : Expr} {lower upper : Option Expr} {p : Pos} {d l u : D} {ds : List D} {lo hi : Option Int} (hit : Items (f :: μ) d ds) (hlen : ds.length ≤ sizeLine) (pl : partD l lo) (pu : partD u hi) (hlo : ∀ a, lo = some a → 0 ≤ a) (hhi : ∀ a, hi = some a → 0 ≤ a) (hb : lo.isSome ∨ hi.isSome)
    (h : ∀ a, P (.ref a) (f :: .list a (cutD lo hi ds) :: μ)) : Slc C value lower upper p d l u (f :: μ) P X := by
  intro T o lv uv ho hlv huv ρ s Q E st hQ
  obtain ⟨a, vs, rfl, hL, hl2, st4⟩ := st.items ho (hit.app ρ)
  have hL' := hL.push { cls := .type "slice", data := .fields #[lv, uv, .none] }
  refine tail_any (ops := _) (T := "list") (s := { s with heap := s.heap.push { cls := .type "slice", data := .fields #[lv, uv, .none] } }) hL'.typeIs slot_list_getitem.lookup (wpAny_getItem_list_slice hL' (Heap.IsSliceOf.new ..) (slc_parts st pl hlv) (slc_parts st pu huv) .none (by simp) ?_ (by rw [List.size_toArray, hl2]; exact hlen)) rfl
  have st5 : St C.B C.F (vs.zip ds ++ T) ((f :: μ) ++ ρ) { s with heap := s.heap.push { cls := .type "slice", data := .fields #[lv, uv, .none] } } := st4.grown (fun _ _ e => Heap.get?_push_of_some _ e) s.toks
  obtain ⟨⟨φ0, _, _, _, _, _, h60⟩, _, _⟩ := id st4
  obtain ⟨ws, hws, _⟩ := cut_vals (reps_zip hl2 fun p hp => h60 p (List.mem_append_left _ hp)) lo hi hlo hhi hb
  rw [hws]
  refine hQ _ _ _ _ (h _) (St.add (St.sub (St.alloc (μ := [f]) (x := .list _ (cutD lo hi ds)) st5 rfl s.toks fun φ hT => ?_) fun p hp => List.mem_append_right _ hp) fun _ => .ref _)
  obtain ⟨ws', hws', r'⟩ := cut_vals (reps_zip hl2 fun p hp => hT p (List.mem_append_left _ hp)) lo hi hlo hhi hb
  have : ws' = ws := by
    have := hws'.symm.trans hws
    simpa using this
  subst this
  exact ⟨ws', ⟨0, Heap.get?_push_size _ rfl⟩, r'⟩
theorem slc_fz {value : Expr} {lower upper : Option Expr} {p : Pos} {d l u : D} (h : Slc C value lower upper p d l u μ (FzP P) X) : Slc C value lower upper p d l u μ P X := by
  intro T o lv uv ho hlv huv ρ s Q E st hQ
  refine h T o lv uv ho hlv huv ρ s Q E st fun v d μ' s' hp st' => ?_
  rcases hp with p | ⟨a, ds, μ2, hd, hμ, p⟩
  · exact hQ _ _ _ _ p st'
  subst hd
  have e := st'.isRef (.head _); subst e
  exact hQ _ _ _ _ p ((St.freeze (μ := []) (st'.perm (hμ.symm.append (List.Perm.refl ρ)))).drop2)
theorem slc_list {value : Expr} {lower upper : Option Expr} {p : Pos} {d l u : D} {ds : List D} {lo hi : Option Int} (hit : Items (f :: μ) d ds) (hlen : ds.length ≤ sizeLine) (pl : partD l lo) (pu : partD u hi) (hlo : ∀ a, lo = some a → 0 ≤ a) (hhi : ∀ a, hi = some a → 0 ≤ a) (hb : lo.isSome ∨ hi.isSome)
    (h : P (.lst (cutD lo hi ds)) (f :: μ)) : Slc C value lower upper p d l u (f :: μ) P X := slc_fz (slc_listO hit hlen pl pu hlo hhi hb fun a => fzP_mk h)

def takeS (x : Str) (k : Nat) : Str := ⟨(x.cps.toList.take k).toArray⟩
theorem pick_take {α : Type} (l : List α) (k : Nat) : (List.range k).filterMap (fun i => l[i]?) = l.take k := by
  induction k with
  | zero => simp
  | succ k ih =>
    rw [List.range_succ, List.filterMap_append, ih, List.take_add_one]
    cases q : l[k]? <;> simp [q]
theorem slice_take (x : Str) (j : Int) (h0 : 0 ≤ j) : Txt.slice x none (some j) = takeS x j.toNat := by
  have e : Builtin.Str.strSliceIndices none (some j) 1 x.length = List.range (min j.toNat x.length) := by
    have e2 : Builtin.Str.strSliceIndices none (some j) 1 x.length = sliceRange ((0 : Nat) : Int) ((min j.toNat x.length : Nat) : Int) 1 := by
      unfold Builtin.Str.strSliceIndices
      have h2 : ¬ (j < 0) := by lia
      simp only [h2, if_false, show (1 : Int) > 0 by decide, if_true]
      congr 1; lia
    rw [e2, sliceRange_one]; simp
  unfold Txt.slice takeS
  rw [e]
  have hlen : x.length = x.cps.toList.length := by simp [Str.length]
  have hp : (List.range (min j.toNat x.length)).filterMap (fun i => x.cps[i]?) = x.cps.toList.take j.toNat := by
    have : (fun i : Nat => x.cps[i]?) = fun i => x.cps.toList[i]? := by funext i; simp
    rw [this, pick_take, hlen, List.take_eq_take_iff]; lia
  rw [hp]
  split
  · rename_i h
    simp at h
    rw [List.take_of_length_le (by rw [← hlen]; lia)]
  · rfl
theorem slc_str {value : Expr} {lower upper : Option Expr} {p : Pos} {x : Str} {j : Int} (h0 : 0 ≤ j) (hl : x.length ≤ 1000) (h : P (.str (takeS x j.toNat)) μ) : Slc C value lower upper p (.str x) .none (.int j) μ P X := by
  intro T o lv uv ho hlv huv ρ s Q E st hQ
  obtain ⟨t, rfl⟩ := st.isStr ho
  have := st.isNone hlv; subst this
  obtain ⟨u, rfl⟩ := st.isInt huv
  have q := SBH.sliceItem_ns (prog := C.prog) (w := C.w) (A := C.A) (E := E) (Q := Q) (x := x) (t := t) (j := j) (uj := u) (P := fun h' => s.heap.StaysIn h') (s := s) (fun h ob k b o e => Heap.get?_push_of_some _ (k b o e)) (fun _ _ e => e) (fun h' t' k hk => ?_) (Nat.le_trans hl (by decide))
  · obtain ⟨T', id, hlk, hT', hg⟩ := q
    exact tail_any hT' hlk hg rfl
  · rw [slice_take x j h0]
    exact hQ _ _ _ _ h ((st.grown hk k).add (rStr _ _))
theorem bin_add_str {x y : Str} (hl : x.length + y.length ≤ 10000) (h : P (.str (x ++ y)) μ) : Bin C .Add (.str x) (.str y) μ P X := fun _ _ _ ha hb _ _ _ _ st hQ _ => by
  obtain ⟨t, rfl⟩ := st.isStr ha; obtain ⟨u, rfl⟩ := st.isStr hb
  exact add_str (fun t' tk => hQ _ _ _ _ h ((st.toks _).add (rStr _ _))) (Nat.le_trans hl (by decide))
theorem ca_len_str {x : Str} (hl : x.length ≤ 10000) (h : P (.int x.length) μ) : Ca C (.builtin "len") [.str x] μ P X := by
  refine ca1 fun T v hv ρ s Q E st hQ hE => ?_
  obtain ⟨t, rfl⟩ := st.isStr hv
  exact len_str (by lia) (hQ _ _ _ _ h ((st.toks _).add (rInt _ _)))
theorem sub_str {value slice : Expr} {x : Str} {i : Int} {c : Nat} (h0 : 0 ≤ i) (hi : i < 2 ^ 63) (hc : x.cps[i.toNat]? = some c) (hs : noSlice slice = true) (h : P (.str ⟨#[c]⟩) μ) : Sub C value slice (.str x) (.int i) μ P X := by
  intro T o iv ho hiv ρ s Q E st hQ hE
  obtain ⟨t, rfl⟩ := st.isStr ho
  obtain ⟨u, rfl⟩ := st.isInt hiv
  have hlt : i.toNat < x.cps.size := (Array.getElem?_eq_some_iff.mp hc).1
  refine tail_any (typeIs_str s x t) PySem.F.slot_str_getitem.lookup (PySem.P.getItem_str (c := c) (by simp; lia) ?_ (hQ _ _ _ _ h ((st.toks _).add (rStr _ _)))) (sub_plain hs _ _)
  have e : seqIndex? i x.length = some i.toNat := by
    unfold seqIndex?
    rw [if_neg (show ¬ i < 0 by lia)]
    have h1 : (decide (0 ≤ i) && decide (i < (x.length : Int))) = true := by
      have : x.length = x.cps.size := rfl
      simp; lia
    simp only [h1, if_true]
  rw [e]; exact hc
end
end Mine

open PySem PyProof.Rows
set_option linter.unusedVariables false
set_option maxRecDepth 100000
namespace Mine
def qn : List Str := ["__init__", "__getattribute__", "__getattr__", "__class__"]
inductive TailC (h : Heap) : List Value → Prop
  | base : TailC h vbm
  | own {A : Addr} {c0 : Value} {dd : Option Addr} {cd : ClassData} {sl : Array (Option Value)} {mA : Str → Option Value} {tl : List Value} :
      h.get? A = some { cls := c0, dict := dd, data := .cls cd, slots := sl } → h.Ns cd.ns mA → (∀ n ∈ qn, mA n = none) → TailC h tl → TailC h (.ref A :: tl)
theorem TailC.keeps {h h' : Heap} {tl : List Value} (T : TailC h tl) (hk : ∀ b o, h.get? b = some o → h'.get? b = some o) : TailC h' tl := by
  induction T with
  | base => exact .base
  | own hA hN hq _ ih => exact .own (hk _ _ hA) (hN.keeps hk) hq ih
theorem TailC.tail {h : Heap} {tl : List Value} (T : TailC h tl) : OwnTail h vbm tl := by
  induction T with
  | base => exact .base
  | own hA hN hq _ ih => exact .own hA hN (hq _ (.head _)) ih
structure ECls2 (B : Shared) (c : Addr) (bm : List Value) : Prop where
  ex : ∃ N nm q bs hdct sn sub ab col dd k0 k1 k2 k3 k5 mN, B.heap.get? c = some (excClassObj nm q c N bs bm hdct sn sub ab col dd k0 k1 k2 k3 k5 "ValueError.__new__") ∧ B.heap.Ns N mN ∧ (∀ n ∈ qn, mN n = none) ∧ TailC B.heap bm
theorem ECls2.to {B : Shared} {c : Addr} {bm : List Value} (K : ECls2 B c bm) : ECls B c bm := by
  obtain ⟨N, nm, q, bs, hdct, sn, sub, ab, col, dd, k0, k1, k2, k3, k5, mN, hC, hN, hq, T⟩ := K.ex
  exact ⟨N, nm, q, bs, hdct, sn, sub, ab, col, dd, k0, k1, k2, k3, k5, mN, hC, hN, hq _ (.head _), T.tail⟩

theorem mro_VE : mroOf (.type "ValueError") = pure vbm := PySem.F.excBase_ValueError.mroIs
theorem lk_VE_class : typeLookup (.type "ValueError") "__class__" = pure (some (.builtin "object.__class__")) := by rw [typeLookup_type, builtinLookup_eq_fast]; kernel_rfl
section
variable {prog : Program} {w : World} {M : Model} {A : Around} {E : Value → Shared → Prop} {h : Heap} {g : Array GenState} {d : Drawn} {t : Nat} {os : OsState} {a : Addr} {o : Obj} {vs : Array Value}
  {nm q : Str} {C N : Addr} {bs bm : List Value} {hdct : Bool} {sn : List Str} {sub : List Value} {ab : Bool} {col : Option Bool} {dd : Option Addr} {k0 k1 k2 k3 k5 : Option Value} {newId : String} {mN : Str → Option Value}
theorem lookupAlong_tailC {tl : List Value} {n : Str} {y : Option Value} {Q : Option Value → Shared → Prop} (hn : n ∈ qn) (T : TailC h tl) (hrest : lookupAlong vbm n = pure y) (hq : Q y ⟨h, g, d, t, os⟩) : wpAny M A (lookupAlong tl n) Q E ⟨h, g, d, t, os⟩ := by
  induction T with
  | base => rw [hrest]; exact wpAny_pure hq
  | own hA hN hni _ ih =>
    rw [lookupAlong_cons]
    refine wpAny_bind (wpAny_classOwn_cls hA hN ?_)
    rw [hni n hn]
    exact ih
theorem typeLookup_tailC {n : Str} {y : Option Value} {Q : Option Value → Shared → Prop} (hn : n ∈ qn) (hC : h.get? C = some (excClassObj nm q C N bs bm hdct sn sub ab col dd k0 k1 k2 k3 k5 newId)) (hN : h.Ns N mN) (hmN : ∀ n ∈ qn, mN n = none) (T : TailC h bm)
    (hB : typeLookup (.type "ValueError") n = pure y) (hq : Q y ⟨h, g, d, t, os⟩) : wpAny M A (typeLookup (.ref C) n) Q E ⟨h, g, d, t, os⟩ := by
  have hrest : lookupAlong vbm n = pure y := by rw [typeLookup_eq, mro_VE] at hB; exact hB
  rw [typeLookup_eq]
  refine wpAny_bind (wpAny_mroOf_exc hC ?_)
  rw [lookupAlong_cons]
  refine wpAny_bind (wpAny_classOwn_exc hC hN ?_)
  rw [hmN n hn]
  exact lookupAlong_tailC hn T hrest hq
theorem class_get_exc {R : Result → Shared → Prop} (hC : h.get? C = some (excClassObj nm q C N bs bm hdct sn sub ab col dd k0 k1 k2 k3 k5 newId)) (T : TailC h bm) (hx : h.get? a = some o) (hc : o.cls = .ref C) (hq : R (.ok (.ret (.ref C))) ⟨h, g, d, t, os⟩) :
    codeAny (model prog w) A (.call (.builtin "getset_descriptor.__get__") ⟨[.builtin "object.__class__", .ref a, .ref C], []⟩) R ⟨h, g, d, t, os⟩ := by
  have hT5 : (⟨h, g, d, t, os⟩ : Shared).TypeIs (.builtin "object.__class__") "getset_descriptor" := F.typeOf_object_class
  have hcB : (Value.ref C :: bm).contains (.type (".".intercalate ("object.__class__".cutAt '.').dropLast)) = true := by
    rw [F.owner_object_class, List.contains_cons, T.tail.hasType (b := true) (by decide)]; rfl
  refine codeAny_call_builtin F.slot_gs_get.plain F.entry_gs_get (F.slot_gs_get.check _ _ _ _ _ _ _ _ hT5 (F.args_gs_get _ _ _) ?_)
  repeat (any_goals (first | assumption | (with_reducible refine wpAny_loadPart_at hx ?_; rw [hc]) | (with_reducible refine wpAny_isSubtype_exc hC ?_; rw [hcB]) | wp_step))
  refine ⟨Code.quiet_builtin _ (by decide +kernel), codeAny_builtin F.entry_object_class ?_⟩
  repeat (any_goals (first | assumption | (with_reducible refine wpAny_loadPart_at hx ?_; rw [hc]) | wp_step))
theorem class_entry_exc {tk : Tok} {Q : PySem.Fin → Shared → Prop} (hC : h.get? C = some (excClassObj nm q C N bs bm hdct sn sub ab col dd k0 k1 k2 k3 k5 newId)) (hN : h.Ns N mN) (hmN : ∀ n ∈ qn, mN n = none) (T : TailC h bm) (hx : h.get? a = some o) (hc : o.cls = .ref C) (hq : Q (.done (.ret (.ref C))) ⟨h, g, d, t, os⟩) :
    wpAny (model prog w) A (Builtin.«object.__getattribute__» ⟨[.ref a, .str "__class__" tk], []⟩) Q E ⟨h, g, d, t, os⟩ := by
  have hT5 : (⟨h, g, d, t, os⟩ : Shared).TypeIs (.builtin "object.__class__") "getset_descriptor" := F.typeOf_object_class
  have f5 := F.typeOf_object_class
  have f6 := F.slot_gs_get.lookup
  have f7 := F.slot_gs_set.lookup
  have hmA : ("__class__" : Str) ∈ qn := .tail _ (.tail _ (.tail _ (.head _)))
  repeat (any_goals (first | assumption | (with_reducible refine wpAny_loadPart_at hx ?_; rw [hc]) | with_reducible refine typeLookup_tailC hmA hC hN hmN T lk_VE_class ?_ | wp_step))
  refine class_get_exc hC T hx hc ?_
  repeat (any_goals (first | assumption | wp_step))

theorem check_ga_exc {nameV : Value} {Q : Unit → Shared → Prop} (hC : h.get? C = some (excClassObj nm q C N bs bm hdct sn sub ab col dd k0 k1 k2 k3 k5 newId)) (T : TailC h bm)
    (hx : h.get? a = some o) (hc : o.cls = .ref C) (hq : Q () ⟨h, g, d, t, os⟩) : wpAny M A (checkBuiltinCall "BaseException.__getattribute__" ⟨[.ref a, nameV], []⟩) Q E ⟨h, g, d, t, os⟩ := by
  have hk : builtinKind "BaseException.__getattribute__" = some .slot := by decide +kernel
  have hsplit : splitId "BaseException.__getattribute__" = some ("BaseException", "__getattribute__") := by decide +kernel
  have hcB : (Value.ref C :: bm).contains (.type "BaseException") = true := by rw [List.contains_cons, T.tail.hasType (b := true) (by decide)]; rfl
  have ha := F.args_bexc_ga (.ref a) nameV
  simp only [checkBuiltinCall, hk, hsplit]
  refine wpAny_bind ?_
  · unfold isInstance
    repeat (first | (with_reducible refine wpAny_loadPart_at hx ?_; rw [hc]) | (with_reducible refine wpAny_isSubtype_exc hC ?_; rw [hcB]) | wp_step)
    exact hq
theorem class_call_exc {tk : Tok} {R : Result → Shared → Prop} (hC : h.get? C = some (excClassObj nm q C N bs bm hdct sn sub ab col dd k0 k1 k2 k3 k5 newId)) (hN : h.Ns N mN) (hmN : ∀ n ∈ qn, mN n = none) (T : TailC h bm) (hx : h.get? a = some o) (hc : o.cls = .ref C) (hq : R (.ok (.ret (.ref C))) ⟨h, g, d, t, os⟩) :
    codeAny (model prog w) A (.call (.builtin "BaseException.__getattribute__") ⟨[.ref a, .str "__class__" tk], []⟩) R ⟨h, g, d, t, os⟩ :=
  codeAny_call_builtin PySem.F.attrBase_ValueError.ga.plain F.entry_bexc_ga (check_ga_exc hC T hx hc (class_entry_exc hC hN hmN T hx hc hq))
theorem class_by_exc {tk : Tok} {Q : Value → Shared → Prop} (hC : h.get? C = some (excClassObj nm q C N bs bm hdct sn sub ab col dd k0 k1 k2 k3 k5 newId)) (hN : h.Ns N mN) (hmN : ∀ n ∈ qn, mN n = none) (T : TailC h bm) (hx : h.get? a = some o) (hc : o.cls = .ref C) (hq : Q (.ref C) ⟨h, g, d, t, os⟩) :
    wpAny (model prog w) A (getAttrBy (.ref a) (.str "__class__" tk) false) Q E ⟨h, g, d, t, os⟩ := by
  have f3 := PySem.F.attrBase_ValueError.ga.bind (.ref a)
  have hx2 : (Value.builtin "BaseException.__getattribute__" == Value.builtin "object.__getattribute__") = false := by decide +kernel
  have hx1 : (onTheHeap (Value.ref C) && Value.builtin "BaseException.__getattribute__" == Value.builtin "object.__getattribute__") = false := by rw [hx2]; rfl
  have hm1 : ("__getattribute__" : Str) ∈ qn := .tail _ (.head _)
  have hm2 : ("__getattr__" : Str) ∈ qn := .tail _ (.tail _ (.head _))
  repeat (any_goals (first | assumption | (with_reducible refine wpAny_loadPart_at hx ?_; rw [hc]) | with_reducible refine typeLookup_tailC hm1 hC hN hmN T PySem.F.attrBase_ValueError.ga.lookup ?_ | with_reducible refine typeLookup_tailC hm2 hC hN hmN T PySem.F.attrBase_ValueError.noGetattr ?_ | wp_step))
  refine class_call_exc hC hN hmN T hx hc ?_
  repeat (any_goals (first | assumption | wp_step))
theorem class_attr_exc {Q : Option Value → Shared → Prop} (hC : h.get? C = some (excClassObj nm q C N bs bm hdct sn sub ab col dd k0 k1 k2 k3 k5 newId)) (hN : h.Ns N mN) (hmN : ∀ n ∈ qn, mN n = none) (T : TailC h bm) (hx : h.get? a = some o) (hc : o.cls = .ref C) (hq : Q (some (.ref C)) ⟨h, g, d, t + 1, os⟩) :
    wpAny (model prog w) A (getAttr? (.ref a) "__class__") Q E ⟨h, g, d, t, os⟩ := by
  unfold getAttr? getAttrBy?
  repeat (any_goals (first | assumption | with_reducible apply class_by_exc hC hN hmN T hx hc | wp_step))

theorem isi_nested_own {C' N' : Addr} {nm' q' : Str} {bs' bm' : List Value} {hdct' : Bool} {sn' : List Str} {sub' : List Value} {ab' : Bool} {col' : Option Bool} {dd' : Option Addr} {k0' k1' k2' k3' k5' : Option Value} {newId' : String} {dep : Int} {tk : Tok} {Q : PySem.Fin → Shared → Prop}
    (hC : h.get? C = some (excClassObj nm q C N bs bm hdct sn sub ab col dd k0 k1 k2 k3 k5 newId)) (hN : h.Ns N mN) (hmN : ∀ n ∈ qn, mN n = none) (T : TailC h bm) (hx : h.get? a = some o) (hc : o.cls = .ref C)
    (hC' : h.get? C' = some (excClassObj nm' q' C' N' bs' bm' hdct' sn' sub' ab' col' dd' k0' k1' k2' k3' k5' newId')) (hq : ∀ t', Q (.done (.ret (.bool ((Value.ref C :: bm).contains (.ref C'))))) ⟨h, g, d, t', os⟩) :
    wpAny (model prog w) A (Builtin.«isinstance.nested» ⟨[.ref a, .ref C', .int dep tk], []⟩) Q E ⟨h, g, d, t, os⟩ := by
  by_cases he : C = C'
  · subst he
    have hcC : (Value.ref C :: bm).contains (.ref C) = true := by simp
    rw [hcC] at hq
    repeat (any_goals (first | assumption | (with_reducible refine wpAny_loadPart_at hx ?_; rw [hc]) | exact hq _ | wp_step))
  · have hne : (Value.ref C == Value.ref C') = false := by simpa using he
    cases hb : (Value.ref C :: bm).contains (.ref C') with
    | true =>
      rw [hb] at hq
      repeat (any_goals (first | assumption | (with_reducible refine wpAny_loadPart_at hx ?_; rw [hc]) | (with_reducible refine wpAny_loadPart_at hC' ?_) | (with_reducible refine wpAny_isSubtype_exc hC ?_; rw [hb]) | exact hq _ | wp_step))
    | false =>
      rw [hb] at hq
      repeat (any_goals (first | assumption | (with_reducible refine wpAny_loadPart_at hx ?_; rw [hc]) | (with_reducible refine wpAny_loadPart_at hC' ?_) | (with_reducible refine wpAny_isSubtype_exc hC ?_; rw [hb]) | with_reducible apply class_attr_exc hC hN hmN T hx hc | exact hq _ | wp_step))

theorem ty_VE : typeOf (.type "ValueError") = pure (.type "type") := by
  show (pure (Value.type ((Manifest.find? "ValueError").elim "type" (·.metatype))) : Sem Value) = pure (.type "type")
  rw [find?_eq_fast]; kernel_rfl
theorem isi_nested_VE {dep : Int} {tk : Tok} {Q : PySem.Fin → Shared → Prop}
    (hC : h.get? C = some (excClassObj nm q C N bs bm hdct sn sub ab col dd k0 k1 k2 k3 k5 newId)) (T : TailC h bm) (hx : h.get? a = some o) (hc : o.cls = .ref C)
    (hq : ∀ t', Q (.done (.ret (.bool true))) ⟨h, g, d, t', os⟩) :
    wpAny (model prog w) A (Builtin.«isinstance.nested» ⟨[.ref a, .type "ValueError", .int dep tk], []⟩) Q E ⟨h, g, d, t, os⟩ := by
  have f := ty_VE
  have hb : (Value.ref C :: bm).contains (.type "ValueError") = true := by rw [List.contains_cons, T.tail.hasType (b := true) (by decide)]; rfl
  repeat (any_goals (first | assumption | (with_reducible refine wpAny_loadPart_at hx ?_; rw [hc]) | (with_reducible refine wpAny_isSubtype_exc hC ?_; rw [hb]) | exact hq _ | wp_step))
end
section
variable {C : Cx} {env : Env} {μ : List MO} {P : Post} {X : XPost}
theorem ca_isi_own {e k c' : Addr} {bm bm' : List Value} {tb : Option (Addr × Value)} (hm : MO.exc e (.ref k) tb ∈ μ) (K : ECls2 C.B k bm) (K' : ECls2 C.B c' bm') (h : P (.bool ((Value.ref k :: bm).contains (.ref c'))) μ) : Ca C (.builtin "isinstance") [.ref e, .ref c'] μ P X := by
  refine ca2 fun T v u hv hu ρ s Q E st hQ hE => ?_
  have e1 := st.isRef hv; subst e1
  have e2 := st.isRef hu; subst e2
  obtain ⟨⟨φ, _, _, h3, _⟩, _, _⟩ := id st
  obtain ⟨oe, vs, he, hc, _⟩ := h3 _ (List.mem_append_left ρ hm)
  obtain ⟨N, nm, q, bs, hdct, sn, sub, ab, col, dd, k0, k1, k2, k3, k5, mN, hC, hN, hq, hT⟩ := K.ex
  obtain ⟨N', nm', q', bs', hdct', sn', sub', ab', col', dd', k0', k1', k2', k3', k5', mN', hC', hN', hq', hT'⟩ := K'.ex
  refine call_isinstance (S := fun _ R s' => s' = s ∧ ∀ tk, R (.ok (.ret (.bool ((Value.ref k :: bm).contains (.ref c'))))) { s with toks := tk })
    (fun prog w A R s' hs => ?_) ⟨rfl, fun tk => hQ _ _ _ _ h ((st.toks tk).add (rBool _))⟩
  obtain ⟨rfl, hR⟩ := hs
  obtain ⟨hh, g, dr, t, os⟩ := s'
  exact isinstance_outer (isi_nested_own (st.stays _ _ hC) (hN.keeps st.stays) hq (hT.keeps st.stays) he hc.1 (st.stays _ _ hC') fun t' => hR t') (by intro q; cases q)
theorem ca_isi_VE {e k : Addr} {bm : List Value} {tb : Option (Addr × Value)} (hm : MO.exc e (.ref k) tb ∈ μ) (K : ECls2 C.B k bm) (h : P (.bool true) μ) : Ca C (.builtin "isinstance") [.ref e, .val (.type "ValueError")] μ P X := by
  refine ca2 fun T v u hv hu ρ s Q E st hQ hE => ?_
  have e1 := st.isRef hv; subst e1
  have e2 := st.isVal hu; subst e2
  obtain ⟨⟨φ, _, _, h3, _⟩, _, _⟩ := id st
  obtain ⟨oe, vs, he, hc, _⟩ := h3 _ (List.mem_append_left ρ hm)
  obtain ⟨N, nm, q, bs, hdct, sn, sub, ab, col, dd, k0, k1, k2, k3, k5, mN, hC, hN, hq, hT⟩ := K.ex
  refine call_isinstance (S := fun _ R s' => s' = s ∧ ∀ tk, R (.ok (.ret (.bool true))) { s with toks := tk })
    (fun prog w A R s' hs => ?_) ⟨rfl, fun tk => hQ _ _ _ _ h ((st.toks tk).add (rBool _))⟩
  obtain ⟨rfl, hR⟩ := hs
  obtain ⟨hh, g, dr, t, os⟩ := s'
  exact isinstance_outer (isi_nested_VE (st.stays _ _ hC) (hT.keeps st.stays) he hc.1 fun t' => hR t') (by intro q; cases q)
end
end Mine

open PySem PyProof.Rows
set_option linter.unusedVariables false
namespace Mine
section
variable {C : Cx} {env : Env} {μ : List MO} {P : Post} {X : XPost} {f : MO}

def FTurns (C : Cx) (env : Env) (scope : Scope) (tn : List Str) (target elt test : Expr) (μ : List MO) (ds : List D) (t : Nat → Bool) (g : Nat → D) : Prop :=
  ∀ i x, ds[i]? = some x → ∀ cl Lc, KN scope.names → LN tn → ClOk scope env cl → Asg C (compEnvC scope cl Lc env) (.frame Lc [] tn (tn.map fun _ => none) :: μ) target x (fun μ2 => Te C (compEnvC scope cl Lc env) μ2 test (fun b μ3 =>
    (b = true → t i = true ∧ Ev C (compEnvC scope cl Lc env) μ3 elt (fun y μ4 => y = g i ∧ ∃ vs, μ4 = .frame Lc [] tn vs :: μ) noX) ∧ (b = false → t i = false ∧ ∃ vs, μ3 = .frame Lc [] tn vs :: μ)) noX) noX
theorem cfilt {d : D} {ds : List D} {scope : Scope} {tn : List Str} {target elt test : Expr} {Q : List D → List MO → Prop} (t : Nat → Bool) (g : Nat → D) (hit : Itb C d ds (CompI μ)) (hl : ds.length ≤ sizeLine)
    (turn : FTurns C env scope tn target elt test μ ds t g) (hk : knOk scope.names = true) (hn : decide tn.Nodup = true)
    (h : Q (((List.range ds.length).filter t).map g) μ) :
    ∃ ds, ∃ G : Nat → List D, Itb C d ds (CompI μ) ∧ G 0 = [] ∧ (∀ i, (G i).length ≤ sizeLine) ∧ (∀ i d, ds[i]? = some d → CompTurn C env scope tn μ target elt [test] d (G i) (G (i + 1))) ∧ Q (G ds.length) μ := by
  refine ⟨ds, fun n => ((List.range (min n ds.length)).filter t).map g, hit, rfl, fun i => ?_, fun i x hx cl Lc hcl => ?_, ?_⟩
  · simp only [List.length_map]
    refine Nat.le_trans (List.length_filter_le _ _) ?_
    rw [List.length_range]; lia
  · have hi := (List.getElem?_eq_some_iff.mp hx).1
    have e1 : (List.range (min (i + 1) ds.length)).filter t = (List.range (min i ds.length)).filter t ++ (if t i = true then [i] else []) := by
      rw [Nat.min_eq_left (show i + 1 ≤ ds.length from hi), Nat.min_eq_left (Nat.le_of_lt hi), List.range_succ, List.filter_append]
      congr 1
      by_cases q : t i = true <;> simp [q]
    intro T v hv ρ s Q E st hQ hE
    refine turn i x hx cl Lc (KN.of hk) ⟨of_decide_eq_true hn⟩ hcl T v hv ρ s Q E st (fun μ' s' h' st' => hQ μ' s' (ifs_one ?_) st') hE
    intro T2 ρ2 s2 Q2 E2 st2 hQ2 hE2
    refine h' T2 ρ2 s2 Q2 E2 st2 (fun b μ3 s3 hb st3 => hQ2 b μ3 s3 ⟨fun q => ?_, fun q => ?_⟩ st3) hE2
    · obtain ⟨ht, he⟩ := hb.1 q
      refine TrV.mono he (fun y μ'' ⟨e, r⟩ => ⟨?_, r⟩) fun _ _ q => q
      subst e
      dsimp only
      rw [e1, if_pos ht, List.map_append]; rfl
    · obtain ⟨ht, he⟩ := hb.2 q
      refine ⟨?_, he⟩
      dsimp only
      rw [e1, if_neg (by rw [ht]; decide), List.append_nil]
  · simp only [Nat.min_self]; exact h
theorem ev_cfilt {target iter elt test : Expr} {kn : List (Str × NameKind)} {more : List (Str × Const)} {q : Fq} {L fa : Addr} {scope : Scope} {pos : Pos} (tn : List Str) (K : KN kn)
    (h : Ev C (envK kn more q L fa) μ iter (fun d μ1 => ∃ ds t g, Itb C d ds (CompI μ1) ∧ ds.length ≤ sizeLine ∧ FTurns C (envK kn more q L fa) scope tn target elt test μ1 ds t g ∧ P (.lst (((List.range ds.length).filter t).map g)) μ1) X)
    (hfr : freeOk scope.names kn = true) (hsc : compScope scope = true) (hk : knOk scope.names = true) (hn : decide tn.Nodup = true) (hkind : scope.kind = .function) (ht : ∀ it v, letOwnedTupleGo target it v = pure ()) (hs : ∀ x, foldedSetIterable iter (envK kn more q L fa) x = pure x) :
    Ev C (envK kn more q L fa) μ (.ListComp elt [⟨target, iter, [test], 0⟩] scope pos) P X :=
  ev_comp tn (TrV.mono h (fun d μ1 ⟨ds, t, g, h1, h2, h3, h4⟩ => cfilt (Q := fun ds μ => P (.lst ds) μ) t g h1 h2 h3 hk hn h4) fun _ _ x => x) (free_ok K hfr) hsc hkind ht hs
theorem ex_assign_cfilt {x : Str} {p : Pos} {target iter elt test : Expr} {kn : List (Str × NameKind)} {more : List (Str × Const)} {q : Fq} {L fa : Addr} {scope : Scope} {pos cpos : Pos} {P : Fw → List MO → Prop} (tn : List Str) (K : KN kn)
    (h : Ev C (envK kn more q L fa) μ iter (fun d μ1 => ∃ ds t g, Itb C d ds (CompI μ1) ∧ ds.length ≤ sizeLine ∧ FTurns C (envK kn more q L fa) scope tn target elt test μ1 ds t g ∧ Sto C (envK kn more q L fa) μ1 x (.lst (((List.range ds.length).filter t).map g)) (P .next) X) X)
    (hsw : swapsWith (.ListComp elt [⟨target, iter, [test], 0⟩] scope cpos) (some (.Name x p)) pos.line (envK kn more q L fa) = pure true)
    (hfr : freeOk scope.names kn = true) (hsc : compScope scope = true) (hk : knOk scope.names = true) (hn : decide tn.Nodup = true) (hkind : scope.kind = .function) (ht : ∀ it v, letOwnedTupleGo target it v = pure ()) (hs : ∀ x, foldedSetIterable iter (envK kn more q L fa) x = pure x) :
    Ex1 C (envK kn more q L fa) μ (.Assign [.Name x p] (.ListComp elt [⟨target, iter, [test], 0⟩] scope cpos) pos) P X :=
  ex_assign_comp tn (TrV.mono h (fun d μ1 ⟨ds, t, g, h1, h2, h3, h4⟩ => cfilt (Q := fun ds μ => Sto C (envK kn more q L fa) μ x (.lst ds) (P .next) X) t g h1 h2 h3 hk hn h4) fun _ _ x => x) hsw (free_ok K hfr) hsc hkind ht hs

def DpP (P : Post) : Post := fun d μ' => P d μ' ∨ ∃ a ds μ2, μ'.Perm (.list a ds :: μ2) ∧ P d μ2
theorem ca_dp {g : Value} {ds : List D} (h : Ca C g ds μ (DpP P) X) : Ca C g ds μ P X := by
  intro T vs hl hv ρ s Q E st hQ hE
  refine h T vs hl hv ρ s Q E st (fun v d μ' s' hp st' => ?_) hE
  rcases hp with p | ⟨a, ds, μ2, hμ, p⟩
  · exact hQ _ _ _ _ p st'
  exact hQ _ _ _ _ p (St.forgetAt (μ := []) (st'.perm (hμ.symm.append (List.Perm.refl ρ))))
theorem dpP_h {d : D} {a : Addr} {ds : List D} (h : P d μ) : DpP P d (.list a ds :: μ) := .inr ⟨a, ds, μ, .refl _, h⟩
theorem trT_dp {T : List (Value × D)} {t : Sem Value} (h : TrT C T μ t (DpP P) X) : TrT C T μ t P X := by
  intro ρ s Q E st hQ hE
  refine h ρ s Q E st (fun v d μ' s' hp st' => ?_) hE
  rcases hp with p | ⟨a, ds, μ2, hμ, p⟩
  · exact hQ _ _ _ _ p st'
  exact hQ _ _ _ _ p (St.forgetAt (μ := []) (st'.perm (hμ.symm.append (List.Perm.refl ρ))))
theorem ev_dp {e : Expr} (h : Ev C env μ e (DpP P) X) : Ev C env μ e P X := fun T => trT_dp (h T)
theorem bin_dp {op : Operator} {a b : D} (h : Bin C op a b μ (DpP P) X) : Bin C op a b μ P X := fun T x y hx hy => trT_dp (h T x y hx hy)
theorem dpP_3 {d : D} {a : Addr} {ds : List D} {g : MO} (h : P d (f :: g :: μ)) : DpP P d (f :: g :: .list a ds :: μ) := .inr ⟨a, ds, f :: g :: μ, List.perm_middle (l₁ := [f, g]), h⟩
def PmP (P : Post) : Post := fun d μ' => ∃ μ2, μ'.Perm μ2 ∧ P d μ2
theorem ca_pm {g : Value} {ds : List D} (h : Ca C g ds μ (PmP P) X) : Ca C g ds μ P X := by
  intro T vs hl hv ρ s Q E st hQ hE
  refine h T vs hl hv ρ s Q E st (fun v d μ' s' hp st' => ?_) hE
  obtain ⟨μ2, hμ, p⟩ := hp
  exact hQ _ _ _ _ p (st'.perm (hμ.symm.append (List.Perm.refl ρ)))
theorem ca_min2 {a b : Int} (hA : C.A.handled = none) (h : P (.int (if b < a then b else a)) μ) : Ca C (.builtin "min") [.int a, .int b] μ P X := by
  refine ca2 fun T v w hv hw ρ s Q E st hQ hE => ?_
  obtain ⟨t, rfl⟩ := st.isInt hv
  obtain ⟨u, rfl⟩ := st.isInt hw
  refine min_two_ints hA fun h' tk hk => ?_
  by_cases q : b < a
  · rw [if_pos q] at h ⊢; exact hQ _ _ _ _ h ((st.grown hk tk).add (rInt _ _))
  · rw [if_neg q] at h ⊢; exact hQ _ _ _ _ h ((st.grown hk tk).add (rInt _ _))
inductive Pb : Nat → D → Prop
  | none {n : Nat} : Pb n .none
  | bool {n : Nat} (b : Bool) : Pb n (.bool b)
  | int {n : Nat} (i : Int) : Pb n (.int i)
  | str {n : Nat} {x : Str} : PyData.strOk x = true → Pb n (.str x)
  | tup {n : Nat} {ds : List D} : (∀ d ∈ ds, Pb n d) → Pb (n + 1) (.tup ds)
  | lst {n : Nat} {ds : List D} : (∀ d ∈ ds, Pb n d) → Pb (n + 1) (.lst ds)
theorem Pb.plain {n : Nat} {d : D} (h : Pb n d) : plainD d = true ∧ (toP d).canLay0 = true ∧ (toP d).depth ≤ n := by
  induction h with
  | none => simp [plainD, toP, PyData.canLay0, PyData.depth]
  | bool b => simp [plainD, toP, PyData.canLay0, PyData.depth]
  | int i => simp [plainD, toP, PyData.canLay0, PyData.depth]
  | str hx => simp [plainD, toP, PyData.canLay0, PyData.depth, hx]
  | tup _ ih => simp only [plainD, toP, PyData.canLay0, PyData.depth]; exact ⟨plainDs_of fun x hx => (ih x hx).1, canLayAll_of fun x hx => (ih x hx).2.1, Nat.succ_le_succ (depthAll_of fun x hx => (ih x hx).2.2)⟩
  | lst _ ih => simp only [plainD, toP, PyData.canLay0, PyData.depth]; exact ⟨plainDs_of fun x hx => (ih x hx).1, canLayAll_of fun x hx => (ih x hx).2.1, Nat.succ_le_succ (depthAll_of fun x hx => (ih x hx).2.2)⟩
theorem Pb.shaped {n : Nat} {d : D} (h : Pb n d) (hn : n ≤ 64) : SeqAt.shaped (toP d) = true := by
  unfold SeqAt.shaped
  rw [h.plain.2.1, decide_eq_true (Nat.le_trans h.plain.2.2 hn)]; rfl
theorem Pb.kd {n : Nat} {d : D} (h : Pb n d) : ∃ K, Kd μ d K := by
  cases h <;> exact ⟨_, by constructor⟩
theorem cmp_neB {d e d' e' : D} {n m : Nat} {P : Bool → List MO → Prop} (hd : Seen μ d d') (he : Seen μ e e') (pd : Pb n d') (pe : Pb m e') (hn : n ≤ 64) (hm : m ≤ 64) (hu : C.A.units + 64 < cLine)
    (h : P (!PyData.eqv (toP d') (toP e')) μ) : Cmp C .NotEq d e μ P X := cmp_neD hd he pd.plain.1 pe.plain.1 (pd.shaped hn) (pe.shaped hm) hu h
theorem cmp_eqB {d e d' e' : D} {n m : Nat} {P : Bool → List MO → Prop} (hd : Seen μ d d') (he : Seen μ e e') (pd : Pb n d') (pe : Pb m e') (hn : n ≤ 64) (hm : m ≤ 64) (hu : C.A.units + 64 < cLine)
    (h : P (PyData.eqv (toP d') (toP e')) μ) : Cmp C .Eq d e μ P X := cmp_eqD hd he pd.plain.1 pe.plain.1 (pd.shaped hn) (pe.shaped hm) hu h
theorem eqv_nil (ds : List D) : PyData.eqv (toP (.lst ds)) (toP (.lst [])) = ds.isEmpty := by
  cases ds <;> simp [toP, toPs, PyData.eqv, PyData.eqvAll]
end
end Mine

open PySem PySem.W PyProof.Rows
set_option linter.unusedVariables false
namespace Mine

def recOf : Stmt → DefRec
  | .FunctionDef name a b _ _ _ sc _ _ pos => ⟨name, a, b, sc, pos⟩
  | _ => ⟨Str.empty, ⟨[], [], none, [], [], none, []⟩, [], ⟨.function, [], false, false, []⟩, ⟨0, 0, 0, 0⟩⟩
def scOk (sc : Scope) : Bool := !sc.isCoroutine && !sc.isGenerator && (match sc.kind with | .function => true | _ => false)
theorem len1 {vs : List Value} (h : vs.length = 1) : ∃ a, vs = [a] := List.length_eq_one_iff.mp h
theorem lenS {vs : List Value} {n : Nat} (h : vs.length = n + 1) : ∃ a r, vs = a :: r ∧ r.length = n := by
  cases vs with
  | nil => cases h
  | cons a r => exact ⟨a, r, rfl, Nat.succ.inj h⟩
theorem len2 {vs : List Value} (h : vs.length = 2) : ∃ a b, vs = [a, b] := by
  obtain ⟨a, r, e, h⟩ := lenS h; obtain ⟨b, rfl⟩ := len1 h; exact ⟨a, b, e⟩
theorem len3 {vs : List Value} (h : vs.length = 3) : ∃ a b c, vs = [a, b, c] := by
  obtain ⟨a, r, e, h⟩ := lenS h; obtain ⟨b, c, rfl⟩ := len2 h; exact ⟨a, b, c, e⟩
theorem len4 {vs : List Value} (h : vs.length = 4) : ∃ a b c d, vs = [a, b, c, d] := by
  obtain ⟨a, r, e, h⟩ := lenS h; obtain ⟨b, c, d, rfl⟩ := len3 h; exact ⟨a, b, c, d, e⟩
theorem len5 {vs : List Value} (h : vs.length = 5) : ∃ a b c d f, vs = [a, b, c, d, f] := by
  obtain ⟨a, r, e, h⟩ := lenS h; obtain ⟨b, c, d, f, rfl⟩ := len4 h; exact ⟨a, b, c, d, f, e⟩
theorem fnSt_of {p : Program} {loose : List Str} {mean : ExcName → Option Value} {mg mb : Str → Option Value} {B : Shared} (T : Top p loose mean mg mb B.heap) {d : DefRec} {st : Stmt} {names : List Str} (i : Nat) (h : (recsOf p)[i]? = some d) (hd : d = recOf st) (hn : decide names.Nodup = true) (hok : paramsOk (recOf st).scope.names names = true) (hsc : scOk (recOf st).scope = true)
    (hpar : fParams st = (recOf st).params) (hbody : fBody st = (recOf st).body) (hscope : fScope st = (recOf st).scope)
    (hb : ∀ pm cd doc (vs : List Value), vs.length = names.length → bindArgs (Calls.docDef (recOf st).name (recOf st).params (recOf st).body (recOf st).scope pm cd doc) ⟨vs, []⟩ = pure (names.zip vs)) :
    ∃ a, mg d.name = some (.ref a) ∧ FnSt B a st names := by
  obtain ⟨a, o, pm, code, doc, h1, h2, h3, h4⟩ := T.fn d (List.mem_of_getElem? h)
  subst hd
  obtain ⟨hs1, hs2⟩ := Bool.and_eq_true_iff.mp hsc
  obtain ⟨hs3, hs4⟩ := Bool.and_eq_true_iff.mp hs1
  refine ⟨a, h1, ⟨(recOf st).name, (recOf st).name, .none, .none, doc, pm, none, code, .none⟩, ?_⟩
  have e : mkFd st ⟨(recOf st).name, (recOf st).name, .none, .none, doc, pm, none, code, .none⟩ = Calls.docDef (recOf st).name (recOf st).params (recOf st).body (recOf st).scope pm code doc := by
    unfold mkFd Calls.docDef
    rw [hpar, hbody, hscope]
  rw [e]
  refine ⟨⟨o, h2, h3⟩, T.nolimit, h4, by rw [hbody]; rfl, rfl, hb pm code doc, of_decide_eq_true hn, hok, by simpa [Calls.docDef] using hs3, by simpa [Calls.docDef] using hs4, ?_⟩
  show (recOf st).scope.kind = .function
  revert hs2; cases (recOf st).scope.kind <;> simp
theorem FnSt.func {B : Shared} {a : Addr} {st : Stmt} {names : List Str} (h : FnSt B a st names) : ∃ fo fd, B.heap.get? a = some fo ∧ fo.data = .func fd := by
  obtain ⟨q, F⟩ := h
  obtain ⟨fo, h1, h2⟩ := F.obj
  exact ⟨fo, _, h1, h2⟩

theorem reps_ints {φ : FM} : ∀ {vs : List Value} {ns : List Int}, IntsAre vs ns → Reps φ vs (intsD ns)
  | _, _, .nil => .nil
  | _, _, .cons n t h => .cons (.int n t) (reps_ints h)
def gsOk (mg : Str → Option Value) : List (Str × Value) → Prop
  | [] => True
  | (n, v) :: r => mg n = some v ∧ gsOk mg r
theorem gsOk.at {mg : Str → Option Value} : ∀ {l : List (Str × Value)}, gsOk mg l → ∀ n v, (n, v) ∈ l → mg n = some v
  | _ :: _, ⟨h1, h2⟩, n, v, hm => by
    rcases List.mem_cons.mp hm with e | hm
    · cases e; exact h1
    · exact gsOk.at h2 n v hm
def fnsOk (B : Shared) : List (Str × Value) → Prop
  | [] => True
  | (n, v) :: r => (∀ f, v = .ref f → ∃ fo fd, B.heap.get? f = some fo ∧ fo.data = .func fd) ∧ fnsOk B r
theorem fnsOk.at {B : Shared} : ∀ {l : List (Str × Value)}, fnsOk B l → ∀ n f, (n, Value.ref f) ∈ l → ∃ fo fd, B.heap.get? f = some fo ∧ fo.data = .func fd
  | _ :: _, ⟨h1, h2⟩, n, f, hm => by
    rcases List.mem_cons.mp hm with e | hm
    · cases e; exact h1 f rfl
    · exact fnsOk.at h2 n f hm
def boots : List (Str × Value) → Prop
  | [] => True
  | (n, v) :: r => bootBuiltins n = some v ∧ boots r
def freeNames (p : Program) (loose : List Str) (l : List Str) : Bool := l.all fun x => !startupNames.contains x && !loose.contains x && !((recsOf p).map (·.name)).contains x && !((litsOf p).map (·.1)).contains x && !((clssOf p loose).map (·.name)).contains x
theorem gOk_of {p : Program} {loose : List Str} {mean : ExcName → Option Value} {mg mb : Str → Option Value} {B : Shared} (T : Top p loose mean mg mb B.heap) {gt bt ct : List (Str × Value)} (h1 : gsOk mg gt) (h2 : fnsOk B gt) (hc : gsOk mg ct) (h3 : boots bt) (h4 : freeNames p loose (bt.map (·.1)) = true) : GOk B gt bt ct := by
  refine ⟨⟨mg, mb, T.g, T.b, h1.at, ?_⟩, ⟨mg, T.g, hc.at⟩, h2.at⟩
  have aux : ∀ {l : List (Str × Value)}, boots l → freeNames p loose (l.map (·.1)) = true → ∀ n v, (n, v) ∈ l → mg n = none ∧ mb n = some v := by
    intro l
    induction l with
    | nil => intro _ _ _ _ q; cases q
    | cons y r ih =>
      obtain ⟨m, u⟩ := y
      intro hb hf n v hm
      obtain ⟨hf1, hf2⟩ := (show _ ∧ _ by simpa only [freeNames, List.map_cons, List.all_cons, Bool.and_eq_true] using hf)
      rcases List.mem_cons.mp hm with e | hm
      · cases e
        simp only [Bool.not_eq_true', List.contains_eq_mem, decide_eq_false_iff_not] at hf1
        obtain ⟨⟨⟨⟨a1, a2⟩, a3⟩, a4⟩, a5⟩ := hf1
        refine ⟨T.free _ a1 a2 a3 a4 a5, (T.builtins _ fun e => a1 ?_).trans hb.1⟩
        rw [e]; exact .head _
      · exact ih hb.2 (by simpa only [freeNames] using List.all_eq_true.mpr (by simpa using hf2)) n v hm
  exact aux h3 h4
theorem const_int {p : Program} {loose : List Str} {mean : ExcName → Option Value} {mg mb : Str → Option Value} {h : Heap} (T : Top p loose mean mg mb h) {x : Str} {i : Int} (hv : valOf p x = some (.int i)) : ∃ t, mg x = some (.int i t) := by
  obtain ⟨v, h1, h2⟩ := T.const x _ hv
  have := h2 h
  cases this
  exact ⟨_, h1⟩
theorem St.start {B : Shared} (hg : B.gens = #[]) {a : Addr} {vs : List Value} {ns : List Int} (hL : B.heap.IsList a vs.toArray) (hI : IntsAre vs ns) : St B [] [(.ref a, .lst (intsD ns))] [] B := by
  obtain ⟨o, h1, h2, n, h3⟩ := hL
  refine ⟨⟨B.heap.get?, fun _ _ e => e, fun _ _ e => e, fun _ q => (nomatch q), fun _ q => (nomatch q), .nil, fun p hp => ?_⟩, rfl, hg, fun _ q => (nomatch q)⟩
  rw [List.mem_singleton] at hp; subst hp
  exact .lst h1 h2 h3 (reps_ints hI)
theorem callerA_ok {p : Program} {w : World} {s : Shared} {n : Nat} (h : n ≤ 100) : AOk ⟨p, w, callerA, s, []⟩ n :=
  ⟨rfl, Nat.lt_of_le_of_lt (Nat.add_le_add_left h _) (show callerA.depth + 100 < recursionLimit by decide), Nat.lt_of_le_of_lt (Nat.add_le_add_left (Nat.mul_le_mul_left 4 h) _) (show callerA.units + 64 + 4 * 100 < cLine by decide), ⟨[], rfl, fun _ q => (nomatch q)⟩⟩
theorem law_done {prog : Program} {w : World} {s₁ : Shared} {fa a : Addr} {vs : List Value} {ns : List Int} {Q E : Value → Shared → Prop} (hg : s₁.gens = #[]) (hL : s₁.heap.IsList a vs.toArray) (hI : IntsAre vs ns) (h : Ca ⟨prog, w, callerA, s₁, []⟩ (.ref fa) [.lst (intsD ns)] [] (fun d _ => d = .bool true) noX)
    (hQ : ∀ s' : Shared, (∀ b o, s₁.heap.get? b = some o → s'.heap.get? b = some o) → s'.os = s₁.os → s'.gens = #[] → Q (.bool true) s') : wpAny (model prog w) callerA (call (.ref fa) [.ref a]) Q E s₁ := by
  refine h [(.ref a, .lst (intsD ns))] [.ref a] rfl (fun p hp => by simpa using hp) [] s₁ Q E (St.start hg hL hI) ?_ fun _ _ _ _ _ h => h.elim
  intro v d μ' s' hd st
  subst hd
  have e := st.isBool (.head _); subst e
  exact hQ s' (fun b o e => st.stays b o e) st.os st.gf.1
end Mine

open PySem PySem.W PyProof.Rows
set_option linter.unusedVariables false
namespace Mine
def keysOk (es : Array DictEntry) : Bool := es.toList.all fun e => match e.key with | .str _ _ => true | _ => false
theorem keysOk_ok {es : Array DictEntry} (h : keysOk es = true) : StrKeys es := by
  intro e he
  have := List.all_eq_true.mp h e (by simpa using he)
  revert this
  cases e.key <;> simp
def findL (es : Array DictEntry) (n : Str) : Option Value := (es.toList.find? (·.key.isStr n)).map (·.val)
theorem findL_eq (es : Array DictEntry) (n : Str) : nsFind es n = findL es n := by
  unfold nsFind findBy findL
  rw [← Array.find?_toList]
theorem ecls2_mk {K : Frag} {B : Shared} (X : K.In B.heap) {c N : Addr} {nm q : Str} {bs bm : List Value} {hdct : Bool} {sn : List Str} {sub : List Value} {ab : Bool} {col : Option Bool} {dd : Option Addr} {k0 k1 k2 k3 k5 : Option Value} {o : Obj} {es : Array DictEntry} {ep : Nat}
    (e : K.lookup c = some (excClassObj nm q c N bs bm hdct sn sub ab col dd k0 k1 k2 k3 k5 "ValueError.__new__")) (eN : K.lookup N = some o) (hd : o.data = .dict es ep) (hs : keysOk es = true) (hq : (qn.all fun n => (findL es n).isNone) = true) (T : TailC B.heap bm) : ECls2 B c bm :=
  ⟨N, nm, q, bs, hdct, sn, sub, ab, col, dd, k0, k1, k2, k3, k5, nsFind es, X _ _ e, ⟨o, es, ep, X _ _ eN, hd, keysOk_ok hs, fun _ => rfl⟩, fun n hn => by
    have := List.all_eq_true.mp hq n hn
    rw [findL_eq]; simpa using this, T⟩
theorem tailc_mk {K : Frag} {h : Heap} (X : K.In h) {c N : Addr} {nm q : Str} {bs bm tl : List Value} {hdct : Bool} {sn : List Str} {sub : List Value} {ab : Bool} {col : Option Bool} {dd : Option Addr} {k0 k1 k2 k3 k5 : Option Value} {o : Obj} {es : Array DictEntry} {ep : Nat}
    (e : K.lookup c = some (excClassObj nm q c N bs bm hdct sn sub ab col dd k0 k1 k2 k3 k5 "ValueError.__new__")) (eN : K.lookup N = some o) (hd : o.data = .dict es ep) (hs : keysOk es = true) (hq : (qn.all fun n => (findL es n).isNone) = true) (T : TailC h tl) : TailC h (.ref c :: tl) :=
  .own (X _ _ e) (mA := nsFind es) ⟨o, es, ep, X _ _ eN, hd, keysOk_ok hs, fun _ => rfl⟩ (fun n hn => by
    have := List.all_eq_true.mp hq n hn
    rw [findL_eq]; simpa using this) T
theorem mg_of {p : Program} {loose : List Str} {mean : ExcName → Option Value} {mg mb : Str → Option Value} {h : Heap} (T : Top p loose mean mg mb h) {K : Frag} (X : K.In h) {o : Obj} {es : Array DictEntry} {ep : Nat} {x : Str} {v : Value} (e : K.lookup mainGlobals = some o) (hd : o.data = .dict es ep) (hx : findL es x = some v) : mg x = some v := by
  obtain ⟨o', es', ep', ho, hd', _, hf⟩ := T.g
  have e1 := X _ _ e
  rw [e1] at ho
  cases ho
  rw [hd] at hd'
  cases hd'
  rw [← hf, findL_eq, hx]
end Mine

namespace Mine
section
variable {α : Type} (kf : α → Int)
variable {kf}
end
end Mine

open PySem PyProof.Rows
set_option linter.unusedVariables false
namespace Mine
section
variable {prog : Program} {w : World} {A : Around} {E : Value → Shared → Prop} {s : Shared} {a₀ : Array Keyed}
end
end Mine

open PySem PyProof.Rows
set_option linter.unusedVariables false
set_option maxHeartbeats 4000000
namespace Mine
section
variable {C : Cx} {env : Env} {μ : List MO} {P : Post} {X : XPost} {f : MO}
end
end Mine

open PySem PyProof.Rows
set_option linter.unusedVariables false
set_option maxHeartbeats 4000000
namespace Mine
section
variable {C : Cx} {env : Env} {μ : List MO} {P : Post} {X : XPost} {f : MO}
theorem cmp_isN {P : Bool → List MO → Prop} (h : P true μ) : Cmp C .Is .none .none μ P X := fun _ _ _ ha hb _ _ _ _ st hQ _ => by
  have e := st.isNone ha; subst e
  have e := st.isNone hb; subst e
  exact is_none_none (hQ _ _ _ _ ⟨_, rfl, h⟩ (st.add (rBool _)))
theorem cmp_isI {i : Int} {P : Bool → List MO → Prop} (h : P false μ) : Cmp C .Is (.int i) .none μ P X := fun _ _ _ ha hb _ _ _ _ st hQ _ => by
  obtain ⟨t, rfl⟩ := st.isInt ha
  have e := st.isNone hb; subst e
  exact is_int_none (hQ _ _ _ _ ⟨_, rfl, h⟩ (st.add (rBool _)))
theorem cmp_isT {ds : List D} {P : Bool → List MO → Prop} (h : P false μ) : Cmp C .Is (.tup ds) .none μ P X := fun _ _ _ ha hb _ _ _ _ st hQ _ => by
  obtain ⟨a, vs, rfl, _⟩ := st.titems ha
  have e := st.isNone hb; subst e
  exact is_ref_none (hQ _ _ _ _ ⟨_, rfl, h⟩ (st.add (rBool _)))
theorem cmp_isnotN {P : Bool → List MO → Prop} (h : P false μ) : Cmp C .IsNot .none .none μ P X := fun _ _ _ ha hb _ _ _ _ st hQ _ => by
  have e := st.isNone ha; subst e
  have e := st.isNone hb; subst e
  exact isnot_none_none (hQ _ _ _ _ ⟨_, rfl, h⟩ (st.add (rBool _)))
end
end Mine

open PySem PyProof.Rows
set_option linter.unusedVariables false
set_option maxHeartbeats 4000000
namespace Mine
section
variable {C : Cx} {env : Env} {μ : List MO} {P : Post} {X : XPost} {f : MO}
end
end Mine

open PySem PyProof.Rows
set_option linter.unusedVariables false
set_option maxHeartbeats 4000000
namespace Mine
section
variable {C : Cx} {env : Env} {μ : List MO} {P : Post} {X : XPost} {f : MO}
end
end Mine

open PySem PyProof.Rows
set_option linter.unusedVariables false
set_option maxHeartbeats 4000000
namespace Mine
section
variable {C : Cx} {env : Env} {μ : List MO} {P : Post} {X : XPost} {f : MO}
theorem St.forgetJ {B : Shared} {F : List Addr} {T : List (Value × D)} {s : Shared} : ∀ {J μ : List MO}, (∀ x ∈ J, x.fr = none) → St B F T (J ++ μ) s → St B F T μ s
  | [], _, _, st => st
  | x :: J, μ, h, st => St.forgetJ (J := J) (fun y hy => h y (.tail _ hy)) (St.forgetAt (μ := []) st (fun L _ e => by rw [h x (.head _)] at e; cases e))
def Less (μ' μ : List MO) : Prop := ∃ J, μ'.Perm (J ++ μ) ∧ ∀ x ∈ J, x.fr = none
theorem St.less {B : Shared} {F : List Addr} {T : List (Value × D)} {s : Shared} {μ' μ ρ : List MO} (h : Less μ' μ) (st : St B F T (μ' ++ ρ) s) : St B F T (μ ++ ρ) s := by
  obtain ⟨J, hp, hJ⟩ := h
  have := st.perm (hp.symm.append (List.Perm.refl ρ))
  rw [List.append_assoc] at this
  exact St.forgetJ hJ this
theorem Less.refl : Less μ μ := ⟨[], .refl _, fun _ h => nomatch h⟩
theorem Less.perm {μ' : List MO} (h : μ'.Perm μ) : Less μ' μ := ⟨[], h, fun _ h => nomatch h⟩
theorem Less.keep {x : MO} {μ' : List MO} (h : Less μ' μ) : Less (x :: μ') (x :: μ) := by
  obtain ⟨J, hp, hJ⟩ := h
  exact ⟨J, (hp.cons x).trans List.perm_middle.symm, hJ⟩
theorem Less.drop {x : MO} {μ' : List MO} (hx : x.fr = none) (h : Less μ' μ) : Less (x :: μ') μ := by
  obtain ⟨J, hp, hJ⟩ := h
  exact ⟨x :: J, hp.cons x, fun y hy => by rcases List.mem_cons.mp hy with rfl | hy; exact hx; exact hJ y hy⟩
theorem Less.swap {x y : MO} {μ' : List MO} (h : Less (x :: y :: μ') μ) : Less (y :: x :: μ') μ := by
  obtain ⟨J, hp, hJ⟩ := h
  exact ⟨J, (List.Perm.swap _ _ _).trans hp, hJ⟩
def JkP (P : Post) : Post := fun d μ' => ∃ μ2, Less μ' μ2 ∧ P d μ2
theorem trT_jk {T : List (Value × D)} {t : Sem Value} (h : TrT C T μ t (JkP P) X) : TrT C T μ t P X := by
  intro ρ s Q E st hQ hE
  refine h ρ s Q E st (fun v d μ' s' hp st' => ?_) hE
  obtain ⟨μ2, hl, p⟩ := hp
  exact hQ _ _ _ _ p (st'.less hl)
theorem ca_jk {g : Value} {ds : List D} (h : Ca C g ds μ (JkP P) X) : Ca C g ds μ P X := fun T vs hl hv => trT_jk (h T vs hl hv)
theorem jkP {d : D} {μ' : List MO} (hl : Less μ' μ) (h : P d μ) : JkP P d μ' := ⟨μ, hl, h⟩
end
end Mine

open PySem PyProof.Rows
set_option linter.unusedVariables false
namespace Mine
section
variable {C : Cx} {env : Env} {μ : List MO} {P : Post} {X : XPost}
def strIt (x : Str) (t : Tok) (i : Nat) (o : Obj) : Prop := o.cls = .type "str_ascii_iterator" ∧ o.data = .fields #[.str x t, .int i 0]
def charsD (x : Str) : List D := x.cps.toList.map fun c => .str ⟨#[c]⟩
theorem charsD_at {x : Str} {i : Nat} {d : D} (h : (charsD x)[i]? = some d) : ∃ c, x.cps[i]? = some c ∧ d = .str ⟨#[c]⟩ := by
  simp only [charsD, List.getElem?_map, Option.map_eq_some_iff] at h
  obtain ⟨c, h1, h2⟩ := h
  exact ⟨c, by simpa using h1, h2.symm⟩
theorem charsD_len (x : Str) : (charsD x).length = x.length := by simp [charsD]; rfl
theorem src_str {x : Str} {t : Tok} {it : Addr} {T₀ : List (Value × D)} {I : Nat → List MO → Prop} (hA : C.A.handled = none) : Src C T₀ it (strIt x t) (charsD x) I where
  next := by
    intro i d T μ ρ s Q E hT hI hx st hQ
    obtain ⟨c, hc, rfl⟩ := charsD_at hx
    obtain ⟨⟨φ, _, _, h3, _⟩, _, _⟩ := id st
    obtain ⟨o, ho, hc1, hd1⟩ := h3 _ (List.mem_append_right _ (.head _))
    refine wpAny_pyNext_ascii_item ⟨o, ho, hc1, hd1⟩ hc fun h' hi hs => hQ _ _ (St.add ?_ fun _ => .str _ _)
    exact St.turnAt (x' := .raw it (strIt x t (i + 1))) st rfl (Turned.of_sameBut hs) (fun φ _ _ _ => by
        obtain ⟨o', ho', hc', hd'⟩ := hi; exact ⟨o', ho', hc', hd'⟩) _
  fin := by
    intro T μ ρ s Q E hT hI st hQ
    obtain ⟨⟨φ, h1, h2, h3, h4, h5, h6⟩, ho', hg⟩ := id st
    obtain ⟨o, ho, hc, hd⟩ := h3 _ (List.mem_append_right _ (.head _))
    exact wpAny_pyNext_ascii_end hA ⟨o, ho, hc, hd⟩ (by rw [charsD_len]; simp [Str.length]) fun h' hs => hQ _ (st.gone (Turned.of_extBut hs) s.toks)
  self := by
    intro T μ ρ s Q E st hQ
    obtain ⟨⟨φ, _, _, h3, _⟩, _, _⟩ := st
    obtain ⟨o, ho, hc, hd⟩ := h3 _ (List.mem_append_right _ (.head _))
    exact wpAny_pyIter_striter_ascii ⟨o, ho, hc, hd⟩ hQ
theorem itb_str {x : Str} {I : Nat → List MO → Prop} (hA : C.A.handled = none) (ha : x.cps.all (· < 128) = true) : Itb C (.str x) (charsD x) I := by
  intro v T μ ρ s Q E hv h0 st hQ
  obtain ⟨t, rfl⟩ := st.isStr hv
  exact wpAny_pyIter_ascii ha (hQ _ _ _ (src_str hA) (st.alloc rfl s.toks fun _ _ => ⟨_, Heap.get?_push_size _ rfl, rfl, rfl⟩))
end
end Mine

open PySem PyProof.Rows
set_option linter.unusedVariables false
namespace Mine
def cBody : Stmt → List Stmt
  | .ClassDef _ _ _ b _ _ _ _ _ _ _ => b
  | _ => []
def mAt (p : Program) (i j : Nat) : Stmt := (cBody (stAt p i)).getD j (.Pass ⟨0, 0, 0, 0⟩)
def InstO (c dx : Addr) (o : Obj) : Prop := o.cls = .ref c ∧ o.dict = some dx ∧ ∀ k, o.data ≠ .cls k
def AttrO (ns : List Str) (vs : List (Option D)) (φ : FM) (o : Obj) : Prop :=
  ∃ es ep mA, o.data = .dict es ep ∧ StrKeys es ∧ UniqKeys es ∧ (∀ n, nsFind es n = mA n) ∧ Within mA ns ∧ ∀ x d, Look x d ns vs → ∃ v, mA x = some v ∧ Rep φ v d
theorem AttrO.mono {ns : List Str} {vs : List (Option D)} : ∀ φ ψ o, FM.le φ ψ → AttrO ns vs φ o → AttrO ns vs ψ o :=
  fun _ _ _ k ⟨es, ep, mA, h1, h2, h3, h4, h5, h6⟩ => ⟨es, ep, mA, h1, h2, h3, h4, h5, fun x d l => let ⟨v, a, b⟩ := h6 x d l; ⟨v, a, b.mono k⟩⟩
abbrev instM (c x dx : Addr) : MO := .raw x (InstO c dx)
abbrev attrM (dx : Addr) (ns : List Str) (vs : List (Option D)) : MO := .dep dx (AttrO ns vs) AttrO.mono
def quietN : List Str := ["__setattr__", "__getattribute__", "__getattr__"]
structure ClsF (B : Shared) (c : Addr) (ms : List (Str × Addr)) (as : List Str) : Prop where
  ex : ∃ N mN, ClsAt B.heap c N mN ∧ (∀ n ∈ quietN, mN n = none) ∧ (∀ n ∈ as, mN n = none ∧ typeLookup (.type "object") n = pure none) ∧
    ∀ n f, (n, f) ∈ ms → mN n = some (.ref f) ∧ (∃ y, typeLookup (.type "object") n = pure y) ∧ ∃ fo fd, B.heap.get? f = some fo ∧ fo.cls = .type "function" ∧ fo.data = .func fd
theorem own_one : ∀ {μ : List MO}, (μ.flatMap MO.owned).Nodup → ∀ {x y : MO}, x ∈ μ → y ∈ μ → ∀ {a : Addr}, a ∈ x.owned → a ∈ y.owned → x = y
  | [], _, _, _, hx, _, _, _, _ => nomatch hx
  | z :: μ, h, x, y, hx, hy, a, ax, ay => by
    rw [List.flatMap_cons] at h
    obtain ⟨_, h2, h3⟩ := List.nodup_append.mp h
    rcases List.mem_cons.mp hx with ex | hx'
    · rcases List.mem_cons.mp hy with ey | hy'
      · rw [ex, ey]
      · exact absurd rfl (h3 a (ex ▸ ax) a (List.mem_flatMap.mpr ⟨y, hy', ay⟩))
    · rcases List.mem_cons.mp hy with ey | hy'
      · exact absurd rfl (h3 a (ey ▸ ay) a (List.mem_flatMap.mpr ⟨x, hx', ax⟩))
      · exact own_one h2 hx' hy' ax ay
theorem inst_of {μ : List MO} {φ : FM} {h : Heap} {c x dx : Addr} {ns : List Str} {vs : List (Option D)} (h3 : ∀ x ∈ μ, x.holds φ h) (h5 : (μ.flatMap MO.owned).Nodup) (i1 : instM c x dx ∈ μ) (i2 : attrM dx ns vs ∈ μ) :
    dx ≠ x ∧ ∃ mA, h.Inst x c mA ∧ h.Ns1 dx mA ∧ Within mA ns ∧ ∀ y d, Look y d ns vs → ∃ v, mA y = some v ∧ Rep φ v d := by
  obtain ⟨o, ho, hc, hd, hn⟩ := h3 _ i1
  obtain ⟨od, hod, es, ep, mA, e1, e2, e3, e4, e5, e6⟩ := h3 _ i2
  have hne : dx ≠ x := fun q => by
    have := own_one h5 i1 i2 (a := x) (by simp [MO.owned]) (by simp [MO.owned, q])
    cases this
  have n1 : h.Ns1 dx mA := ⟨od, es, ep, hod, e1, e2, e3, e4⟩
  exact ⟨hne, mA, ⟨o, ho, hc, hn, .inr ⟨dx, hd, hne, n1⟩⟩, n1, e5, e6⟩
def noVal : D → Bool
  | .val _ => false
  | _ => true
theorem handed_ok {φ : FM} {v : Value} {d : D} (h : Rep φ v d) (hv : noVal d = true) : handedOut v = pure v := by
  cases h <;> first | rfl | (simp [noVal] at hv)
section
variable {C : Cx} {env : Env} {μ : List MO} {P : Post} {X : XPost} {n : Nat}
theorem ev_attr {c x dx : Addr} {ms : List (Str × Addr)} {as ns : List Str} {vs : List (Option D)} {o attr : Str} {np pos : Pos} {d : D} (K : ClsF C.B c ms as) (ha : attr ∈ as) (hn : ∀ P' : Post, P' (.ref x) μ → Ev C env μ (.Name o np) P' X)
    (i1 : instM c x dx ∈ μ) (i2 : attrM dx ns vs ∈ μ) (hl : Look attr d ns vs) (hv : noVal d = true) (h : P d μ) : Ev C env μ (.Attribute (.Name o np) attr pos) P X := by
  intro T ρ s Q E st hQ hE
  refine Attribute_Name_ (hn (fun d' μ' => d' = .ref x ∧ μ' = μ) ⟨rfl, rfl⟩ T ρ s _ _ st (fun ov d' μ1 s1 ⟨e1, e2⟩ st1 => ?_) hE)
  subst e1 e2
  have e := st1.isRef (.head _); subst e
  obtain ⟨N, mN, hC, hq, has, _⟩ := K.ex
  obtain ⟨nm, q, bs, sn, sub, col, dd, k0, k1, k2, k3, k5, hCo⟩ := (hC.keeps st1.stays).obj
  have hN := (hC.keeps st1.stays).ns
  obtain ⟨⟨φ, h1, h2, h3, h4, h5, h6⟩, ho, hg⟩ := id st1
  obtain ⟨hne, mA, I, _, _, hlk⟩ := inst_of h3 h5 (List.mem_append_left ρ i1) (List.mem_append_left ρ i2)
  obtain ⟨v, hv1, hv2⟩ := hlk _ _ hl
  obtain ⟨hh, g, dr, t, os⟩ := s1
  refine load_attr hCo hN (hq _ (by simp [quietN])) (has _ ha).1 (has _ ha).2 I hv1 (handed_ok hv2 hv) (hQ v d _ _ h ?_)
  refine ⟨⟨φ, h1, h2, h3, h4, h5, fun p hp => ?_⟩, ho, hg⟩
  rcases List.mem_cons.mp hp with rfl | hp
  · exact hv2
  · exact h6 p (.tail _ hp)
inductive SetM (x x' : MO) : List MO → List MO → Prop
  | here {μ : List MO} : SetM x x' (x :: μ) (x' :: μ)
  | there {y : MO} {μ μ' : List MO} : SetM x x' μ μ' → SetM x x' (y :: μ) (y :: μ')
theorem SetM.split {x x' : MO} {μ μ' : List MO} (h : SetM x x' μ μ') : ∃ pre post, μ = pre ++ x :: post ∧ μ' = pre ++ x' :: post := by
  induction h with
  | here => exact ⟨[], _, rfl, rfl⟩
  | there _ ih => obtain ⟨pre, post, rfl, rfl⟩ := ih; exact ⟨_ :: pre, post, rfl, rfl⟩
theorem obj_eq {a b : Obj} (h1 : b.cls = a.cls) (h2 : b.data = a.data) (h3 : b.slots = a.slots) (h4 : b.dict = a.dict) : b = a := by
  cases a; cases b; simp at h1 h2 h3 h4; subst h1 h2 h3 h4; rfl
theorem ex_setattr {c : Addr} {ms : List (Str × Addr)} {as : List Str} {o attr : Str} {np p pos : Pos} {value : Expr} {Pf : Fw → List MO → Prop} (K : ClsF C.B c ms as) (ha : attr ∈ as)
    (h : Ev C env μ value (fun d μ1 => ∃ x dx ns vs vs' μ2, (∀ P' : Post, P' (.ref x) μ1 → Ev C env μ1 (.Name o np) P' X) ∧ instM c x dx ∈ μ1 ∧ SetM (attrM dx ns vs) (attrM dx ns vs') μ1 μ2 ∧ Upd attr d ns vs vs' ∧ ns.Nodup ∧ ns.length ≤ 100 ∧ Pf .next μ2) X)
    (hs : swapsWith value (some (.Attribute (.Name o np) attr p)) pos.line env = pure false) : Ex1 C env μ (.Assign [.Attribute (.Name o np) attr p] value pos) Pf X := by
  intro T ρ s Q E st hQ hE
  refine plainObj_wpAny_Assign_Attribute (h T ρ s _ _ st (fun v d μ1 s1 ⟨x, dx, ns, vs, vs', μ2, hn, i1, hset, hu, hnd, hlen, pf⟩ st1 => ?_) hE) hs
  refine hn (fun d' μ' => d' = .ref x ∧ μ' = μ1) ⟨rfl, rfl⟩ _ ρ s1 _ _ st1 (fun ov d' μ1' s2 ⟨e1, e2⟩ st2 => ?_) fun e c t μ' s' x' st' => hE e c t μ' s' x' st'.tail
  subst e1 e2
  have e := st2.isRef (.head _); subst e
  obtain ⟨pre, post, rfl, rfl⟩ := hset.split
  obtain ⟨N, mN, hC, hq, has, _⟩ := K.ex
  obtain ⟨nm, q, bs, sn, sub, col, dd, k0, k1, k2, k3, k5, hCo⟩ := (hC.keeps st2.stays).obj
  have hN := (hC.keeps st2.stays).ns
  obtain ⟨⟨φ, h1, h2, h3, h4, h5, h6⟩, ho, hg⟩ := id st2
  have i1' := List.mem_append_left ρ i1
  have i2' : attrM dx ns vs ∈ (pre ++ attrM dx ns vs :: post) ++ ρ := List.mem_append_left ρ (List.mem_append_right _ (.head _))
  obtain ⟨hne, mA, I, hns1, hwi, hlk⟩ := inst_of h3 h5 i1' i2'
  have hxc : x ≠ c := fun q => by
    have q1 := h4 _ i1' x (by simp [MO.owned])
    obtain ⟨_, _, _, _, _, _, _, _, _, _, _, _, hb⟩ := hC.obj
    rw [q, h1 _ _ hb] at q1; cases q1
  obtain ⟨oi, hoi, hci, hdi, _⟩ := h3 _ i1'
  have st3 : St C.B C.F ((.ref x, .ref x) :: (v, d) :: T) (pre ++ attrM dx ns vs :: (post ++ ρ)) s2 := by simpa using st2
  obtain ⟨hh, g, dr, t, os⟩ := s2
  refine store_attr PySem.F.store_object hCo hN (hq _ (by simp [quietN])) (has _ ha).1 (has _ ha).2 hxc I (fun h' tk' I' hk hsame => hQ .next .next _ _ pf ?_) hwi (Nat.le_trans hlen (by decide))
  obtain ⟨o1, ho1, hc1, hd1, hs1, hdd⟩ := hsame oi hoi
  have eo : o1 = oi := obj_eq hc1 hd1 hs1 (by rw [hdd dx hdi, hdi])
  subst eo
  have tr : Turned (attrM dx ns vs).owned hh h' := fun b ob hb hob => by
    by_cases q : b = x
    · subst q
      rw [hoi] at hob; cases hob; exact ho1
    · exact hk b ob q (fun o₀ dx' q1 q2 q3 => hb (by rw [hoi] at q1; cases q1; rw [hdi] at q2; cases q2; simp [MO.owned, q3])) hob
  have n1 : h'.Ns1 dx (fun y => if y = attr then some v else mA y) := by
    obtain ⟨o', ho', hc', _, hd'⟩ := I'
    rw [ho1] at ho'; cases ho'
    rcases hd' with ⟨q, _⟩ | ⟨dx', q, _, hns⟩
    · rw [hdi] at q; cases q
    · rw [hdi] at q; cases q; exact hns
  have st4 := St.turn (x' := attrM dx ns vs') (T' := T) (h' := h') (t := tk') st3 rfl tr (fun φ' _ q7 ⟨od, hod, es, ep, mA', e1, e2, e3, e4, e5, e6⟩ => ?_) (fun _ q => .tail _ (.tail _ q))
  · show St C.B C.F T _ _
    simpa using st4
  · obtain ⟨o', es', ep', q1, q2, q3, q4, q5⟩ := n1
    have hAA : ∀ y, mA y = mA' y := fun y => hns1.ns.agree ⟨od, es, ep, hod, e1, e2, e4⟩ y
    refine ⟨o', q1, es', ep', _, q2, q3, q4, q5, fun y hy => ?_, fun y e hy => ?_⟩
    · by_cases q : y = attr
      · rw [q]; exact hu.mem
      · exact hwi y (by simpa [q] using hy)
    · rcases hu.look hnd hy with ⟨rfl, rfl⟩ | ⟨q, hy⟩
      · exact ⟨v, if_pos rfl, q7 _ (.tail _ (.head _))⟩
      · obtain ⟨v', r1, r2⟩ := e6 y e hy
        exact ⟨v', by simp only [if_neg q]; rw [hAA, r1], r2⟩
theorem ev_meth {c x dx f : Addr} {ms : List (Str × Addr)} {as ns : List Str} {vs : List (Option D)} {o name : Str} {np apos pos : Pos} {args : List Expr} (K : ClsF C.B c ms as) (hf : (name, f) ∈ ms) (hs : noStars args = true) (hnn : (ns.contains name) = false) (hfew : decide (args.length < 30) = true) (hline : (apos.endLine == pos.line) = true)
    (hn : ∀ P' : Post, P' (.ref x) μ → Ev C env μ (.Name o np) P' X) (i1 : instM c x dx ∈ μ) (i2 : attrM dx ns vs ∈ μ)
    (h : EvL C env μ args (fun ds μ1 => Ca C (.ref f) (.ref x :: ds) μ1 P X) X) : Ev C env μ (.Call (.Attribute (.Name o np) name apos) args [] pos) P X := by
  intro T ρ s Q E st hQ hE
  have hform : methodCallForm (args.length + ([] : List Keyword).length) (backTo pos (starEach args env)) (backToKw pos (keywordEach [] env)) = true := by
    have := of_decide_eq_true hfew
    rw [starEach_plain env hs, backTo_plain]
    show (((args.map fun e => (false, eval e env)).all fun x => !x.1) && true && decide (args.length + 0 + 0 < 30)) = true
    simp [this]
  have hpos : methodCallPos true (.Name o np) env apos pos = pure pos := by unfold methodCallPos; simp [hline]
  rw [arm_eval_Call]
  refine wpAny_bind (hn (fun d' μ' => d' = .ref x ∧ μ' = μ) ⟨rfl, rfl⟩ T ρ s _ _ st (fun ov d' μ1 s1 ⟨e1, e2⟩ st1 => ?_) hE)
  refine wpAny_bind (wpAny_standAt ?_)
  unfold methodCall
  rw [hform]
  subst e1 e2
  have e := st1.isRef (.head _); subst e
  obtain ⟨N, mN, hC, hq, _, hms⟩ := K.ex
  obtain ⟨hf1, ⟨y, hy⟩, fo, fd, hfo, hfc, hfd⟩ := hms _ _ hf
  obtain ⟨nm, q, bs, sn, sub, col, dd, k0, k1, k2, k3, k5, hCo⟩ := (hC.keeps st1.stays).obj
  have hN := (hC.keeps st1.stays).ns
  obtain ⟨⟨φ, h1, h2, h3, h4, h5, h6⟩, ho, hg⟩ := id st1
  obtain ⟨hne, mA, I, _, hwi, _⟩ := inst_of h3 h5 (List.mem_append_left ρ i1) (List.mem_append_left ρ i2)
  have hnone : mA name = none := by
    cases q : mA name with
    | none => rfl
    | some v => exact absurd (hwi name (by rw [q]; simp)) (by simpa using hnn)
  have hfo' := st1.stays _ _ hfo
  obtain ⟨hh, g, dr, t, os⟩ := s1
  refine wpAny_bind (wpAny_holding (method_of hCo hN (hq _ (by simp [quietN])) (hq _ (by simp [quietN])) hf1 hfo' hfc hy I hnone ?_))
  refine wpAny_bind (wpAny_of_eq hpos ?_)
  rw [starEach_plain env hs, backTo_plain]
  refine Calls.callWith_function (o := fo) (fd := fd) (evl_evalArgs h ((.ref x, .ref x) :: T) ρ _ _ _ st1 (fun vs ds μ' s' T' p hl hz hT st' => ?_) fun e c t μ' s' x' st' => hE e c t μ' s' x' st'.tail)
  refine ⟨⟨st'.stays _ _ hfo, hfd⟩, (p T' (.ref x :: vs) (by simp [hl]) (fun q hq => ?_)).from (fun q hq => hT q (.tail _ hq)) ρ s' Q E st' hQ hE⟩
  rw [List.zip_cons_cons] at hq
  rcases List.mem_cons.mp hq with rfl | hq
  · exact hT _ (.head _)
  · exact hz q hq
theorem St.takes {B : Shared} {F : List Addr} {T : List (Value × D)} {s : Shared} {h' : Heap} {xs ρ : List MO} (st : St B F T ρ s) (k : s.heap.StaysIn h') (hn : ∀ a ∈ xs.flatMap MO.owned, s.heap.get? a = none) (hnd : (xs.flatMap MO.owned).Nodup) (hh : ∀ φ : FM, ∀ x ∈ xs, x.holds φ h') (t : Nat) : St B F T (xs ++ ρ) { s with heap := h', toks := t } := by
  obtain ⟨⟨φ, h1, h2, h3, h4, h5, h6⟩, ho, hg⟩ := st
  have new : ∀ a ∈ xs.flatMap MO.owned, φ a = none := fun a ha => by
    cases q : φ a with
    | none => rfl
    | some o => exact absurd (h2 _ _ q) (by rw [hn a ha]; simp)
  refine ⟨⟨φ, h1, fun a o e => k a o (h2 a o e), fun x hx => ?_, fun x hx a ha => ?_, ?_, h6⟩, ho, hg.1, fun L hL => ?_⟩
  · rcases List.mem_append.mp hx with hx | hx
    · exact hh φ x hx
    · exact MO.holds_turned (S := []) (fun _ _ e => e) (fun b o _ e => k b o e) (h3 x hx) (by simp)
  · rcases List.mem_append.mp hx with hx | hx
    · exact new a (List.mem_flatMap.mpr ⟨x, hx, ha⟩)
    · exact h4 x hx a ha
  · rw [List.flatMap_append, List.nodup_append]
    refine ⟨hnd, h5, fun a ha b hb e => ?_⟩
    subst e
    obtain ⟨y, hy, hay⟩ := List.mem_flatMap.mp hb
    obtain ⟨o, e'⟩ := MO.holds_there (h3 y hy) a hay
    rw [hn a ha] at e'; cases e'
  · rw [List.filterMap_append]
    exact List.mem_append_right _ (hg.2 L hL)
def Cx.making (C : Cx) (c : Addr) (vs : List Value) : Cx := { C with A := C.A.under (.builtin "type.__call__" ⟨.ref c :: vs, []⟩) }
theorem AOk.making {c : Addr} {vs : List Value} (h : AOk C (n + 1)) : AOk (C.making c vs) n := by
  refine ⟨h.handled, ?_, ?_, ?_⟩
  · have := h.depth
    show C.A.depth + 1 + n < recursionLimit
    lia
  · have := h.units
    have e : (C.making c vs).A.units = C.A.units + (Code.builtin "type.__call__" ⟨.ref c :: vs, []⟩).cUnits := rfl
    have e2 : (Code.builtin "type.__call__" ⟨.ref c :: vs, []⟩).cUnits ≤ 4 := by
      first
        | exact Nat.le_of_eq (show (Code.builtin "type.__call__" ⟨.ref c :: vs, []⟩).cUnits = 4 from rfl)
        | exact Nat.le_trans (Nat.le_of_eq (show (Code.builtin "type.__call__" ⟨.ref c :: vs, []⟩).cUnits = 1 from rfl)) (by decide)
    rw [e]; lia
  · obtain ⟨fs, h1, h2⟩ := h.fr.ex
    refine ⟨fs, ?_, h2⟩
    have e : (C.making c vs).A.frames = C.A.frames := rfl
    rw [e, h1]
theorem ca_new {c fI : Addr} {ms : List (Str × Addr)} {as : List Str} {ds : List D} {f0 : MO} (K : ClsF C.B c ms as) (hi : (("__init__" : Str), fI) ∈ ms) (hA : AOk C (n + 1))
    (h : ∀ C' x dx, C'.B = C.B → AOk C' n → Ca C' (.ref fI) (.ref x :: ds) (f0 :: instM c x dx :: attrM dx as (as.map fun _ => none) :: μ) (fun d μ' => d = .none ∧ P (.ref x) μ') X) : Ca C (.ref c) ds (f0 :: μ) P X := by
  intro T vs hl hv ρ s Q E st hQ hE
  obtain ⟨N, mN, hC, hq, _, hms⟩ := K.ex
  obtain ⟨hf1, _, fo, fd, hfo, hfc, hfd⟩ := hms _ _ hi
  obtain ⟨nm, q, bs, sn, sub, col, dd, k0, k1, k2, k3, k5, hCo⟩ := (hC.keeps st.stays).obj
  have hN := (hC.keeps st.stays).ns
  have hfo' := st.stays _ _ hfo
  obtain ⟨hh, g, dr, t, os⟩ := s
  refine wpAny_call_obj_init PySem.F.objNew hCo hN hf1 hfo' hfc fun h' x dx Mk => ?_
  obtain ⟨ox, hx, hcx, hncx, hdx⟩ := Mk.inst
  have hdd := Mk.dict ox hx
  obtain ⟨hne, hns⟩ : dx ≠ x ∧ h'.Ns1 dx fun _ => none := by
    rcases hdx with ⟨hn0, _⟩ | ⟨d', hd', hne', hns'⟩
    · rw [hn0] at hdd; cases hdd
    · obtain rfl := Option.some.inj (hd'.symm.trans hdd); exact ⟨hne', hns'⟩
  have stn := St.takes (xs := [instM c x dx, attrM dx as (as.map fun _ => none)]) (h' := h') st Mk.keeps (fun a ha => ?_) ?_ (fun φ y hy => ?_) t
  · have stp : St C.B C.F ((.ref x, .ref x) :: T) ((f0 :: instM c x dx :: attrM dx as (as.map fun _ => none) :: μ) ++ ρ) ⟨h', g, dr, t, os⟩ := by
      refine St.add (stn.perm ?_) fun _ => .ref _
      exact (List.perm_middle (l₁ := [instM c x dx, attrM dx as (as.map fun _ => none)]) (a := f0) (l₂ := μ ++ ρ)).symm
    refine h (C.making c vs) x dx rfl hA.making ((.ref x, .ref x) :: T) (.ref x :: vs) (by simp [hl]) (fun q hq => ?_) ρ _ _ _ stp (fun v d μ' s' ⟨e, p⟩ st' => ?_) fun e c' tb μ' s' hx' st' => hE e c' tb μ' s' hx' st'.tail
    · rw [List.zip_cons_cons] at hq
      rcases List.mem_cons.mp hq with rfl | hq
      · exact .head _
      · exact .tail _ (hv q hq)
    · subst e
      exact ⟨st'.isNone (.head _), hQ _ _ _ _ p (st'.tail)⟩
  · simp only [List.flatMap_cons, List.flatMap_nil, MO.owned, List.append_nil, List.cons_append, List.nil_append, List.mem_cons, List.not_mem_nil, or_false] at ha
    rcases ha with rfl | rfl
    · exact Mk.newX
    · exact Mk.newD
  · simp [MO.owned]; exact fun q => hne q.symm
  · simp only [List.mem_cons, List.not_mem_nil, or_false] at hy
    rcases hy with rfl | rfl
    · exact ⟨ox, hx, hcx, hdd, hncx⟩
    · obtain ⟨od, es, ep, q1, q2, q3, q4, q5⟩ := hns
      exact ⟨od, q1, es, ep, _, q2, q3, q4, q5, fun y hy => absurd rfl hy, fun y e l => (look_nones l).elim⟩
theorem call_c {gt bt ct : List (Str × Value)} {x : Str} {np pos : Pos} {e : Expr} {rest : List Expr} {c : Addr} {ms : List (Str × Addr)} {as : List Str} (G : GOk C.B gt bt ct) (hk : KindE env x .globalImplicit) (hgl : env.globals = mainGlobals) (hv : (x, Value.ref c) ∈ ct) (K : ClsF C.B c ms as) (hs : noStars (e :: rest) = true)
    (h : EvL C env μ (e :: rest) (fun ds μ1 => Ca C (.ref c) ds μ1 P X) X) : Ev C env μ (.Call (.Name x np) (e :: rest) [] pos) P X := by
  intro T ρ s Q E st hQ hE
  refine wpAny_Call_ofName (ev_c G hk hgl hv (P := fun d μ1 => d = .ref c ∧ μ1 = μ) ⟨rfl, rfl⟩ T ρ s _ _ st (fun v d μ1 s1 ⟨hd1, hμ⟩ st1 => ?_) hE)
  subst hd1 hμ
  have e0 := st1.isRef (.head _); subst e0
  obtain ⟨N, mN, hC, _⟩ := K.ex
  have hp := starEach_plain env hs
  have h2 : noStars rest = true := (Bool.and_eq_true_iff.mp hs).2
  refine callWith_cls hC ?_ ?_ ?_
  · rw [hp, backTo_plain]
    exact evl_spliced h T ρ s1 _ _ st1.tail (fun vs ds μ' s' T' p hl hz hT st' => ⟨st'.stays, (p T' vs hl hz).from hT ρ s' Q E st' hQ hE⟩) hE
  · rw [hp, starEach_plain env h2]; rfl
  · rw [starEach_plain env h2, backTo_plain]; simp
end
end Mine

open PySem PyProof.Rows
set_option linter.unusedVariables false
namespace Mine
section
variable {C : Cx} {env : Env} {μ : List MO} {P : Post} {X : XPost} {n : Nat}
structure InOk (C : Cx) (xs : List D) (d : D) : Prop where
  pd : plainD d = true
  pxs : plainDs xs = true
  cd : (toP d).canLay0 = true
  cxs : PyData.canLayAll0 (toPs xs) = true
  dep : (toP d).depth ≤ 40
  units : C.A.units + 64 < cLine
theorem InOk.u {xs : List D} {d : D} (h : InOk C xs d) : C.A.units + 1 + min (PyData.depthAll (toPs xs)) (toP d).depth < cLine := by
  have h1 := h.units
  have h2 := h.dep
  have h3 := Nat.min_le_right (PyData.depthAll (toPs xs)) (toP d).depth
  lia
theorem cmp_inL {d e d' : D} {xs : List D} {P : Bool → List MO → Prop} (k : InOk C xs d') (hd : Seen μ d d') (he : Seen μ e (.lst xs)) (h : P ((toPs xs).any fun y => PyData.eqv y (toP d')) μ) : Cmp C .In d e μ P X := by
  intro T a b ha hb ρ s Q E st hQ hE
  obtain ⟨as, ra⟩ := st.reads ha (hd.app ρ) k.pd
  obtain ⟨bs, rb⟩ := st.reads hb (he.app ρ) (by simpa [plainD] using k.pxs)
  exact SeqAt.in_list_reads (by simpa [toP] using rb) ra k.cxs k.cd k.u (hQ _ _ _ _ ⟨_, rfl, h⟩ (st.add (rBool _)))
theorem cmp_notInL {d e d' : D} {xs : List D} {P : Bool → List MO → Prop} (k : InOk C xs d') (hd : Seen μ d d') (he : Seen μ e (.lst xs)) (h : P (!(toPs xs).any fun y => PyData.eqv y (toP d')) μ) : Cmp C .NotIn d e μ P X := by
  intro T a b ha hb ρ s Q E st hQ hE
  obtain ⟨as, ra⟩ := st.reads ha (hd.app ρ) k.pd
  obtain ⟨bs, rb⟩ := st.reads hb (he.app ρ) (by simpa [plainD] using k.pxs)
  exact SeqAt.notIn_list_reads (by simpa [toP] using rb) ra k.cxs k.cd k.u (hQ _ _ _ _ ⟨_, rfl, h⟩ (st.add (rBool _)))
theorem cmp_notInT {d d' : D} {xs : List D} {P : Bool → List MO → Prop} (k : InOk C xs d') (hd : Seen μ d d') (h : P (!(toPs xs).any fun y => PyData.eqv y (toP d')) μ) : Cmp C .NotIn d (.tup xs) μ P X := by
  intro T a b ha hb ρ s Q E st hQ hE
  obtain ⟨as, ra⟩ := st.reads ha (hd.app ρ) k.pd
  obtain ⟨bs, rb⟩ := st.reads hb (.inl rfl) (by simpa [plainD] using k.pxs)
  exact SeqAt.notIn_tuple_reads (by simpa [toP] using rb) ra k.cxs k.cd k.u (hQ _ _ _ _ ⟨_, rfl, h⟩ (st.add (rBool _)))
theorem cmp_inS {x y : Str} {P : Bool → List MO → Prop} (h : P (!(Builtin.Str.occurrences x y 0 x.length 1).isEmpty) μ) : Cmp C .In (.str y) (.str x) μ P X := fun _ _ _ ha hb _ _ _ _ st hQ _ => by
  obtain ⟨t, rfl⟩ := st.isStr ha
  obtain ⟨u, rfl⟩ := st.isStr hb
  exact PySem.P.in_str (hQ _ _ _ _ ⟨_, rfl, h⟩ (st.add (rBool _)))
structure IdxOk (C : Cx) (xs : List D) (x : D) (j : Nat) : Prop where
  ok : InOk C xs x
  lt : j < xs.length
  few : xs.length ≤ 1000
  hit : ((toPs xs)[j]?.map fun y => PyData.eqv y (toP x)) = some true
  no : ∀ m, m < j → ((toPs xs)[m]?.map fun y => PyData.eqv y (toP x)) = some false
theorem ev_index {o e : Expr} {apos pos : Pos} (h : Ev C env μ o (fun d μ1 => ∃ a ds0, d = .ref a ∧ MO.list a ds0 ∈ μ1 ∧ Ev C env μ1 e (fun x μ2 => ∃ xs j, MO.list a xs ∈ μ2 ∧ IdxOk C xs x j ∧ P (.int j) μ2) X) X)
    (hbase : attributeBase o "index" env (eval o env) = eval o env) (hline : (apos.endLine == pos.line) = true) (hs : noStars [e] = true) : Ev C env μ (.Call (.Attribute o "index" apos) [e] [] pos) P X := by
  intro T ρ s Q E st hQ hE
  have ht : backTo pos (starEach [e] env) = [e].map fun e => (false, eval e env) := by rw [starEach_plain env hs, backTo_plain]
  refine wpAny_Call_method (T := "list") hbase (by rw [ht]; rfl) hline PySem.F.plainAttrs_list PySem.F.slot_list_index PySem.F.type_list_index ?_
  refine h T ρ s _ _ st (fun ov d μ1 s1 ⟨a, ds0, hd, hm0, h1⟩ st1 => ?_) hE
  subst hd
  have e1 := st1.isRef (.head _); subst e1
  obtain ⟨vs0, n0, hl0, _⟩ := st1.ownList (List.mem_append_left ρ hm0)
  refine ⟨⟨_, hl0, rfl⟩, fun b hb => by cases hb; exact ⟨_, hl0, rfl⟩, ?_⟩
  rw [ht]
  have h1' : EvL C env μ1 [e] (fun ys μ2 => ∃ x xs j, ys = [x] ∧ MO.list a xs ∈ μ2 ∧ IdxOk C xs x j ∧ P (.int j) μ2) X := TrV.mono h1 (fun x μ' ⟨xs, j, q⟩ => ⟨x, xs, j, rfl, q⟩) fun _ _ x => x
  refine method_meets PySem.F.slot_list_index PySem.F.entry_list_index rfl (evl_evalArgs h1' ((.ref a, .ref a) :: T) ρ s1 _ _ st1 (fun us ys μ2 s2 T' ⟨x, xs, j, hys, hi, k, p⟩ hul hz hT st3 => ?_) fun e c t μ' s' x st' => hE e c t μ' s' x st'.tail)
  subst hys
  match us, hul with
  | [iv], _ =>
    obtain ⟨as, rx⟩ := st3.reads (hz (iv, x) (.head _)) (.inl rfl) k.ok.pd
    obtain ⟨bs, rc⟩ := st3.reads (hT _ (.head _)) (.inr ⟨a, xs, rfl, List.mem_append_left ρ hi, rfl⟩) (by simpa [plainD] using k.ok.pxs)
    rw [toP] at rc
    cases rc with
    | @list _ o items m _ _ q1 q2 q3 q4 =>
      obtain ⟨cls, dd, data, sl⟩ := o
      simp only at q2 q3
      subst q2 q3
      have hm := SeqAt.readsAll_map _ _ _ k.ok.cxs q4
      have at' : ∀ i (hi : i < items.size), (toPs xs)[i]? = some (SeqAt.readOf s2.heap items[i]) := fun i hi => by
        rw [← hm, List.getElem?_map]; simp [hi]
      have hlen : items.size = xs.length := by
        have := congrArg List.length hm
        rw [toPs_map] at this
        simpa using this
      refine ⟨rfl, ⟨_, q1, rfl⟩, PySem.F.args_list_index_2 _ _, _, SeqAt.list_indexAt a items m dd sl iv (fun y => PyData.eqv (SeqAt.readOf s2.heap y) (toP x)) j (by rw [hlen]; exact k.lt) (by have := k.lt; have := k.few; lia) ?_ (fun i hi hij => ?_), q1, SeqAt.items_eqAt q4 rx k.ok.cxs k.ok.cd k.ok.u, ?_⟩
      · have := k.hit
        rw [at' j (by rw [hlen]; exact k.lt)] at this
        simpa using this
      · have := k.no i hij
        rw [at' i hi] at this
        simpa using this
      · exact hQ _ _ _ _ p (((st3.toks _).sub fun q hq => hT _ (.tail _ hq)).add (rInt _ _))
theorem Reps.reverse {φ : FM} : ∀ {vs ds}, Reps φ vs ds → Reps φ vs.reverse ds.reverse
  | _, _, .nil => .nil
  | _, _, .cons h r => by simp only [List.reverse_cons]; exact r.reverse.append (.cons h .nil)
theorem ev_reverse {o : Expr} {apos pos : Pos} (h : Ev C env μ o (fun d μ1 => ∃ a ds μ3, d = .ref a ∧ SetL a ds ds.reverse μ1 μ3 ∧ ds.length ≤ 1000 ∧ P .none μ3) X)
    (hbase : attributeBase o "reverse" env (eval o env) = eval o env) (hline : (apos.endLine == pos.line) = true) : Ev C env μ (.Call (.Attribute o "reverse" apos) [] [] pos) P X := by
  intro T ρ s Q E st hQ hE
  refine wpAny_Call_method (T := "list") hbase rfl hline PySem.F.plainAttrs_list PySem.F.slot_list_reverse PySem.F.type_list_reverse ?_
  refine h T ρ s _ _ st (fun ov d μ1 s1 ⟨a, ds, μ3, hd, hset, hlen, p⟩ st1 => ?_) hE
  subst hd
  have e1' := st1.isRef (.head _); subst e1'
  obtain ⟨vs, n, hl, hvl⟩ := st1.ownList (List.mem_append_left ρ hset.mem)
  refine ⟨⟨_, hl, rfl⟩, fun b hb => by cases hb; exact ⟨_, hl, rfl⟩, ?_⟩
  show wpAny C.M C.A (callWith pos (.builtin "list.reverse") [.ref a] [] []) Q E s1
  refine PySem.P.reverse_list hl (hQ _ _ _ _ p (St.add (st1.tail.setL hset hl (fun φ _ r => ⟨vs.reverse, by simp, r.reverse⟩) s1.toks) rNone)) (by rw [List.size_toArray, hvl]; exact Nat.le_trans hlen (by decide))
theorem ev_starts {o e : Expr} {apos pos : Pos} (h : Ev C env μ o (fun d μ1 => ∃ x, d = .str x ∧ Ev C env μ1 e (fun d2 μ2 => ∃ y, d2 = .str y ∧ P (.bool (Txt.startswith x y)) μ2) X) X)
    (hbase : attributeBase o "startswith" env (eval o env) = eval o env) (hline : (apos.endLine == pos.line) = true) (hs : noStars [e] = true) : Ev C env μ (.Call (.Attribute o "startswith" apos) [e] [] pos) P X := by
  intro T ρ s Q E st hQ hE
  have ht : backTo pos (starEach [e] env) = [(false, eval e env)] := by rw [starEach_plain env hs, backTo_plain]; rfl
  refine PySem.wpAny_Call_method_lateS hbase (by rw [ht]; rfl) hline ?_
  rw [ht]
  refine h T ρ s _ _ st (fun ov d μ1 s1 ⟨x, hd, h1⟩ st1 => ?_) hE
  subst hd
  obtain ⟨t, rfl⟩ := st1.isStr (.head _)
  refine PySem.SB.startswith (h1 T ρ s1 _ _ st1.tail (fun v d2 μ2 s2 ⟨y, hd2, p⟩ st2 => ?_) hE)
  subst hd2
  obtain ⟨u, rfl⟩ := st2.isStr (.head _)
  exact ⟨y, u, rfl, hQ _ _ _ _ p (st2.tail.add (rBool _))⟩
def boolsD (bs : List Bool) : List D := bs.map D.bool
theorem bools_at {φ : FM} {vs : List Value} {bs : List Bool} (h : Reps φ vs (boolsD bs)) {i : Nat} {v : Value} (hv : vs[i]? = some v) : v = .bool (bs.getD i false) := by
  obtain ⟨d, hd, r⟩ := h.get' hv
  rw [boolsD, List.getElem?_map] at hd
  cases hb : bs[i]? with
  | none => rw [hb] at hd; cases hd
  | some b =>
    rw [hb] at hd
    cases hd
    cases r
    rw [List.getD_eq_getElem?_getD, hb]; rfl
theorem range_all (bs : List Bool) : ((List.range bs.length).all fun i => bs.getD i false) = bs.all id := by
  rw [Bool.eq_iff_iff]
  simp only [List.all_eq_true, List.mem_range, id]
  constructor
  · intro h b hb
    obtain ⟨i, hi, rfl⟩ := List.mem_iff_getElem.mp hb
    simpa [List.getD, hi] using h i hi
  · intro h i hi
    simpa [List.getD, hi] using h bs[i] (List.getElem_mem hi)
theorem range_any (bs : List Bool) : ((List.range bs.length).any fun i => bs.getD i false) = bs.any id := by
  rw [Bool.eq_iff_iff]
  simp only [List.any_eq_true, List.mem_range, id]
  constructor
  · rintro ⟨i, hi, h⟩
    exact ⟨bs[i], List.getElem_mem hi, by simpa [List.getD, hi] using h⟩
  · rintro ⟨b, hb, h⟩
    obtain ⟨i, hi, rfl⟩ := List.mem_iff_getElem.mp hb
    exact ⟨i, hi, by simpa [List.getD, hi] using h⟩
theorem ca_all {d : D} {bs : List Bool} (hA : C.A.handled = none) (hi : Items μ d (boolsD bs)) (h : P (.bool (bs.all id)) μ) : Ca C (.builtin "all") [d] μ P X := by
  refine ca1 fun T v hv ρ s Q E st hQ hE => ?_
  obtain ⟨a, vs, rfl, hL, hlen, st2⟩ := st.items hv (hi.app ρ)
  have hr : ∃ φ : FM, Reps φ vs (boolsD bs) := by
    obtain ⟨⟨φ, _, _, _, _, _, h6⟩, _, _⟩ := id st2
    exact ⟨φ, reps_zip hlen fun p hp => h6 p (List.mem_append_left _ hp)⟩
  obtain ⟨φ, hr⟩ := hr
  have hlt : a < s.heap.objs.size := by obtain ⟨_, e, _⟩ := hL; exact Heap.lt_size e
  have hn : vs.toArray.size = bs.length := by rw [List.size_toArray, hlen, boolsD, List.length_map]
  refine call_all_walk (wpAny_pyIter_list hL ⟨_, _, _, _, _, _, fun i => bs.getD i false, rfl, Walks.list (A := C.A.in1) hA s.heap.objs.size a (Nat.ne_of_lt hlt) vs.toArray, ⟨⟨_, Heap.get?_push_size _ rfl, rfl, rfl⟩, hL.push _⟩, fun i v s Q E hp hq => ?_, fun h' tk hk => ?_⟩)
  · have := bools_at hr (i := i) (v := v) (by simpa using hp)
    subst this
    exact wpAny_of_eq rfl hq
  · rw [hn, range_all]
    exact hQ _ _ _ _ h ((st.grown (old_kept hk) tk).add (rBool _))
theorem ca_any {d : D} {bs : List Bool} (hA : C.A.handled = none) (hi : Items μ d (boolsD bs)) (h : P (.bool (bs.any id)) μ) : Ca C (.builtin "any") [d] μ P X := by
  refine ca1 fun T v hv ρ s Q E st hQ hE => ?_
  obtain ⟨a, vs, rfl, hL, hlen, st2⟩ := st.items hv (hi.app ρ)
  have hr : ∃ φ : FM, Reps φ vs (boolsD bs) := by
    obtain ⟨⟨φ, _, _, _, _, _, h6⟩, _, _⟩ := id st2
    exact ⟨φ, reps_zip hlen fun p hp => h6 p (List.mem_append_left _ hp)⟩
  obtain ⟨φ, hr⟩ := hr
  have hlt : a < s.heap.objs.size := by obtain ⟨_, e, _⟩ := hL; exact Heap.lt_size e
  have hn : vs.toArray.size = bs.length := by rw [List.size_toArray, hlen, boolsD, List.length_map]
  refine call_any_walk (wpAny_pyIter_list hL ⟨_, _, _, _, _, _, fun i => bs.getD i false, rfl, Walks.list (A := C.A.in1) hA s.heap.objs.size a (Nat.ne_of_lt hlt) vs.toArray, ⟨⟨_, Heap.get?_push_size _ rfl, rfl, rfl⟩, hL.push _⟩, fun i v s Q E hp hq => ?_, fun h' tk hk => ?_⟩)
  · have := bools_at hr (i := i) (v := v) (by simpa using hp)
    subst this
    exact wpAny_of_eq rfl hq
  · rw [hn, range_any]
    exact hQ _ _ _ _ h ((st.grown (old_kept hk) tk).add (rBool _))
inductive FzV (a : Addr) (ds : List D) : List (Option D) → List (Option D) → Prop
  | here {vs : List (Option D)} : FzV a ds (some (.ref a) :: vs) (some (.lst ds) :: vs)
  | there {v : Option D} {vs vs' : List (Option D)} : FzV a ds vs vs' → FzV a ds (v :: vs) (v :: vs')
theorem FzV.look {a : Addr} {ds : List D} {vs vs' : List (Option D)} (h : FzV a ds vs vs') : ∀ {ns : List Str} {x : Str} {d : D}, Look x d ns vs' → Look x d ns vs ∨ (d = .lst ds ∧ Look x (.ref a) ns vs) := by
  induction h with
  | here =>
    intro ns x d l
    cases l with
    | here => exact .inr ⟨rfl, .here⟩
    | there l => exact .inl (.there l)
  | there h ih =>
    intro ns x d l
    cases l with
    | here => exact .inl .here
    | there l => exact (ih l).imp .there fun ⟨e, l⟩ => ⟨e, .there l⟩
theorem ex_fzl {L a : Addr} {kn : List (Str × NameKind)} {ns : List Str} {vs vs' : List (Option D)} {ds : List D} {ss : List Stmt} {Pf : Fw → List MO → Prop} (hv : FzV a ds vs vs') (h : Ex C env (.frame L kn ns vs' :: μ) ss Pf X) : Ex C env (.frame L kn ns vs :: .list a ds :: μ) ss Pf X := by
  intro T ρ s Q E st hQ hE
  have st1 := St.freeze (μ := [.frame L kn ns vs]) (a := a) (ds := ds) (ρ := μ ++ ρ) st
  have st2 : St C.B C.F T ([] ++ .frame L kn ns vs' :: (μ ++ ρ)) { s with heap := s.heap, toks := s.toks } := by
    refine St.turn (pre := []) (x := .frame L kn ns vs) (x' := .frame L kn ns vs') st1 rfl (fun _ _ _ e => e) (fun φ _ hT ⟨mv, hn, hmv, hc⟩ => ⟨mv, hn, fun x d l => ?_, hc⟩) (fun _ q => .tail _ q) s.toks
    rcases hv.look l with l' | ⟨rfl, l'⟩
    · exact hmv x d l'
    · obtain ⟨v, r, q⟩ := hmv x _ l'
      cases r
      exact ⟨_, hT _ (.head _), q⟩
  exact h T ρ s Q E st2 hQ hE
end
end Mine

open PySem PyProof.Rows
set_option linter.unusedVariables false
namespace Mine
theorem compLoop_any {prog : Program} {w : World} {A : Around} {s : Shared} {elt target iter : Expr} {ifs : List Expr} {scope : Scope} {pos : Pos} {it acc : Value} {env : Env} {R : Result → Shared → Prop} (I : Nat → Shared → Prop)
    (turn : ∀ n s, I n s → wpAny (model prog w) A (pyNext it) (fun r s₁ => match r with
      | none => R (.ok .next) s₁
      | some v => wpAny (model prog w) A (letOwnedTupleGo target it v) (fun _ s₂ => wpAny (model prog w) A (assign target env v) (fun _ s₃ =>
          wpAny (model prog w) A (forIn ifs true fun c r => if r = true then do let ok ← isTrue c env (eval c env); pure (ForInStep.yield ok) else pure (ForInStep.yield r)) (fun ok s₄ =>
            if ok = true then wpAny (model prog w) A (eval elt env) (fun x s₅ =>
              wpAny (model prog w) A (call (.builtin "list.append") [acc, x]) (fun _ s₆ => ∃ m, m < n ∧ I m s₆) (notedBy (model prog w) A env fun e s' => R (.error e) s') s₅) (notedBy (model prog w) A env fun e s' => R (.error e) s') s₄
            else ∃ m, m < n ∧ I m s₄) (notedBy (model prog w) A env fun e s' => R (.error e) s') s₃) (notedBy (model prog w) A env fun e s' => R (.error e) s') s₂) (notedBy (model prog w) A env fun e s' => R (.error e) s') s₁) (notedBy (model prog w) A env fun e s' => R (.error e) s') s)
    (n : Nat) (h : I n s) : codeAny (model prog w) A (.compLoop (.ListComp elt [⟨target, iter, ifs, 0⟩] scope pos) 0 it acc env) R s := by
  refine codeAny_loop rfl I (fun n s hI => ?_) n h
  show wpAny _ A ((compTurn (.ListComp elt [⟨target, iter, ifs, 0⟩] scope pos) 0 it acc env).onRaise (fun x => do noteFrame x env; theTreesLotGoes x)) _ _ s
  refine wpAny_noted ?_
  rw [compTurn_list]
  refine wpAny_bind (wpAny_standAt (wpAny_bind (wpAny_mono (turn n s hI) (fun r s₁ h₁ => ?_) fun _ _ q => q)))
  match r with
  | none => exact wpAny_pure h₁
  | some v =>
    refine wpAny_bind (wpAny_mono h₁ (fun _ s₂ h₂ => wpAny_bind (wpAny_mono h₂ (fun _ s₃ h₃ => wpAny_bind (wpAny_mono h₃ (fun ok s₄ h₄ => ?_) fun _ _ q => q)) fun _ _ q => q)) fun _ _ q => q)
    match ok with
    | false => exact wpAny_pure ⟨rfl, h₄⟩
    | true => exact wpAny_bind (wpAny_bind (wpAny_mono h₄ (fun x s₅ h₅ => wpAny_bind (wpAny_mono h₅ (fun _ s₆ h₆ => wpAny_pure (wpAny_pure ⟨rfl, h₆⟩)) fun _ _ q => q)) fun _ _ q => q))
section
variable {C : Cx} {env : Env} {μ : List MO} {P : Post} {X : XPost}
end
end Mine

open PySem PyProof.Rows
set_option linter.unusedVariables false
namespace Mine
section
variable {C : Cx} {env : Env} {μ : List MO} {P : Post} {X : XPost}
def NTurns (C : Cx) (env : Env) (scope : Scope) (tn : List Str) (x y : Str) (ifs : List Expr) (μ : List MO) (n : Nat) (d1 d2 : Nat → D) : Prop :=
  ∀ i, i < n → ∀ cl Lc, KN scope.names → LN tn → ClOk scope env cl → Sto C (compEnvC scope cl Lc env) (.frame Lc [] tn (tn.map fun _ => none) :: μ) x (d1 i) (fun μ2 => Sto C (compEnvC scope cl Lc env) μ2 y (d2 i) (fun μ3 => Ifs C (compEnvC scope cl Lc env) μ3 ifs (fun b μ4 => b = false ∧ ∃ vs, μ4 = .frame Lc [] tn vs :: μ) noX) noX) noX
theorem comp_coreN {iter elt : Expr} {ifs : List Expr} {x y : Str} {px py tp : Pos} {kk : Nat} {scope : Scope} {cl : List (Str × Addr)} {tn : List Str} {pos : Pos} {a it : Addr} {d : D} {ds : List D} {d1 d2 : Nat → D} {RR : Value → Addr → Result → Shared → Prop}
    (hA : C.A.handled = none) (hi : Items μ d ds) (hds : ∀ i, i < ds.length → ds[i]? = some (.tup [d1 i, d2 i])) (hcl : ClOk scope env cl) (hcell : ∀ y ∈ scope.names, y.2 ≠ .cell) (hkind : scope.kind = .function) (K : KN scope.names) (N : LN tn)
    (turn : NTurns C env scope tn x y ifs μ ds.length d1 d2)
    (T : List (Value × D)) (ρ : List MO) (s : Shared) (E : Value → Shared → Prop) (hT : (.ref a, d) ∈ T) (st : St C.B C.F T (μ ++ MO.raw it (listIt a 0) :: ρ) s)
    (hRR : ∀ Dl Cl s' vs, (∀ L ∈ C.F, L ≠ Cl) → St C.B C.F T (.frame Cl [] tn vs :: (μ ++ .list Dl [] :: ρ)) s' → RR (.ref Dl) Cl (.ok .next) s') :
    wpAny C.M C.A (newList []) (fun acc s₃ => wpAny C.M C.A (newFunctionEnv scope env.globals cl [] env.qual none .none (some env)) (fun cenv s₄ =>
      codeAny C.M C.A (.compStart (.ListComp elt [⟨.Tuple [.Name x px, .Name y py] kk tp, iter, ifs, 0⟩] scope pos) 0 (.ref it) acc { cenv with scope := relabel scope env }) (RR acc cenv.locals) s₄) E s₃) E s := by
  have S : Src C [(.ref a, d)] it (listIt a) ds (fun _ μ' => Items μ' d ds) := src_list hA fun _ _ h => h
  have hT' : ∀ p ∈ [(Value.ref a, d)], p ∈ T := fun p hp => by rw [List.mem_singleton.mp hp]; exact hT
  refine wpAny_newObj_type (wpAny_newFunctionEnv hcell (by intro y hy; simp at hy) (fun h₁ hns₁ hsb₁ => ?_) hkind)
  dsimp only at hns₁ hsb₁ ⊢
  have st1 : St C.B C.F T (μ ++ (.list s.heap.objs.size []) :: MO.raw it (listIt a 0) :: ρ) { s with heap := s.heap.push { cls := .type "list", dict := none, data := .seq ([] : List Value).toArray } } :=
    st.alloc rfl s.toks fun φ _ => ⟨[], ⟨_, Heap.get?_push_size _ rfl⟩, .nil⟩
  have hne : ∀ L ∈ C.F, L ≠ (s.heap.push { cls := .type "list", dict := none, data := .seq ([] : List Value).toArray }).objs.size := fun L hL => Nat.ne_of_lt (st1.fr_lt L hL)
  generalize hH : s.heap.push { cls := .type "list", dict := none, data := .seq ([] : List Value).toArray } = H at hns₁ hsb₁ st1 hne ⊢
  have st2 : St C.B C.F T (.frame H.objs.size [] tn (tn.map fun _ => none) :: (μ ++ (.list s.heap.objs.size []) :: MO.raw it (listIt a 0) :: ρ)) { s with heap := h₁ } := by
    have a1 := St.alloc (μ := []) (x := .frame H.objs.size [] tn (tn.map fun _ => none)) (o := { cls := .type "dict", data := .dict #[] }) st1 rfl s.toks fun φ _ => ⟨_, Heap.Ns.new _ _, fun _ _ e => (look_nones e).elim, fun _ q => nomatch q⟩
    exact St.turnAt (μ := []) (x' := .frame H.objs.size [] tn (tn.map fun _ => none)) a1 rfl (Turned.of_sameBut hsb₁) (fun φ _ _ _ => ⟨_, hns₁, fun _ _ e => (look_nones e).elim, fun _ q => nomatch q⟩) s.toks
  have loop : ∀ t : Nat, codeAny C.M C.A (.compLoop (.ListComp elt [⟨.Tuple [.Name x px, .Name y py] kk tp, iter, ifs, 0⟩] scope pos) 0 (.ref it) (.ref s.heap.objs.size) (compEnvC scope cl H.objs.size env)) (RR (.ref s.heap.objs.size) H.objs.size) { s with heap := h₁, toks := t } := by
    intro t
    refine compLoop_any (fun k s' => ∃ i vs, k + i = ds.length ∧ St C.B C.F T (.frame H.objs.size [] tn vs :: (μ ++ (.list s.heap.objs.size []) :: MO.raw it (listIt a i) :: ρ)) s') (fun k s' ⟨i, vs, hk, st⟩ => ?_) ds.length ⟨0, _, rfl, st2.toks t⟩
    by_cases hlt : i < ds.length
    · have st' : St C.B C.F T ((.frame H.objs.size [] tn (tn.map fun _ => none) :: μ) ++ MO.raw it (listIt a i) :: .list s.heap.objs.size [] :: ρ) s' :=
        (st.forgetLocals (ns' := tn)).perm' (.cons _ ((List.Perm.refl μ).append (.swap _ _ _)))
      refine S.next hT' (hi.cons _) (hds i hlt) st' fun v s1 st1 => ?_
      obtain ⟨tt, _, rfl, _, _, _⟩ := st1.titems (.head _)
      obtain ⟨⟨φ, _, _, h3, _⟩, _, _⟩ := id st1
      obtain ⟨o, ho, hc, hd⟩ := h3 (MO.raw it (listIt a (i + 1))) (List.mem_append_right _ (.head _))
      refine wpAny_letOwnedTupleGo_listiter ⟨o, ho, hc, hd⟩ ?_
      refine asg_pair hA (turn i hlt cl H.objs.size K N hcl) ((.ref tt, .tup [d1 i, d2 i]) :: T) _ (.head _) (MO.raw it (listIt a (i + 1)) :: .list s.heap.objs.size [] :: ρ) s1 _ _ st1 (fun μ2 s2 h2 st2 => ?_) fun _ _ _ _ _ q => q.elim
      refine h2 T _ s2 _ _ st2.tail (fun b μ3 s3 h3 st3 => ?_) fun _ _ _ _ _ q => q.elim
      obtain ⟨rfl, vs', rfl⟩ := h3
      exact ⟨k - 1, by lia, i + 1, vs', by lia, st3.perm' (.cons _ ((List.Perm.refl μ).append (.swap _ _ _)))⟩
    · have hi' : i = ds.length := by lia
      subst hi'
      have st' : St C.B C.F T ((.frame H.objs.size [] tn vs :: μ) ++ MO.raw it (listIt a ds.length) :: .list s.heap.objs.size [] :: ρ) s' :=
        st.perm' (.cons _ ((List.Perm.refl μ).append (.swap _ _ _)))
      exact S.fin hT' (hi.cons _) st' fun s1 st1 => hRR _ _ _ _ hne st1
  refine codeAny_compStart_list (loop _) ?_
  have st3 : St C.B C.F T ((.frame H.objs.size [] tn (tn.map fun _ => none) :: μ) ++ MO.raw it (listIt a 0) :: .list s.heap.objs.size [] :: ρ) { s with heap := h₁, toks := s.toks + ([] : List (Str × Value)).length } :=
    (st2.toks _).perm' (.cons _ ((List.Perm.refl μ).append (.swap _ _ _)))
  exact S.self st3 (loop _)
theorem ev_cnone {iter elt : Expr} {ifs : List Expr} {x y : Str} {px py tp : Pos} {kk : Nat} {kn : List (Str × NameKind)} {more : List (Str × Const)} {q : Fq} {L f : Addr} {scope : Scope} {pos : Pos} (tn : List Str) (K : KN kn) (hA : C.A.handled = none)
    (h : Ev C (envK kn more q L f) μ iter (fun d μ' => ∃ (ds : List D) (d1 d2 : Nat → D), Items μ' d ds ∧ (∀ i, i < ds.length → ds[i]? = some (.tup [d1 i, d2 i])) ∧ NTurns C (envK kn more q L f) scope tn x y ifs μ' ds.length d1 d2 ∧ P (.lst []) μ') X)
    (hfr : freeOk scope.names kn = true) (hsc : compScope scope = true) (hk : knOk scope.names = true) (hn : decide tn.Nodup = true) (hkind : scope.kind = .function) (hs : ∀ x, foldedSetIterable iter (envK kn more q L f) x = pure x) :
    Ev C (envK kn more q L f) μ (.ListComp elt [⟨.Tuple [.Name x px, .Name y py] kk tp, iter, ifs, 0⟩] scope pos) P X := by
  intro T ρ s Q E st hQ hE
  obtain ⟨hcell, hnames⟩ := compScope_ok hsc
  obtain ⟨cl, hclos, hclok⟩ := closureFor_ok (free_ok K hfr)
  show wpAny C.M C.A (eval (.ListComp elt [⟨.Tuple [.Name x px, .Name y py] kk tp, iter, ifs, 0⟩] scope pos) (envK kn more q L f)) Q E s
  rw [eval_ListComp]
  refine wpAny_comprehension_free (use := none) rfl hs hclos hkind hnames (h T ρ s _ _ st (fun v d μ1 s1 ⟨ds, d1, d2, hi, hds, turn, p⟩ st1 => ?_) hE)
  obtain ⟨a, vs, rfl, hl, hlen, _⟩ := st1.items (.head _) (hi.app ρ)
  refine wpAny_pyIter_list hl ?_
  have st2 := St.alloc (μ := μ1) (ρ := ρ) (x := .raw s1.heap.objs.size (listIt a 0)) (o := { cls := .type "list_iterator", data := .fields #[.ref a, .int 0 0] }) st1 rfl s1.toks fun _ _ => ⟨_, Heap.get?_push_size _ rfl, rfl, rfl⟩
  refine comp_coreN (RR := fun acc Cl => compPost C.M C.A E none Q acc Cl) hA hi hds hclok hcell hkind (KN.of hk) ⟨of_decide_eq_true hn⟩ turn ((.ref a, d) :: T) ρ _ E (.head _) st2 fun Dl Cl s' vs' hne st' => ?_
  obtain ⟨⟨φ, _, _, h3, _⟩, _, _⟩ := id st'
  obtain ⟨mv, hns, _⟩ := h3 _ (.head _)
  refine ⟨mv, hns, fun h' hs' => hQ _ _ _ _ p ?_⟩
  have := St.gone (μ := []) st' ((Turned.of_sameBut hs').mono fun a ha => by rw [List.mem_singleton] at ha; rw [ha]; exact List.mem_cons_self) s'.toks (fun L hL e => hne L hL (Option.some.inj e).symm)
  exact (St.freeze (μ := μ1) this).drop2
end
end Mine

open PySem
set_option linter.unusedVariables false
namespace Mine
abbrev Wd := List Nat
def sS (l : Wd) : Str := ⟨l.toArray⟩
def Ap (a b : Wd) : Prop := ¬ a <+: b ∧ ¬ b <+: a
def Bt (l : Wd) : Prop := ∀ c ∈ l, c = 48 ∨ c = 49
theorem Ap.symm {a b : Wd} (h : Ap a b) : Ap b a := ⟨h.2, h.1⟩
theorem ap_on {a w : Wd} {c : Nat} (h : Ap a w) : Ap a (w ++ [c]) := by
  refine ⟨fun q => ?_, fun q => h.2 ((List.prefix_append w [c]).trans q)⟩
  rcases List.prefix_concat_iff.mp q with rfl | q
  · exact h.2 (List.prefix_append w [c])
  · exact h.1 q
theorem ap_two (w : Wd) : Ap (w ++ [48]) (w ++ [49]) := by
  constructor <;> intro q <;> have := q.eq_of_length (by simp) <;> simp at this
structure Grown (ls : List Wd) : Prop where
  bits : ∀ l ∈ ls, l.length ≤ 12 ∧ Bt l
  apart : ls.Pairwise Ap
  kraft : (ls.map fun w => 2 ^ (12 - w.length)).sum = 4096
theorem Grown.start : Grown [[]] := ⟨by simp [Bt], by simp, by simp⟩
theorem Grown.shallow {ls : List Wd} (h : Grown ls) (hn : ls.length < 4096) : ∃ w ∈ ls, w.length < 12 := by
  apply Classical.byContradiction
  intro hno
  have e : ∀ (xs : List Wd), (∀ w ∈ xs, 12 ≤ w.length) → (xs.map fun w => 2 ^ (12 - w.length)).sum = xs.length := by
    intro xs
    induction xs with
    | nil => intro _; rfl
    | cons x xs ih =>
      intro hx
      have h1 := hx x (.head _)
      have e1 : 12 - x.length = 0 := by lia
      rw [List.map_cons, List.sum_cons, ih fun w hw => hx w (.tail _ hw), e1, List.length_cons]; lia
  have h2 := e ls fun w hw => Nat.le_of_not_lt fun q => hno ⟨w, hw, q⟩
  have h3 := h.kraft
  lia
theorem Grown.split {xs ys : List Wd} {w : Wd} (h : Grown (xs ++ w :: ys)) (hw : w.length < 12) : Grown (xs ++ (w ++ [48]) :: (w ++ [49]) :: ys) := by
  have hb := (h.bits w (by simp)).2
  have hbn : ∀ c, c = 48 ∨ c = 49 → Bt (w ++ [c]) := fun c hc x hx => by
    rcases List.mem_append.mp hx with hx | hx
    · exact hb x hx
    · rw [List.mem_singleton.mp hx]; exact hc
  refine ⟨fun l hl => ?_, ?_, ?_⟩
  · simp only [List.mem_append, List.mem_cons] at hl
    rcases hl with hl | rfl | rfl | hl
    · exact h.bits l (by simp [hl])
    · exact ⟨by simp; lia, hbn 48 (.inl rfl)⟩
    · exact ⟨by simp; lia, hbn 49 (.inr rfl)⟩
    · exact h.bits l (by simp [hl])
  · have hp := h.apart
    rw [List.pairwise_append, List.pairwise_cons] at hp
    obtain ⟨h1, ⟨h2, h3⟩, h4⟩ := hp
    rw [List.pairwise_append, List.pairwise_cons, List.pairwise_cons]
    refine ⟨h1, ⟨fun b hb => ?_, fun b hb => (ap_on (h2 b hb).symm).symm, h3⟩, fun a ha b hb => ?_⟩
    · rcases List.mem_cons.mp hb with rfl | hb
      · exact ap_two w
      · exact (ap_on (h2 b hb).symm).symm
    · simp only [List.mem_cons] at hb
      rcases hb with rfl | rfl | hb
      · exact ap_on (h4 a ha w (.head _))
      · exact ap_on (h4 a ha w (.head _))
      · exact h4 a ha b (.tail _ hb)
  · have hk := h.kraft
    simp only [List.map_append, List.map_cons, List.sum_append_nat, List.sum_cons, List.length_append, List.length_singleton] at hk ⊢
    have e : 12 - w.length = (12 - (w.length + 1)) + 1 := by lia
    rw [e, Nat.pow_succ] at hk
    lia
structure WOk (ls : List Wd) : Prop where
  bits : ∀ l ∈ ls, (1 ≤ l.length ∧ l.length ≤ 12) ∧ Bt l
  apart : ls.Pairwise Ap
theorem Grown.ok {ls : List Wd} (h : Grown ls) (h2 : 2 ≤ ls.length) : WOk ls := by
  refine ⟨fun l hl => ⟨⟨?_, (h.bits l hl).1⟩, (h.bits l hl).2⟩, h.apart⟩
  cases l with
  | cons => simp
  | nil =>
    exfalso
    obtain ⟨i, hi, e⟩ := List.mem_iff_getElem.mp hl
    have hp := List.pairwise_iff_getElem.mp h.apart
    by_cases h0 : i = 0
    · have := hp i 1 hi (by lia) (by lia)
      rw [e] at this
      exact this.1 (List.nil_prefix)
    · have := hp 0 i (by lia) hi (by lia)
      rw [e] at this
      exact this.2 (List.nil_prefix)
theorem two_ok : WOk [[48], [49]] := by
  refine ⟨fun l hl => ?_, ?_⟩
  · simp at hl
    rcases hl with rfl | rfl <;> simp [Bt]
  · simp only [List.pairwise_cons, List.mem_singleton, List.not_mem_nil, false_imp_iff, implies_true, List.Pairwise.nil, and_true]
    rintro a rfl
    exact ap_two []
theorem beside_ok : WOk [[48], [49, 48]] := by
  refine ⟨fun l hl => ?_, ?_⟩
  · simp at hl
    rcases hl with rfl | rfl <;> simp [Bt]
  · simp only [List.pairwise_cons, List.mem_singleton, List.not_mem_nil, false_imp_iff, implies_true, List.Pairwise.nil, and_true]
    rintro a rfl
    constructor <;> decide
theorem WOk.part {fs rs ls : List Wd} (h : WOk ls) (p : (fs ++ rs).Perm ls) : WOk fs := by
  refine ⟨fun l hl => h.bits l (p.subset (List.mem_append_left _ hl)), ?_⟩
  have := (p.pairwise_iff (fun {a b} (q : Ap a b) => q.symm)).mpr h.apart
  exact (List.pairwise_append.mp this).1
theorem take_part {rs : List Wd} {fs : List Wd} {i : Nat} {w : Wd} (h : rs[i]? = some w) {ls : List Wd} (p : (fs ++ rs).Perm ls) : ((fs ++ [w]) ++ rs.eraseIdx i).Perm ls := by
  obtain ⟨hi, rfl⟩ := List.getElem?_eq_some_iff.mp h
  refine List.Perm.trans ?_ p
  rw [List.append_assoc]
  refine List.Perm.append_left fs ?_
  have e : rs = rs.take i ++ rs[i] :: rs.drop (i + 1) := by simp
  have e2 : rs.eraseIdx i = rs.take i ++ rs.drop (i + 1) := List.eraseIdx_eq_take_drop_succ rs i
  rw [e2]
  conv => rhs; rw [e]
  exact (List.perm_middle (a := rs[i]) (l₁ := rs.take i) (l₂ := rs.drop (i + 1))).symm
theorem WOk.apartAt {ls : List Wd} (h : WOk ls) {i j : Nat} {a b : Wd} (hi : ls[i]? = some a) (hj : ls[j]? = some b) (hne : i ≠ j) : ¬ a <+: b := by
  obtain ⟨hi', rfl⟩ := List.getElem?_eq_some_iff.mp hi
  obtain ⟨hj', rfl⟩ := List.getElem?_eq_some_iff.mp hj
  have hp := List.pairwise_iff_getElem.mp h.apart
  by_cases q : i < j
  · exact (hp i j hi' hj' q).1
  · exact (hp j i hj' hi' (by lia)).2
theorem sS_add (a b : Wd) : sS a ++ sS b = sS (a ++ b) := by
  show (⟨a.toArray ++ b.toArray⟩ : Str) = ⟨(a ++ b).toArray⟩; simp
theorem sS_len (a : Wd) : (sS a).length = a.length := by show a.toArray.size = _; simp
theorem sS_inj {a b : Wd} : sS a = sS b ↔ a = b := by
  constructor
  · intro h
    have : a.toArray = b.toArray := congrArg Str.cps h
    simpa using this
  · rintro rfl; rfl
end Mine

open PySem PySem.W PyProof.Rows
set_option linter.unusedVariables false
namespace Mine
theorem fnSt_frag {K : Frag} {B : Shared} (X : K.In B.heap) (lim : B.heap.NoLimit) {f c : Addr} {st : Stmt} {q : Fq} {names : List Str} {fo oc : Obj} {vs : Array Value} {t : Tok}
    (e : K.lookup f = some fo) (hf : fo.data = .func (mkFd st q)) (ec : K.lookup c = some oc) (hcd : q.cd = .ref c) (hd : oc.data = .fields vs) (hq : vs[1]? = some (.str q.qual t)) (hn : decide names.Nodup = true) (hok : paramsOk (fScope st).names names = true) (hsc : scOk (fScope st) = true)
    (hb : ∀ vs : List Value, vs.length = names.length → bindArgs (mkFd st q) ⟨vs, []⟩ = pure (names.zip vs)) : FnSt B f st names := by
  obtain ⟨hs1, hs2⟩ := Bool.and_eq_true_iff.mp hsc
  obtain ⟨hs3, hs4⟩ := Bool.and_eq_true_iff.mp hs1
  refine ⟨q, ⟨fo, X _ _ e, hf⟩, lim, ⟨c, oc, vs, t, hcd, X _ _ ec, hd, hq⟩, rfl, rfl, hb, of_decide_eq_true hn, hok, by simpa [mkFd] using hs3, by simpa [mkFd] using hs4, ?_⟩
  show (fScope st).kind = .function
  revert hs2; cases (fScope st).kind <;> simp
theorem isNone_eq {α : Type} {o : Option α} (h : o.isNone = true) : o = none := by cases o <;> simp at h ⊢
def msOk (K : Frag) (es : Array DictEntry) : List (Str × Addr) → Prop
  | [] => True
  | (n, f) :: r => (findL es n = some (.ref f) ∧ (∃ y, typeLookup (.type "object") n = pure y) ∧ ∃ fo fd, K.lookup f = some fo ∧ fo.cls = .type "function" ∧ fo.data = .func fd) ∧ msOk K es r
theorem msOk.at {K : Frag} {es : Array DictEntry} : ∀ {l : List (Str × Addr)}, msOk K es l → ∀ n f, (n, f) ∈ l → findL es n = some (.ref f) ∧ (∃ y, typeLookup (.type "object") n = pure y) ∧ ∃ fo fd, K.lookup f = some fo ∧ fo.cls = .type "function" ∧ fo.data = .func fd
  | _ :: _, ⟨h1, h2⟩, n, f, hm => by
    rcases List.mem_cons.mp hm with e | hm
    · cases e; exact h1
    · exact msOk.at h2 n f hm
theorem clsF_frag {K : Frag} {B : Shared} (X : K.In B.heap) {c N : Addr} {nm q : Str} {bs : List Value} {sn : List Str} {sub : List Value} {col : Option Bool} {dd : Option Addr} {k0 k1 k2 k3 k5 : Option Value} {o : Obj} {es : Array DictEntry} {ep : Nat} {ms : List (Str × Addr)} {as : List Str}
    (e : K.lookup c = some (excClassObj nm q c N bs [.type "object"] true sn sub false col dd k0 k1 k2 k3 k5 "object.__new__")) (eN : K.lookup N = some o) (hd : o.data = .dict es ep) (hs : keysOk es = true) (hq : ((quietN ++ as).all fun n => (findL es n).isNone) = true) (ht : ∀ n ∈ as, typeLookup (.type "object") n = pure none) (hms : msOk K es ms) : ClsF B c ms as := by
  have hq' : ∀ n ∈ quietN ++ as, nsFind es n = none := fun n hn => by
    rw [findL_eq]; exact isNone_eq (List.all_eq_true.mp hq n hn)
  refine ⟨N, nsFind es, ⟨⟨nm, q, bs, sn, sub, col, dd, k0, k1, k2, k3, k5, X _ _ e⟩, ⟨o, es, ep, X _ _ eN, hd, keysOk_ok hs, fun _ => rfl⟩⟩, fun n hn => hq' n (List.mem_append_left _ hn), fun n hn => ⟨hq' n (List.mem_append_right _ hn), ht n hn⟩, fun n f hm => ?_⟩
  obtain ⟨h1, h2, fo, fd, h3, h4, h5⟩ := hms.at n f hm
  exact ⟨by rw [findL_eq]; exact h1, h2, fo, fd, X _ _ h3, h4, h5⟩
end Mine

open PySem PyProof.Rows
set_option linter.unusedVariables false
set_option maxRecDepth 100000
namespace Mine
local macro_rules | `(tactic| walk_at "m_arith") => `(tactic| first | decide | lia | omega)
local macro_rules | `(tactic| walk_at "m_mem") => `(tactic| first
  | (with_reducible exact mHead)
  | ((with_reducible refine' mTail ?kx); (case kx => walk_at "m_mem")))
local macro_rules | `(tactic| walk_at "m_look") => `(tactic| first
  | (with_reducible exact Look.here)
  | ((with_reducible refine' Look.there ?kx); (case kx => walk_at "m_look")))
local macro_rules | `(tactic| walk_at "m_upd") => `(tactic| first
  | (with_reducible exact Upd.here)
  | ((with_reducible refine' Upd.there ?kx); (case kx => walk_at "m_upd")))
local macro_rules | `(tactic| walk_at "m_kind") => `(tactic| first
  | ((with_reducible refine' kindK ?k1 ?k2); (case k1 => with_reducible assumption); (case k2 => walk_at "m_mem"))
  | ((with_reducible refine' kindC ?k0 ?k1 ?k2 ?k3); (case k0 => exact rfl); (case k1 => with_reducible assumption); (case k2 => walk_at "m_mem"); (case k3 => decide)))
local macro_rules | `(tactic| walk_at "m_name") => `(tactic| first
  | ((with_reducible refine' nm_local ?k1 ?k2 ?k3 ?_); (case k1 => with_reducible assumption); (case k2 => walk_at "m_mem"); (case k3 => walk_at "m_look"))
  | ((with_reducible refine' nm_cell ?k1 ?k2 ?k3 ?_); (case k1 => with_reducible assumption); (case k2 => walk_at "m_mem"); (case k3 => walk_at "m_look"))
  | ((with_reducible refine' nc_local ?k0 ?k1 ?k2 ?k3 ?_); (case k0 => exact rfl); (case k1 => with_reducible assumption); (case k2 => walk_at "m_mem"); (case k3 => walk_at "m_look"))
  | ((with_reducible refine' nc_cap ?k0 ?k1 ?k2 ?k3 ?k4 ?k5 ?k6 ?_); (case k0 => exact rfl); (case k1 => with_reducible assumption); (case k2 => with_reducible assumption); (case k3 => with_reducible assumption); (case k4 => walk_at "m_mem"); (case k5 => walk_at "m_mem"); (case k6 => walk_at "m_look"))
  | ((with_reducible refine' ev_g ?k0 ?k1 ?k2 ?k3 ?k4 ?_); (case k0 => with_reducible assumption); (case k3 => walk_at "m_mem"); (case k1 => walk_at "m_kind"); (case k2 => exact rfl); (case k4 => exact fun _ => Rep.int _ _))
  | ((with_reducible refine' ev_c ?k0 ?k1 ?k2 ?k3 ?_); (case k0 => with_reducible assumption); (case k3 => walk_at "m_mem"); (case k1 => walk_at "m_kind"); (case k2 => exact rfl))
  | ((with_reducible refine' ev_b ?k0 ?k1 ?k2 ?k3 ?k4 ?_); (case k0 => with_reducible assumption); (case k4 => walk_at "m_mem"); (case k1 => walk_at "m_kind"); (case k2 => exact rfl); (case k3 => exact rfl)))
local macro_rules | `(tactic| walk_at "m_sto") => `(tactic| first
  | ((with_reducible refine' st_local ?k1 ?k2 ?k3 ?k4 ?_); (case k1 => with_reducible assumption); (case k2 => with_reducible assumption); (case k3 => walk_at "m_mem"); (case k4 => walk_at "m_upd"))
  | ((with_reducible refine' st_cell ?k1 ?k2 ?k3 ?k4 ?_); (case k1 => with_reducible assumption); (case k2 => with_reducible assumption); (case k3 => walk_at "m_mem"); (case k4 => walk_at "m_upd"))
  | ((with_reducible refine' st_comp ?k0 ?k1 ?k2 ?k3 ?k4 ?_); (case k0 => exact rfl); (case k1 => with_reducible assumption); (case k2 => with_reducible assumption); (case k3 => walk_at "m_mem"); (case k4 => walk_at "m_upd")))
local macro_rules | `(tactic| walk_at "m_mul") => `(tactic| first
  | exact IntMulOk.of_left (intBits_le_64 (by walk_at "m_arith") (by walk_at "m_arith"))
  | exact IntMulOk.of_right (intBits_le_64 (by walk_at "m_arith") (by walk_at "m_arith")))
local macro_rules | `(tactic| walk_at "m_call") => `(tactic| first
  | ((with_reducible refine' call_g ?k0 ?k1 ?k2 ?k3 ?k4 ?_); (case k0 => with_reducible assumption); (case k3 => walk_at "m_mem"); (case k1 => walk_at "m_kind"); (case k2 => exact rfl); (case k4 => exact rfl))
  | ((with_reducible refine' call_b ?k0 ?k1 ?k2 ?k3 ?k4 ?k5 ?_); (case k0 => with_reducible assumption); (case k4 => walk_at "m_mem"); (case k1 => walk_at "m_kind"); (case k2 => exact rfl); (case k3 => exact rfl); (case k5 => exact rfl))
  | ((with_reducible refine' call_t ?k0 ?k1 ?k2 ?k3 ?k4 ?k5 ?_); (case k0 => with_reducible assumption); (case k4 => walk_at "m_mem"); (case k1 => walk_at "m_kind"); (case k2 => exact rfl); (case k3 => exact rfl); (case k5 => exact rfl)))
local macro_rules | `(tactic| walk_at "m_bin") => `(tactic| first
  | (with_reducible refine bin_add ?_)
  | (with_reducible refine bin_sub ?_)
  | (with_reducible refine bin_mod (by walk_at "m_arith") ?_)
  | (with_reducible refine bin_div (by walk_at "m_arith") (by walk_at "m_arith") ?_)
  | (with_reducible refine bin_mul (by walk_at "m_mul") ?_)
  | (with_reducible refine bin_shl (by walk_at "m_arith") (by walk_at "m_arith") (by decide) ?_)
  | (with_reducible refine bin_shr (by walk_at "m_arith") ?_))
local macro_rules | `(tactic| walk_at "m_cmp") => `(tactic| first
  | (with_reducible refine cmp_lt ?_)
  | (with_reducible refine cmp_le ?_)
  | (with_reducible refine cmp_gt ?_)
  | (with_reducible refine cmp_ge ?_)
  | (with_reducible refine cmp_eq ?_)
  | (with_reducible refine cmp_ne ?_))
local macro_rules | `(tactic| walk_at "m_ev") => `(tactic| first
  | walk_at "m_name"
  | (with_reducible refine ev_int ?_)
  | walk_at "m_call"
  | (with_reducible refine ev_BinOp ?_)
  | (with_reducible refine ev_Compare ?_ rfl)
  | (with_reducible refine ev_BoolOp ?_)
  | (with_reducible refine ev_Not ?_)
  | (with_reducible refine ev_str ?_)
  | (with_reducible refine ev_none ?_)
  | (with_reducible refine ev_bool ?_)
  | (with_reducible refine ev_Chain2 ?_ rfl)
  | (with_reducible refine ev_sliceG ?_)
  | (with_reducible refine ev_Subscript ?_))
local macro_rules | `(tactic| walk_at "m_st") => `(tactic| first
  | (with_reducible refine ex_assign ?_ rfl)
  | (with_reducible refine ex_If ?_)
  | (with_reducible refine ex_Return ?_)
  | (with_reducible refine ex_Return0 ?_)
  | (with_reducible refine ex_Expr ?_ rfl rfl)
  | ((with_reducible refine' ex_raiseS ?k0 ?k1 ?k2 ?k3 ?k4 ?k5 ?_); (case k0 => with_reducible assumption); (case k3 => walk_at "m_mem"); (case k1 => walk_at "m_kind"); (case k2 => exact rfl); (case k4 => with_reducible assumption); (case k5 => exact AOk.handled (by assumption))))
local macro_rules | `(tactic| walk_at "m_te") => `(tactic| first
  | (with_reducible refine te_Not ?_)
  | (with_reducible refine te_BoolOp ?_)
  | (with_reducible refine te_Compare ?_ rfl)
  | (with_reducible refine te_Chain2 ?_ rfl)
  | (with_reducible refine te_value ?_ rfl))
local macro_rules | `(tactic| walk_at "m_log") => `(tactic| first
  | (with_reducible refine evb_and ?_)
  | (with_reducible refine evb_or ?_)
  | (with_reducible refine evb_one ?_)
  | (with_reducible refine tel_and ?_)
  | (with_reducible refine tel_or ?_)
  | (with_reducible refine tel_and_nil ?_)
  | (with_reducible refine tel_or_nil ?_))
local macro_rules | `(tactic| walk_at "m_end") => `(tactic| first
  | (with_reducible refine seq_next ?_)
  | (with_reducible refine seq_ret ?_)
  | (with_reducible refine turn_next ?_)
  | (with_reducible refine turn_ret ?_)
  | (with_reducible refine leave_ret ?_)
  | (with_reducible refine leave_next ?_)
  | (with_reducible refine leave_x ?_)
  | (with_reducible refine cut_next ?_)
  | (with_reducible refine cut_ret ?_)
  | (with_reducible refine seq_brk ?_)
  | (with_reducible refine seq_cont ?_)
  | (with_reducible refine turn_brk ?_)
  | (with_reducible refine turn_cont ?_)
  | (with_reducible refine cut_brk ?_)
  | (with_reducible refine cut_cont ?_))
local macro_rules | `(tactic| walk_at "m") => `(tactic| first
  | ((with_reducible refine gEv ?_); walk_at "m_ev")
  | ((with_reducible refine gEx1 ?_); walk_at "m_st")
  | (with_reducible refine ex_seq ?_)
  | (with_reducible refine ex_nil ?_)
  | ((with_reducible refine gTe ?_); walk_at "m_te")
  | (with_reducible refine evl_cons ?_)
  | (with_reducible refine evl_nil ?_)
  | ((with_reducible refine gBin ?_); walk_at "m_bin")
  | ((with_reducible refine gCmp ?_); walk_at "m_cmp")
  | ((with_reducible refine gSto ?_); walk_at "m_sto")
  | (with_reducible refine asg_name ?_)
  | (with_reducible refine evo_none ?_)
  | (with_reducible refine evo_some ?_)
  | walk_at "m_log"
  | walk_at "m_end")
local macro_rules | `(tactic| walk_at "k") => `(tactic| ((fail_if_success (with_reducible refine gIf ?_)); walk_at "m"))

abbrev p13 : Program := PySem.Challenge.pw_uf040014_13
section
open PySem PySem.W PySem.Calls PyProof.Rows
/-- the top's run, over a heap that is a tree -/
def runT (tb : String → Option Builtin) (p : Program) (w : World) (n₀ : Nat) (ann : Option Value) : Nat → SharedT → Thread → Option SharedT
  | 0, _, _ => none
  | n + 1, s, t => match through t with
    | true => some s
    | false => match stepOk n₀ ann t with
      | false => none
      | true => match stepT (denote tb) p w s t with
        | some (s', t') => runT tb p w n₀ ann n s' t'
        | none => none
theorem runT_of {tb : String → Option Builtin} {p : Program} {w : World} {n₀ : Nat} {ann : Option Value} : ∀ {n : Nat} {s s' : SharedT} {t : Thread}, runT tb p w n₀ ann n s t = some s' → topRun tb p w n₀ ann n s.abs t = some s'.abs
  | 0, _, _, _, h => by cases h
  | n + 1, s, s', t, h => by
    unfold runT at h
    unfold topRun
    cases ht : through t with
    | true => rw [ht] at h; cases h; rfl
    | false =>
      rw [ht] at h
      cases hk : stepOk n₀ ann t with
      | false => rw [hk] at h; cases h
      | true =>
        rw [hk] at h
        cases hs : stepT (denote tb) p w s t with
        | none => rw [hs] at h; cases h
        | some r => obtain ⟨s₂, t₂⟩ := r; rw [hs] at h; rw [stepT_spec hs]; exact runT_of h
/-- what is looked at behind the top -/
def seenT (p q : Program) (loose : List Str) (Xt : Shared → Bool) {α : Type} (Yf : Shared → α) (H₀ : Heap) (s : Shared) :=
  (staticsOk (importedModules p.main.body) H₀ s.heap && namesBound p s.heap && gensDone s && laidKept H₀ s.heap, openSeen q loose (importedModules p.main.body) Xt true s, Yf s)
theorem left_tree {p q : Program} {loose : List Str} {Xt : Shared → Bool} {α : Type} {Yf : Shared → α} {Ya : World → α} {N M m₀ : Nat} {ann : Option Value} {T0 : Params → BT} {life : Life}
    (open_ : ∀ w : World, (fencedOpening treeTable p w N).map (fun s => (s.heap, s.gens, s.drawn, s.toks)) = some (boot_heap w.params, Array.mk [], boot_drawn, boot_toks))
    (tree : ∀ P : Params, boot_heap P = absHeap (T0 P) m₀ life)
    (size : ∀ P : Params, ((boot_heap P).isNs mainGlobals, (boot_heap P).nsMap mainGlobals "__annotations__") = (true, ann)) (le : Nat.ble M N = true)
    (run : ∀ (w : World) (os : OsState), (runT treeTable p w m₀ ann M ⟨T0 w.params, m₀, life, Array.mk [], boot_drawn, boot_toks, os⟩ (topStub p)).map (fun s => seenT p q loose Xt Yf (boot_heap w.params) s.abs) = some (true, openGood q loose, Ya w)) :
    LeftO p q loose Xt Yf Ya N true := fun w => by
  obtain ⟨⟨h, gs, d, k, os⟩, e, e'⟩ := Option.map_eq_some_iff.mp (open_ w)
  obtain ⟨rfl, rfl, rfl, rfl⟩ : h = boot_heap w.params ∧ gs = Array.mk [] ∧ d = boot_drawn ∧ k = boot_toks := by simpa using e'
  obtain ⟨z1, z3⟩ : _ ∧ _ := by simpa only [Prod.mk.injEq] using size w.params
  obtain ⟨s₁, r0, l⟩ := Option.map_eq_some_iff.mp (run w os)
  have l1 := congrArg Prod.fst l
  have l2 := congrArg (fun x => x.2.1) l
  have l3 := congrArg (fun x => x.2.2) l
  have r := topRun_mono (N - M) _ _ _ _ (runT_of r0)
  rw [show M + (N - M) = N by have := Nat.le_of_ble_eq_true le; omega] at r
  have ab : (⟨T0 w.params, m₀, life, Array.mk [], boot_drawn, boot_toks, os⟩ : SharedT).abs = ⟨boot_heap w.params, Array.mk [], boot_drawn, boot_toks, os⟩ := by
    rw [tree]; rfl
  rw [ab] at r
  have z2 : (boot_heap w.params).objs.size = m₀ := by rw [tree]; exact absHeap_size _ _ _
  have t : topFrom treeTable p w N ⟨boot_heap w.params, Array.mk [], boot_drawn, boot_toks, os⟩ = some s₁.abs := by
    unfold topFrom
    dsimp only
    rw [z1, z2, z3, r]
    show (match staticsOk (importedModules p.main.body) (boot_heap w.params) s₁.abs.heap && namesBound p s₁.abs.heap && gensDone s₁.abs && laidKept (boot_heap w.params) s₁.abs.heap with | true => _ | false => _) = _
    rw [show (staticsOk (importedModules p.main.body) (boot_heap w.params) s₁.abs.heap && namesBound p s₁.abs.heap && gensDone s₁.abs && laidKept (boot_heap w.params) s₁.abs.heap) = true from l1]
  unfold openEnds
  rw [e]
  show (topFrom treeTable p w N _).map _ = _
  rw [t]
  exact congrArg some (Prod.ext l2 l3)
/-- the same by the library's quick twins -/
noncomputable def runQ (p : Program) (w : World) (n₀ : Nat) (ann : Option Value) : Nat → SharedT → Thread → Option SharedT
  | 0, _, _ => none
  | n + 1, s, t => match through t with
    | true => some s
    | false => match Fast.tw6613529449190102663 n₀ ann t with
      | false => none
      | true => match Fast.tw10156331382660048174 (Fast.tw11892475500146522536 Fast.tw14364793385576792824) p w s t with
        | some (s', t') => runQ p w n₀ ann n s' t'
        | none => none
theorem runQ_eq (p : Program) (w : World) (n₀ : Nat) (ann : Option Value) : ∀ (n : Nat) (s : SharedT) (t : Thread), runT Fast.tw14364793385576792824 p w n₀ ann n s t = runQ p w n₀ ann n s t
  | 0, _, _ => rfl
  | n + 1, s, t => by
    unfold runT runQ
    rw [Fast.te6613529449190102663, Fast.te10156331382660048174, Fast.te11892475500146522536]
    cases through t with
    | true => rfl
    | false =>
      cases Fast.tw6613529449190102663 n₀ ann t with
      | false => rfl
      | true =>
        cases Fast.tw10156331382660048174 (Fast.tw11892475500146522536 Fast.tw14364793385576792824) p w s t with
        | none => rfl
        | some r => exact runQ_eq p w n₀ ann n r.1 r.2
noncomputable def seenQ (p q : Program) (loose : List Str) (Xt : Shared → Bool) {α : Type} (Yf : Shared → α) (H₀ : Heap) (s : Shared) :=
  (staticsOk (importedModules p.main.body) H₀ s.heap && namesBound p s.heap && gensDone s && laidKept H₀ s.heap, Fast.tw4187177175401517315 q loose (importedModules p.main.body) Xt true s, Yf s)
theorem seenQ_eq (p q : Program) (loose : List Str) (Xt : Shared → Bool) {α : Type} (Yf : Shared → α) (H₀ : Heap) (s : Shared) : seenT p q loose Xt Yf H₀ s = seenQ p q loose Xt Yf H₀ s := by
  unfold seenT seenQ
  rw [Fast.te4187177175401517315]
noncomputable def bootT (P : Params) : BT :=
  .node (boot_o_0 P) (.node (boot_o_1 P) (.node (boot_o_3 P) (.node (boot_o_7 P) .nil .nil) .nil) (.node (boot_o_5 P) (.node (boot_o_9 P) .nil .nil) .nil))
    (.node (boot_o_2 P) (.node (boot_o_4 P) (.node (boot_o_8 P) .nil .nil) .nil) (.node (boot_o_6 P) (.node (boot_o_10 P) .nil .nil) .nil))
theorem bootT_eq (P : Params) : boot_heap P = absHeap (bootT P) 11 {} := rfl
theorem bootN (P : Params) : ((boot_heap P).isNs mainGlobals, (boot_heap P).nsMap mainGlobals "__annotations__") = (true, some (.ref 6)) := by kernel_rfl
/-- the head: what the top leaves, by one run over a tree -/
theorem left_quick {p q : Program} {loose : List Str} {Xt : Shared → Bool} {α : Type} {Yf : Shared → α} {Ya : World → α} {N M : Nat} (e : opening p = plainProg p.main.scope.names) (f : ∀ s, fenceModules? p s = some s) (h6 : Nat.ble 600 N = true) (le : Nat.ble M N = true)
    (run : ∀ (w : World) (os : OsState), (runQ p w 11 (some (.ref 6)) M ⟨bootT w.params, 11, {}, Array.mk [], boot_drawn, boot_toks, os⟩ (topStub p)).map (fun s => seenQ p q loose Xt Yf (boot_heap w.params) s.abs) = some (true, openGood q loose, Ya w)) : LeftO p q loose Xt Yf Ya N true :=
  left_tree (T0 := bootT) (boot_open e h6 f) bootT_eq bootN le fun w os => by
    rw [Fast.te14364793385576792824, runQ_eq]
    simp only [seenQ_eq]
    exact run w os
end
section
open PySem PySem.W PyProof.Rows
set_option maxRecDepth 100000
set_option maxHeartbeats 8000000
def kx (P : Params) : Frag :=
  [(3, { cls := Value.type "dict", data := Data.dict #[{ hash := PyData.keyHash P (Str.ofString "__name__"), key := Value.str (Str.ofString "__name__") 165, val := Value.str (Str.ofString "law_uf040014_13") 411 }, { hash := PyData.keyHash P (Str.ofString "__doc__"), key := Value.str (Str.ofString "__doc__") 166, val := Value.none }, { hash := PyData.keyHash P (Str.ofString "__package__"), key := Value.str (Str.ofString "__package__") 167, val := Value.none }, { hash := PyData.keyHash P (Str.ofString "__loader__"), key := Value.str (Str.ofString "__loader__") 168, val := Value.builtin "__main__.__loader__#opaque" }, { hash := PyData.keyHash P (Str.ofString "__spec__"), key := Value.str (Str.ofString "__spec__") 169, val := Value.none }, { hash := PyData.keyHash P (Str.ofString "__annotations__"), key := Value.str (Str.ofString "__annotations__") 170, val := Value.ref 6 }, { hash := PyData.keyHash P (Str.ofString "__builtins__"), key := Value.str (Str.ofString "__builtins__") 171, val := Value.ref 4 }, { hash := PyData.keyHash P (Str.ofString "__file__"), key := Value.str (Str.ofString "__file__") 173, val := Value.str (Str.ofString "/claim/cut.py") 172 }, { hash := PyData.keyHash P (Str.ofString "__cached__"), key := Value.str (Str.ofString "__cached__") 174, val := Value.none }, { hash := PyData.keyHash P (Str.ofString "CodeError"), key := Value.str (Str.ofString "CodeError") 206, val := Value.ref 24 }, { hash := PyData.keyHash P (Str.ofString "NoWeights"), key := Value.str (Str.ofString "NoWeights") 222, val := Value.ref 37 }, { hash := PyData.keyHash P (Str.ofString "BadWeight"), key := Value.str (Str.ofString "BadWeight") 238, val := Value.ref 49 }, { hash := PyData.keyHash P (Str.ofString "BadBound"), key := Value.str (Str.ofString "BadBound") 254, val := Value.ref 61 }, { hash := PyData.keyHash P (Str.ofString "NoRoom"), key := Value.str (Str.ofString "NoRoom") 270, val := Value.ref 73 }, { hash := PyData.keyHash P (Str.ofString "BadLengths"), key := Value.str (Str.ofString "BadLengths") 286, val := Value.ref 85 }, { hash := PyData.keyHash P (Str.ofString "BadWords"), key := Value.str (Str.ofString "BadWords") 302, val := Value.ref 97 }, { hash := PyData.keyHash P (Str.ofString "BadBits"), key := Value.str (Str.ofString "BadBits") 318, val := Value.ref 109 }, { hash := PyData.keyHash P (Str.ofString "NoSign"), key := Value.str (Str.ofString "NoSign") 334, val := Value.ref 121 }, { hash := PyData.keyHash P (Str.ofString "MOST_SIGNS"), key := Value.str (Str.ofString "MOST_SIGNS") 336, val := Value.int 24 335 }, { hash := PyData.keyHash P (Str.ofString "MOST_BOUND"), key := Value.str (Str.ofString "MOST_BOUND") 338, val := Value.int 12 337 }, { hash := PyData.keyHash P (Str.ofString "is_word"), key := Value.str (Str.ofString "is_word") 346, val := Value.ref 128 }, { hash := PyData.keyHash P (Str.ofString "need_words"), key := Value.str (Str.ofString "need_words") 352, val := Value.ref 133 }, { hash := PyData.keyHash P (Str.ofString "Reader"), key := Value.str (Str.ofString "Reader") 410, val := Value.ref 176 }, { hash := PyData.keyHash P (Str.ofString "_law_cell"), key := Value.str (Str.ofString "_law_cell") 421, val := Value.ref 187 }, { hash := PyData.keyHash P (Str.ofString "_law_word_of"), key := Value.str (Str.ofString "_law_word_of") 429, val := Value.ref 194 }, { hash := PyData.keyHash P (Str.ofString "_law_words"), key := Value.str (Str.ofString "_law_words") 435, val := Value.ref 199 }, { hash := PyData.keyHash P (Str.ofString "_law_due"), key := Value.str (Str.ofString "_law_due") 441, val := Value.ref 204 }, { hash := PyData.keyHash P (Str.ofString "_law_told"), key := Value.str (Str.ofString "_law_told") 450, val := Value.ref 211 }, { hash := PyData.keyHash P (Str.ofString "_law_alike"), key := Value.str (Str.ofString "_law_alike") 458, val := Value.ref 218 }, { hash := PyData.keyHash P (Str.ofString "_law_bit"), key := Value.str (Str.ofString "_law_bit") 464, val := Value.ref 223 }, { hash := PyData.keyHash P (Str.ofString "_law_stands"), key := Value.str (Str.ofString "_law_stands") 470, val := Value.ref 228 }, { hash := PyData.keyHash P (Str.ofString "law"), key := Value.str (Str.ofString "law") 476, val := Value.ref 233 }] 32 }),
   (23, { cls := Value.type "dict", data := Data.dict #[{ hash := PyData.keyHash P (Str.ofString "__module__"), key := Value.str (Str.ofString "__module__") 196, val := Value.str (Str.ofString "shortlimit.errors") 187 }, { hash := PyData.keyHash P (Str.ofString "__firstlineno__"), key := Value.str (Str.ofString "__firstlineno__") 200, val := Value.int 2 199 }, { hash := PyData.keyHash P (Str.ofString "__static_attributes__"), key := Value.str (Str.ofString "__static_attributes__") 201, val := Value.ref 22 }, { hash := PyData.keyHash P (Str.ofString "__weakref__"), key := Value.str (Str.ofString "__weakref__") 203, val := Value.ref 25 }, { hash := PyData.keyHash P (Str.ofString "__doc__"), key := Value.str (Str.ofString "__doc__") 204, val := Value.none }] 3 }),
   (24, { cls := Value.type "type", data := Data.cls { name := Str.ofString "CodeError", bases := [Value.type "ValueError"], mro := [Value.ref 24, Value.type "ValueError", Value.type "Exception", Value.type "BaseException", Value.type "object"], ns := 23, qualname := Str.ofString "CodeError", subclasses := [Value.ref 37, Value.ref 49, Value.ref 61, Value.ref 73, Value.ref 85, Value.ref 97, Value.ref 109, Value.ref 121] }, slots := #[some (Value.ref 15), none, some (Value.str (Str.ofString "CodeError") 189), some (Value.str (Str.ofString "CodeError") 197), some (Value.builtin "ValueError.__new__"), some (Value.bool true)] }),
   (36, { cls := Value.type "dict", data := Data.dict #[{ hash := PyData.keyHash P (Str.ofString "__module__"), key := Value.str (Str.ofString "__module__") 214, val := Value.str (Str.ofString "shortlimit.errors") 187 }, { hash := PyData.keyHash P (Str.ofString "__firstlineno__"), key := Value.str (Str.ofString "__firstlineno__") 218, val := Value.int 4 217 }, { hash := PyData.keyHash P (Str.ofString "__static_attributes__"), key := Value.str (Str.ofString "__static_attributes__") 219, val := Value.ref 35 }, { hash := PyData.keyHash P (Str.ofString "__doc__"), key := Value.str (Str.ofString "__doc__") 220, val := Value.none }] 2 }),
   (37, { cls := Value.type "type", data := Data.cls { name := Str.ofString "NoWeights", bases := [Value.ref 24], mro := [Value.ref 37, Value.ref 24, Value.type "ValueError", Value.type "Exception", Value.type "BaseException", Value.type "object"], ns := 36, qualname := Str.ofString "NoWeights" }, slots := #[some (Value.ref 28), none, some (Value.str (Str.ofString "NoWeights") 207), some (Value.str (Str.ofString "NoWeights") 215), some (Value.builtin "ValueError.__new__"), some (Value.bool true)] }),
   (48, { cls := Value.type "dict", data := Data.dict #[{ hash := PyData.keyHash P (Str.ofString "__module__"), key := Value.str (Str.ofString "__module__") 230, val := Value.str (Str.ofString "shortlimit.errors") 187 }, { hash := PyData.keyHash P (Str.ofString "__firstlineno__"), key := Value.str (Str.ofString "__firstlineno__") 234, val := Value.int 6 233 }, { hash := PyData.keyHash P (Str.ofString "__static_attributes__"), key := Value.str (Str.ofString "__static_attributes__") 235, val := Value.ref 47 }, { hash := PyData.keyHash P (Str.ofString "__doc__"), key := Value.str (Str.ofString "__doc__") 236, val := Value.none }] 2 }),
   (49, { cls := Value.type "type", data := Data.cls { name := Str.ofString "BadWeight", bases := [Value.ref 24], mro := [Value.ref 49, Value.ref 24, Value.type "ValueError", Value.type "Exception", Value.type "BaseException", Value.type "object"], ns := 48, qualname := Str.ofString "BadWeight" }, slots := #[some (Value.ref 40), none, some (Value.str (Str.ofString "BadWeight") 223), some (Value.str (Str.ofString "BadWeight") 231), some (Value.builtin "ValueError.__new__"), some (Value.bool true)] }),
   (60, { cls := Value.type "dict", data := Data.dict #[{ hash := PyData.keyHash P (Str.ofString "__module__"), key := Value.str (Str.ofString "__module__") 246, val := Value.str (Str.ofString "shortlimit.errors") 187 }, { hash := PyData.keyHash P (Str.ofString "__firstlineno__"), key := Value.str (Str.ofString "__firstlineno__") 250, val := Value.int 8 249 }, { hash := PyData.keyHash P (Str.ofString "__static_attributes__"), key := Value.str (Str.ofString "__static_attributes__") 251, val := Value.ref 59 }, { hash := PyData.keyHash P (Str.ofString "__doc__"), key := Value.str (Str.ofString "__doc__") 252, val := Value.none }] 2 }),
   (61, { cls := Value.type "type", data := Data.cls { name := Str.ofString "BadBound", bases := [Value.ref 24], mro := [Value.ref 61, Value.ref 24, Value.type "ValueError", Value.type "Exception", Value.type "BaseException", Value.type "object"], ns := 60, qualname := Str.ofString "BadBound" }, slots := #[some (Value.ref 52), none, some (Value.str (Str.ofString "BadBound") 239), some (Value.str (Str.ofString "BadBound") 247), some (Value.builtin "ValueError.__new__"), some (Value.bool true)] }),
   (72, { cls := Value.type "dict", data := Data.dict #[{ hash := PyData.keyHash P (Str.ofString "__module__"), key := Value.str (Str.ofString "__module__") 262, val := Value.str (Str.ofString "shortlimit.errors") 187 }, { hash := PyData.keyHash P (Str.ofString "__firstlineno__"), key := Value.str (Str.ofString "__firstlineno__") 266, val := Value.int 10 265 }, { hash := PyData.keyHash P (Str.ofString "__static_attributes__"), key := Value.str (Str.ofString "__static_attributes__") 267, val := Value.ref 71 }, { hash := PyData.keyHash P (Str.ofString "__doc__"), key := Value.str (Str.ofString "__doc__") 268, val := Value.none }] 2 }),
   (73, { cls := Value.type "type", data := Data.cls { name := Str.ofString "NoRoom", bases := [Value.ref 24], mro := [Value.ref 73, Value.ref 24, Value.type "ValueError", Value.type "Exception", Value.type "BaseException", Value.type "object"], ns := 72, qualname := Str.ofString "NoRoom" }, slots := #[some (Value.ref 64), none, some (Value.str (Str.ofString "NoRoom") 255), some (Value.str (Str.ofString "NoRoom") 263), some (Value.builtin "ValueError.__new__"), some (Value.bool true)] }),
   (84, { cls := Value.type "dict", data := Data.dict #[{ hash := PyData.keyHash P (Str.ofString "__module__"), key := Value.str (Str.ofString "__module__") 278, val := Value.str (Str.ofString "shortlimit.errors") 187 }, { hash := PyData.keyHash P (Str.ofString "__firstlineno__"), key := Value.str (Str.ofString "__firstlineno__") 282, val := Value.int 12 281 }, { hash := PyData.keyHash P (Str.ofString "__static_attributes__"), key := Value.str (Str.ofString "__static_attributes__") 283, val := Value.ref 83 }, { hash := PyData.keyHash P (Str.ofString "__doc__"), key := Value.str (Str.ofString "__doc__") 284, val := Value.none }] 2 }),
   (85, { cls := Value.type "type", data := Data.cls { name := Str.ofString "BadLengths", bases := [Value.ref 24], mro := [Value.ref 85, Value.ref 24, Value.type "ValueError", Value.type "Exception", Value.type "BaseException", Value.type "object"], ns := 84, qualname := Str.ofString "BadLengths" }, slots := #[some (Value.ref 76), none, some (Value.str (Str.ofString "BadLengths") 271), some (Value.str (Str.ofString "BadLengths") 279), some (Value.builtin "ValueError.__new__"), some (Value.bool true)] }),
   (96, { cls := Value.type "dict", data := Data.dict #[{ hash := PyData.keyHash P (Str.ofString "__module__"), key := Value.str (Str.ofString "__module__") 294, val := Value.str (Str.ofString "shortlimit.errors") 187 }, { hash := PyData.keyHash P (Str.ofString "__firstlineno__"), key := Value.str (Str.ofString "__firstlineno__") 298, val := Value.int 14 297 }, { hash := PyData.keyHash P (Str.ofString "__static_attributes__"), key := Value.str (Str.ofString "__static_attributes__") 299, val := Value.ref 95 }, { hash := PyData.keyHash P (Str.ofString "__doc__"), key := Value.str (Str.ofString "__doc__") 300, val := Value.none }] 2 }),
   (97, { cls := Value.type "type", data := Data.cls { name := Str.ofString "BadWords", bases := [Value.ref 24], mro := [Value.ref 97, Value.ref 24, Value.type "ValueError", Value.type "Exception", Value.type "BaseException", Value.type "object"], ns := 96, qualname := Str.ofString "BadWords" }, slots := #[some (Value.ref 88), none, some (Value.str (Str.ofString "BadWords") 287), some (Value.str (Str.ofString "BadWords") 295), some (Value.builtin "ValueError.__new__"), some (Value.bool true)] }),
   (108, { cls := Value.type "dict", data := Data.dict #[{ hash := PyData.keyHash P (Str.ofString "__module__"), key := Value.str (Str.ofString "__module__") 310, val := Value.str (Str.ofString "shortlimit.errors") 187 }, { hash := PyData.keyHash P (Str.ofString "__firstlineno__"), key := Value.str (Str.ofString "__firstlineno__") 314, val := Value.int 16 313 }, { hash := PyData.keyHash P (Str.ofString "__static_attributes__"), key := Value.str (Str.ofString "__static_attributes__") 315, val := Value.ref 107 }, { hash := PyData.keyHash P (Str.ofString "__doc__"), key := Value.str (Str.ofString "__doc__") 316, val := Value.none }] 2 }),
   (109, { cls := Value.type "type", data := Data.cls { name := Str.ofString "BadBits", bases := [Value.ref 24], mro := [Value.ref 109, Value.ref 24, Value.type "ValueError", Value.type "Exception", Value.type "BaseException", Value.type "object"], ns := 108, qualname := Str.ofString "BadBits" }, slots := #[some (Value.ref 100), none, some (Value.str (Str.ofString "BadBits") 303), some (Value.str (Str.ofString "BadBits") 311), some (Value.builtin "ValueError.__new__"), some (Value.bool true)] }),
   (120, { cls := Value.type "dict", data := Data.dict #[{ hash := PyData.keyHash P (Str.ofString "__module__"), key := Value.str (Str.ofString "__module__") 326, val := Value.str (Str.ofString "shortlimit.errors") 187 }, { hash := PyData.keyHash P (Str.ofString "__firstlineno__"), key := Value.str (Str.ofString "__firstlineno__") 330, val := Value.int 18 329 }, { hash := PyData.keyHash P (Str.ofString "__static_attributes__"), key := Value.str (Str.ofString "__static_attributes__") 331, val := Value.ref 119 }, { hash := PyData.keyHash P (Str.ofString "__doc__"), key := Value.str (Str.ofString "__doc__") 332, val := Value.none }] 2 }),
   (121, { cls := Value.type "type", data := Data.cls { name := Str.ofString "NoSign", bases := [Value.ref 24], mro := [Value.ref 121, Value.ref 24, Value.type "ValueError", Value.type "Exception", Value.type "BaseException", Value.type "object"], ns := 120, qualname := Str.ofString "NoSign" }, slots := #[some (Value.ref 112), none, some (Value.str (Str.ofString "NoSign") 319), some (Value.str (Str.ofString "NoSign") 327), some (Value.builtin "ValueError.__new__"), some (Value.bool true)] }),
   (146, { cls := Value.type "code", data := Data.fields #[Value.str (Str.ofString "__init__") 365, Value.str (Str.ofString "Reader.__init__") 366, Value.str (Str.ofString "/claim/cut.py") 367, Value.int 36 0, Value.int 2 0, Value.int 0 0, Value.int 0 0, Value.int 3 0, Value.ref 141, Value.bool true, Value.int 181 0, Value.ref 142, Value.none, Value.ref 143, Value.ref 144, Value.ref 145, Value.int 370 0, Value.int 36 0, Value.str (Str.ofString "/claim/cut.py") 371] }),
   (147, { cls := .type "function", data := .func (mkFd (mAt p13 15 0) ⟨"__init__", "Reader.__init__", .none, .none, .none, Value.str (Str.ofString "shortlimit.bits") 339, none, .ref 146, .none⟩) }),
   (151, { cls := Value.type "code", data := Data.fields #[Value.str (Str.ofString "take") 373, Value.str (Str.ofString "Reader.take") 374, Value.str (Str.ofString "/claim/cut.py") 375, Value.int 42 0, Value.int 2 0, Value.int 0 0, Value.int 0 0, Value.int 3 0, Value.ref 148, Value.bool true, Value.int 181 0, Value.ref 149, Value.none, Value.none, Value.none, Value.ref 150, Value.int 376 0, Value.int 42 0, Value.str (Str.ofString "/claim/cut.py") 377] }),
   (152, { cls := .type "function", data := .func (mkFd (mAt p13 15 1) ⟨"take", "Reader.take", .none, .none, .none, Value.str (Str.ofString "shortlimit.bits") 339, none, .ref 151, .none⟩) }),
   (158, { cls := Value.type "code", data := Data.fields #[Value.str (Str.ofString "held") 379, Value.str (Str.ofString "Reader.held") 380, Value.str (Str.ofString "/claim/cut.py") 381, Value.int 56 0, Value.int 1 0, Value.int 0 0, Value.int 0 0, Value.int 3 0, Value.ref 153, Value.bool true, Value.int 181 0, Value.ref 154, Value.none, Value.ref 155, Value.ref 156, Value.ref 157, Value.int 383 0, Value.int 56 0, Value.str (Str.ofString "/claim/cut.py") 384] }),
   (159, { cls := .type "function", data := .func (mkFd (mAt p13 15 2) ⟨"held", "Reader.held", .none, .none, .none, Value.str (Str.ofString "shortlimit.bits") 339, none, .ref 158, .none⟩) }),
   (165, { cls := Value.type "code", data := Data.fields #[Value.str (Str.ofString "done") 386, Value.str (Str.ofString "Reader.done") 387, Value.str (Str.ofString "/claim/cut.py") 388, Value.int 59 0, Value.int 1 0, Value.int 0 0, Value.int 0 0, Value.int 3 0, Value.ref 160, Value.bool true, Value.int 181 0, Value.ref 161, Value.none, Value.ref 162, Value.ref 163, Value.ref 164, Value.int 390 0, Value.int 59 0, Value.str (Str.ofString "/claim/cut.py") 391] }),
   (166, { cls := .type "function", data := .func (mkFd (mAt p13 15 3) ⟨"done", "Reader.done", .none, .none, .none, Value.str (Str.ofString "shortlimit.bits") 339, none, .ref 165, .none⟩) }),
   (172, { cls := Value.type "code", data := Data.fields #[Value.str (Str.ofString "again") 393, Value.str (Str.ofString "Reader.again") 394, Value.str (Str.ofString "/claim/cut.py") 395, Value.int 62 0, Value.int 1 0, Value.int 0 0, Value.int 0 0, Value.int 3 0, Value.ref 167, Value.bool true, Value.int 181 0, Value.ref 168, Value.none, Value.ref 169, Value.ref 170, Value.ref 171, Value.int 397 0, Value.int 62 0, Value.str (Str.ofString "/claim/cut.py") 398] }),
   (173, { cls := .type "function", data := .func (mkFd (mAt p13 15 4) ⟨"again", "Reader.again", .none, .none, .none, Value.str (Str.ofString "shortlimit.bits") 339, none, .ref 172, .none⟩) }),
   (175, { cls := Value.type "dict", data := Data.dict #[{ hash := PyData.keyHash P (Str.ofString "__module__"), key := Value.str (Str.ofString "__module__") 360, val := Value.str (Str.ofString "shortlimit.bits") 339 }, { hash := PyData.keyHash P (Str.ofString "__firstlineno__"), key := Value.str (Str.ofString "__firstlineno__") 364, val := Value.int 34 363 }, { hash := PyData.keyHash P (Str.ofString "__init__"), key := Value.str (Str.ofString "__init__") 372, val := Value.ref 147 }, { hash := PyData.keyHash P (Str.ofString "take"), key := Value.str (Str.ofString "take") 378, val := Value.ref 152 }, { hash := PyData.keyHash P (Str.ofString "held"), key := Value.str (Str.ofString "held") 385, val := Value.ref 159 }, { hash := PyData.keyHash P (Str.ofString "done"), key := Value.str (Str.ofString "done") 392, val := Value.ref 166 }, { hash := PyData.keyHash P (Str.ofString "again"), key := Value.str (Str.ofString "again") 399, val := Value.ref 173 }, { hash := PyData.keyHash P (Str.ofString "__static_attributes__"), key := Value.str (Str.ofString "__static_attributes__") 403, val := Value.ref 174 }, { hash := PyData.keyHash P (Str.ofString "__dict__"), key := Value.str (Str.ofString "__dict__") 405, val := Value.ref 177 }, { hash := PyData.keyHash P (Str.ofString "__weakref__"), key := Value.str (Str.ofString "__weakref__") 407, val := Value.ref 178 }, { hash := PyData.keyHash P (Str.ofString "__doc__"), key := Value.str (Str.ofString "__doc__") 408, val := Value.none }] 4 }),
   (176, { cls := Value.type "type", data := Data.cls { name := Str.ofString "Reader", bases := [Value.type "object"], mro := [Value.ref 176, Value.type "object"], ns := 175, qualname := Str.ofString "Reader" }, slots := #[none, none, some (Value.str (Str.ofString "Reader") 353), some (Value.str (Str.ofString "Reader") 361), some (Value.builtin "object.__new__"), some (Value.bool true)] })]
def kxA : List Addr := [3, 23, 24, 36, 37, 48, 49, 60, 61, 72, 73, 84, 85, 96, 97, 108, 109, 120, 121, 146, 147, 151, 152, 158, 159, 165, 166, 172, 173, 175, 176]
def vw : Program := { p13 with main := { p13.main with body := [stAt p13 1, stAt p13 2, stAt p13 3, stAt p13 4, stAt p13 5, stAt p13 6, stAt p13 7, stAt p13 8, stAt p13 9, stAt p13 10, stAt p13 11, stAt p13 13, stAt p13 14, stAt p13 15, stAt p13 17, stAt p13 18, stAt p13 19, stAt p13 20, stAt p13 21, stAt p13 22, stAt p13 23, stAt p13 24, stAt p13 25] } }
noncomputable abbrev HK : Hook := kHook kx kxA (fun _ => rfl)
noncomputable abbrev XtL : Shared → Bool := fun s => xlAt vw [] s && recOk (RowW.records (OpenRow.toRowW PySem.Challenge.rw_uf040014_13.row)) s
set_option maxHeartbeats 0 in
theorem run_law (w : World) (os : OsState) : (runQ p13 w 11 (some (.ref 6)) 4000 ⟨bootT w.params, 11, {}, Array.mk [], boot_drawn, boot_toks, os⟩ (topStub p13)).map (fun s => seenQ p13 vw [] XtL (Hook.obs HK) (boot_heap w.params) s.abs) = some (true, openGood vw [], Hook.val HK w) := by kernel_rfl
noncomputable def sd.tw8191427152191242371 : Program := p13
theorem sd.te8191427152191242371 : PySem.Challenge.pw_uf040014_13 = sd.tw8191427152191242371 := rfl
set_option Elab.async true in
theorem sd (h : PySem.Challenge.rw_uf040014_13.row.wellSaid = true → PySem.Challenge.rw_uf040014_13.row.Holds) : PySem.Challenge.rw_uf040014_13.Holds := by
  w_on
  o_law
  exact h (by assumption)
theorem left_law : LeftO p13 vw [] XtL (Hook.obs HK) (Hook.val HK) 4000 true := left_quick (by kernel_rfl) (fun s => by kernel_rfl) rfl rfl run_law
end
structure Ad where
  f_is_word : Addr
  f_need_words : Addr
  f_law_cell : Addr
  f_law_word_of : Addr
  f_law_words : Addr
  f_law_due : Addr
  f_law_told : Addr
  f_law_alike : Addr
  f_law_bit : Addr
  f_law_stands : Addr
  f_law : Addr
  c_CodeError : Addr
  c_NoWeights : Addr
  c_BadWeight : Addr
  c_BadBound : Addr
  c_NoRoom : Addr
  c_BadLengths : Addr
  c_BadWords : Addr
  c_BadBits : Addr
  c_NoSign : Addr
  c_Reader : Addr
  m_init : Addr
  m_take : Addr
  m_held : Addr
  m_done : Addr
  m_again : Addr
  t_MOST_SIGNS : Tok
  t_MOST_BOUND : Tok
abbrev gt (ad : Ad) : List (Str × Value) := ("is_word", .ref ad.f_is_word) :: ("need_words", .ref ad.f_need_words) :: ("_law_cell", .ref ad.f_law_cell) :: ("_law_word_of", .ref ad.f_law_word_of) :: ("_law_words", .ref ad.f_law_words) :: ("_law_due", .ref ad.f_law_due) :: ("_law_told", .ref ad.f_law_told) :: ("_law_alike", .ref ad.f_law_alike) :: ("_law_bit", .ref ad.f_law_bit) :: ("_law_stands", .ref ad.f_law_stands) :: ("law", .ref ad.f_law) :: ("MOST_SIGNS", .int 24 ad.t_MOST_SIGNS) :: ("MOST_BOUND", .int 12 ad.t_MOST_BOUND) :: []
abbrev bt : List (Str × Value) := [("ValueError", .type "ValueError"), ("all", .builtin "all"), ("range", .type "range"), ("isinstance", .builtin "isinstance"), ("tuple", .type "tuple"), ("list", .type "list"), ("len", .builtin "len"), ("min", .builtin "min"), ("int", .type "int"), ("str", .type "str"), ("any", .builtin "any"), ("bool", .type "bool")]
abbrev ct (ad : Ad) : List (Str × Value) := [("CodeError", .ref ad.c_CodeError), ("NoWeights", .ref ad.c_NoWeights), ("BadWeight", .ref ad.c_BadWeight), ("BadBound", .ref ad.c_BadBound), ("NoRoom", .ref ad.c_NoRoom), ("BadLengths", .ref ad.c_BadLengths), ("BadWords", .ref ad.c_BadWords), ("BadBits", .ref ad.c_BadBits), ("NoSign", .ref ad.c_NoSign), ("Reader", .ref ad.c_Reader)]
structure Facts (B : Shared) (ad : Ad) : Prop where
  g : GOk B (gt ad) bt (ct ad)
  f_is_word : FnSt B ad.f_is_word (stAt p13 13) ["thing"]
  f_need_words : FnSt B ad.f_need_words (stAt p13 14) ["words"]
  f_law_cell : FnSt B ad.f_law_cell (stAt p13 17) ["_law_script", "_law_k"]
  f_law_word_of : FnSt B ad.f_law_word_of (stAt p13 18) ["_law_error"]
  f_law_words : FnSt B ad.f_law_words (stAt p13 19) ["_law_script", "_law_first"]
  f_law_due : FnSt B ad.f_law_due (stAt p13 20) ["_law_words_here", "_law_bits", "_law_bit_here"]
  f_law_told : FnSt B ad.f_law_told (stAt p13 21) ["_law_reader", "_law_bit_here"]
  f_law_alike : FnSt B ad.f_law_alike (stAt p13 22) ["_law_found", "_law_due_here"]
  f_law_bit : FnSt B ad.f_law_bit (stAt p13 23) ["_law_words_here", "_law_bits", "_law_cell_here"]
  f_law_stands : FnSt B ad.f_law_stands (stAt p13 24) ["_law_reader", "_law_bits", "_law_signs", "_law_cell_here", "_law_held"]
  f_law : FnSt B ad.f_law (stAt p13 25) ["_law_script"]
  m_init : FnSt B ad.m_init (mAt p13 15 0) ["self", "words"]
  m_take : FnSt B ad.m_take (mAt p13 15 1) ["self", "bit"]
  m_held : FnSt B ad.m_held (mAt p13 15 2) ["self"]
  m_done : FnSt B ad.m_done (mAt p13 15 3) ["self"]
  m_again : FnSt B ad.m_again (mAt p13 15 4) ["self"]
  k_Reader : ClsF B ad.c_Reader [("__init__", ad.m_init), ("take", ad.m_take), ("held", ad.m_held), ("done", ad.m_done), ("again", ad.m_again)] ["words", "ahead", "found"]
  c_CodeError : ECls2 B ad.c_CodeError vbm
  c_NoWeights : ECls2 B ad.c_NoWeights (.ref ad.c_CodeError :: vbm)
  c_BadWeight : ECls2 B ad.c_BadWeight (.ref ad.c_CodeError :: vbm)
  c_BadBound : ECls2 B ad.c_BadBound (.ref ad.c_CodeError :: vbm)
  c_NoRoom : ECls2 B ad.c_NoRoom (.ref ad.c_CodeError :: vbm)
  c_BadLengths : ECls2 B ad.c_BadLengths (.ref ad.c_CodeError :: vbm)
  c_BadWords : ECls2 B ad.c_BadWords (.ref ad.c_CodeError :: vbm)
  c_BadBits : ECls2 B ad.c_BadBits (.ref ad.c_CodeError :: vbm)
  c_NoSign : ECls2 B ad.c_NoSign (.ref ad.c_CodeError :: vbm)
  ne : [ad.c_CodeError, ad.c_NoWeights, ad.c_BadWeight, ad.c_BadBound, ad.c_NoRoom, ad.c_BadLengths, ad.c_BadWords, ad.c_BadBits, ad.c_NoSign].Nodup

section
variable {C : Cx} {ad : Ad} {μ : List MO} {P : Post} {X : XPost} {n : Nat}
theorem intsD_get {ns : List Int} {i : Nat} (h : i < ns.length) : (intsD ns)[i]? = some (.int (ns.getD i 0)) := by
  simp [intsD, List.getD, h]
theorem intsD_at {ns : List Int} {i : Nat} {d : D} (h : (intsD ns)[i]? = some d) : ∃ k, ns[i]? = some k ∧ d = .int k := by
  simp only [intsD, List.getElem?_map, Option.map_eq_some_iff] at h
  obtain ⟨k, h1, h2⟩ := h
  exact ⟨k, h1, h2.symm⟩
theorem intsD_len {ns : List Int} : (intsD ns).length = ns.length := by simp [intsD]
theorem Items.kd {d : D} {ds : List D} (h : Items μ d ds) : Kd μ d "list" := by
  rcases h with rfl | ⟨a, rfl, hm⟩
  · exact .lst _
  · exact .own hm
def cellV (ns : List Int) (k : Int) : Int :=
  if k < ns.length then ns.getD k.toNat 0
  else if 0 < ns.length then ((ns.getD (k * 7 % ns.length).toNat 0 * 48271 + k * 7919).fmod 2147483647 * (ns.getD (k * 7 % ns.length).toNat 0 * 48271 + k * 7919).fmod 2147483647).fmod 2147483629
  else ((k * 7919 + 5) * (k * 7919 + 5)).fmod 2147483629
theorem cell_ca {k : Int} {d : D} {ns : List Int} (H : Facts C.B ad) (hA : AOk C 1) (hi : Items μ d (intsD ns)) (hl : ns.length ≤ 63) (h0 : 0 ≤ k) (h1 : k < 1000000) (h : P (.int (cellV ns k)) μ) : Ca C (.ref ad.f_law_cell) [d, .int k] μ P X := by
  refine ca_def2 ["_law_number"] H.f_law_cell hA rfl rfl (by decide +kernel) (by decide +kernel) fun q L C' hB hA' K N hE => ?_
  rw [← hB] at H
  have G := H.g
  unfold gt bt ct at G
  simp only [List.map]
  repeat' (walk_at "m")
  refine ca_len (hi.cons _) (by rw [intsD_len]; lia) ?_
  rw [intsD_len]
  repeat' (walk_at "m")
  refine ⟨fun h2 => ?_, fun h2 => ?_⟩
  · simp only [decide_eq_true_eq] at h2
    repeat' (walk_at "m")
    refine sub_list (hi.cons _) h0 (intsD_get (i := k.toNat) (by lia)) (by lia) rfl ?_
    repeat' (walk_at "m")
    rw [cellV, if_pos h2] at h
    exact h
  · simp only [decide_eq_false_iff_not] at h2
    rw [cellV, if_neg h2] at h
    repeat' (walk_at "m")
    refine ca_len (hi.cons _) (by rw [intsD_len]; lia) ?_
    rw [intsD_len]
    repeat' (walk_at "m")
    refine ⟨fun h3 => ?_, fun h3 => ?_⟩
    · simp only [decide_eq_true_eq] at h3
      rw [if_pos (by lia)] at h
      repeat' (walk_at "m")
      refine ca_len (hi.cons _) (by rw [intsD_len]; lia) ?_
      rw [intsD_len]
      repeat' (walk_at "m")
      rw [Int.fmod_eq_emod_of_nonneg _ (by lia)]
      have h5 : 0 ≤ k * 7 % (ns.length : Int) := Int.emod_nonneg _ (by lia)
      have h6 : k * 7 % (ns.length : Int) < ns.length := Int.emod_lt_of_pos _ (by lia)
      refine sub_list (hi.cons _) h5 (intsD_get (i := (k * 7 % (ns.length : Int)).toNat) (by lia)) (by lia) rfl ?_
      generalize ns.getD (k * 7 % (ns.length : Int)).toNat 0 = z at h ⊢
      repeat' (walk_at "m")
      have h7 : 0 ≤ (z * 48271 + k * 7919).fmod 2147483647 := Int.fmod_nonneg_of_pos _ (by decide)
      have h8 : (z * 48271 + k * 7919).fmod 2147483647 < 2147483647 := Int.fmod_lt_of_pos _ (by decide)
      generalize (z * 48271 + k * 7919).fmod 2147483647 = y at h h7 h8 ⊢
      repeat' (walk_at "m")
      exact h
    · simp only [decide_eq_false_iff_not] at h3
      rw [if_neg (by lia)] at h
      repeat' (walk_at "m")
      exact h
end

section
variable {C : Cx} {ad : Ad} {μ : List MO} {P : Post} {X : XPost} {n : Nat}
def wD (ls : List Wd) : List D := ls.map fun l => D.str (sS l)
theorem wD_len (ls : List Wd) : (wD ls).length = ls.length := by simp [wD]
theorem wD_at {ls : List Wd} {i : Nat} {d : D} (h : (wD ls)[i]? = some d) : ∃ l, ls[i]? = some l ∧ d = .str (sS l) := by
  simp only [wD, List.getElem?_map, Option.map_eq_some_iff] at h
  obtain ⟨l, h1, rfl⟩ := h
  exact ⟨l, h1, rfl⟩
theorem wD_get {ls : List Wd} {i : Nat} (h : i < ls.length) : (wD ls)[i]? = some (.str (sS (ls.getD i []))) := by
  simp [wD, List.getD, h]
theorem sS_cps {l : Wd} {j c : Nat} (h : (sS l).cps[j]? = some c) : l[j]? = some c := by simpa [sS] using h
theorem sS_ascii {l : Wd} (h : Bt l) : (sS l).cps.all (· < 128) = true := by
  show l.toArray.all (· < 128) = true
  simp only [List.all_toArray, List.all_eq_true, decide_eq_true_eq]
  intro c hc
  rcases h c hc with rfl | rfl <;> decide
theorem starts_iff (a b : Wd) : Txt.startswith (sS a) (sS b) = true ↔ b <+: a := by
  show (decide (0 + b.toArray.size ≤ a.toArray.size) && (a.toArray.extract 0 (0 + b.toArray.size) == b.toArray)) = true ↔ _
  rw [List.prefix_iff_eq_take]
  simp
  constructor
  · rintro ⟨_, h⟩; exact h.symm
  · intro h
    refine ⟨?_, h.symm⟩
    have := congrArg List.length h
    simp at this; lia
theorem starts_no {a b : Wd} (h : ¬ b <+: a) : Txt.startswith (sS a) (sS b) = false := by
  rw [Bool.eq_false_iff]; exact fun q => h ((starts_iff a b).mp q)
theorem is_word_ca {l : Wd} (H : Facts C.B ad) (hA : AOk C 1) (h1 : 1 ≤ l.length) (h2 : l.length ≤ 12) (hb : Bt l) (h : P (.bool true) μ) : Ca C (.ref ad.f_is_word) [.str (sS l)] μ P X := by
  refine ca_def1 [] H.f_is_word hA rfl rfl (by decide +kernel) (by decide +kernel) fun q L C' hB hA' K N hE => ?_
  rw [← hB] at H
  have G := H.g
  unfold gt bt ct at G
  simp only [List.map]
  repeat' (walk_at "m")
  refine ca_isi (.str _) (by decide) ⟨_, rfl, fun q => absurd q (by decide), fun _ => ?_⟩
  repeat' (walk_at "m")
  refine ca_len_str (by rw [sS_len]; lia) ?_
  rw [sS_len]
  repeat' (walk_at "m")
  refine ⟨fun _ => ?_, fun q => absurd q (by simp; lia)⟩
  repeat' (walk_at "m")
  refine ⟨fun q => absurd q (by simp; lia), fun _ => ?_⟩
  repeat' (walk_at "m")
  refine ⟨fun q => absurd q (by decide), fun _ => ?_⟩
  repeat' (walk_at "m")
  refine ev_cmap ["bit"] K ?_ (by decide +kernel) (by decide +kernel) (by decide +kernel) (by decide +kernel) rfl (fun _ _ => rfl) (fun _ => rfl)
  repeat' (walk_at "m")
  refine ⟨charsD (sS l), fun _ => .bool true, itb_str hA'.handled (sS_ascii hb), by rw [charsD_len, sS_len]; exact Nat.le_trans h2 (by decide), ?_, ?_⟩
  · intro j y hy cl Lc K2 N2 hcl
    obtain ⟨c, hcc, rfl⟩ := charsD_at hy
    simp only [List.map]
    repeat' (walk_at "m")
    refine cmp_inS ?_
    have e : (!(Builtin.Str.occurrences (Str.ofString "01") (⟨#[c]⟩ : Str) 0 (Str.ofString "01").length 1).isEmpty) = true := by
      rcases hb c (List.mem_of_getElem? (sS_cps hcc)) with rfl | rfl <;> decide +kernel
    rw [e]
    exact ⟨rfl, _, rfl⟩
  repeat' (walk_at "m")
  refine ca_all (bs := List.replicate l.length true) hA'.handled (.inl (by rw [charsD_len, sS_len, boolsD]; simp [List.map_const'])) ?_
  repeat' (walk_at "m")
  rw [show (List.replicate l.length true).all id = true by simp]
  exact h
theorem need_words_ca {d : D} {ls : List Wd} (H : Facts C.B ad) (hA : AOk C 2) (hi : Items μ d (wD ls)) (hw : WOk ls) (hl : ls.length ≤ 24) (h : P .none μ) : Ca C (.ref ad.f_need_words) [d] μ P X := by
  refine ca_def1 ["sign", "other"] H.f_need_words hA rfl rfl (by decide +kernel) (by decide +kernel) fun q L C' hB hA' K N hE => ?_
  rw [← hB] at H
  have G := H.g
  unfold gt bt ct at G
  simp only [List.map]
  repeat' (walk_at "m")
  refine ca_isi (hi.cons _).kd (by decide) ⟨_, rfl, fun q => absurd q (by decide), fun _ => ?_⟩
  repeat' (walk_at "m")
  refine ca_len (hi.cons _) (by rw [wD_len]; lia) ?_
  rw [wD_len]
  repeat' (walk_at "m")
  refine ⟨fun q => absurd q (by simp; lia), fun _ => ?_⟩
  repeat' (walk_at "m")
  refine ev_cmap ["word"] K ?_ (by decide +kernel) (by decide +kernel) (by decide +kernel) (by decide +kernel) rfl (fun _ _ => rfl) (fun _ => rfl)
  repeat' (walk_at "m")
  refine ⟨wD ls, fun _ => .bool true, itb_list hA'.handled (compI_items (hi.cons _)), by rw [wD_len]; exact Nat.le_trans hl (by decide), ?_, ?_⟩
  · intro j y hy cl Lc K2 N2 hcl
    obtain ⟨l, hl', rfl⟩ := wD_at hy
    have hb := hw.bits l (List.mem_of_getElem? hl')
    simp only [List.map]
    repeat' (walk_at "m")
    refine is_word_ca H hA' hb.1.1 hb.1.2 hb.2 ?_
    exact ⟨rfl, _, rfl⟩
  repeat' (walk_at "m")
  refine ca_all (bs := List.replicate ls.length true) hA'.handled (.inl (by rw [wD_len, boolsD]; simp [List.map_const'])) ?_
  rw [show (List.replicate ls.length true).all id = true by simp]
  refine ⟨_, rfl, fun q => absurd q (by decide), fun _ => ?_⟩
  repeat' (walk_at "m")
  refine ⟨fun q => absurd q (by decide), fun _ => ?_⟩
  repeat' (walk_at "m")
  refine ex_for hE ?_ (fun _ _ => rfl) (fun _ => rfl)
  repeat' (walk_at "m")
  refine ca_len (hi.cons _) (by rw [wD_len]; lia) ?_
  rw [wD_len]
  repeat' (walk_at "m")
  refine ca_range1 ?_
  refine forF (rngList 0 1 ((ls.length : Int) - 0).toNat) (fun i (v : Option D × Option D) => [some d, v.1, v.2]) (fun i _ => μ) (fun _ _ => True) (none, none) (itb_range hA'.handled (by decide) (by decide) (by lia) (by lia)) trivial rfl rfl ?_ ?_
  · rintro i x v hx -
    obtain ⟨hi', rfl⟩ := rngList_get hx
    have hi2 : i < ls.length := by lia
    have ex : D.int (0 + (i : Int) * 1) = D.int (i : Int) := by congr 1; lia
    rw [ex]
    repeat' (walk_at "m")
    refine ex_for hE ?_ (fun _ _ => rfl) (fun _ => rfl)
    repeat' (walk_at "m")
    refine ca_len (hi.cons _) (by rw [wD_len]; lia) ?_
    rw [wD_len]
    repeat' (walk_at "m")
    refine ca_range1 ?_
    refine forF (rngList 0 1 ((ls.length : Int) - 0).toNat) (fun j (v : Option D) => [some d, some (.int i), v]) (fun j _ => μ) (fun _ _ => True) v.2 (itb_range hA'.handled (by decide) (by decide) (by lia) (by lia)) trivial rfl rfl ?_ ?_
    · rintro j x v hx -
      obtain ⟨hj', rfl⟩ := rngList_get hx
      have hj2 : j < ls.length := by lia
      have ex : D.int (0 + (j : Int) * 1) = D.int (j : Int) := by congr 1; lia
      rw [ex]
      repeat' (walk_at "m")
      refine ⟨fun h1 => ?_, fun h1 => ?_⟩
      · have hij : i ≠ j := by simp at h1; lia
        repeat' (walk_at "m")
        refine ev_starts ?_ rfl rfl rfl
        repeat' (walk_at "m")
        refine sub_list (hi.cons _) (by lia) (wD_get (i := j) (by lia)) (by lia) rfl ⟨_, rfl, ?_⟩
        repeat' (walk_at "m")
        refine sub_list (hi.cons _) (by lia) (wD_get (i := i) (by lia)) (by lia) rfl ⟨_, rfl, ?_⟩
        rw [starts_no (hw.apartAt (i := i) (j := j) (by simp [List.getD, hi2]) (by simp [List.getD, hj2]) hij)]
        refine ⟨_, rfl, fun q => absurd q (by decide), fun _ => ?_⟩
        repeat' (walk_at "m")
        refine ⟨fun q => absurd q (by decide), fun _ => ?_⟩
        repeat' (walk_at "m")
        exact ⟨some (.int j), trivial, rfl⟩
      · refine ⟨fun q => absurd q (by decide), fun _ => ?_⟩
        repeat' (walk_at "m")
        exact ⟨some (.int j), trivial, rfl⟩
    · rintro v -
      repeat' (walk_at "m")
      exact ⟨(some (.int i), v), trivial, rfl⟩
  · rintro v -
    repeat' (walk_at "m")
    exact h
end

section
variable {C : Cx} {ad : Ad} {μ : List MO} {P : Post} {X : XPost} {n : Nat}
theorem sS_ok {l : Wd} (h : Bt l) : PyData.strOk (sS l) = true := by
  show l.toArray.all (· < 0x110000) = true
  simp only [List.all_toArray, List.all_eq_true, decide_eq_true_eq]
  intro c hc
  rcases h c hc with rfl | rfl <;> decide
theorem eqv_words (l t : Wd) : PyData.eqv (toP (.str (sS l))) (toP (.str (sS t))) = decide (l = t) := by
  simp only [toP, PyData.eqv]
  rw [Bool.eq_iff_iff, beq_iff_eq, decide_eq_true_eq, sS_inj]
theorem in_words (ls : List Wd) (t : Wd) : ((toPs (wD ls)).any fun y => PyData.eqv y (toP (.str (sS t)))) = decide (t ∈ ls) := by
  rw [toPs_map, wD, List.any_map, List.any_map, Bool.eq_iff_iff, List.any_eq_true, decide_eq_true_eq]
  constructor
  · rintro ⟨l, hl, h⟩
    have : l = t := by simpa [eqv_words] using h
    rw [← this]; exact hl
  · intro h
    exact ⟨t, h, by simp [eqv_words]⟩
theorem inOk_words {ls : List Wd} {t : Wd} (hw : ∀ l ∈ ls, Bt l) (ht : Bt t) (hu : C.A.units + 64 < cLine) : InOk C (wD ls) (.str (sS t)) where
  pd := rfl
  pxs := plainDs_of fun d hd => by obtain ⟨l, _, rfl⟩ := List.mem_map.mp hd; rfl
  cd := sS_ok ht
  cxs := canLayAll_of fun d hd => by obtain ⟨l, hl, rfl⟩ := List.mem_map.mp hd; exact sS_ok (hw l hl)
  dep := by show 0 ≤ 40; decide
  units := hu
theorem idx_words {ls : List Wd} {t : Wd} (hw : ∀ l ∈ ls, Bt l) (hn : ls.length ≤ 1000) (h : t ∈ ls) (hu : C.A.units + 64 < cLine) : IdxOk C (wD ls) (.str (sS t)) (ls.idxOf t) where
  ok := inOk_words hw (hw t h) hu
  lt := by rw [wD_len]; exact List.idxOf_lt_length_of_mem h
  few := by rw [wD_len]; exact hn
  hit := by
    have hl := List.idxOf_lt_length_of_mem h
    rw [toPs_map, wD, List.map_map, List.getElem?_map, List.getElem?_eq_getElem hl]
    simp only [Option.map_some, Function.comp, eqv_words]
    rw [List.getElem_idxOf]; simp
  no := fun m hm => by
    have hl := List.idxOf_lt_length_of_mem h
    rw [toPs_map, wD, List.map_map, List.getElem?_map, List.getElem?_eq_getElem (by lia)]
    simp only [Option.map_some, Function.comp, eqv_words]
    have : ls[m] ≠ t := fun e => by
      have := List.not_of_lt_findIdx (p := (· == t)) (xs := ls) (i := m) hm
      simp [e] at this
    simp [this]
theorem bits_in {c : Nat} (hc : c = 48 ∨ c = 49) : ((toPs [.str "0", .str "1"]).any fun y => PyData.eqv y (toP (.str (sS [c])))) = true := by
  rcases hc with rfl | rfl <;> rfl
theorem bits_ok {d : D} (h1 : plainD d = true) (h2 : (toP d).canLay0 = true) (h3 : (toP d).depth ≤ 40) (hu : C.A.units + 64 < cLine) : InOk C [.str "0", .str "1"] d := ⟨h1, by decide +kernel, h2, by decide +kernel, h3, hu⟩
theorem bt_on {p : Wd} {c : Nat} (hp : Bt p) (hc : c = 48 ∨ c = 49) : Bt (p ++ [c]) := fun x hx => by
  rcases List.mem_append.mp hx with hx | hx
  · exact hp x hx
  · rw [List.mem_singleton.mp hx]; exact hc
def rdM (c x dx aw af : Addr) (ls : List Wd) (p : Wd) (sg : List Int) : List MO :=
  [instM c x dx, attrM dx ["words", "ahead", "found"] [some (.ref aw), some (.str (sS p)), some (.ref af)], .list af (intsD sg), .list aw (wD ls)]
theorem perm_ends {α : Type} (a b : α) (l r : List α) : (a :: (l ++ b :: r)).Perm (b :: (l ++ a :: r)) :=
  (List.perm_middle.cons a).trans ((List.Perm.swap _ _ _).trans (List.perm_middle.symm.cons b))
theorem init_ca {x dx : Addr} {d : D} {ls : List Wd} {w : MO} (H : Facts C.B ad) (hA : AOk C 3) (hi : Items (w :: instM ad.c_Reader x dx :: attrM dx ["words", "ahead", "found"] [none, none, none] :: μ) d (wD ls)) (hw : WOk ls) (hl : ls.length ≤ 24)
    (h : ∀ aw af, P .none (w :: (rdM ad.c_Reader x dx aw af ls [] [] ++ μ))) : Ca C (.ref ad.m_init) [.ref x, d] (w :: instM ad.c_Reader x dx :: attrM dx ["words", "ahead", "found"] [none, none, none] :: μ) P X := by
  refine ca_pm ?_
  refine ca_def2 [] H.m_init hA rfl rfl (by decide +kernel) (by decide +kernel) fun q L C' hB hA' K N hE => ?_
  rw [← hB] at H
  have G := H.g
  unfold gt bt ct at G
  have R := H.k_Reader
  simp only [List.map]
  repeat' (walk_at "m")
  refine need_words_ca H hA' (hi.cons _) hw hl ?_
  repeat' (walk_at "m")
  refine ex_setattr R (.head _) ?_ rfl
  repeat' (walk_at "m")
  refine ca_listO (hi.cons _) (by rw [wD_len]; exact Nat.le_trans hl (by decide)) fun aw => ?_
  refine ⟨x, dx, _, _, _, _, fun P' h' => ?_, .tail _ (.tail _ (.tail _ (.head _))), .there (.there (.there (.there .here))), .here, by decide, by decide, ?_⟩
  · repeat' (walk_at "m")
    exact h'
  repeat' (walk_at "m")
  refine ex_setattr R (.tail _ (.head _)) ?_ rfl
  repeat' (walk_at "m")
  refine ⟨x, dx, _, _, _, _, fun P' h' => ?_, .tail _ (.tail _ (.tail _ (.head _))), .there (.there (.there (.there .here))), .there .here, by decide, by decide, ?_⟩
  · repeat' (walk_at "m")
    exact h'
  repeat' (walk_at "m")
  refine ex_setattr R (.tail _ (.tail _ (.head _))) ?_ rfl
  refine ev_ListO ?_ rfl
  repeat' (walk_at "m")
  refine ⟨by decide, _, _, rfl, fun af => ?_⟩
  refine ⟨x, dx, _, _, _, _, fun P' h' => ?_, .tail _ (.tail _ (.tail _ (.tail _ (.head _)))), .there (.there (.there (.there (.there .here)))), .there (.there .here), by decide, by decide, ?_⟩
  · repeat' (walk_at "m")
    exact h'
  repeat' (walk_at "m")
  refine ⟨_, ?_, h aw af⟩
  exact ((List.perm_append_comm (l₁ := [MO.list af [], MO.list aw (wD ls)]) (l₂ := [w, instM ad.c_Reader x dx, attrM dx ["words", "ahead", "found"] [some (.ref aw), some (.str (sS [])), some (.ref af)]])).append_right μ)
theorem held_ca {x dx : Addr} {ls : List Wd} {p : Wd} {sg : List Int} {aw af : Addr} (H : Facts C.B ad) (hA : AOk C 1) (hm : ∀ m ∈ rdM ad.c_Reader x dx aw af ls p sg, m ∈ μ) (h : P (.str (sS p)) μ) : Ca C (.ref ad.m_held) [.ref x] μ P X := by
  refine ca_def1 [] H.m_held hA rfl rfl (by decide +kernel) (by decide +kernel) fun q L C' hB hA' K N hE => ?_
  rw [← hB] at H
  have G := H.g
  unfold gt bt ct at G
  have R := H.k_Reader
  simp only [List.map]
  repeat' (walk_at "m")
  refine ev_attr R (.tail _ (.head _)) (fun P' h' => ?_) (.tail _ (hm _ (.head _))) (.tail _ (hm _ (.tail _ (.head _)))) (.there .here) rfl ?_
  · repeat' (walk_at "m")
    exact h'
  repeat' (walk_at "m")
  exact h
theorem done_ca {x dx : Addr} {ls : List Wd} {p : Wd} {sg : List Int} {aw af : Addr} {w : MO} (H : Facts C.B ad) (hA : AOk C 1) (hm : ∀ m ∈ rdM ad.c_Reader x dx aw af ls p sg, m ∈ w :: μ) (hl : sg.length ≤ 1000) (h : ∀ a, P (.ref a) (w :: .list a (intsD sg) :: μ)) : Ca C (.ref ad.m_done) [.ref x] (w :: μ) P X := by
  refine ca_pm ?_
  refine ca_def1 [] H.m_done hA rfl rfl (by decide +kernel) (by decide +kernel) fun q L C' hB hA' K N hE => ?_
  rw [← hB] at H
  have G := H.g
  unfold gt bt ct at G
  have R := H.k_Reader
  simp only [List.map]
  repeat' (walk_at "m")
  refine ev_attr R (.tail _ (.tail _ (.head _))) (fun P' h' => ?_) (.tail _ (hm _ (.head _))) (.tail _ (hm _ (.tail _ (.head _)))) (.there (.there .here)) rfl ?_
  · repeat' (walk_at "m")
    exact h'
  repeat' (walk_at "m")
  refine ca_listO (.inr ⟨af, rfl, .tail _ (hm _ (.tail _ (.tail _ (.head _))))⟩) (by rw [intsD_len]; exact Nat.le_trans hl (by decide)) fun a => ?_
  repeat' (walk_at "m")
  exact ⟨_, .swap _ _ _, h a⟩
theorem again_ca {x dx : Addr} {ls : List Wd} {p : Wd} {sg : List Int} {aw af : Addr} {w : MO} (H : Facts C.B ad) (hA : AOk C 1) (h : ∀ a, P .none (w :: (rdM ad.c_Reader x dx aw a ls [] [] ++ μ))) : Ca C (.ref ad.m_again) [.ref x] (w :: (rdM ad.c_Reader x dx aw af ls p sg ++ μ)) P X := by
  refine ca_dp ?_
  refine ca_pm ?_
  refine ca_def1 [] H.m_again hA rfl rfl (by decide +kernel) (by decide +kernel) fun q L C' hB hA' K N hE => ?_
  rw [← hB] at H
  have G := H.g
  unfold gt bt ct at G
  have R := H.k_Reader
  unfold rdM
  simp only [List.map, List.cons_append, List.nil_append]
  refine ex_seq ?_
  refine ex_setattr R (.tail _ (.head _)) ?_ rfl
  repeat' (walk_at "m")
  refine ⟨x, dx, _, _, _, _, fun P' h' => ?_, .tail _ (.tail _ (.head _)), .there (.there (.there .here)), .there .here, by decide, by decide, ?_⟩
  · repeat' (walk_at "m")
    exact h'
  repeat' (walk_at "m")
  refine ex_setattr R (.tail _ (.tail _ (.head _))) ?_ rfl
  refine ev_ListO ?_ rfl
  repeat' (walk_at "m")
  refine ⟨by decide, _, _, rfl, fun a => ?_⟩
  refine ⟨x, dx, _, _, _, _, fun P' h' => ?_, .tail _ (.tail _ (.tail _ (.head _))), .there (.there (.there (.there .here))), .there (.there .here), by decide, by decide, ?_⟩
  · repeat' (walk_at "m")
    exact h'
  repeat' (walk_at "m")
  exact ⟨_, perm_ends (.list a []) (.list af (intsD sg)) [w, instM ad.c_Reader x dx, attrM dx ["words", "ahead", "found"] [some (.ref aw), some (.str (sS [])), some (.ref a)]] (.list aw (wD ls) :: μ), dpP_h (h a)⟩
theorem SetM.app {x x' : MO} {μ μ' : List MO} : ∀ (ν : List MO), SetM x x' μ μ' → SetM x x' (ν ++ μ) (ν ++ μ')
  | [], h => h
  | _ :: ν, h => .there (SetM.app ν h)
theorem SetL.app {a : Addr} {ds ds' : List D} {μ μ' : List MO} : ∀ (ν : List MO), SetL a ds ds' μ μ' → SetL a ds ds' (ν ++ μ) (ν ++ μ')
  | [], h => h
  | _ :: ν, h => .there (SetL.app ν h)
theorem take_ca {x dx : Addr} {ls : List Wd} {p : Wd} {sg : List Int} {aw af : Addr} {ν : List MO} {c : Nat} (H : Facts C.B ad) (hA : AOk C 1) (hp : p.length ≤ 12) (hb : Bt p) (hn : ls.length ≤ 24) (hw : WOk ls) (hs : sg.length ≤ 100) (hc : c = 48 ∨ c = 49)
    (h1 : p ++ [c] ∈ ls → P (.int (ls.idxOf (p ++ [c]) : Nat)) (ν ++ (rdM ad.c_Reader x dx aw af ls [] (sg ++ [((ls.idxOf (p ++ [c]) : Nat) : Int)]) ++ μ)))
    (h2 : p ++ [c] ∉ ls → (∃ l ∈ ls, (p ++ [c]) <+: l) → P .none (ν ++ (rdM ad.c_Reader x dx aw af ls (p ++ [c]) sg ++ μ)))
    (h3 : (∀ l ∈ ls, ¬ (p ++ [c]) <+: l) → X (.ref ad.c_BadBits) (ν ++ (rdM ad.c_Reader x dx aw af ls p sg ++ μ))) :
    Ca C (.ref ad.m_take) [.ref x, .str (sS [c])] (ν ++ (rdM ad.c_Reader x dx aw af ls p sg ++ μ)) P X := by
  refine ca_def2 ["text", "sign"] H.m_take hA rfl rfl (by decide +kernel) (by decide +kernel) fun q L C' hB hA' K N hE => ?_
  rw [← hB] at H
  have G := H.g
  unfold gt bt ct at G
  have KB := H.c_BadBits.to
  have R := H.k_Reader
  unfold rdM
  simp only [List.map, List.cons_append, List.nil_append]
  have hu : C'.A.units + 64 < cLine := by have := hA'.units; lia
  have hwb : ∀ l ∈ ls, Bt l := fun l hl => (hw.bits l hl).2
  repeat' (walk_at "m")
  refine ev_Tuple ?_ rfl
  repeat' (walk_at "m")
  refine ⟨by decide, ?_⟩
  refine cmp_notInT (bits_ok (d := .str (sS [c])) rfl (sS_ok (l := [c]) (bt_on (p := []) (fun _ q => nomatch q) hc)) (by show 0 ≤ 40; decide) hu) (.inl rfl) ?_
  rw [bits_in hc]
  refine ⟨fun q => absurd q (by decide), fun _ => ?_⟩
  repeat' (walk_at "m")
  refine ev_attr R (.tail _ (.head _)) (fun P' h' => ?_) (.tail _ (List.mem_append_right ν (.head _))) (.tail _ (List.mem_append_right ν (.tail _ (.head _)))) (.there .here) rfl ?_
  · repeat' (walk_at "m")
    exact h'
  repeat' (walk_at "m")
  refine bin_add_str (by rw [sS_len, sS_len]; simp; lia) ?_
  rw [sS_add]
  repeat' (walk_at "m")
  refine ev_attr R (.head _) (fun P' h' => ?_) (.tail _ (List.mem_append_right ν (.head _))) (.tail _ (List.mem_append_right ν (.tail _ (.head _)))) .here rfl ?_
  · repeat' (walk_at "m")
    exact h'
  refine cmp_inL (inOk_words hwb (bt_on hb hc) hu) (.inl rfl) (.inr ⟨aw, _, rfl, .tail _ (List.mem_append_right ν (.tail _ (.tail _ (.tail _ (.head _))))), rfl⟩) ?_
  rw [in_words]
  refine ⟨fun q => ?_, fun q => ?_⟩
  · have q := of_decide_eq_true q
    repeat' (walk_at "m")
    refine ev_index ?_ rfl rfl rfl
    refine ev_attr R (.head _) (fun P' h' => ?_) (.tail _ (List.mem_append_right ν (.head _))) (.tail _ (List.mem_append_right ν (.tail _ (.head _)))) .here rfl ?_
    · repeat' (walk_at "m")
      exact h'
    refine ⟨aw, _, rfl, .tail _ (List.mem_append_right ν (.tail _ (.tail _ (.tail _ (.head _))))), ?_⟩
    repeat' (walk_at "m")
    refine ⟨_, _, .tail _ (List.mem_append_right ν (.tail _ (.tail _ (.tail _ (.head _))))), idx_words hwb (by lia) q hu, ?_⟩
    repeat' (walk_at "m")
    refine ex_setattr R (.tail _ (.head _)) ?_ rfl
    repeat' (walk_at "m")
    refine ⟨x, dx, _, _, _, _, fun P' h' => ?_, .tail _ (List.mem_append_right ν (.head _)), .there (.app ν (.there .here)), .there .here, by decide, by decide, ?_⟩
    · repeat' (walk_at "m")
      exact h'
    repeat' (walk_at "m")
    refine ev_append ?_ rfl rfl rfl
    refine ev_attr R (.tail _ (.tail _ (.head _))) (fun P' h' => ?_) (.tail _ (List.mem_append_right ν (.head _))) (.tail _ (List.mem_append_right ν (.tail _ (.head _)))) (.there (.there .here)) rfl ?_
    · repeat' (walk_at "m")
      exact h'
    refine ⟨af, _, rfl, .tail _ (List.mem_append_right ν (.tail _ (.tail _ (.head _)))), ?_⟩
    repeat' (walk_at "m")
    refine ⟨_, _, .there (.app ν (.there (.there .here))), by rw [intsD_len]; lia, ?_⟩
    repeat' (walk_at "m")
    have h1 := h1 q
    rw [show intsD sg ++ [D.int (ls.idxOf (p ++ [c]) : Nat)] = intsD (sg ++ [((ls.idxOf (p ++ [c]) : Nat) : Int)]) by simp [intsD]]
    exact h1
  · have q := of_decide_eq_false q
    repeat' (walk_at "m")
    refine ev_cmap ["word"] K ?_ (by decide +kernel) (by decide +kernel) (by decide +kernel) (by decide +kernel) rfl (fun _ _ => rfl) (fun _ => rfl)
    refine ev_attr R (.head _) (fun P' h' => ?_) (.tail _ (List.mem_append_right ν (.head _))) (.tail _ (List.mem_append_right ν (.tail _ (.head _)))) .here rfl ?_
    · repeat' (walk_at "m")
      exact h'
    refine ⟨wD ls, fun i => .bool (Txt.startswith (sS (ls.getD i [])) (sS (p ++ [c]))), itb_list hA'.handled (compI_items (.inr ⟨aw, rfl, .tail _ (List.mem_append_right ν (.tail _ (.tail _ (.tail _ (.head _)))))⟩)), by rw [wD_len]; exact Nat.le_trans hn (by decide), ?_, ?_⟩
    · intro i y hy cl Lc K2 N2 hcl
      obtain ⟨l, hl, rfl⟩ := wD_at hy
      have el : ls.getD i [] = l := by simp [List.getD, hl]
      simp only [List.map]
      repeat' (walk_at "m")
      refine ev_starts ?_ rfl rfl rfl
      repeat' (walk_at "m")
      refine ⟨_, rfl, ?_⟩
      repeat' (walk_at "m")
      refine ⟨_, rfl, ?_⟩
      exact ⟨by rw [el], _, rfl⟩
    have eb : (List.range (wD ls).length).map (fun i => D.bool (Txt.startswith (sS (ls.getD i [])) (sS (p ++ [c])))) = boolsD (ls.map fun l => Txt.startswith (sS l) (sS (p ++ [c]))) := by
      rw [wD_len]
      apply List.ext_getElem
      · simp [boolsD]
      · intro i h1 h2
        simp at h1
        simp [boolsD, List.getD, h1]
    rw [eb]
    repeat' (walk_at "m")
    refine ca_any hA'.handled (.inl rfl) ?_
    rw [List.any_map]
    refine ⟨_, rfl, fun q2 => ?_, fun q2 => ?_⟩
    · repeat' (walk_at "m")
      refine h3 fun l hl hpre => ?_
      have : (ls.any (id ∘ fun l => Txt.startswith (sS l) (sS (p ++ [c])))) = true := List.any_eq_true.mpr ⟨l, hl, (starts_iff _ _).mpr hpre⟩
      rw [this] at q2; cases q2
    · repeat' (walk_at "m")
      refine ex_setattr R (.tail _ (.head _)) ?_ rfl
      repeat' (walk_at "m")
      refine ⟨x, dx, _, _, _, _, fun P' h' => ?_, .tail _ (List.mem_append_right ν (.head _)), .there (.app ν (.there .here)), .there .here, by decide, by decide, ?_⟩
      · repeat' (walk_at "m")
        exact h'
      repeat' (walk_at "m")
      have q2 : (ls.any (id ∘ fun l => Txt.startswith (sS l) (sS (p ++ [c])))) = true := by simpa using q2
      obtain ⟨l, hl, hpre⟩ := List.any_eq_true.mp q2
      exact h2 q ⟨l, hl, (starts_iff _ _).mp hpre⟩
theorem take_bad {x dx : Addr} {ls : List Wd} {p : Wd} {sg : List Int} {aw af : Addr} {ν : List MO} {d : D} (H : Facts C.B ad) (hA : AOk C 1) (hd : plainD d = true ∧ (toP d).canLay0 = true ∧ (toP d).depth ≤ 40) (hno : ((toPs [.str "0", .str "1"]).any fun y => PyData.eqv y (toP d)) = false)
    (h3 : X (.ref ad.c_BadBits) (ν ++ (rdM ad.c_Reader x dx aw af ls p sg ++ μ))) : Ca C (.ref ad.m_take) [.ref x, d] (ν ++ (rdM ad.c_Reader x dx aw af ls p sg ++ μ)) P X := by
  refine ca_def2 ["text", "sign"] H.m_take hA rfl rfl (by decide +kernel) (by decide +kernel) fun q L C' hB hA' K N hE => ?_
  rw [← hB] at H
  have G := H.g
  unfold gt bt ct at G
  have KB := H.c_BadBits.to
  simp only [List.map]
  have hu : C'.A.units + 64 < cLine := by have := hA'.units; lia
  repeat' (walk_at "m")
  refine ev_Tuple ?_ rfl
  repeat' (walk_at "m")
  refine ⟨by decide, ?_⟩
  refine cmp_notInT (bits_ok hd.1 hd.2.1 hd.2.2 hu) (.inl rfl) ?_
  rw [hno]
  refine ⟨fun _ => ?_, fun q => absurd q (by decide)⟩
  repeat' (walk_at "m")
  exact h3
end

section
variable {C : Cx} {ad : Ad} {μ : List MO} {P : Post} {X : XPost} {n : Nat}
theorem ex_cutM {env : Env} {α : Type} {L : Addr} {kn : List (Str × NameKind)} {ns : List Str} {vs0 : List (Option D)} {st : Stmt} {ss : List Stmt} {P : Fw → List MO → Prop} (vs : α → List (Option D)) (ms : α → List MO) (R : α → Prop) (h : Ex1 C env (.frame L kn ns vs0 :: μ) st (Cut (fun μ' => ∃ a, R a ∧ μ' = .frame L kn ns (vs a) :: ms a) P) X) (h2 : ∀ a, R a → Ex C env (.frame L kn ns (vs a) :: ms a) ss P X) : Ex C env (.frame L kn ns vs0 :: μ) (st :: ss) P X :=
  ex_cut _ h fun μ' ⟨a, ha, e⟩ => e ▸ h2 a ha
theorem Grown.two {ls : List Wd} (h : Grown ls) (hne : ls ≠ [[]]) : 2 ≤ ls.length := by
  have hk := h.kraft
  match ls with
  | [] => simp at hk
  | [w] =>
    exfalso
    simp only [List.map_cons, List.map_nil, List.sum_cons, List.sum_nil, Nat.add_zero] at hk
    have hw : w.length = 0 := by
      rcases Nat.eq_zero_or_pos w.length with q | q
      · exact q
      · have : 2 ^ (12 - w.length) ≤ 2 ^ 11 := Nat.pow_le_pow_right (by decide) (by lia)
        lia
    exact hne (by rw [List.eq_nil_of_length_eq_zero hw])
  | _ :: _ :: _ => simp
theorem words_ca {d : D} {sc : List Int} {w : MO} (H : Facts C.B ad) (hA : AOk C 2) (hi : Items (w :: μ) d (intsD sc)) (hl : sc.length ≤ 63) (h : ∀ a ls, WOk ls → ls.length ≤ 24 → P (.ref a) (w :: .list a (wD ls) :: μ)) : Ca C (.ref ad.f_law_words) [d, .int 0] (w :: μ) P X := by
  refine ca_jk ?_
  refine ca_def2 ["_law_many", "_law_words_here", "_law_k", "_law_shallow", "_law_word", "_law_at", "_law_found"] H.f_law_words hA rfl rfl (by decide +kernel) (by decide +kernel) fun q L C' hB hA' K N hE => ?_
  rw [← hB] at H
  have G := H.g
  unfold gt bt ct at G
  simp only [List.map]
  have hu : C'.A.units + 64 < cLine := by have := hA'.units; lia
  repeat' (walk_at "k")
  refine cell_ca H (hA'.mono (by decide)) (hi.cons _) hl (by decide) (by decide) ?_
  repeat' (walk_at "k")
  refine ex_cutF (fun m : Int => [some d, some (.int 0), some (.int m), none, none, none, none, none, none]) (fun m : Int => 0 ≤ m ∧ m ≤ 24) ?_ ?_
  · repeat' (walk_at "m")
    refine cell_ca H (hA'.mono (by decide)) (hi.cons _) hl (by decide) (by decide) ?_
    repeat' (walk_at "m")
    refine ⟨fun h1 => ?_, fun h1 => ?_⟩
    · repeat' (walk_at "m")
      refine cell_ca H (hA'.mono (by decide)) (hi.cons _) hl (by decide) (by decide) ?_
      repeat' (walk_at "m")
      exact ⟨_, ⟨Int.fmod_nonneg_of_pos _ (by decide), by have := Int.fmod_lt_of_pos ((cellV sc 0).fdiv 72) (show (0 : Int) < 25 by decide); lia⟩, rfl⟩
    · repeat' (walk_at "m")
      exact ⟨_, ⟨Int.fmod_nonneg_of_pos _ (by decide), by have := Int.fmod_lt_of_pos (cellV sc 0) (show (0 : Int) < 9 by decide); lia⟩, rfl⟩
  rintro m ⟨hm0, hm1⟩
  repeat' (walk_at "m")
  refine ⟨fun h0 => ?_, fun h0 => ?_⟩
  · repeat' (walk_at "m")
    refine ev_ListO ?_ rfl
    repeat' (walk_at "m")
    refine ⟨by decide, _, _, rfl, fun a => ?_⟩
    repeat' (walk_at "m")
    exact jkP (.perm (.swap _ _ _)) (h a [] ⟨(fun _ q => nomatch q), List.Pairwise.nil⟩ (by decide))
  · have hm2 : 1 ≤ m := by simp at h0; lia
    repeat' (walk_at "m")
    refine ev_ListO ?_ rfl
    repeat' (walk_at "m")
    refine ⟨by decide, _, _, rfl, fun a0 => ?_⟩
    repeat' (walk_at "m")
    refine ex_for hE ?_ (fun _ _ => rfl) (fun _ => rfl)
    repeat' (walk_at "m")
    refine cell_ca H (hA'.mono (by decide)) ((hi.cons _).cons _) hl (by decide) (by decide) ?_
    repeat' (walk_at "m")
    refine ca_range1 ?_
    have hr0 := Int.fmod_nonneg_of_pos (cellV sc (0 + 1)) (show (0 : Int) < 3 by decide)
    have hr1 := Int.fmod_lt_of_pos (cellV sc (0 + 1)) (show (0 : Int) < 3 by decide)
    generalize (cellV sc (0 + 1)).fmod 3 = r at hr0 hr1
    refine forF (rngList 0 1 ((m - 1 + r) - 0).toNat) (fun i (v : (Addr × List Wd) × Option D × Option D × Option D × Option D) => [some d, some (.int 0), some (.int m), some (.ref v.1.1), v.2.1, v.2.2.1, v.2.2.2.1, v.2.2.2.2, none]) (fun i v => .list v.1.1 (wD v.1.2) :: w :: μ)
      (fun i v => v.1.2.length = i + 1 ∧ Grown v.1.2) ((a0, [[]]), none, none, none, none) (itb_range hA'.handled (by decide) (by decide) (by lia) (by lia)) ⟨rfl, .start⟩ rfl rfl ?_ ?_
    · rintro i x ⟨⟨a, ls⟩, vk, vs, vw, va⟩ hx ⟨hR, hg⟩
      obtain ⟨hi', rfl⟩ := rngList_get hx
      dsimp only at hR hg ⊢
      have him : i ≤ 25 := by lia
      have hwb : ∀ l ∈ ls, Bt l := fun l hl => (hg.bits l hl).2
      repeat' (walk_at "m")
      refine ex_assign_cfilt ["_law_word"] K ?_ rfl (by decide +kernel) (by decide +kernel) (by decide +kernel) (by decide +kernel) rfl (fun _ _ => rfl) (fun _ => rfl)
      repeat' (walk_at "m")
      refine ⟨wD ls, fun j => decide ((ls.getD j []).length < 12), fun j => .str (sS (ls.getD j [])), itb_list hA'.handled (compI_items (.inr ⟨a, rfl, .tail _ (.head _)⟩)), by rw [wD_len]; exact Nat.le_trans (show _ ≤ 1000 by lia) (by decide), ?_, ?_⟩
      · intro j x hx cl Lc K2 N2 hcl
        obtain ⟨l, hl', rfl⟩ := wD_at hx
        have el : ls.getD j [] = l := by simp [List.getD, hl']
        have hlb := (hg.bits l (List.mem_of_getElem? hl')).1
        simp only [List.map]
        repeat' (walk_at "m")
        refine ca_len_str (by rw [sS_len]; lia) ?_
        rw [sS_len]
        repeat' (walk_at "m")
        have e : decide ((l.length : Int) < (12 : Int)) = decide ((ls.getD j []).length < 12) := by rw [el, decide_eq_decide]; lia
        rw [e]
        refine ⟨fun q => ⟨q, ?_⟩, fun q => ⟨q, _, rfl⟩⟩
        repeat' (walk_at "m")
        exact ⟨by rw [el], _, rfl⟩
      · rw [wD_len]
        have hf : ∀ x ∈ ((List.range ls.length).filter fun j => decide ((ls.getD j []).length < 12)).map (fun j => D.str (sS (ls.getD j []))), ∃ l ∈ ls, l.length < 12 ∧ x = .str (sS l) := fun x hx => by
          obtain ⟨j, hj, rfl⟩ := List.mem_map.mp hx
          obtain ⟨q1, q2⟩ := List.mem_filter.mp hj
          simp at q1
          exact ⟨ls.getD j [], by simp [List.getD, q1], of_decide_eq_true q2, rfl⟩
        have hne : 0 < (((List.range ls.length).filter fun j => decide ((ls.getD j []).length < 12)).map (fun j => D.str (sS (ls.getD j [])))).length := by
          obtain ⟨z, hz, hzb⟩ := hg.shallow (by lia)
          obtain ⟨j, hj, rfl⟩ := List.mem_iff_getElem.mp hz
          refine List.length_pos_of_mem (a := D.str (sS ls[j])) (List.mem_map.mpr ⟨j, List.mem_filter.mpr ⟨by simp; lia, ?_⟩, ?_⟩)
          · simpa [List.getD, hj] using hzb
          · simp [List.getD, hj]
        have hfl : (((List.range ls.length).filter fun j => decide ((ls.getD j []).length < 12)).map (fun j => D.str (sS (ls.getD j [])))).length ≤ 1000 := by
          rw [List.length_map]; refine Nat.le_trans (List.length_filter_le _ _) ?_
          rw [List.length_range]; lia
        generalize ((List.range ls.length).filter fun j => decide ((ls.getD j []).length < 12)).map (fun j => D.str (sS (ls.getD j []))) = fs at hf hfl hne
        repeat' (walk_at "m")
        refine cell_ca H (hA'.mono (by decide)) ((hi.cons _).cons _) hl (by lia) (by lia) ?_
        repeat' (walk_at "m")
        refine ca_len (.inl rfl) (by lia) ?_
        have hpos : (0 : Int) < fs.length := by lia
        repeat' (walk_at "m")
        have hc0 := Int.fmod_nonneg_of_pos (cellV sc (0 + 2 + (0 + (i : Int) * 1))) hpos
        have hc1 := Int.fmod_lt_of_pos (cellV sc (0 + 2 + (0 + (i : Int) * 1))) hpos
        generalize (cellV sc (0 + 2 + (0 + (i : Int) * 1))).fmod fs.length = c at hc0 hc1
        have hcn : c.toNat < fs.length := by lia
        obtain ⟨l, hll, hlb, ej⟩ := hf fs[c.toNat] (List.getElem_mem hcn)
        refine sub_list (.inl rfl) hc0 ((List.getElem?_eq_getElem hcn).trans (congrArg some ej)) (by lia) rfl ?_
        repeat' (walk_at "m")
        refine ev_index ?_ rfl rfl rfl
        repeat' (walk_at "m")
        refine ⟨a, _, rfl, .tail _ (.head _), ?_⟩
        repeat' (walk_at "m")
        refine ⟨_, _, .tail _ (.head _), idx_words hwb (by lia) hll hu, ?_⟩
        have hj : ls.idxOf l < ls.length := List.idxOf_lt_length_of_mem hll
        have ecut : ls = ls.take (ls.idxOf l) ++ l :: ls.drop (ls.idxOf l + 1) := by
          conv => lhs; rw [← List.take_append_drop (ls.idxOf l) ls, List.drop_eq_getElem_cons hj, List.getElem_idxOf hj]
        generalize ls.idxOf l = j at hj ecut
        repeat' (walk_at "m")
        have mm : MO.list a (wD ls) ∈ MO.list a (wD ls) :: w :: μ := .head _
        refine slc_list (lo := none) (hi := some (j : Int)) (.inr ⟨a, rfl, .tail _ mm⟩) (by rw [wD_len]; exact Nat.le_trans (show _ ≤ 1000 by lia) (by decide)) trivial rfl (by simp) (by simp) (.inr rfl) ?_
        repeat' (walk_at "m")
        refine ev_ListF ?_ rfl
        repeat' (walk_at "m")
        refine bin_add_str (by rw [sS_len]; have : (Str.ofString "0").length = 1 := rfl; lia) ?_
        repeat' (walk_at "m")
        refine bin_add_str (by rw [sS_len]; have : (Str.ofString "1").length = 1 := rfl; lia) ?_
        repeat' (walk_at "m")
        refine ⟨by simp, ?_⟩
        have e1 : cutD none (some (j : Int)) (wD ls) = wD (ls.take j) := by simp [cutD, wD]
        rw [e1]
        refine bin_add_list (.inl rfl) (.inl rfl) (by rw [wD_len]; simp; exact Nat.le_trans (show _ ≤ 1000 by lia) (by decide)) ?_
        repeat' (walk_at "m")
        refine slc_list (lo := some ((j : Int) + 1)) (hi := none) (.inr ⟨a, rfl, .tail _ mm⟩) (by rw [wD_len]; exact Nat.le_trans (show _ ≤ 1000 by lia) (by decide)) rfl trivial (by simp; lia) (by simp) (.inl rfl) ?_
        have e2 : cutD (some ((j : Int) + 1)) none (wD ls) = wD (ls.drop (j + 1)) := by
          have : ((j : Int) + 1).toNat = j + 1 := by lia
          simp [cutD, wD, this]
        rw [e2]
        have e3 : wD (ls.take j) ++ [D.str (sS l ++ Str.ofString "0"), D.str (sS l ++ Str.ofString "1")] ++ wD (ls.drop (j + 1)) = wD (ls.take j ++ (l ++ [48]) :: (l ++ [49]) :: ls.drop (j + 1)) := by
          have q0 : sS l ++ Str.ofString "0" = sS (l ++ [48]) := sS_add l [48]
          have q1 : sS l ++ Str.ofString "1" = sS (l ++ [49]) := sS_add l [49]
          rw [q0, q1]; simp [wD]
        refine bin_dp (bin_add_listO (.inl rfl) (.inl rfl) (by simp [wD_len]; exact Nat.le_trans (show _ ≤ 1000 by lia) (by decide)) fun a' => dpP_3 ?_)
        rw [e3]
        repeat' (walk_at "m")
        refine ⟨((a', _), _, _, _, _), ⟨?_, ?_⟩, rfl⟩
        · show List.length _ = _
          simp; lia
        · rw [ecut] at hg
          exact hg.split hlb
    · rintro ⟨⟨a, ls⟩, vk, vs, vw, va⟩ ⟨hR, hg⟩
      rw [rngList_length] at hR
      dsimp only at hR hg ⊢
      have hwb : ∀ l ∈ ls, Bt l := fun l hl => (hg.bits l hl).2
      have hlen : m ≤ ls.length ∧ ls.length ≤ 26 := by lia
      repeat' (walk_at "k")
      refine ex_cutM (fun v : Addr × List Wd => [some d, some (.int 0), some (.int m), some (.ref v.1), vk, vs, vw, va, none]) (fun v => .list v.1 (wD v.2) :: w :: μ) (fun v => WOk v.2 ∧ v.2.length ≤ 26) ?_ ?_
      · repeat' (walk_at "m")
        refine ev_ListF ?_ rfl
        repeat' (walk_at "m")
        refine ⟨by decide, ?_⟩
        refine cmp_eqP (.inr ⟨a, _, rfl, .tail _ (.head _), rfl⟩) (.inl rfl) (.lst (n := 0) fun x hx => by obtain ⟨l, hl, rfl⟩ := List.mem_map.mp hx; exact .str (sS_ok (hwb l hl))) (.lst (n := 0) fun x hx => by simp at hx; subst hx; exact .str (by decide +kernel)) (by decide) (by decide) hu fun c hc => ?_
        refine ⟨fun q => ?_, fun q => ?_⟩
        · repeat' (walk_at "m")
          refine ev_dp (ev_ListO ?_ rfl)
          repeat' (walk_at "m")
          refine ⟨by decide, _, _, rfl, fun a' => dpP_3 ?_⟩
          repeat' (walk_at "m")
          exact ⟨(a', [[48], [49]]), ⟨two_ok, show 2 ≤ 26 by decide⟩, rfl⟩
        · have hne : ls ≠ [[]] := fun e => by
            rw [hc.mpr (by rw [e]; rfl)] at q; cases q
          repeat' (walk_at "m")
          exact ⟨(a, ls), ⟨hg.ok (hg.two hne), hlen.2⟩, rfl⟩
      rintro ⟨a1, ws⟩ ⟨hws, hw26⟩
      dsimp only at hws hw26 ⊢
      repeat' (walk_at "m")
      refine ev_ListO ?_ rfl
      repeat' (walk_at "m")
      refine ⟨by decide, _, _, rfl, fun af => ?_⟩
      repeat' (walk_at "m")
      refine ex_for hE ?_ (fun _ _ => rfl) (fun _ => rfl)
      repeat' (walk_at "m")
      refine ca_len (.inr ⟨a1, rfl, .tail _ (.tail _ (.head _))⟩) (by rw [wD_len]; lia) ?_
      rw [wD_len]
      repeat' (walk_at "m")
      refine ca_min2 hA'.handled ?_
      have hk : (if (ws.length : Int) < m then (ws.length : Int) else m) ≤ ws.length ∧ (if (ws.length : Int) < m then (ws.length : Int) else m) ≤ 24 ∧ 0 ≤ (if (ws.length : Int) < m then (ws.length : Int) else m) := by split <;> lia
      generalize (if (ws.length : Int) < m then (ws.length : Int) else m) = k at hk
      obtain ⟨hk1, hk2, hk3⟩ := hk
      repeat' (walk_at "m")
      refine ca_range1 ?_
      refine forF (rngList 0 1 (k - 0).toNat) (fun i (v : (List Wd × List Wd) × Option D) => [some d, some (.int 0), some (.int m), some (.ref a1), v.2, vs, vw, va, some (.ref af)]) (fun i v => .list af (wD v.1.1) :: .list a1 (wD v.1.2) :: w :: μ)
        (fun i v => v.1.1.length = i ∧ (v.1.1 ++ v.1.2).Perm ws) (([], ws), vk) (itb_range hA'.handled (by decide) (by decide) (by lia) (by lia)) ⟨rfl, .refl _⟩ rfl rfl ?_ ?_
      · rintro i x ⟨⟨fs, rs⟩, vk⟩ hx ⟨h1, h2⟩
        obtain ⟨hi', rfl⟩ := rngList_get hx
        dsimp only at h1 h2 ⊢
        have hsum : fs.length + rs.length = ws.length := by rw [← List.length_append]; exact h2.length_eq
        repeat' (walk_at "m")
        refine ev_append ?_ rfl rfl rfl
        repeat' (walk_at "m")
        refine ⟨af, _, rfl, .tail _ (.head _), ?_⟩
        refine ev_pop ?_ rfl rfl rfl
        repeat' (walk_at "m")
        refine ⟨a1, _, rfl, .tail _ (.tail _ (.head _)), ?_⟩
        repeat' (walk_at "m")
        refine cell_ca H (hA'.mono (by decide)) (((hi.cons _).cons _).cons _) hl (by lia) (by lia) ?_
        repeat' (walk_at "m")
        refine ca_len (.inr ⟨a1, rfl, .tail _ (.tail _ (.head _))⟩) (by rw [wD_len]; lia) ?_
        rw [wD_len]
        have hpos : (0 : Int) < rs.length := by lia
        repeat' (walk_at "m")
        have hc0 := Int.fmod_nonneg_of_pos (cellV sc (0 + 30 + (0 + (i : Int) * 1))) hpos
        have hc1 := Int.fmod_lt_of_pos (cellV sc (0 + 30 + (0 + (i : Int) * 1))) hpos
        generalize (cellV sc (0 + 30 + (0 + (i : Int) * 1))).fmod rs.length = c at hc0 hc1
        have hcn : c.toNat < rs.length := by lia
        refine ⟨c, wD rs, _, _, rfl, hc0, wD_get hcn, .there (.there .here), by rw [wD_len]; lia, ?_⟩
        refine ⟨_, _, .there .here, by rw [wD_len]; lia, ?_⟩
        repeat' (walk_at "m")
        refine ⟨((fs ++ [rs.getD c.toNat []], rs.eraseIdx c.toNat), some (.int (0 + (i : Int) * 1))), ⟨?_, ?_⟩, ?_⟩
        · simp [h1]
        · exact take_part (by simp [List.getD, hcn]) h2
        · simp [wD, List.eraseIdx_eq_take_drop_succ]
      · rintro ⟨⟨fs, rs⟩, vk⟩ ⟨h1, h2⟩
        rw [rngList_length] at h1
        dsimp only at h1 h2 ⊢
        repeat' (walk_at "m")
        exact jkP (.swap (.drop rfl (.perm (.swap _ _ _)))) (h af fs (hws.part h2) (by lia))
end

section
variable {C : Cx} {ad : Ad} {μ : List MO} {P : Post} {X : XPost} {n : Nat}
inductive Out where
  | bad
  | sign (i : Nat)
  | on
def outD : Out → D
  | .bad => .tup [.str "refused", .str "BadBits"]
  | .sign i => .int i
  | .on => .none
def stepO (ls : List Wd) (t : Wd) : Out := if t ∈ ls then .sign (ls.idxOf t) else if ls.any (fun l => decide (t <+: l)) then .on else .bad
def nextW (p t : Wd) : Out → Wd
  | .bad => p
  | .sign _ => []
  | .on => t
inductive BitK : D → Option Nat → Prop
  | bit {c : Nat} : c = 48 ∨ c = 49 → BitK (.str (sS [c])) (some c)
  | bad {d : D} : Pb 1 d → ((toPs [.str "0", .str "1"]).any fun y => PyData.eqv y (toP d)) = false → BitK d none
def outK (ls : List Wd) (p : Wd) : Option Nat → Out
  | some c => stepO ls (p ++ [c])
  | none => .bad
def nextK (ls : List Wd) (p : Wd) : Option Nat → Wd
  | some c => nextW p (p ++ [c]) (stepO ls (p ++ [c]))
  | none => p
theorem sS_take (l : Wd) (k : Nat) : takeS (sS l) k = sS (l.take k) := by
  show (⟨(l.toArray.toList.take k).toArray⟩ : Str) = ⟨(l.take k).toArray⟩
  simp
theorem bt_take {l : Wd} {k : Nat} (h : Bt l) : Bt (l.take k) := fun c hc => h c (List.mem_of_mem_take hc)
theorem due_ca {a : Addr} {ls : List Wd} {p : Wd} {d : D} {k : Option Nat} {w : MO} (H : Facts C.B ad) (hA : AOk C 1) (hm : MO.list a (wD ls) ∈ w :: μ) (hn : ls.length ≤ 24) (hw : WOk ls) (hp : p.length ≤ 12) (hb : Bt p) (hk : BitK d k)
    (h : P (.tup [outD (outK ls p k), .str (sS (nextK ls p k))]) (w :: μ)) : Ca C (.ref ad.f_law_due) [.ref a, .str (sS p), d] (w :: μ) P X := by
  refine ca_def3 ["_law_more"] H.f_law_due hA rfl rfl (by decide +kernel) (by decide +kernel) fun q L C' hB hA' K N hE => ?_
  rw [← hB] at H
  have G := H.g
  unfold gt bt ct at G
  simp only [List.map]
  have hu : C'.A.units + 64 < cLine := by have := hA'.units; lia
  have hwb : ∀ l ∈ ls, Bt l := fun l hl => (hw.bits l hl).2
  repeat' (walk_at "m")
  cases hk with
  | bad hd hno =>
    obtain ⟨kk, hkk⟩ := hd.kd (μ := .frame L _ _ _ :: w :: μ)
    refine ca_isi hkk (by decide) ⟨_, rfl, fun q => ?_, fun q => ?_⟩
    · repeat' (walk_at "m")
      refine ⟨fun _ => ?_, fun q => absurd q (by decide)⟩
      repeat' (walk_at "m")
      refine ev_Tuple ?_ rfl
      repeat' (walk_at "m")
      refine ev_Tuple ?_ rfl
      repeat' (walk_at "m")
      refine ⟨by decide, ?_⟩
      repeat' (walk_at "m")
      refine ⟨by simp, ?_⟩
      repeat' (walk_at "m")
      exact h
    · repeat' (walk_at "m")
      refine ev_ListF ?_ rfl
      repeat' (walk_at "m")
      refine ⟨by decide, ?_⟩
      have pd := hd.plain
      refine cmp_notInL (bits_ok pd.1 pd.2.1 (by lia) hu) (.inl rfl) (.inl rfl) ?_
      rw [hno]
      refine ⟨fun _ => ?_, fun q => absurd q (by decide)⟩
      repeat' (walk_at "m")
      refine ⟨fun _ => ?_, fun q => absurd q (by decide)⟩
      repeat' (walk_at "m")
      refine ev_Tuple ?_ rfl
      repeat' (walk_at "m")
      refine ev_Tuple ?_ rfl
      repeat' (walk_at "m")
      refine ⟨by decide, ?_⟩
      repeat' (walk_at "m")
      refine ⟨by simp, ?_⟩
      repeat' (walk_at "m")
      exact h
  | @bit c hc =>
    refine ca_isi (.str _) (by decide) ⟨_, rfl, fun q => absurd q (by decide), fun _ => ?_⟩
    repeat' (walk_at "m")
    refine ev_ListF ?_ rfl
    repeat' (walk_at "m")
    refine ⟨by decide, ?_⟩
    refine cmp_notInL (bits_ok (d := .str (sS [c])) rfl (sS_ok (l := [c]) (bt_on (p := []) (fun _ q => nomatch q) hc)) (by show 0 ≤ 40; decide) hu) (.inl rfl) (.inl rfl) ?_
    rw [bits_in hc]
    refine ⟨fun q => absurd q (by decide), fun _ => ?_⟩
    repeat' (walk_at "m")
    refine ⟨fun q => absurd q (by decide), fun _ => ?_⟩
    repeat' (walk_at "m")
    refine bin_add_str (by rw [sS_len, sS_len]; simp; lia) ?_
    rw [sS_add]
    repeat' (walk_at "m")
    have hbt := bt_on hb hc
    have htl : (p ++ [c]).length ≤ 13 := by simp; lia
    change P (.tup [outD (stepO ls (p ++ [c])), .str (sS (nextW p (p ++ [c]) (stepO ls (p ++ [c]))))]) (w :: μ) at h
    generalize p ++ [c] = t at h hbt htl
    refine cmp_inL (inOk_words hwb hbt hu) (.inl rfl) (.inr ⟨a, _, rfl, .tail _ hm, rfl⟩) ?_
    rw [in_words]
    refine ⟨fun q => ?_, fun q => ?_⟩
    · have q := of_decide_eq_true q
      rw [stepO, if_pos q] at h
      repeat' (walk_at "m")
      refine ev_Tuple ?_ rfl
      repeat' (walk_at "m")
      refine ev_index ?_ rfl rfl rfl
      repeat' (walk_at "m")
      refine ⟨a, _, rfl, .tail _ hm, ?_⟩
      repeat' (walk_at "m")
      refine ⟨_, _, .tail _ hm, idx_words hwb (by lia) q hu, ?_⟩
      repeat' (walk_at "m")
      refine ⟨by simp, ?_⟩
      repeat' (walk_at "m")
      exact h
    · have q := of_decide_eq_false q
      rw [stepO, if_neg q] at h
      repeat' (walk_at "m")
      refine ev_cfilt ["_law_word"] K ?_ (by decide +kernel) (by decide +kernel) (by decide +kernel) (by decide +kernel) rfl (fun _ _ => rfl) (fun _ => rfl)
      repeat' (walk_at "m")
      refine ⟨wD ls, fun j => decide (t <+: ls.getD j []), fun j => .str (sS (ls.getD j [])), itb_list hA'.handled (compI_items (.inr ⟨a, rfl, .tail _ hm⟩)), by rw [wD_len]; exact Nat.le_trans (show _ ≤ 1000 by lia) (by decide), ?_, ?_⟩
      · intro j x hx cl Lc K2 N2 hcl
        obtain ⟨l, hl', rfl⟩ := wD_at hx
        have el : ls.getD j [] = l := by simp [List.getD, hl']
        have hlb := hw.bits l (List.mem_of_getElem? hl')
        simp only [List.map]
        repeat' (walk_at "m")
        refine ca_len_str (by rw [sS_len]; lia) ?_
        rw [sS_len]
        refine slc_str (by lia) (by rw [sS_len]; lia) ?_
        rw [sS_take, Int.toNat_natCast]
        repeat' (walk_at "m")
        refine cmp_eqP (.inl rfl) (.inl rfl) (.str (n := 0) (sS_ok (bt_take hlb.2))) (.str (n := 0) (sS_ok hbt)) (by decide) (by decide) hu fun cc hcc => ?_
        have e : cc = decide (t <+: ls.getD j []) := by
          rw [Bool.eq_iff_iff, hcc, el, decide_eq_true_eq, D.str.injEq, sS_inj, List.prefix_iff_eq_take]
          exact eq_comm
        rw [e]
        refine ⟨fun q => ⟨q, ?_⟩, fun q => ⟨q, _, rfl⟩⟩
        repeat' (walk_at "m")
        exact ⟨by rw [el], _, rfl⟩
      · repeat' (walk_at "m")
        refine ev_ListF ?_ rfl
        repeat' (walk_at "m")
        refine ⟨by decide, ?_⟩
        have hpl : Pb 2 (.lst (((List.range (wD ls).length).filter fun j => decide (t <+: ls.getD j [])).map fun j => D.str (sS (ls.getD j [])))) := .lst fun y hy => by
          obtain ⟨i, hi, rfl⟩ := List.mem_map.mp hy
          have hlt : i < ls.length := by simpa [wD_len] using (List.mem_filter.mp hi).1
          exact .str (sS_ok (hwb _ (by simp [List.getD, hlt])))
        refine cmp_eqB (.inl rfl) (.inl rfl) hpl (.lst (n := 0) fun _ q => nomatch q) (by decide) (by decide) hu ?_
        rw [eqv_nil]
        have e : (((List.range (wD ls).length).filter fun j => decide (t <+: ls.getD j [])).map fun j => D.str (sS (ls.getD j []))).isEmpty = !(ls.any fun l => decide (t <+: l)) := by
          rw [Bool.eq_iff_iff, List.isEmpty_iff, List.map_eq_nil_iff, List.filter_eq_nil_iff, Bool.not_eq_true', Bool.eq_false_iff, ne_eq, List.any_eq_true, wD_len]
          constructor
          · rintro q ⟨l, hl, hx⟩
            obtain ⟨i, hi, rfl⟩ := List.mem_iff_getElem.mp hl
            exact q i (by simpa using hi) (by simpa [List.getD, hi] using hx)
          · intro q i hi hx
            have hlt : i < ls.length := by simpa using hi
            exact q ⟨ls.getD i [], by simp [List.getD, hlt], hx⟩
        rw [e]
        refine ⟨fun q2 => ?_, fun q2 => ?_⟩
        · rw [if_neg (by simpa using q2)] at h
          repeat' (walk_at "m")
          refine ev_Tuple ?_ rfl
          repeat' (walk_at "m")
          refine ev_Tuple ?_ rfl
          repeat' (walk_at "m")
          refine ⟨by decide, ?_⟩
          repeat' (walk_at "m")
          refine ⟨by simp, ?_⟩
          repeat' (walk_at "m")
          exact h
        · rw [if_pos (by simpa using q2)] at h
          repeat' (walk_at "m")
          refine ev_Tuple ?_ rfl
          repeat' (walk_at "m")
          refine ⟨by simp, ?_⟩
          repeat' (walk_at "m")
          exact h
end

section
variable {C : Cx} {ad : Ad} {μ : List MO} {P : Post} {X : XPost} {n : Nat}
theorem word_of_ca {e : Addr} {tb : Option (Addr × Value)} {w : MO} (H : Facts C.B ad) (hA : AOkW C 1) (hm : MO.exc e (.ref ad.c_BadBits) tb ∈ w :: μ) (h : P (.tup [.str "refused", .str "BadBits"]) (w :: μ)) : Ca C (.ref ad.f_law_word_of) [.ref e] (w :: μ) P X := by
  refine ca_dp ?_
  have ne := H.ne
  have c1 : ∀ c : Addr, c ≠ ad.c_BadBits → c ≠ ad.c_CodeError → (Value.ref ad.c_BadBits :: .ref ad.c_CodeError :: vbm).contains (.ref c) = false := fun c h1 h2 => by
    simp [vbm, h1, h2]
  have c2 : (Value.ref ad.c_BadBits :: .ref ad.c_CodeError :: vbm).contains (.ref ad.c_BadBits) = true := by simp
  simp only [List.nodup_cons, List.mem_cons, List.not_mem_nil, or_false, not_or] at ne
  refine ca_defW1 ["_law_found"] H.f_law_word_of hA rfl rfl (by decide +kernel) (by decide +kernel) fun q L C' hB hA' K N hE => ?_
  rw [← hB] at H
  have G := H.g
  unfold gt bt ct at G
  simp only [List.map]
  repeat' (walk_at "m")
  refine ev_ListO ?_ rfl
  repeat' (walk_at "m")
  refine ⟨by decide, _, _, rfl, fun a => ?_⟩
  repeat' (walk_at "m")
  refine ca_isi_own (.tail _ (.tail _ hm)) H.c_BadBits H.c_NoWeights ?_
  rw [c1 _ (fun e => by rw [e] at ne; simp at ne) (fun e => by rw [e] at ne; simp at ne)]
  refine ⟨_, rfl, fun h => absurd h (by decide), fun _ => ?_⟩
  repeat' (walk_at "m")
  refine ca_isi_own (.tail _ (.tail _ hm)) H.c_BadBits H.c_BadWeight ?_
  rw [c1 _ (fun e => by rw [e] at ne; simp at ne) (fun e => by rw [e] at ne; simp at ne)]
  refine ⟨_, rfl, fun h => absurd h (by decide), fun _ => ?_⟩
  repeat' (walk_at "m")
  refine ca_isi_own (.tail _ (.tail _ hm)) H.c_BadBits H.c_BadBound ?_
  rw [c1 _ (fun e => by rw [e] at ne; simp at ne) (fun e => by rw [e] at ne; simp at ne)]
  refine ⟨_, rfl, fun h => absurd h (by decide), fun _ => ?_⟩
  repeat' (walk_at "m")
  refine ca_isi_own (.tail _ (.tail _ hm)) H.c_BadBits H.c_NoRoom ?_
  rw [c1 _ (fun e => by rw [e] at ne; simp at ne) (fun e => by rw [e] at ne; simp at ne)]
  refine ⟨_, rfl, fun h => absurd h (by decide), fun _ => ?_⟩
  repeat' (walk_at "m")
  refine ca_isi_own (.tail _ (.tail _ hm)) H.c_BadBits H.c_BadLengths ?_
  rw [c1 _ (fun e => by rw [e] at ne; simp at ne) (fun e => by rw [e] at ne; simp at ne)]
  refine ⟨_, rfl, fun h => absurd h (by decide), fun _ => ?_⟩
  repeat' (walk_at "m")
  refine ca_isi_own (.tail _ (.tail _ hm)) H.c_BadBits H.c_BadWords ?_
  rw [c1 _ (fun e => by rw [e] at ne; simp at ne) (fun e => by rw [e] at ne; simp at ne)]
  refine ⟨_, rfl, fun h => absurd h (by decide), fun _ => ?_⟩
  repeat' (walk_at "m")
  refine ca_isi_own (.tail _ (.tail _ hm)) H.c_BadBits H.c_BadBits ?_
  rw [c2]
  refine ⟨_, rfl, fun _ => ?_, fun h => absurd h (by decide)⟩
  repeat' (walk_at "m")
  refine ev_append ?_ rfl rfl rfl
  repeat' (walk_at "m")
  refine ⟨a, _, rfl, .tail _ (.head _), ?_⟩
  repeat' (walk_at "m")
  refine ⟨_, _, .there .here, by decide, ?_⟩
  repeat' (walk_at "m")
  refine ca_isi_own (.tail _ (.tail _ hm)) H.c_BadBits H.c_NoSign ?_
  rw [c1 _ (fun e => by rw [e] at ne; simp at ne) (fun e => by rw [e] at ne; simp at ne)]
  refine ⟨_, rfl, fun h => absurd h (by decide), fun _ => ?_⟩
  repeat' (walk_at "m")
  refine ca_len (.inr ⟨a, rfl, .tail _ (.head _)⟩) (by decide) ?_
  repeat' (walk_at "m")
  refine ⟨fun h => absurd h (by decide), fun _ => ?_⟩
  repeat' (walk_at "m")
  refine ca_isi_VE (.tail _ (.tail _ hm)) H.c_BadBits ?_
  refine ⟨_, rfl, ?_⟩
  repeat' (walk_at "m")
  refine ⟨fun h => absurd h (by decide), fun _ => ?_⟩
  repeat' (walk_at "m")
  refine ⟨fun h => absurd h (by decide), fun _ => ?_⟩
  repeat' (walk_at "m")
  refine ev_Tuple ?_ rfl
  repeat' (walk_at "m")
  refine sub_list (.inr ⟨a, rfl, .tail _ (.head _)⟩) (by decide) rfl (by decide) rfl ?_
  repeat' (walk_at "m")
  refine ⟨by decide, ?_⟩
  repeat' (walk_at "m")
  exact dpP_h h

def nextS (sg : List Int) : Out → List Int
  | .sign i => sg ++ [(i : Int)]
  | _ => sg
theorem told_ca {x dx : Addr} {ls : List Wd} {p : Wd} {sg : List Int} {aw af : Addr} {w : MO} {d : D} {k : Option Nat} (H : Facts C.B ad) (hA : AOk C 2) (hn : ls.length ≤ 24) (hw : WOk ls) (hp : p.length ≤ 12) (hb : Bt p) (hs : sg.length ≤ 100) (hk : BitK d k)
    (h : P (outD (outK ls p k)) (w :: (rdM ad.c_Reader x dx aw af ls (nextK ls p k) (nextS sg (outK ls p k)) ++ μ))) : Ca C (.ref ad.f_law_told) [.ref x, d] (w :: (rdM ad.c_Reader x dx aw af ls p sg ++ μ)) P X := by
  refine ca_def2 ["_law_error"] H.f_law_told hA rfl rfl (by decide +kernel) (by decide +kernel) fun q L C' hB hA' K N hE => ?_
  rw [← hB] at H
  have G := H.g
  unfold gt bt ct at G
  have R := H.k_Reader
  simp only [List.map]
  refine ex_seq (ex_try_as K hE H.c_CodeError.to (fun e μ P' h => ?_) (by decide +kernel) ?_)
  · have G : GOk (C'.marked e).B _ _ _ := G
    repeat' (walk_at "m")
    exact h
  · repeat' (walk_at "m")
    refine ev_meth R (.tail _ (.head _)) rfl rfl rfl rfl (fun P' h' => ?_) (.tail _ (.tail _ (.head _))) (.tail _ (.tail _ (.tail _ (.head _)))) ?_
    · repeat' (walk_at "m")
      exact h'
    repeat' (walk_at "m")
    cases hk with
    | bad hd hno =>
      have pd := hd.plain
      refine take_bad (ν := [_, _]) H hA' ⟨pd.1, pd.2.1, by lia⟩ hno ?_
      refine ⟨_, _, _, _, _, rfl, H.c_BadBits.to, by simp, rfl, fun e tb => ?_⟩
      have H' : Facts (C'.marked e).B ad := H
      have G : GOk (C'.marked e).B _ _ _ := G
      repeat' (walk_at "m")
      refine word_of_ca H' ((hA'.weak.marked).mono (by decide)) (.tail _ (.head _)) ?_
      repeat' (walk_at "m")
      refine ⟨_, _, _, _, .refl _, ?_⟩
      repeat' (walk_at "m")
      exact h
    | @bit c hc =>
      change P (outD (stepO ls (p ++ [c]))) (w :: (rdM ad.c_Reader x dx aw af ls (nextW p (p ++ [c]) (stepO ls (p ++ [c]))) (nextS sg (stepO ls (p ++ [c]))) ++ μ)) at h
      refine take_ca (ν := [_, _]) H hA' hp hb hn hw hs hc (fun q => ?_) (fun q q2 => ?_) (fun q => ?_)
      · rw [stepO, if_pos q] at h
        simp only [List.cons_append, List.nil_append]
        repeat' (walk_at "m")
        exact h
      · rw [stepO, if_neg q, if_pos (by obtain ⟨l, hl, hx⟩ := q2; exact List.any_eq_true.mpr ⟨l, hl, decide_eq_true hx⟩)] at h
        simp only [List.cons_append, List.nil_append]
        repeat' (walk_at "m")
        exact h
      · have q0 : p ++ [c] ∉ ls := fun q' => q _ q' (List.prefix_refl _)
        rw [stepO, if_neg q0, if_neg (by rw [List.any_eq_true]; rintro ⟨l, hl, hx⟩; exact q l hl (of_decide_eq_true hx))] at h
        refine ⟨_, _, _, _, _, rfl, H.c_BadBits.to, by simp, rfl, fun e tb => ?_⟩
        have H' : Facts (C'.marked e).B ad := H
        have G : GOk (C'.marked e).B _ _ _ := G
        repeat' (walk_at "m")
        refine word_of_ca H' ((hA'.weak.marked).mono (by decide)) (.tail _ (.head _)) ?_
        repeat' (walk_at "m")
        refine ⟨_, _, _, _, .refl _, ?_⟩
        repeat' (walk_at "m")
        exact h
theorem alike_int {i : Int} (H : Facts C.B ad) (hA : AOk C 1) (h : P (.bool true) μ) : Ca C (.ref ad.f_law_alike) [.int i, .int i] μ P X := by
  refine ca_def2 [] H.f_law_alike hA rfl rfl (by decide +kernel) (by decide +kernel) fun q L C' hB hA' K N hE => ?_
  rw [← hB] at H
  have G := H.g
  unfold gt bt ct at G
  simp only [List.map]
  repeat' (walk_at "m")
  refine cmp_isI ?_
  refine ⟨fun q => absurd q (by decide), fun _ => ?_⟩
  repeat' (walk_at "m")
  refine ca_isi (.int _) (by decide) ⟨_, rfl, fun q => absurd q (by decide), fun _ => ?_⟩
  repeat' (walk_at "m")
  refine ca_isi (.int _) (by decide) ?_
  refine ⟨_, rfl, fun _ => ?_, fun q => absurd q (by decide)⟩
  repeat' (walk_at "m")
  refine ca_isi (.int _) (by decide) ?_
  refine ⟨_, rfl, _, rfl, fun _ => ?_, fun q => absurd q (by decide)⟩
  repeat' (walk_at "m")
  rw [beq_self_eq_true]
  exact h
theorem alike_no {o : Out} (hne : ∀ i, o ≠ .sign i) (H : Facts C.B ad) (hA : AOk C 1) (h : P (.bool true) μ) : Ca C (.ref ad.f_law_alike) [outD o, outD o] μ P X := by
  refine ca_def2 [] H.f_law_alike hA rfl rfl (by decide +kernel) (by decide +kernel) fun q L C' hB hA' K N hE => ?_
  rw [← hB] at H
  have G := H.g
  unfold gt bt ct at G
  simp only [List.map]
  have hu : C'.A.units + 64 < cLine := by have := hA'.units; lia
  cases o with
  | on =>
    simp only [outD]
    repeat' (walk_at "m")
    refine cmp_isN ?_
    refine ⟨fun _ => ?_, fun q => absurd q (by decide)⟩
    repeat' (walk_at "m")
    refine cmp_isN ?_
    repeat' (walk_at "m")
    exact h
  | bad =>
    simp only [outD]
    repeat' (walk_at "m")
    refine cmp_isT ?_
    refine ⟨fun q => absurd q (by decide), fun _ => ?_⟩
    repeat' (walk_at "m")
    refine ca_isi (.tup _) (by decide) ⟨_, rfl, fun _ => ?_, fun q => absurd q (by decide)⟩
    repeat' (walk_at "m")
    refine ca_isi (.tup _) (by decide) ?_
    refine ⟨_, rfl, fun _ => ?_, fun q => absurd q (by decide)⟩
    repeat' (walk_at "m")
    have pt : Pl 1 (.tup [.str "refused", .str "BadBits"]) := .tup fun x hx => by
      simp at hx; rcases hx with rfl | rfl <;> exact .str (by decide +kernel)
    refine cmp_eqP (.inl rfl) (.inl rfl) pt pt (by decide) (by decide) hu fun c hc => ?_
    have hc : c = true := hc.mpr rfl
    subst hc
    repeat' (walk_at "m")
    exact h
  | sign i => exact absurd rfl (hne i)
theorem alike_ca {o : Out} (H : Facts C.B ad) (hA : AOk C 1) (h : P (.bool true) μ) : Ca C (.ref ad.f_law_alike) [outD o, outD o] μ P X := by
  cases o with
  | sign i => exact alike_int H hA h
  | on => exact alike_no (fun _ q => by cases q) H hA h
  | bad => exact alike_no (fun _ q => by cases q) H hA h
theorem bit_ca {a : Addr} {ls : List Wd} {p : Wd} {c : Int} {w : MO} (H : Facts C.B ad) (hA : AOk C 1) (hm : MO.list a (wD ls) ∈ w :: μ) (hn : ls.length ≤ 24) (hw : WOk ls) (hp : p.length ≤ 12) (hb : Bt p)
    (h : ∀ d k, BitK d k → P d (w :: μ)) : Ca C (.ref ad.f_law_bit) [.ref a, .str (sS p), .int c] (w :: μ) P X := by
  refine ca_def3 ["_law_on", "_law_word"] H.f_law_bit hA rfl rfl (by decide +kernel) (by decide +kernel) fun q L C' hB hA' K N hE => ?_
  rw [← hB] at H
  have G := H.g
  unfold gt bt ct at G
  simp only [List.map]
  have hu : C'.A.units + 64 < cLine := by have := hA'.units; lia
  have hwb : ∀ l ∈ ls, Bt l := fun l hl => (hw.bits l hl).2
  have hx0 := Int.fmod_nonneg_of_pos (c.fdiv 9) (show (0 : Int) < 9 by decide)
  have hx1 := Int.fmod_lt_of_pos (c.fdiv 9) (show (0 : Int) < 9 by decide)
  repeat' (walk_at "m")
  refine ⟨fun _ => ?_, fun _ => ?_⟩
  · repeat' (walk_at "m")
    refine ev_ListF ?_ rfl
    repeat' (walk_at "m")
    refine ev_ListF ?_ rfl
    repeat' (walk_at "m")
    refine ⟨by decide, ?_⟩
    repeat' (walk_at "m")
    refine ⟨by decide, ?_⟩
    repeat' (walk_at "m")
    refine sub_list (.inl rfl) hx0 (List.getElem?_eq_getElem (by simp only [List.length_cons, List.length_nil]; omega)) (by omega) rfl ?_
    repeat' (walk_at "m")
    refine h _ none ?_
    refine (?_ : ∀ d ∈ _, BitK d none) _ (List.getElem_mem _)
    intro d hd
    simp only [List.mem_cons, List.not_mem_nil, or_false] at hd
    rcases hd with rfl | rfl | rfl | rfl | rfl | rfl | rfl | rfl | rfl
    · exact .bad (.str (by decide +kernel)) (by decide +kernel)
    · exact .bad (.str (by decide +kernel)) (by decide +kernel)
    · exact .bad (.str (by decide +kernel)) (by decide +kernel)
    · exact .bad (.int _) (by decide +kernel)
    · exact .bad (.int _) (by decide +kernel)
    · exact .bad .none (by decide +kernel)
    · exact .bad (.bool _) (by decide +kernel)
    · exact .bad (.lst (n := 0) fun d hd => by simp at hd; subst hd; exact .str (by decide +kernel)) (by decide +kernel)
    · exact .bad (.str (by decide +kernel)) (by decide +kernel)
  · refine ex_nil ?_
    refine seq_next ?_
    refine ex_cutF (fun v : Option D => [some (.ref a), some (.str (sS p)), some (.int c), v, none]) (fun _ => True) ?_ ?_
    · repeat' (walk_at "m")
      refine ⟨fun _ => ?_, fun _ => ?_⟩
      · repeat' (walk_at "m")
        refine ex_assign_cfilt ["_law_word"] K ?_ rfl (by decide +kernel) (by decide +kernel) (by decide +kernel) (by decide +kernel) rfl (fun _ _ => rfl) (fun _ => rfl)
        repeat' (walk_at "m")
        refine ⟨wD ls, fun j => decide (p <+: ls.getD j []) && decide (p.length < (ls.getD j []).length), fun j => .str (sS (ls.getD j [])), itb_list hA'.handled (compI_items (.inr ⟨a, rfl, .tail _ hm⟩)), by rw [wD_len]; exact Nat.le_trans (show _ ≤ 1000 by lia) (by decide), ?_, ?_⟩
        · intro j x hx cl Lc K2 N2 hcl
          obtain ⟨l, hl', rfl⟩ := wD_at hx
          have el : ls.getD j [] = l := by simp [List.getD, hl']
          have hlb := hw.bits l (List.mem_of_getElem? hl')
          simp only [List.map]
          repeat' (walk_at "m")
          refine ca_len_str (by rw [sS_len]; lia) ?_
          rw [sS_len]
          refine slc_str (by lia) (by rw [sS_len]; lia) ?_
          rw [sS_take, Int.toNat_natCast]
          repeat' (walk_at "m")
          refine cmp_eqP (.inl rfl) (.inl rfl) (.str (n := 0) (sS_ok (bt_take hlb.2))) (.str (n := 0) (sS_ok hb)) (by decide) (by decide) hu fun cc hcc => ?_
          have e : cc = decide (p <+: l) := by
            rw [Bool.eq_iff_iff, hcc, decide_eq_true_eq, D.str.injEq, sS_inj, List.prefix_iff_eq_take]
            exact eq_comm
          subst e
          refine ⟨fun q1 => ?_, fun q1 => ?_⟩
          · repeat' (walk_at "m")
            refine ca_len_str (by rw [sS_len]; lia) ?_
            rw [sS_len]
            repeat' (walk_at "m")
            refine ca_len_str (by rw [sS_len]; lia) ?_
            rw [sS_len]
            repeat' (walk_at "m")
            refine ⟨fun q2 => ?_, fun q2 => ?_⟩
            · repeat' (walk_at "m")
              refine ⟨fun _ => ⟨?_, ?_⟩, fun q => absurd q (by decide)⟩
              · rw [el, q1]; simp at q2 ⊢; lia
              · repeat' (walk_at "m")
                exact ⟨by rw [el], _, rfl⟩
            · refine ⟨fun q => absurd q (by decide), fun _ => ⟨?_, _, rfl⟩⟩
              rw [el, q1]; simp at q2 ⊢; lia
          · refine ⟨fun q => absurd q (by decide), fun _ => ⟨?_, _, rfl⟩⟩
            rw [el, q1]; rfl
        · rw [wD_len]
          have hf : ∀ x ∈ ((List.range ls.length).filter fun j => decide (p <+: ls.getD j []) && decide (p.length < (ls.getD j []).length)).map (fun j => D.str (sS (ls.getD j []))), ∃ l ∈ ls, p.length < l.length ∧ x = .str (sS l) := fun x hx => by
            obtain ⟨j, hj, rfl⟩ := List.mem_map.mp hx
            obtain ⟨q1, q2⟩ := List.mem_filter.mp hj
            simp at q1
            exact ⟨ls.getD j [], by simp [List.getD, q1], of_decide_eq_true (Bool.and_eq_true_iff.mp q2).2, rfl⟩
          have hfl : (((List.range ls.length).filter fun j => decide (p <+: ls.getD j []) && decide (p.length < (ls.getD j []).length)).map (fun j => D.str (sS (ls.getD j [])))).length ≤ 1000 := by
            rw [List.length_map]; refine Nat.le_trans (List.length_filter_le _ _) ?_
            rw [List.length_range]; lia
          generalize ((List.range ls.length).filter fun j => decide (p <+: ls.getD j []) && decide (p.length < (ls.getD j []).length)).map (fun j => D.str (sS (ls.getD j []))) = fs at hf hfl
          repeat' (walk_at "m")
          refine ev_ListF ?_ rfl
          repeat' (walk_at "m")
          refine ⟨by decide, ?_⟩
          have hpl : Pb 2 (.lst fs) := .lst fun y hy => by
            obtain ⟨l, hl, _, rfl⟩ := hf y hy
            exact .str (sS_ok (hwb l hl))
          refine cmp_neB (.inl rfl) (.inl rfl) hpl (.lst (n := 0) fun _ q => nomatch q) (by decide) (by decide) hu ?_
          rw [eqv_nil]
          refine ⟨fun q => ?_, fun q => ?_⟩
          · have hpos : (0 : Int) < fs.length := by
              cases fs with
              | nil => simp at q
              | cons => simp
            repeat' (walk_at "m")
            refine ca_len (.inl rfl) (by lia) ?_
            repeat' (walk_at "m")
            have hc0 := Int.fmod_nonneg_of_pos (c.fdiv 9) hpos
            have hc1 := Int.fmod_lt_of_pos (c.fdiv 9) hpos
            generalize (c.fdiv 9).fmod fs.length = k at hc0 hc1
            have hcn : k.toNat < fs.length := by lia
            obtain ⟨l, hll, hlb, ej⟩ := hf fs[k.toNat] (List.getElem_mem hcn)
            refine sub_list (.inl rfl) hc0 ((List.getElem?_eq_getElem hcn).trans (congrArg some ej)) (by lia) rfl ?_
            repeat' (walk_at "m")
            refine ca_len_str (by rw [sS_len]; lia) ?_
            rw [sS_len]
            refine sub_str (c := l[p.length]) (by lia) (by lia) (by simp [sS, hlb]) rfl ?_
            repeat' (walk_at "m")
            exact h _ (some _) (.bit (hwb l hll _ (List.getElem_mem hlb)))
          · repeat' (walk_at "m")
            exact ⟨some (.lst fs), trivial, rfl⟩
      · repeat' (walk_at "m")
        exact ⟨none, trivial, rfl⟩
    rintro v -
    repeat' (walk_at "m")
    have hy0 := Int.fmod_nonneg_of_pos (c.fdiv 9) (show (0 : Int) < 2 by decide)
    have hy1 := Int.fmod_lt_of_pos (c.fdiv 9) (show (0 : Int) < 2 by decide)
    generalize (c.fdiv 9).fmod 2 = k at hy0 hy1
    have hk : k = 0 ∨ k = 1 := by lia
    rcases hk with rfl | rfl
    · refine sub_str (c := 48) (by lia) (by lia) (by decide +kernel) rfl ?_
      repeat' (walk_at "m")
      exact h _ (some 48) (.bit (.inl rfl))
    · refine sub_str (c := 49) (by lia) (by lia) (by decide +kernel) rfl ?_
      repeat' (walk_at "m")
      exact h _ (some 49) (.bit (.inr rfl))
end

section
variable {C : Cx} {ad : Ad} {μ : List MO} {P : Post} {X : XPost} {n : Nat}
def heldD (L : List (List Int)) : List D := L.map fun l => .tup [.lst (intsD l), .lst (intsD l)]
theorem stands_ca {x dx : Addr} {ls : List Wd} {p : Wd} {sg : List Int} {aw af ah : Addr} {w : MO} {c : Int} {L : List (List Int)} (H : Facts C.B ad) (hA : AOk C 2) (hp : p.length ≤ 12) (hb : Bt p) (hs : sg.length ≤ 100) (hL : L.length ≤ 100)
    (h : ∀ L', L'.length ≤ L.length + 1 → P (.bool true) (w :: (rdM ad.c_Reader x dx aw af ls p sg ++ .list ah (heldD L') :: μ))) :
    Ca C (.ref ad.f_law_stands) [.ref x, .str (sS p), .lst (intsD sg), .int c, .ref ah] (w :: (rdM ad.c_Reader x dx aw af ls p sg ++ .list ah (heldD L) :: μ)) P X := by
  refine ca_jk ?_
  refine ca_def5 ["_law_told_here"] H.f_law_stands hA rfl rfl (by decide +kernel) (by decide +kernel) fun q Lf C' hB hA' K N hE => ?_
  rw [← hB] at H
  have G := H.g
  unfold gt bt ct at G
  have R := H.k_Reader
  have hu : C'.A.units + 64 < cLine := by have := hA'.units; lia
  have pp : Pl 0 (.str (sS p)) := .str (sS_ok hb)
  have pg : Pl 1 (.lst (intsD sg)) := .ints sg
  have hm : ∀ m ∈ rdM ad.c_Reader x dx aw af ls p sg, m ∈ rdM ad.c_Reader x dx aw af ls p sg ++ .list ah (heldD L) :: μ := fun m hm => List.mem_append_left _ hm
  simp only [List.map]
  repeat' (walk_at "k")
  refine ex_cutF (fun _ : Unit => [some (.ref x), some (.str (sS p)), some (.lst (intsD sg)), some (.int c), some (.ref ah), none]) (fun _ => True) ?_ ?_
  · repeat' (walk_at "m")
    refine ⟨fun _ => ?_, fun _ => ?_⟩
    · repeat' (walk_at "m")
      refine ev_meth R (.tail _ (.tail _ (.head _))) rfl rfl rfl rfl (fun P' h' => ?_) (.tail _ (.tail _ (.head _))) (.tail _ (.tail _ (.tail _ (.head _)))) ?_
      · repeat' (walk_at "m")
        exact h'
      repeat' (walk_at "m")
      refine held_ca H hA' (fun m hm' => .tail _ (.tail _ (hm m hm'))) ?_
      repeat' (walk_at "m")
      refine cmp_neP (.inl rfl) (.inl rfl) pp pp (by decide) (by decide) hu fun cc hcc => ?_
      have hcc : cc = false := by simpa using hcc
      subst hcc
      refine ⟨fun q => absurd q (by decide), fun _ => ?_⟩
      repeat' (walk_at "m")
      refine ⟨fun q => absurd q (by decide), fun _ => ?_⟩
      repeat' (walk_at "m")
      exact ⟨(), trivial, rfl⟩
    · refine ⟨fun q => absurd q (by decide), fun _ => ?_⟩
      repeat' (walk_at "m")
      exact ⟨(), trivial, rfl⟩
  rintro _ -
  repeat' (walk_at "m")
  refine ev_meth R (.tail _ (.tail _ (.tail _ (.head _)))) rfl rfl rfl rfl (fun P' h' => ?_) (.tail _ (.tail _ (.head _))) (.tail _ (.tail _ (.tail _ (.head _)))) ?_
  · repeat' (walk_at "m")
    exact h'
  repeat' (walk_at "m")
  refine done_ca H hA' (fun m hm' => .tail _ (.tail _ (hm m hm'))) (by lia) fun at' => ?_
  repeat' (walk_at "k")
  refine ex_cutF (fun _ : Unit => [some (.ref x), some (.str (sS p)), some (.lst (intsD sg)), some (.int c), some (.ref ah), some (.ref at')]) (fun _ => True) ?_ ?_
  · repeat' (walk_at "m")
    refine ca_isi (.own (.tail _ (.head _))) (by decide) ⟨_, rfl, fun q => absurd q (by decide), fun _ => ?_⟩
    repeat' (walk_at "m")
    refine ev_cfilt ["_law_sign"] K ?_ (by decide +kernel) (by decide +kernel) (by decide +kernel) (by decide +kernel) rfl (fun _ _ => rfl) (fun _ => rfl)
    repeat' (walk_at "m")
    refine ⟨intsD sg, fun _ => false, fun _ => .none, itb_list hA'.handled (compI_items (.inr ⟨at', rfl, .tail _ (.head _)⟩)), by rw [intsD_len]; exact Nat.le_trans (show _ ≤ 1000 by lia) (by decide), ?_, ?_⟩
    · intro j y hy cl Lc K2 N2 hcl
      obtain ⟨i, _, rfl⟩ := intsD_at hy
      simp only [List.map]
      repeat' (walk_at "m")
      refine alike_int H hA' ?_
      exact ⟨_, rfl, fun q => absurd q (by decide), fun _ => ⟨trivial, _, rfl⟩⟩
    rw [show ((List.range (intsD sg).length).filter fun _ => false) = [] by simp]
    simp only [List.map_nil]
    repeat' (walk_at "m")
    refine ev_ListF ?_ rfl
    repeat' (walk_at "m")
    refine ⟨by decide, ?_⟩
    repeat' (walk_at "m")
    have p0 : Pl 1 (.lst []) := .lst fun _ q => nomatch q
    refine cmp_neP (.inl rfl) (.inl rfl) p0 p0 (by decide) (by decide) hu fun cc hcc => ?_
    have hcc : cc = false := by simpa using hcc
    subst hcc
    refine ⟨fun q => absurd q (by decide), fun _ => ?_⟩
    repeat' (walk_at "m")
    refine ⟨fun q => absurd q (by decide), fun _ => ?_⟩
    repeat' (walk_at "m")
    exact ⟨(), trivial, rfl⟩
  rintro _ -
  repeat' (walk_at "k")
  refine ex_cutF (fun _ : Unit => [some (.ref x), some (.str (sS p)), some (.lst (intsD sg)), some (.int c), some (.ref ah), some (.ref at')]) (fun _ => True) ?_ ?_
  · repeat' (walk_at "m")
    refine cmp_neP (.inr ⟨at', _, rfl, .tail _ (.head _), rfl⟩) (.inl rfl) pg pg (by decide) (by decide) hu fun cc hcc => ?_
    have hcc : cc = false := by simpa using hcc
    subst hcc
    refine ⟨fun q => absurd q (by decide), fun _ => ?_⟩
    repeat' (walk_at "m")
    refine ev_meth R (.tail _ (.tail _ (.head _))) rfl rfl rfl rfl (fun P' h' => ?_) (.tail _ (.tail _ (.tail _ (.head _)))) (.tail _ (.tail _ (.tail _ (.tail _ (.head _))))) ?_
    · repeat' (walk_at "m")
      exact h'
    repeat' (walk_at "m")
    refine held_ca H hA' (fun m hm' => .tail _ (.tail _ (.tail _ (hm m hm')))) ?_
    repeat' (walk_at "m")
    refine cmp_neP (.inl rfl) (.inl rfl) pp pp (by decide) (by decide) hu fun cc hcc => ?_
    have hcc : cc = false := by simpa using hcc
    subst hcc
    refine ⟨fun q => absurd q (by decide), fun _ => ?_⟩
    repeat' (walk_at "m")
    refine ev_meth R (.tail _ (.tail _ (.head _))) rfl rfl rfl rfl (fun P' h' => ?_) (.tail _ (.tail _ (.tail _ (.head _)))) (.tail _ (.tail _ (.tail _ (.tail _ (.head _))))) ?_
    · repeat' (walk_at "m")
      exact h'
    repeat' (walk_at "m")
    refine held_ca H hA' (fun m hm' => .tail _ (.tail _ (.tail _ (hm m hm')))) ?_
    repeat' (walk_at "m")
    refine ca_isi (.str _) (by decide) ⟨_, rfl, fun q => absurd q (by decide), fun _ => ?_⟩
    repeat' (walk_at "m")
    refine ⟨fun q => absurd q (by decide), fun _ => ?_⟩
    repeat' (walk_at "m")
    exact ⟨(), trivial, rfl⟩
  rintro _ -
  repeat' (walk_at "m")
  refine ⟨fun _ => ?_, fun _ => ?_⟩
  · refine ex_fzl (.there (.there (.there (.there (.there .here))))) ?_
    repeat' (walk_at "m")
    refine ev_append ?_ rfl rfl rfl
    repeat' (walk_at "m")
    refine ⟨ah, _, rfl, .tail _ (.tail _ (.tail _ (.tail _ (.tail _ (.tail _ (.head _)))))), ?_⟩
    refine ev_Tuple ?_ rfl
    repeat' (walk_at "m")
    refine ca_list (.inl rfl) (by rw [intsD_len]; exact Nat.le_trans (show _ ≤ 1000 by lia) (by decide)) ?_
    repeat' (walk_at "m")
    refine ⟨by simp, ?_⟩
    refine ⟨_, _, .there (.there (.there (.there (.there (.there .here))))), by simp [heldD]; lia, ?_⟩
    repeat' (walk_at "m")
    have h := h (L ++ [sg]) (by simp)
    rw [show heldD (L ++ [sg]) = heldD L ++ [.tup [.lst (intsD sg), .lst (intsD sg)]] by simp [heldD]] at h
    exact jkP .refl h
  · repeat' (walk_at "m")
    refine ev_append ?_ rfl rfl rfl
    repeat' (walk_at "m")
    refine ⟨at', _, rfl, .tail _ (.head _), ?_⟩
    repeat' (walk_at "m")
    refine ⟨_, _, .there .here, by rw [intsD_len]; lia, ?_⟩
    repeat' (walk_at "m")
    exact jkP (.drop rfl .refl) (h L (by lia))
end

section
variable {C : Cx} {ad : Ad} {μ : List MO} {P : Post} {X : XPost} {n : Nat}
theorem ex1_less {env : Env} {μ' : List MO} {st : Stmt} {Pf : Fw → List MO → Prop} (hl : Less μ' μ) (h : Ex1 C env μ st Pf X) : Ex1 C env μ' st Pf X :=
  fun T ρ s Q E st' hQ hE => h T ρ s Q E (st'.less hl) hQ hE
theorem next_ok {ls : List Wd} {p : Wd} {d : D} {k : Option Nat} (hw : WOk ls) (hp : p.length ≤ 12) (hb : Bt p) (hk : BitK d k) : (nextK ls p k).length ≤ 12 ∧ Bt (nextK ls p k) := by
  cases hk with
  | bad => exact ⟨hp, hb⟩
  | @bit c hc =>
    show (nextW p (p ++ [c]) (stepO ls (p ++ [c]))).length ≤ 12 ∧ Bt (nextW p (p ++ [c]) (stepO ls (p ++ [c])))
    unfold stepO
    split
    · exact ⟨by simp [nextW], fun _ q => nomatch q⟩
    · split
      · rename_i h
        obtain ⟨l, hl, hx⟩ := List.any_eq_true.mp h
        have hx := of_decide_eq_true hx
        exact ⟨Nat.le_trans hx.length_le (hw.bits l hl).1.2, bt_on hb hc⟩
      · exact ⟨hp, hb⟩
theorem new_ca {d : D} {ls : List Wd} {w : MO} (H : Facts C.B ad) (hA : AOk C 4) (hi : Items (w :: μ) d (wD ls)) (hw : WOk ls) (hl : ls.length ≤ 24) (h : ∀ x dx aw af, P (.ref x) (w :: (rdM ad.c_Reader x dx aw af ls [] [] ++ μ))) : Ca C (.ref ad.c_Reader) [d] (w :: μ) P X := by
  refine ca_new H.k_Reader (.head _) hA fun C' x dx hB hA' => ?_
  refine init_ca (by rw [hB]; exact H) hA' ?_ hw hl fun aw af => ⟨rfl, h x dx aw af⟩
  rcases hi with rfl | ⟨a, rfl, hm⟩
  · exact .inl rfl
  · refine .inr ⟨a, rfl, ?_⟩
    rcases List.mem_cons.mp hm with rfl | hm
    · exact .head _
    · exact .tail _ (.tail _ (.tail _ hm))
theorem law_ca {d : D} {sc : List Int} (H : Facts C.B ad) (hA : AOk C 6) (hi : Items μ d (intsD sc)) (hl : sc.length ≤ 63) (h : P (.bool true) μ) : Ca C (.ref ad.f_law) [d] μ P X := by
  refine ca_jk ?_
  refine ca_def1 ["_law_words_here", "_law_handed", "_law_reader", "_law_beside", "_law_bits", "_law_signs", "_law_held", "_law_cell_here", "_law_bit_here", "_law_due_here"] H.f_law hA rfl rfl (by decide +kernel) (by decide +kernel) fun q L C' hB hA' K N hE => ?_
  rw [← hB] at H
  have G := H.g
  unfold gt bt ct at G
  have R := H.k_Reader
  have hu : C'.A.units + 64 < cLine := by have := hA'.units; lia
  simp only [List.map]
  repeat' (walk_at "m")
  refine words_ca H (hA'.mono (by decide)) (hi.cons _) hl fun a0 ls hw hn => ?_
  repeat' (walk_at "m")
  refine ca_listO (.inr ⟨a0, rfl, .tail _ (.head _)⟩) (by rw [wD_len]; exact Nat.le_trans hn (by decide)) fun a1 => ?_
  repeat' (walk_at "m")
  refine call_c G ?_ rfl ?_ R rfl ?_
  · walk_at "m_kind"
  · walk_at "m_mem"
  repeat' (walk_at "m")
  refine new_ca H (hA'.mono (by decide)) (.inr ⟨a1, rfl, .tail _ (.head _)⟩) hw hn fun x dx aw af => ?_
  repeat' (walk_at "m")
  refine call_c G ?_ rfl ?_ R rfl ?_
  · walk_at "m_kind"
  · walk_at "m_mem"
  repeat' (walk_at "m")
  refine ev_ListF ?_ rfl
  repeat' (walk_at "m")
  refine ⟨by decide, ?_⟩
  repeat' (walk_at "m")
  refine new_ca (ls := [[48], [49, 48]]) H (hA'.mono (by decide)) (.inl rfl) beside_ok (by decide) fun y dy by' bf => ?_
  repeat' (walk_at "m")
  refine ev_meth R (.tail _ (.head _)) rfl rfl rfl rfl (fun P' h' => ?_) (.tail _ (.head _)) (.tail _ (.tail _ (.head _))) ?_
  · repeat' (walk_at "m")
    exact h'
  repeat' (walk_at "m")
  refine take_ca (c := 48) (ν := [_]) H (hA'.mono (by decide)) (by decide) (fun _ q => nomatch q) (by decide) beside_ok (by decide) (.inl rfl) (fun _ => ?_) (fun q => absurd q (by decide)) (fun q => absurd (List.prefix_refl [48]) (q [48] (by decide)))
  simp only [List.cons_append, List.nil_append]
  repeat' (walk_at "m")
  refine ev_meth R (.tail _ (.head _)) rfl rfl rfl rfl (fun P' h' => ?_) (.tail _ (.head _)) (.tail _ (.tail _ (.head _))) ?_
  · repeat' (walk_at "m")
    exact h'
  repeat' (walk_at "m")
  refine take_ca (c := 49) (ν := [_]) H (hA'.mono (by decide)) (by decide) (fun _ q => nomatch q) (by decide) beside_ok (by decide) (.inr rfl) (fun q => absurd q (by decide)) (fun _ _ => ?_) (fun q => absurd (show [49] <+: [49, 48] by decide) (q [49, 48] (by decide)))
  simp only [List.cons_append, List.nil_append]
  repeat' (walk_at "m")
  refine ev_append ?_ rfl rfl rfl
  repeat' (walk_at "m")
  refine ⟨a1, _, rfl, .tail _ (List.mem_append_right _ (List.mem_append_right _ (.head _))), ?_⟩
  repeat' (walk_at "m")
  refine ⟨_, _, .there (.app _ (.app _ .here)), by rw [wD_len]; lia, ?_⟩
  repeat' (walk_at "m")
  refine ev_reverse ?_ rfl rfl
  repeat' (walk_at "m")
  refine ⟨a1, _, _, rfl, .there (.app _ (.app _ .here)), by simp [wD_len]; lia, ?_⟩
  generalize (wD ls ++ [D.str (Str.ofString "0")]).reverse = hd
  generalize hy0 : rdM ad.c_Reader y dy by' bf [[48], [49, 48]] [49] [((List.idxOf [48] [[48], [49, 48]] : Nat) : Int)] = Y
  repeat' (walk_at "m")
  refine ev_ListF ?_ rfl
  repeat' (walk_at "m")
  refine ⟨by decide, ?_⟩
  repeat' (walk_at "m")
  refine ev_ListO ?_ rfl
  repeat' (walk_at "m")
  refine ⟨by decide, _, _, rfl, fun ah => ?_⟩
  repeat' (walk_at "m")
  refine ex1_less (.keep (.perm (List.perm_append_comm_assoc (.list ah [] :: Y) (rdM ad.c_Reader x dx aw af ls [] []) _))) ?_
  refine ex_for hE ?_ (fun _ _ => rfl) (fun _ => rfl)
  repeat' (walk_at "m")
  have sub : ∀ {f : MO} {af' : Addr} {p' : Wd} {sg' : List Int} {L' : List D} (m : MO), m ∈ MO.list a1 hd :: MO.list a0 (wD ls) :: μ → m ∈ f :: (rdM ad.c_Reader x dx aw af' ls p' sg' ++ (.list ah L' :: Y ++ MO.list a1 hd :: MO.list a0 (wD ls) :: μ)) := fun m hm => .tail _ (List.mem_append_right _ (List.mem_append_right _ hm))
  refine slc_list (lo := some 6) (hi := none) (hi.imp id fun ⟨a, e, m⟩ => ⟨a, e, sub _ (.tail _ (.tail _ m))⟩) (by rw [intsD_len]; exact Nat.le_trans hl (by decide)) rfl trivial (by simp) (by simp) (.inl rfl) ?_
  have ecs : cutD (some 6) none (intsD sc) = intsD (sc.drop 6) := by simp [cutD, intsD]
  rw [ecs]
  have hcl : (sc.drop 6).length ≤ 63 := by simp; lia
  generalize sc.drop 6 = cs at hcl
  refine forF (intsD cs) (fun i (v : ((Wd × List Int) × List (List Int) × Addr) × Option D × Option D × Option D) => [some d, some (.ref a0), some (.ref a1), some (.ref x), some (.ref y), some (.str (sS v.1.1.1)), some (.lst (intsD v.1.1.2)), some (.ref ah), v.2.1, v.2.2.1, v.2.2.2])
    (fun i v => rdM ad.c_Reader x dx aw v.1.2.2 ls v.1.1.1 v.1.1.2 ++ (.list ah (heldD v.1.2.1) :: Y ++ MO.list a1 hd :: MO.list a0 (wD ls) :: μ))
    (fun i v => (v.1.1.1.length ≤ 12 ∧ Bt v.1.1.1) ∧ v.1.1.2.length ≤ i ∧ v.1.2.1.length ≤ i) ((([], []), [], af), none, none, none) (itb_list hA'.handled fun _ _ _ => .inl rfl) ⟨⟨by simp, fun _ q => nomatch q⟩, by simp, by simp⟩ rfl rfl ?_ ?_
  · rintro i z ⟨⟨⟨p, sg⟩, Lh, af⟩, v1, v2, v3⟩ hz ⟨⟨hp, hb⟩, hsg, hLh⟩
    obtain ⟨c, hc, rfl⟩ := intsD_at hz
    have hil : i < cs.length := (List.getElem?_eq_some_iff.mp hc).1
    dsimp only at hp hb hsg hLh ⊢
    repeat' (walk_at "k")
    refine ex_cutM (fun v : (Wd × List Int × Addr) × Option D × Option D => [some d, some (.ref a0), some (.ref a1), some (.ref x), some (.ref y), some (.str (sS v.1.1)), some (.lst (intsD v.1.2.1)), some (.ref ah), some (.int c), v.2.1, v.2.2])
      (fun v => rdM ad.c_Reader x dx aw v.1.2.2 ls v.1.1 v.1.2.1 ++ (.list ah (heldD Lh) :: Y ++ MO.list a1 hd :: MO.list a0 (wD ls) :: μ)) (fun v => (v.1.1.length ≤ 12 ∧ Bt v.1.1) ∧ v.1.2.1.length ≤ i + 1) ?_ ?_
    · repeat' (walk_at "m")
      refine ⟨fun _ => ?_, fun _ => ?_⟩
      · repeat' (walk_at "m")
        refine ev_meth R (.tail _ (.tail _ (.tail _ (.tail _ (.head _))))) rfl rfl rfl rfl (fun P' h' => ?_) (.tail _ (.head _)) (.tail _ (.tail _ (.head _))) ?_
        · repeat' (walk_at "m")
          exact h'
        repeat' (walk_at "m")
        refine again_ca H (hA'.mono (by decide)) fun af' => ?_
        repeat' (walk_at "m")
        refine cmp_isnotN ?_
        refine ⟨fun q => absurd q (by decide), fun _ => ?_⟩
        repeat' (walk_at "m")
        refine ev_ListF ?_ rfl
        repeat' (walk_at "m")
        refine ⟨by decide, ?_⟩
        repeat' (walk_at "m")
        exact ⟨(([], [], af'), v2, v3), ⟨⟨by simp, fun _ q => nomatch q⟩, by simp⟩, rfl⟩
      · repeat' (walk_at "m")
        refine bit_ca H (hA'.mono (by decide)) (sub _ (.tail _ (.head _))) hn hw hp hb fun bd k hk => ?_
        repeat' (walk_at "m")
        refine due_ca H (hA'.mono (by decide)) (sub _ (.tail _ (.head _))) hn hw hp hb hk ?_
        repeat' (walk_at "m")
        refine told_ca H (hA'.mono (by decide)) hn hw hp hb (by lia) hk ?_
        have hno := next_ok hw hp hb hk
        generalize nextK ls p k = p' at hno
        generalize outK ls p k = o
        repeat' (walk_at "m")
        refine sub_tup (j := 0) rfl rfl (by decide) (by decide) rfl ?_
        repeat' (walk_at "m")
        refine alike_ca H (hA'.mono (by decide)) ?_
        refine ⟨_, rfl, fun q => absurd q (by decide), fun _ => ?_⟩
        repeat' (walk_at "m")
        refine sub_tup (j := 1) rfl rfl (by decide) (by decide) rfl ?_
        repeat' (walk_at "m")
        refine sub_tup (j := 0) rfl rfl (by decide) (by decide) rfl ?_
        repeat' (walk_at "m")
        cases o with
        | bad =>
          refine ca_isi (.tup _) (by decide) ⟨_, rfl, fun q => absurd q (by decide), fun _ => ?_⟩
          repeat' (walk_at "m")
          exact ⟨((p', sg, af), some bd, _), ⟨hno, by show sg.length ≤ i + 1; lia⟩, rfl⟩
        | on =>
          refine ca_isi .none (by decide) ⟨_, rfl, fun q => absurd q (by decide), fun _ => ?_⟩
          repeat' (walk_at "m")
          exact ⟨((p', sg, af), some bd, _), ⟨hno, by show sg.length ≤ i + 1; lia⟩, rfl⟩
        | sign j =>
          refine ca_isi (.int _) (by decide) ⟨_, rfl, fun _ => ?_, fun q => absurd q (by decide)⟩
          repeat' (walk_at "m")
          refine ev_ListF ?_ rfl
          repeat' (walk_at "m")
          refine sub_tup (j := 0) rfl rfl (by decide) (by decide) rfl ?_
          repeat' (walk_at "m")
          refine ⟨by simp, ?_⟩
          refine bin_add_list (.inl rfl) (.inl rfl) (by rw [intsD_len]; simp; exact Nat.le_trans (show _ ≤ 1000 by lia) (by decide)) ?_
          rw [show intsD sg ++ [outD (.sign j)] = intsD (sg ++ [(j : Int)]) by simp [intsD, outD]]
          repeat' (walk_at "m")
          exact ⟨((p', sg ++ [(j : Int)], af), some bd, _), ⟨hno, by show (sg ++ [(j : Int)]).length ≤ i + 1; simp; lia⟩, rfl⟩
    rintro ⟨⟨p', sg', af'⟩, v4, v5⟩ ⟨⟨hp', hb'⟩, hsg'⟩
    dsimp only at hp' hb' hsg' ⊢
    repeat' (walk_at "m")
    refine stands_ca H (hA'.mono (by decide)) hp' hb' (by lia) (by lia) fun L' hL' => ?_
    refine ⟨_, rfl, fun q => absurd q (by decide), fun _ => ?_⟩
    repeat' (walk_at "m")
    exact ⟨(((p', sg'), L', af'), some (.int c), v4, v5), ⟨⟨hp', hb'⟩, hsg', by show L'.length ≤ i + 1; lia⟩, rfl⟩
  rintro ⟨⟨⟨p, sg⟩, Lh, af⟩, v1, v2, v3⟩ ⟨⟨hp, hb⟩, hsg, hLh⟩
  dsimp only at hp hb hsg hLh ⊢
  rw [intsD_len] at hsg hLh
  have pp : Pl 0 (.str (sS p)) := .str (sS_ok hb)
  have pg : Pl 1 (.lst (intsD sg)) := .ints sg
  repeat' (walk_at "k")
  refine ex_cutF (fun _ : Unit => [some d, some (.ref a0), some (.ref a1), some (.ref x), some (.ref y), some (.str (sS p)), some (.lst (intsD sg)), some (.ref ah), v1, v2, v3]) (fun _ => True) ?_ ?_
  · repeat' (walk_at "m")
    refine ev_cnone ["_law_told_here", "_law_copy"] K hA'.handled ?_ (by decide +kernel) (by decide +kernel) (by decide +kernel) (by decide +kernel) rfl (fun _ => rfl)
    repeat' (walk_at "m")
    refine ⟨heldD Lh, fun i => .lst (intsD (Lh.getD i [])), fun i => .lst (intsD (Lh.getD i [])), .inr ⟨ah, rfl, .tail _ (List.mem_append_right _ (.head _))⟩, fun i hi => by simp [heldD] at hi ⊢; simp [List.getD, hi], ?_, ?_⟩
    · intro i hi cl Lc K2 N2 hcl
      simp only [List.map]
      repeat' (walk_at "m")
      refine ifs_one ?_
      repeat' (walk_at "m")
      refine cmp_neP (.inl rfl) (.inl rfl) (.ints (n := 0) _) (.ints (n := 0) _) (by decide) (by decide) hu fun cc hcc => ?_
      exact ⟨by simpa using hcc, _, rfl⟩
    repeat' (walk_at "m")
    refine ev_ListF ?_ rfl
    repeat' (walk_at "m")
    refine ⟨by decide, ?_⟩
    have p0 : Pl 1 (.lst []) := .lst fun _ q => nomatch q
    refine cmp_neP (.inl rfl) (.inl rfl) p0 p0 (by decide) (by decide) hu fun cc hcc => ?_
    have hcc : cc = false := by simpa using hcc
    subst hcc
    refine ⟨fun q => absurd q (by decide), fun _ => ?_⟩
    repeat' (walk_at "m")
    exact ⟨(), trivial, rfl⟩
  rintro _ -
  subst hy0
  repeat' (walk_at "m")
  have my : ∀ {f : MO}, ∀ m ∈ rdM ad.c_Reader y dy by' bf [[48], [49, 48]] [49] [((List.idxOf [48] [[48], [49, 48]] : Nat) : Int)], m ∈ f :: (rdM ad.c_Reader x dx aw af ls p sg ++ (.list ah (heldD Lh) :: rdM ad.c_Reader y dy by' bf [[48], [49, 48]] [49] [((List.idxOf [48] [[48], [49, 48]] : Nat) : Int)] ++ MO.list a1 hd :: MO.list a0 (wD ls) :: μ)) :=
    fun m hm => .tail _ (List.mem_append_right _ (.tail _ (List.mem_append_left _ hm)))
  have mx : ∀ {f : MO}, ∀ m ∈ rdM ad.c_Reader x dx aw af ls p sg, m ∈ f :: (rdM ad.c_Reader x dx aw af ls p sg ++ (.list ah (heldD Lh) :: rdM ad.c_Reader y dy by' bf [[48], [49, 48]] [49] [((List.idxOf [48] [[48], [49, 48]] : Nat) : Int)] ++ MO.list a1 hd :: MO.list a0 (wD ls) :: μ)) :=
    fun m hm => .tail _ (List.mem_append_left _ hm)
  refine ev_meth R (.tail _ (.tail _ (.head _))) rfl rfl rfl rfl (fun P' h' => ?_) (my _ (.head _)) (my _ (.tail _ (.head _))) ?_
  · repeat' (walk_at "m")
    exact h'
  repeat' (walk_at "m")
  refine held_ca H (hA'.mono (by decide)) my ?_
  repeat' (walk_at "m")
  refine cmp_eqP (.inl rfl) (.inl rfl) (.str (n := 0) (by decide +kernel)) (.str (n := 0) (by decide +kernel)) (by decide) (by decide) hu fun cc hcc => ?_
  have hcc : cc = true := hcc.mpr rfl
  subst hcc
  refine ⟨_, rfl, fun _ => ?_, fun q => absurd q (by decide)⟩
  repeat' (walk_at "m")
  refine ev_meth R (.tail _ (.tail _ (.tail _ (.head _)))) rfl rfl rfl rfl (fun P' h' => ?_) (my _ (.head _)) (my _ (.tail _ (.head _))) ?_
  · repeat' (walk_at "m")
    exact h'
  repeat' (walk_at "m")
  refine done_ca H (hA'.mono (by decide)) my (by decide) fun ad1 => ?_
  repeat' (walk_at "m")
  refine ev_ListF ?_ rfl
  repeat' (walk_at "m")
  refine ⟨by decide, ?_⟩
  refine cmp_eqP (.inr ⟨ad1, _, rfl, .tail _ (.head _), rfl⟩) (.inl rfl) (.ints (n := 0) _) (.lst (n := 0) fun z hz => by simp at hz; subst hz; exact .int _) (by decide) (by decide) hu fun cc hcc => ?_
  have hcc : cc = true := hcc.mpr (by rw [show (List.idxOf [48] [[48], [49, 48]] : Nat) = 0 by decide]; rfl)
  subst hcc
  refine ⟨_, rfl, fun _ => ?_, fun q => absurd q (by decide)⟩
  repeat' (walk_at "m")
  refine ev_meth R (.tail _ (.tail _ (.tail _ (.head _)))) rfl rfl rfl rfl (fun P' h' => ?_) (.tail _ (.tail _ (.head _))) (.tail _ (.tail _ (.tail _ (.head _)))) ?_
  · repeat' (walk_at "m")
    exact h'
  repeat' (walk_at "m")
  refine done_ca H (hA'.mono (by decide)) (fun m hm => .tail _ (.tail _ (List.mem_append_left _ hm))) (by lia) fun ad2 => ?_
  repeat' (walk_at "m")
  refine cmp_eqP (.inr ⟨ad2, _, rfl, .tail _ (.head _), rfl⟩) (.inl rfl) pg pg (by decide) (by decide) hu fun cc hcc => ?_
  have hcc : cc = true := hcc.mpr rfl
  subst hcc
  refine ⟨_, rfl, fun _ => ?_, fun q => absurd q (by decide)⟩
  repeat' (walk_at "m")
  refine ev_meth R (.tail _ (.tail _ (.head _))) rfl rfl rfl rfl (fun P' h' => ?_) (.tail _ (.tail _ (.tail _ (.head _)))) (.tail _ (.tail _ (.tail _ (.tail _ (.head _))))) ?_
  · repeat' (walk_at "m")
    exact h'
  repeat' (walk_at "m")
  refine held_ca H (hA'.mono (by decide)) (fun m hm => .tail _ (.tail _ (.tail _ (List.mem_append_left _ hm)))) ?_
  repeat' (walk_at "m")
  refine cmp_eqP (.inl rfl) (.inl rfl) pp pp (by decide) (by decide) hu fun cc hcc => ?_
  have hcc : cc = true := hcc.mpr rfl
  subst hcc
  repeat' (walk_at "m")
  refine jkP ⟨.list ad2 (intsD sg) :: .list ad1 (intsD [((List.idxOf [48] [[48], [49, 48]] : Nat) : Int)]) :: (rdM ad.c_Reader x dx aw af ls p sg ++ (.list ah (heldD Lh) :: rdM ad.c_Reader y dy by' bf [[48], [49, 48]] [49] [((List.idxOf [48] [[48], [49, 48]] : Nat) : Int)] ++ [MO.list a1 hd, MO.list a0 (wD ls)])), ?_, fun m hm => ?_⟩ h
  · simp
  · simp only [rdM, List.mem_cons, List.mem_append, List.not_mem_nil, or_false] at hm
    rcases hm with rfl | rfl | (rfl | rfl | rfl | rfl) | (rfl | rfl | rfl | rfl | rfl) | rfl | rfl <;> rfl
end
end Mine

open PySem PySem.W PyProof.Rows
set_option maxRecDepth 100000
set_option maxHeartbeats 8000000
namespace Mine
theorem facts_of {loose : List Str} {mean : ExcName → Option Value} {mg mb : Str → Option Value} {B : Shared} {P : Params} (T : Top vw loose mean mg mb B.heap) (hl : loose = looseW vw []) (KX : (kx P).In B.heap) : ∃ ad, Facts B ad ∧ mg "law" = some (.ref ad.f_law) := by
  obtain ⟨a0, m0, f0⟩ := fnSt_of (st := stAt p13 13) (names := ["thing"]) T 0 (by rfl) rfl (by decide +kernel) (by decide +kernel) (by decide +kernel) rfl rfl rfl (fun _ _ _ vs h => by obtain ⟨_, rfl⟩ := len1 h; rfl)
  obtain ⟨a1, m1, f1⟩ := fnSt_of (st := stAt p13 14) (names := ["words"]) T 1 (by rfl) rfl (by decide +kernel) (by decide +kernel) (by decide +kernel) rfl rfl rfl (fun _ _ _ vs h => by obtain ⟨_, rfl⟩ := len1 h; rfl)
  obtain ⟨a2, m2, f2⟩ := fnSt_of (st := stAt p13 17) (names := ["_law_script", "_law_k"]) T 2 (by rfl) rfl (by decide +kernel) (by decide +kernel) (by decide +kernel) rfl rfl rfl (fun _ _ _ vs h => by obtain ⟨_, _, rfl⟩ := len2 h; rfl)
  obtain ⟨a3, m3, f3⟩ := fnSt_of (st := stAt p13 18) (names := ["_law_error"]) T 3 (by rfl) rfl (by decide +kernel) (by decide +kernel) (by decide +kernel) rfl rfl rfl (fun _ _ _ vs h => by obtain ⟨_, rfl⟩ := len1 h; rfl)
  obtain ⟨a4, m4, f4⟩ := fnSt_of (st := stAt p13 19) (names := ["_law_script", "_law_first"]) T 4 (by rfl) rfl (by decide +kernel) (by decide +kernel) (by decide +kernel) rfl rfl rfl (fun _ _ _ vs h => by obtain ⟨_, _, rfl⟩ := len2 h; rfl)
  obtain ⟨a5, m5, f5⟩ := fnSt_of (st := stAt p13 20) (names := ["_law_words_here", "_law_bits", "_law_bit_here"]) T 5 (by rfl) rfl (by decide +kernel) (by decide +kernel) (by decide +kernel) rfl rfl rfl (fun _ _ _ vs h => by obtain ⟨_, _, _, rfl⟩ := len3 h; rfl)
  obtain ⟨a6, m6, f6⟩ := fnSt_of (st := stAt p13 21) (names := ["_law_reader", "_law_bit_here"]) T 6 (by rfl) rfl (by decide +kernel) (by decide +kernel) (by decide +kernel) rfl rfl rfl (fun _ _ _ vs h => by obtain ⟨_, _, rfl⟩ := len2 h; rfl)
  obtain ⟨a7, m7, f7⟩ := fnSt_of (st := stAt p13 22) (names := ["_law_found", "_law_due_here"]) T 7 (by rfl) rfl (by decide +kernel) (by decide +kernel) (by decide +kernel) rfl rfl rfl (fun _ _ _ vs h => by obtain ⟨_, _, rfl⟩ := len2 h; rfl)
  obtain ⟨a8, m8, f8⟩ := fnSt_of (st := stAt p13 23) (names := ["_law_words_here", "_law_bits", "_law_cell_here"]) T 8 (by rfl) rfl (by decide +kernel) (by decide +kernel) (by decide +kernel) rfl rfl rfl (fun _ _ _ vs h => by obtain ⟨_, _, _, rfl⟩ := len3 h; rfl)
  obtain ⟨a9, m9, f9⟩ := fnSt_of (st := stAt p13 24) (names := ["_law_reader", "_law_bits", "_law_signs", "_law_cell_here", "_law_held"]) T 9 (by rfl) rfl (by decide +kernel) (by decide +kernel) (by decide +kernel) rfl rfl rfl (fun _ _ _ vs h => by obtain ⟨_, _, _, _, _, rfl⟩ := len5 h; rfl)
  obtain ⟨a10, m10, f10⟩ := fnSt_of (st := stAt p13 25) (names := ["_law_script"]) T 10 (by rfl) rfl (by decide +kernel) (by decide +kernel) (by decide +kernel) rfl rfl rfl (fun _ _ _ vs h => by obtain ⟨_, rfl⟩ := len1 h; rfl)
  obtain ⟨t0, c0⟩ := const_int (x := "MOST_SIGNS") (i := 24) T (by rfl)
  obtain ⟨t1, c1⟩ := const_int (x := "MOST_BOUND") (i := 12) T (by rfl)
  have e0 : mg "CodeError" = some (.ref 24) := mg_of T KX (by rfl) rfl (by kernel_rfl)
  have z0 : ECls2 B 24 _ := ecls2_mk KX (c := 24) (by rfl) (by rfl) rfl (by kernel_rfl) (by kernel_rfl) .base
  have e1 : mg "NoWeights" = some (.ref 37) := mg_of T KX (by rfl) rfl (by kernel_rfl)
  have z1 : ECls2 B 37 _ := ecls2_mk KX (c := 37) (by rfl) (by rfl) rfl (by kernel_rfl) (by kernel_rfl) (tailc_mk KX (c := 24) (by rfl) (by rfl) rfl (by kernel_rfl) (by kernel_rfl) .base)
  have e2 : mg "BadWeight" = some (.ref 49) := mg_of T KX (by rfl) rfl (by kernel_rfl)
  have z2 : ECls2 B 49 _ := ecls2_mk KX (c := 49) (by rfl) (by rfl) rfl (by kernel_rfl) (by kernel_rfl) (tailc_mk KX (c := 24) (by rfl) (by rfl) rfl (by kernel_rfl) (by kernel_rfl) .base)
  have e3 : mg "BadBound" = some (.ref 61) := mg_of T KX (by rfl) rfl (by kernel_rfl)
  have z3 : ECls2 B 61 _ := ecls2_mk KX (c := 61) (by rfl) (by rfl) rfl (by kernel_rfl) (by kernel_rfl) (tailc_mk KX (c := 24) (by rfl) (by rfl) rfl (by kernel_rfl) (by kernel_rfl) .base)
  have e4 : mg "NoRoom" = some (.ref 73) := mg_of T KX (by rfl) rfl (by kernel_rfl)
  have z4 : ECls2 B 73 _ := ecls2_mk KX (c := 73) (by rfl) (by rfl) rfl (by kernel_rfl) (by kernel_rfl) (tailc_mk KX (c := 24) (by rfl) (by rfl) rfl (by kernel_rfl) (by kernel_rfl) .base)
  have e5 : mg "BadLengths" = some (.ref 85) := mg_of T KX (by rfl) rfl (by kernel_rfl)
  have z5 : ECls2 B 85 _ := ecls2_mk KX (c := 85) (by rfl) (by rfl) rfl (by kernel_rfl) (by kernel_rfl) (tailc_mk KX (c := 24) (by rfl) (by rfl) rfl (by kernel_rfl) (by kernel_rfl) .base)
  have e6 : mg "BadWords" = some (.ref 97) := mg_of T KX (by rfl) rfl (by kernel_rfl)
  have z6 : ECls2 B 97 _ := ecls2_mk KX (c := 97) (by rfl) (by rfl) rfl (by kernel_rfl) (by kernel_rfl) (tailc_mk KX (c := 24) (by rfl) (by rfl) rfl (by kernel_rfl) (by kernel_rfl) .base)
  have e7 : mg "BadBits" = some (.ref 109) := mg_of T KX (by rfl) rfl (by kernel_rfl)
  have z7 : ECls2 B 109 _ := ecls2_mk KX (c := 109) (by rfl) (by rfl) rfl (by kernel_rfl) (by kernel_rfl) (tailc_mk KX (c := 24) (by rfl) (by rfl) rfl (by kernel_rfl) (by kernel_rfl) .base)
  have e8 : mg "NoSign" = some (.ref 121) := mg_of T KX (by rfl) rfl (by kernel_rfl)
  have z8 : ECls2 B 121 _ := ecls2_mk KX (c := 121) (by rfl) (by rfl) rfl (by kernel_rfl) (by kernel_rfl) (tailc_mk KX (c := 24) (by rfl) (by rfl) rfl (by kernel_rfl) (by kernel_rfl) .base)
  have eR_Reader : mg "Reader" = some (.ref 176) := mg_of T KX (by rfl) rfl (by kernel_rfl)
  have m_initF : FnSt B 147 (mAt p13 15 0) ["self", "words"] := fnSt_frag KX T.nolimit (c := 146) (q := ⟨"__init__", "Reader.__init__", .none, .none, .none, Value.str (Str.ofString "shortlimit.bits") 339, none, .ref 146, .none⟩) (by rfl) rfl (by rfl) rfl rfl rfl (by decide +kernel) (by decide +kernel) (by decide +kernel) (fun vs h => by obtain ⟨_, _, rfl⟩ := len2 h; rfl)
  have m_takeF : FnSt B 152 (mAt p13 15 1) ["self", "bit"] := fnSt_frag KX T.nolimit (c := 151) (q := ⟨"take", "Reader.take", .none, .none, .none, Value.str (Str.ofString "shortlimit.bits") 339, none, .ref 151, .none⟩) (by rfl) rfl (by rfl) rfl rfl rfl (by decide +kernel) (by decide +kernel) (by decide +kernel) (fun vs h => by obtain ⟨_, _, rfl⟩ := len2 h; rfl)
  have m_heldF : FnSt B 159 (mAt p13 15 2) ["self"] := fnSt_frag KX T.nolimit (c := 158) (q := ⟨"held", "Reader.held", .none, .none, .none, Value.str (Str.ofString "shortlimit.bits") 339, none, .ref 158, .none⟩) (by rfl) rfl (by rfl) rfl rfl rfl (by decide +kernel) (by decide +kernel) (by decide +kernel) (fun vs h => by obtain ⟨_, rfl⟩ := len1 h; rfl)
  have m_doneF : FnSt B 166 (mAt p13 15 3) ["self"] := fnSt_frag KX T.nolimit (c := 165) (q := ⟨"done", "Reader.done", .none, .none, .none, Value.str (Str.ofString "shortlimit.bits") 339, none, .ref 165, .none⟩) (by rfl) rfl (by rfl) rfl rfl rfl (by decide +kernel) (by decide +kernel) (by decide +kernel) (fun vs h => by obtain ⟨_, rfl⟩ := len1 h; rfl)
  have m_againF : FnSt B 173 (mAt p13 15 4) ["self"] := fnSt_frag KX T.nolimit (c := 172) (q := ⟨"again", "Reader.again", .none, .none, .none, Value.str (Str.ofString "shortlimit.bits") 339, none, .ref 172, .none⟩) (by rfl) rfl (by rfl) rfl rfl rfl (by decide +kernel) (by decide +kernel) (by decide +kernel) (fun vs h => by obtain ⟨_, rfl⟩ := len1 h; rfl)
  have kR_Reader : ClsF B 176 [("__init__", 147), ("take", 152), ("held", 159), ("done", 166), ("again", 173)] ["words", "ahead", "found"] := clsF_frag KX (N := 175) (by rfl) (by rfl) rfl (by kernel_rfl) (by kernel_rfl) (fun n hn => by simp only [List.mem_cons, List.not_mem_nil, or_false] at hn; rcases hn with rfl | rfl | rfl <;> (rw [typeLookup_type, builtinLookup_eq_fast]; kernel_rfl)) ⟨⟨by kernel_rfl, ⟨some (.builtin "object.__init__"), (by rw [typeLookup_type, builtinLookup_eq_fast]; kernel_rfl)⟩, _, _, by rfl, rfl, rfl⟩, ⟨by kernel_rfl, ⟨none, (by rw [typeLookup_type, builtinLookup_eq_fast]; kernel_rfl)⟩, _, _, by rfl, rfl, rfl⟩, ⟨by kernel_rfl, ⟨none, (by rw [typeLookup_type, builtinLookup_eq_fast]; kernel_rfl)⟩, _, _, by rfl, rfl, rfl⟩, ⟨by kernel_rfl, ⟨none, (by rw [typeLookup_type, builtinLookup_eq_fast]; kernel_rfl)⟩, _, _, by rfl, rfl, rfl⟩, ⟨by kernel_rfl, ⟨none, (by rw [typeLookup_type, builtinLookup_eq_fast]; kernel_rfl)⟩, _, _, by rfl, rfl, rfl⟩, trivial⟩
  refine ⟨⟨a0, a1, a2, a3, a4, a5, a6, a7, a8, a9, a10, 24, 37, 49, 61, 73, 85, 97, 109, 121, 176, 147, 152, 159, 166, 173, t0, t1⟩, ⟨gOk_of T ⟨m0, m1, m2, m3, m4, m5, m6, m7, m8, m9, m10, c0, c1, trivial⟩ ?_ ⟨e0, e1, e2, e3, e4, e5, e6, e7, e8, eR_Reader, trivial⟩ ?_ ?_, f0, f1, f2, f3, f4, f5, f6, f7, f8, f9, f10, m_initF, m_takeF, m_heldF, m_doneF, m_againF, kR_Reader, z0, z1, z2, z3, z4, z5, z6, z7, z8, ?_⟩, m10⟩
  · exact ⟨fun f e => by cases e; exact f0.func, fun f e => by cases e; exact f1.func, fun f e => by cases e; exact f2.func, fun f e => by cases e; exact f3.func, fun f e => by cases e; exact f4.func, fun f e => by cases e; exact f5.func, fun f e => by cases e; exact f6.func, fun f e => by cases e; exact f7.func, fun f e => by cases e; exact f8.func, fun f e => by cases e; exact f9.func, fun f e => by cases e; exact f10.func, (fun f e => by cases e), (fun f e => by cases e), trivial⟩
  · exact ⟨by boot_fast, by boot_fast, by boot_fast, by boot_fast, by boot_fast, by boot_fast, by boot_fast, by boot_fast, by boot_fast, by boot_fast, by boot_fast, by boot_fast, trivial⟩
  · subst hl; decide +kernel
  · show List.Nodup [24, 37, 49, 61, 73, 85, 97, 109, 121]; decide
theorem cw13 : PySem.Challenge.rw_uf040014_13.Holds := by
  refine sd fun said => ?_
  refine holds_open (q := vw) (loose := []) (Xt := XtL) (XP := XL vw []) (Yf := Hook.obs HK) (Ya := Hook.val HK) (YP := Hook.says HK) left_law (Hook.of HK) (Hook.keeps HK) (fun s e => xl_of s (Bool.and_eq_true_iff.mp e).1) XL.keeps (by rfl) (by rfl) (by rfl) (fun s e => recFacts_of (Bool.and_eq_true_iff.mp e).2) (by rfl) (by first | assumption | decide +kernel) (by decide +kernel) ⟨rfl, rfl, rfl, rfl, rfl, by decide +kernel⟩ ?hw ?hc
  (case hw => w_witness2)
  intro w s₀ s₁ mg mb G Y fa o pm cd doc dV kV ho hd hcd hD hmg hg args vals as hpre hlay hrd hwl hlo
  have KX := kIn_of Y
  refine Ground.open G ?_
  intro T B D TE TW
  obtain ⟨ad, H, hm'⟩ := facts_of T rfl KX
  have e : ad.f_law = fa := by
    have := hm'.symm.trans hmg
    cases this; rfl
  subst e
  wrow_args hpre hlay hrd hwl hlo
  rename_i hL _ _ _ hI _ hlen _
  refine law_done hg hL hI ?_ ?_
  · exact law_ca H (callerA_ok (by decide)) (.inl rfl) (by omega) rfl
  · intro s' h1 h2 h3
    exact GoodW.toG ⟨.inl ⟨_, _, _, rfl, raisesW_false (by wrow_none_raised), .bool true, by wrow_post, unshared_nil⟩, h1, h2, h3⟩
end Mine

set_option maxRecDepth 100000 in
set_option maxHeartbeats 8000000 in
theorem PySem.Challenge.cw_uf040014_13_holds : PySem.Challenge.rw_uf040014_13.Holds :=
  Mine.cw13
