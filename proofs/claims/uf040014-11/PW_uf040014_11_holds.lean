import PyProof.Rows.All
import Wide.All
import Wide.FinOn
import PyProof.RulesRaise
import PyProof.Rules2
import PyProof.Claim2
import PyProof.Seq
import PyProof.FactsAll.list_0
import PyProof.FactsAll.list_3
import PyProof.TupleIter
import PyProof.AutoListH
import PyProof.NoPylong
import PyProof.Rules3
import PyProof.SliceList
import PyProof.CallRoads
import PyProof.CallType
import PyProof.CallStr
import PyProof.Cells
import PyProof.CompMap
import PyProof.CompUse
import PyProof.PlainList
import PyProof.CompFree
import PyProof.DefCall
import PyProof.Dict
import PyProof.ListOps
import PyProof.DictKinds
import PyProof.DictTruth
import PyProof.TupleKey
import PyProof.DictRoadsH
import PyProof.EnumFor
import PyProof.EnumMake
import PyProof.IsRules
import PyProof.P3Eq
import PyProof.EqLayable
import PyProof.ExcClass2
import PyProof.ExcArgsOwn
import PyProof.ExcBaseAll.ValueError
import PyProof.ExcAttrAll.ValueError
import PyProof.RaisesMany
import PyProof.WalksMore
import PyProof.RangeFor
import PyProof.IsInstanceH
import PyProof.IsiHeapPairs
import PyProof.IsiNone
import PyProof.IsiPairs
import PyProof.ListCopy
import PyProof.ListIndexNeg
import PyProof.ListMulRoad
import PyProof.ListMulAny
import PyProof.ListRange
import PyProof.WalkInts
import PyProof.RulesAs
import PyProof.Rows.News
import PyProof.Rows.TupAssign
import PyProof.Rows.TupSub
import PyProof.Rows.IntRules
import PyProof.StrBlockH
import PyProof.Rows.Exc
import PyProof.Rows.Chain
import PyProof.Rows.Nodes
import PyProof.Rows.RuleB_mul
import PyProof.Rows.RuleB_floordiv
import PyProof.Rows.RuleB_mod
import PyProof.Rows.RuleB_rshift
import PyProof.Rows.StrTemp
import PyProof.Rows.ListMulArg
import PyProof.Rows.RuleB_small
import PyProof.Rows.RuleC_bool
import PyProof.Rows.RuleC_int
import PyProof.Rows.RuleIs2
import PyProof.SeqI3
import PyProof.Rows.StrRules
import PyProof.SameEqv
import PyProof.Rows.TupTab
import PyProof.Rows.SeqMore
import PyProof.Rows.SumAny
import PyProof.TupleOfSeq
import PyProof.Rows.SortPure
import PyProof.Rows.SortShell
import PyProof.Rows.SortWalk
import PyProof.Rows.CallKwBuiltin
import PyProof.Rows.Range3
import OpenK.KWalk
import Open.FastT9
import PySem.Challenge.RW_uf040014_11
set_option Elab.async false
set_option maxHeartbeats 8000000
open PySem PyProof.Rows
namespace Mine

abbrev FM := Addr → Option Obj

inductive D where
  | none
  | bool (b : Bool)
  | int (i : Int)
  | str (x : Str)
  | tup (ds : List D)
  | lst (ds : List D)
  | rng (a b c : Int)
  | ref (a : Addr)
  | val (v : Value)


mutual
inductive Rep (φ : FM) : Value → D → Prop
  | none : Rep φ .none .none
  | bool (b : Bool) : Rep φ (.bool b) (.bool b)
  | int (i : Int) (t : Tok) : Rep φ (.int i t) (.int i)
  | str (x : Str) (t : Tok) : Rep φ (.str x t) (.str x)
  | tup {a : Addr} {o : Obj} {vs : List Value} {n : Nat} {ds : List D} : φ a = some o → o.cls = .type "tuple" → o.data = .seq vs.toArray n → Reps φ vs ds → Rep φ (.ref a) (.tup ds)
  | lst {a : Addr} {o : Obj} {vs : List Value} {n : Nat} {ds : List D} : φ a = some o → o.cls = .type "list" → o.data = .seq vs.toArray n → Reps φ vs ds → Rep φ (.ref a) (.lst ds)
  | rng {r : Addr} {a b c : Int} {t u v : Tok} : φ r = some { cls := .type "range", dict := none, data := .fields #[.int a t, .int b u, .int c v], slots := #[] } → Rep φ (.ref r) (.rng a b c)
  | ref (a : Addr) : Rep φ (.ref a) (.ref a)
  | val (v : Value) : Rep φ v (.val v)
inductive Reps (φ : FM) : List Value → List D → Prop
  | nil : Reps φ [] []
  | cons {v : Value} {d : D} {vs : List Value} {ds : List D} : Rep φ v d → Reps φ vs ds → Reps φ (v :: vs) (d :: ds)
end

def FM.le (φ ψ : FM) : Prop := ∀ a o, φ a = some o → ψ a = some o

mutual
theorem Rep.mono {φ ψ : FM} (k : FM.le φ ψ) : ∀ {v d}, Rep φ v d → Rep ψ v d
  | _, _, .none => .none
  | _, _, .bool b => .bool b
  | _, _, .int i t => .int i t
  | _, _, .str x t => .str x t
  | _, _, .tup h c e r => .tup (k _ _ h) c e (Reps.mono k r)
  | _, _, .lst h c e r => .lst (k _ _ h) c e (Reps.mono k r)
  | _, _, .rng h => .rng (k _ _ h)
  | _, _, .ref a => .ref a
  | _, _, .val v => .val v
theorem Reps.mono {φ ψ : FM} (k : FM.le φ ψ) : ∀ {vs ds}, Reps φ vs ds → Reps ψ vs ds
  | _, _, .nil => .nil
  | _, _, .cons h r => .cons (Rep.mono k h) (Reps.mono k r)
end
theorem Reps.length {φ : FM} : ∀ {vs ds}, Reps φ vs ds → vs.length = ds.length
  | _, _, .nil => rfl
  | _, _, .cons _ r => by simp [r.length]
theorem Reps.append {φ : FM} : ∀ {vs ds ws es}, Reps φ vs ds → Reps φ ws es → Reps φ (vs ++ ws) (ds ++ es)
  | _, _, _, _, .nil, r => r
  | _, _, _, _, .cons h q, r => .cons h (q.append r)
theorem Reps.take {φ : FM} : ∀ {vs ds} (n : Nat), Reps φ vs ds → Reps φ (vs.take n) (ds.take n)
  | _, _, 0, _ => by simp; exact .nil
  | _, _, _ + 1, .nil => by simp; exact .nil
  | _, _, n + 1, .cons h r => by simp only [List.take_succ_cons]; exact .cons h (r.take n)
theorem Reps.drop {φ : FM} : ∀ {vs ds} (n : Nat), Reps φ vs ds → Reps φ (vs.drop n) (ds.drop n)
  | _, _, 0, r => by simpa using r
  | _, _, _ + 1, .nil => by simp; exact .nil
  | _, _, n + 1, .cons _ r => by simp only [List.drop_succ_cons]; exact r.drop n
theorem Reps.set {φ : FM} : ∀ {vs ds} (_ : Reps φ vs ds) {v d} (_ : Rep φ v d) (i : Nat), Reps φ (vs.set i v) (ds.set i d)
  | _, _, .nil, _, _, _, _ => by simp; exact .nil
  | _, _, .cons _ q, _, _, h, 0 => by simp only [List.set_cons_zero]; exact .cons h q
  | _, _, .cons h q, _, _, h', i + 1 => by simp only [List.set_cons_succ]; exact .cons h (q.set h' i)

inductive Look (x : Str) (d : D) : List Str → List (Option D) → Prop
  | here {ns : List Str} {vs : List (Option D)} : Look x d (x :: ns) (some d :: vs)
  | there {y : Str} {v : Option D} {ns : List Str} {vs : List (Option D)} : Look x d ns vs → Look x d (y :: ns) (v :: vs)
theorem Look.mem {x : Str} {d : D} {ns : List Str} {vs : List (Option D)} (h : Look x d ns vs) : x ∈ ns := by
  induction h with
  | here => exact .head _
  | there _ ih => exact .tail _ ih
def cellsK (L : Addr) (kn : List (Str × NameKind)) : List (Str × Addr) := cellsFrom (L + 1) kn []

inductive MO where
  | frame (L : Addr) (kn : List (Str × NameKind)) (ns : List Str) (vs : List (Option D))
  | list (a : Addr) (ds : List D)
  | exc (e : Addr) (cls : Value) (tb : Option (Addr × Value))
  | raw (a : Addr) (R : Obj → Prop)
  | pin (v : Value) (d : D)
  | dep (a : Addr) (R : FM → Obj → Prop) (m : ∀ φ ψ o, FM.le φ ψ → R φ o → R ψ o)

def MO.owned : MO → List Addr
  | .frame L kn _ _ => L :: (cellsK L kn).map (·.2)
  | .list a _ => [a]
  | .exc e _ tb => e :: (tb.map (·.1)).toList
  | .raw a _ => [a]
  | .pin _ _ => []
  | .dep a _ _ => [a]

def MO.fr : MO → Option Addr
  | .frame L _ _ _ => some L
  | _ => none

def heldAt (φ : FM) (h : Heap) (mv : Str → Option Value) (cs : List (Str × Addr)) (x : Str) (d : D) : Prop :=
  ∃ v, Rep φ v d ∧ match cs.lookup x with
    | some c => h.IsCell c (some v)
    | none => mv x = some v

def MO.holds (φ : FM) (h : Heap) : MO → Prop
  | .frame L kn ns vs => ∃ mv, h.Ns L mv ∧ (∀ x d, Look x d ns vs → heldAt φ h mv (cellsK L kn) x d) ∧ (∀ p ∈ cellsK L kn, ∃ v, h.IsCell p.2 v)
  | .list a ds => ∃ vs : List Value, h.PlainList a vs.toArray ∧ Reps φ vs ds
  | .exc e cls tb => ∃ oe vs, h.get? e = some oe ∧ (oe.cls = cls ∧ oe.dict = none) ∧ oe.data = .fields vs ∧ match tb with
      | none => vs[1]? = some .none
      | some (T, fl) => vs[1]? = some (.ref T) ∧ ∃ oT ts, h.get? T = some oT ∧ oT.data = .fields ts ∧ ts[3]? = some fl
  | .raw a R => ∃ o, h.get? a = some o ∧ R o
  | .pin v d => Rep φ v d
  | .dep a R _ => ∃ o, h.get? a = some o ∧ R φ o

def Turned (S : List Addr) (h h' : Heap) : Prop := ∀ b o, b ∉ S → h.get? b = some o → h'.get? b = some o
theorem Turned.of_sameBut {a : Addr} {h h' : Heap} (k : Heap.SameBut a h h') : Turned [a] h h' := fun b _ hb e => (k.2 b (by simpa using hb)).trans e
theorem Turned.of_extBut {a : Addr} {h h' : Heap} (k : Heap.ExtBut a h h') : Turned [a] h h' := fun b o hb e => k b o (by simpa using hb) e
theorem Turned.push (h : Heap) (o : Obj) : Turned [] h (h.push o) := fun _ _ _ e => Heap.get?_push_of_some o e
theorem Turned.mono {S S' : List Addr} {h h' : Heap} (k : Turned S h h') (hs : ∀ a, a ∈ S → a ∈ S') : Turned S' h h' := fun b o hb e => k b o (fun q => hb (hs b q)) e
theorem MO.holds_turned {φ ψ : FM} {h h' : Heap} {S : List Addr} (kφ : FM.le φ ψ) (kh : Turned S h h') : ∀ {x : MO}, x.holds φ h → (∀ a ∈ x.owned, a ∉ S) → x.holds ψ h'
  | .frame L kn ns vs, ⟨mv, hn, hm, hc⟩, hd => by
    refine ⟨mv, ?_, fun x d e => ?_, fun p hp => ?_⟩
    · obtain ⟨o, es, ep, ho, r⟩ := hn
      exact ⟨o, es, ep, kh L o (hd L (by simp [MO.owned])) ho, r⟩
    · obtain ⟨v, r, q⟩ := hm x d e
      refine ⟨v, r.mono kφ, ?_⟩
      revert q
      cases hx : (cellsK L kn).lookup x with
      | none => exact id
      | some c =>
        rintro ⟨o, ho, hd'⟩
        exact ⟨o, kh c o (hd c (by simp only [MO.owned, List.mem_cons, List.mem_map]; exact .inr ⟨_, mem_of_lookup hx, rfl⟩)) ho, hd'⟩
    · obtain ⟨v, o, ho, hd'⟩ := hc p hp
      exact ⟨v, o, kh p.2 o (hd p.2 (by simp only [MO.owned, List.mem_cons, List.mem_map]; exact .inr ⟨_, hp, rfl⟩)) ho, hd'⟩
  | .list a ds, ⟨vs, ⟨n, ho⟩, r⟩, hd => ⟨vs, ⟨n, kh a _ (hd a (by simp [MO.owned])) ho⟩, r.mono kφ⟩
  | .exc e cls tb, ⟨oe, vs, he, hc, hdat, hu⟩, hd => by
    refine ⟨oe, vs, kh e oe (hd e (by simp [MO.owned])) he, hc, hdat, ?_⟩
    cases tb with
    | none => exact hu
    | some T =>
      obtain ⟨T, fl⟩ := T
      obtain ⟨h1, oT, ts, h4, h5, h6⟩ := hu
      exact ⟨h1, oT, ts, kh T oT (hd T (by simp [MO.owned])) h4, h5, h6⟩
  | .raw a R, ⟨o, ho, r⟩, hd => ⟨o, kh a o (hd a (by simp [MO.owned])) ho, r⟩
  | .pin v d, h, _ => Rep.mono kφ h
  | .dep a R m, ⟨o, ho, r⟩, hd => ⟨o, kh a o (hd a (by simp [MO.owned])) ho, m _ _ _ kφ r⟩

theorem MO.holds_there {φ : FM} {h : Heap} : ∀ {x : MO}, x.holds φ h → ∀ a ∈ x.owned, ∃ o, h.get? a = some o
  | .frame L kn ns vs, ⟨mv, ⟨o, _, _, e, _⟩, _, hc⟩, a, ha => by
    simp only [MO.owned, List.mem_cons, List.mem_map] at ha
    rcases ha with rfl | ⟨p, hp, rfl⟩
    · exact ⟨o, e⟩
    · obtain ⟨v, o', e', _⟩ := hc p hp; exact ⟨o', e'⟩
  | .list a' ds, ⟨vs, ⟨n, e⟩, _⟩, a, ha => by simp only [MO.owned, List.mem_singleton] at ha; subst ha; exact ⟨_, e⟩
  | .exc e cls tb, ⟨oe, vs, e', _, _, hu⟩, a, ha => by
    simp only [MO.owned, List.mem_cons] at ha
    rcases ha with rfl | ha
    · exact ⟨oe, e'⟩
    · cases tb with
      | none => cases ha
      | some T => obtain ⟨T, fl⟩ := T; simp at ha; subst ha; obtain ⟨_, oT, ts, h4, _⟩ := hu; exact ⟨oT, h4⟩
  | .raw a' R, ⟨o, e, _⟩, a, ha => by simp only [MO.owned, List.mem_singleton] at ha; subst ha; exact ⟨o, e⟩
  | .pin _ _, _, a, ha => by simp [MO.owned] at ha
  | .dep a' R _, ⟨o, e, _⟩, a, ha => by simp only [MO.owned, List.mem_singleton] at ha; subst ha; exact ⟨o, e⟩

structure St (B : Shared) (F : List Addr) (T : List (Value × D)) (μ : List MO) (s : Shared) : Prop where
  ex : ∃ φ : FM, (∀ a o, B.heap.get? a = some o → φ a = some o) ∧ (∀ a o, φ a = some o → s.heap.get? a = some o) ∧
    (∀ x ∈ μ, x.holds φ s.heap) ∧ (∀ x ∈ μ, ∀ a ∈ x.owned, φ a = none) ∧ (μ.flatMap MO.owned).Nodup ∧ ∀ p ∈ T, Rep φ p.1 p.2
  os : s.os = B.os
  gf : s.gens = #[] ∧ ∀ L ∈ F, L ∈ μ.filterMap MO.fr

theorem St.stays {B : Shared} {F : List Addr} {T μ s} (h : St B F T μ s) : B.heap.StaysIn s.heap := by
  obtain ⟨⟨φ, h1, h2, _⟩, _, _⟩ := h
  exact fun b o e => h2 b o (h1 b o e)
theorem St.sub {B : Shared} {F : List Addr} {T T' μ s} (h : St B F T μ s) (k : ∀ p ∈ T', p ∈ T) : St B F T' μ s := by
  obtain ⟨⟨φ, h1, h2, h3, h4, h5, h6⟩, ho, hg⟩ := h
  exact ⟨⟨φ, h1, h2, h3, h4, h5, fun p hp => h6 p (k p hp)⟩, ho, hg⟩
theorem St.tail {B : Shared} {F : List Addr} {p T μ s} (h : St B F (p :: T) μ s) : St B F T μ s := h.sub fun _ => .tail _
theorem St.toks {B : Shared} {F : List Addr} {T μ s} (h : St B F T μ s) (t : Nat) : St B F T μ { s with toks := t } := ⟨h.ex, h.os, h.gf⟩
theorem St.add {B : Shared} {F : List Addr} {T μ s} {v : Value} {d : D} (h : St B F T μ s) (r : ∀ φ, Rep φ v d) : St B F ((v, d) :: T) μ s := by
  obtain ⟨⟨φ, h1, h2, h3, h4, h5, h6⟩, ho, hg⟩ := h
  exact ⟨⟨φ, h1, h2, h3, h4, h5, fun p hp => by rcases List.mem_cons.mp hp with rfl | hp; exact r φ; exact h6 p hp⟩, ho, hg⟩
theorem sub_owned {μ μ' : List MO} (k : List.Sublist μ' μ) : List.Sublist (μ'.flatMap MO.owned) (μ.flatMap MO.owned) := by
  induction k with
  | slnil => simp
  | cons a _ ih => simp only [List.flatMap_cons]; exact ih.trans (List.sublist_append_right _ _)
  | cons_cons a _ ih => simp only [List.flatMap_cons]; exact (List.Sublist.refl _).append ih
theorem St.forget {B : Shared} {F F' : List Addr} {T μ μ' s} (h : St B F T μ s) (k : List.Sublist μ' μ) (kf : ∀ L ∈ F', L ∈ μ'.filterMap MO.fr) : St B F' T μ' s := by
  obtain ⟨⟨φ, h1, h2, h3, h4, h5, h6⟩, ho, hg⟩ := h
  exact ⟨⟨φ, h1, h2, fun x hx => h3 x (k.subset hx), fun x hx => h4 x (k.subset hx), (sub_owned k).nodup h5, h6⟩, ho, hg.1, kf⟩
theorem St.perm {B : Shared} {F : List Addr} {T μ μ' s} (h : St B F T μ s) (k : μ'.Perm μ) : St B F T μ' s := by
  obtain ⟨⟨φ, h1, h2, h3, h4, h5, h6⟩, ho, hg⟩ := h
  refine ⟨⟨φ, h1, h2, fun x hx => h3 x (k.subset hx), fun x hx => h4 x (k.subset hx), (k.flatMap_right _).nodup_iff.mpr h5, h6⟩, ho, hg.1, fun L hL => ?_⟩
  obtain ⟨x, hx, e⟩ := List.mem_filterMap.mp (hg.2 L hL)
  exact List.mem_filterMap.mpr ⟨x, k.symm.subset hx, e⟩
theorem St.grown {B : Shared} {F : List Addr} {T μ s h'} (h : St B F T μ s) (k : s.heap.StaysIn h') (t : Nat) : St B F T μ { s with heap := h', toks := t } := by
  obtain ⟨⟨φ, h1, h2, h3, h4, h5, h6⟩, ho, hg⟩ := h
  refine ⟨⟨φ, h1, fun a o e => k a o (h2 a o e), fun x hx => MO.holds_turned (S := []) (fun _ _ e => e) (fun b o _ e => k b o e) (h3 x hx) (by simp), h4, h5, h6⟩, ho, hg⟩

theorem St.frozen {B : Shared} {F : List Addr} {T μ s d} {o : Obj} (h : St B F T μ s) (hf : o.isFreed = false) (t : Nat)
    (r : ∀ φ : FM, (∀ p ∈ T, Rep φ p.1 p.2) → φ s.heap.objs.size = some o → Rep φ (.ref s.heap.objs.size) d) : St B F ((.ref s.heap.objs.size, d) :: T) μ { s with heap := s.heap.push o, toks := t } := by
  obtain ⟨⟨φ, h1, h2, h3, h4, h5, h6⟩, ho, hg⟩ := h
  have new : φ s.heap.objs.size = none := by
    cases q : φ s.heap.objs.size with
    | none => rfl
    | some o' => exact absurd (Heap.lt_size (h2 _ _ q)) (Nat.lt_irrefl _)
  let ψ : FM := fun a => if a = s.heap.objs.size then some o else φ a
  have kψ : FM.le φ ψ := fun a o' e => by
    show (if a = s.heap.objs.size then some o else φ a) = some o'
    rw [if_neg (fun q => by rw [q, new] at e; cases e)]; exact e
  have kn : ∀ a, (s.heap.get? a).isSome → ψ a = φ a := fun a ha => by
    obtain ⟨oa, ha⟩ := Option.isSome_iff_exists.mp ha
    exact if_neg (fun q => by rw [q] at ha; exact absurd (Heap.lt_size ha) (Nat.lt_irrefl _))
  have lt : ∀ x ∈ μ, ∀ a ∈ x.owned, (s.heap.get? a).isSome := fun x hx a ha => by
    obtain ⟨o, e⟩ := MO.holds_there (h3 x hx) a ha; rw [e]; rfl
  refine ⟨⟨ψ, fun a o' e => kψ a o' (h1 a o' e), fun a o' e => ?_, fun x hx => ?_, fun x hx a ha => (kn a (lt x hx a ha)).trans (h4 x hx a ha), h5, fun p hp => ?_⟩, ho, hg⟩
  · by_cases q : a = s.heap.objs.size
    · subst q
      have : some o = some o' := by rw [← e]; exact (if_pos rfl).symm
      cases this; exact Heap.get?_push_size _ hf
    · have e' : φ a = some o' := by rw [← e]; exact (if_neg q).symm
      exact Heap.get?_push_of_some _ (h2 a o' e')
  · exact MO.holds_turned (S := []) kψ (Turned.push _ _) (h3 x hx) (by simp)
  · rcases List.mem_cons.mp hp with rfl | hp
    · exact r ψ (fun p hp => (h6 p hp).mono kψ) (if_pos rfl)
    · exact (h6 p hp).mono kψ

end Mine

open PySem PyProof.Rows
set_option linter.unusedVariables false
namespace Mine

structure Cx where
  prog : Program
  w : World
  A : Around
  B : Shared
  F : List Addr
abbrev Cx.M (C : Cx) : Model := model C.prog C.w
abbrev Post := D → List MO → Prop
abbrev XPost := Value → List MO → Prop

def TrT (C : Cx) (T : List (Value × D)) (μ : List MO) (t : Sem Value) (P : Post) (X : XPost) : Prop :=
  ∀ ρ s (Q E : Value → Shared → Prop), St C.B C.F T (μ ++ ρ) s → (∀ v d μ' s', P d μ' → St C.B C.F ((v, d) :: T) (μ' ++ ρ) s' → Q v s') → (∀ e c tb μ' s', X c μ' → St C.B C.F T (.exc e c tb :: (μ' ++ ρ)) s' → E (.ref e) s') → wpAny C.M C.A t Q E s
def TrV (C : Cx) (μ : List MO) (t : Sem Value) (P : Post) (X : XPost) : Prop := ∀ T, TrT C T μ t P X
def TrB (C : Cx) (μ : List MO) (t : Sem Bool) (P : Bool → List MO → Prop) (X : XPost) : Prop :=
  ∀ T ρ s (Q : Bool → Shared → Prop) (E : Value → Shared → Prop), St C.B C.F T (μ ++ ρ) s → (∀ b μ' s', P b μ' → St C.B C.F T (μ' ++ ρ) s' → Q b s') → (∀ e c tb μ' s', X c μ' → St C.B C.F T (.exc e c tb :: (μ' ++ ρ)) s' → E (.ref e) s') → wpAny C.M C.A t Q E s
def TrU (C : Cx) (T : List (Value × D)) (μ : List MO) (t : Sem Unit) (P : List MO → Prop) (X : XPost) : Prop :=
  ∀ ρ s (Q : Unit → Shared → Prop) (E : Value → Shared → Prop), St C.B C.F T (μ ++ ρ) s → (∀ μ' s', P μ' → St C.B C.F T (μ' ++ ρ) s' → Q () s') → (∀ e c tb μ' s', X c μ' → St C.B C.F T (.exc e c tb :: (μ' ++ ρ)) s' → E (.ref e) s') → wpAny C.M C.A t Q E s
inductive Fw where
  | next | brk | cont
  | ret (d : D)
def FwSt (B : Shared) (F : List Addr) (T : List (Value × D)) (μ : List MO) (s : Shared) : Flow → Fw → Prop
  | .next, .next => St B F T μ s
  | .brk, .brk => St B F T μ s
  | .cont, .cont => St B F T μ s
  | .ret v, .ret d => St B F ((v, d) :: T) μ s
  | _, _ => False
def TrF (C : Cx) (μ : List MO) (t : Sem Flow) (P : Fw → List MO → Prop) (X : XPost) : Prop :=
  ∀ T ρ s (Q : Flow → Shared → Prop) (E : Value → Shared → Prop), St C.B C.F T (μ ++ ρ) s → (∀ f fl μ' s', P fl μ' → FwSt C.B C.F T (μ' ++ ρ) s' f fl → Q f s') → (∀ e c tb μ' s', X c μ' → St C.B C.F T (.exc e c tb :: (μ' ++ ρ)) s' → E (.ref e) s') → wpAny C.M C.A t Q E s

def Ev (C : Cx) (env : Env) (μ : List MO) (e : Expr) (P : Post) (X : XPost) : Prop := TrV C μ (eval e env) P X
def Te (C : Cx) (env : Env) (μ : List MO) (e : Expr) (P : Bool → List MO → Prop) (X : XPost) : Prop := TrB C μ (isTrue e env (eval e env)) P X
def Ex (C : Cx) (env : Env) (μ : List MO) (ss : List Stmt) (P : Fw → List MO → Prop) (X : XPost) : Prop := TrF C μ (execs ss env) P X
def Ex1 (C : Cx) (env : Env) (μ : List MO) (st : Stmt) (P : Fw → List MO → Prop) (X : XPost) : Prop := TrF C μ (exec st env) P X
def Bin (C : Cx) (op : Operator) (d1 d2 : D) (μ : List MO) (P : Post) (X : XPost) : Prop := ∀ T a b, (a, d1) ∈ T → (b, d2) ∈ T → TrT C T μ (binaryOp op a b) P X
def Cmp (C : Cx) (op : CmpOp) (d1 d2 : D) (μ : List MO) (P : Bool → List MO → Prop) (X : XPost) : Prop := ∀ T a b, (a, d1) ∈ T → (b, d2) ∈ T → TrT C T μ (compareOp op a b) (fun d μ' => ∃ c, d = .bool c ∧ P c μ') X
def Ca (C : Cx) (f : Value) (ds : List D) (μ : List MO) (P : Post) (X : XPost) : Prop := ∀ T vs, vs.length = ds.length → (∀ p ∈ vs.zip ds, p ∈ T) → TrT C T μ (call f vs) P X
def EvL (C : Cx) (env : Env) : List MO → List Expr → (List D → List MO → Prop) → XPost → Prop
  | μ, [], P, _ => P [] μ
  | μ, e :: es, P, X => Ev C env μ e (fun d μ1 => EvL C env μ1 es (fun ds μ2 => P (d :: ds) μ2) X) X

theorem Rep.val_inv {φ : FM} {v x : Value} (h : Rep φ v (.val x)) : v = x := by
  have aux : ∀ {v d}, Rep φ v d → ∀ x, d = .val x → v = x := by
    intro v d h x e
    cases h <;> first | (injection e) | cases e
  exact aux h x rfl
section
variable {C : Cx} {env : Env} {μ : List MO} {P : Post} {X : XPost}

theorem TrT.mono {T t} {P' : Post} {X' : XPost} (h : TrT C T μ t P X) (hP : ∀ d μ', P d μ' → P' d μ') (hX : ∀ d μ', X d μ' → X' d μ') : TrT C T μ t P' X' :=
  fun ρ s Q E st hQ hE => h ρ s Q E st (fun v d μ' s' p => hQ v d μ' s' (hP d μ' p)) fun e c t μ' s' x => hE e c t μ' s' (hX c μ' x)
theorem TrV.mono {t} {P' : Post} {X' : XPost} (h : TrV C μ t P X) (hP : ∀ d μ', P d μ' → P' d μ') (hX : ∀ d μ', X d μ' → X' d μ') : TrV C μ t P' X' := fun T => (h T).mono hP hX
theorem TrF.mono {t} {P P' : Fw → List MO → Prop} {X' : XPost} (h : TrF C μ t P X) (hP : ∀ d μ', P d μ' → P' d μ') (hX : ∀ d μ', X d μ' → X' d μ') : TrF C μ t P' X' :=
  fun T ρ s Q E st hQ hE => h T ρ s Q E st (fun f v μ' s' p => hQ f v μ' s' (hP v μ' p)) fun e c t μ' s' x => hE e c t μ' s' (hX c μ' x)
theorem Ca.mono {f ds} {P' : Post} {X' : XPost} (h : Ca C f ds μ P X) (hP : ∀ d μ', P d μ' → P' d μ') (hX : ∀ d μ', X d μ' → X' d μ') : Ca C f ds μ P' X' := fun T vs hl hv => (h T vs hl hv).mono hP hX

theorem St.drop2 {B : Shared} {F : List Addr} {p q : Value × D} {T s} (h : St B F (p :: q :: T) μ s) : St B F (p :: T) μ s :=
  h.sub fun x hx => by rcases List.mem_cons.mp hx with rfl | hx; exact .head _; exact .tail _ (.tail _ hx)
theorem St.keepHead {B : Shared} {F : List Addr} {p : Value × D} {T T' : List (Value × D)} {s} (h : St B F (p :: T) μ s) (k : ∀ q ∈ T', q ∈ T) : St B F (p :: T') μ s :=
  h.sub fun x hx => by rcases List.mem_cons.mp hx with rfl | hx; exact .head _; exact .tail _ (k x hx)

theorem St.isInt {B : Shared} {F : List Addr} {T s a i} (h : St B F T μ s) (m : (a, D.int i) ∈ T) : ∃ t, a = .int i t := by
  obtain ⟨⟨φ, _, _, _, _, _, h6⟩, _, _⟩ := h
  have := h6 _ m; cases this; exact ⟨_, rfl⟩
theorem St.isBool {B : Shared} {F : List Addr} {T s a i} (h : St B F T μ s) (m : (a, D.bool i) ∈ T) : a = .bool i := by
  obtain ⟨⟨φ, _, _, _, _, _, h6⟩, _, _⟩ := h
  have := h6 _ m; cases this; rfl
theorem St.isNone {B : Shared} {F : List Addr} {T s a} (h : St B F T μ s) (m : (a, D.none) ∈ T) : a = .none := by
  obtain ⟨⟨φ, _, _, _, _, _, h6⟩, _, _⟩ := h
  have := h6 _ m; cases this; rfl
theorem St.isStr {B : Shared} {F : List Addr} {T s a x} (h : St B F T μ s) (m : (a, D.str x) ∈ T) : ∃ t, a = .str x t := by
  obtain ⟨⟨φ, _, _, _, _, _, h6⟩, _, _⟩ := h
  have := h6 _ m; cases this; exact ⟨_, rfl⟩
theorem St.isVal {B : Shared} {F : List Addr} {T s a x} (h : St B F T μ s) (m : (a, D.val x) ∈ T) : a = x := by
  obtain ⟨⟨φ, _, _, _, _, _, h6⟩, _, _⟩ := h
  exact Rep.val_inv (h6 _ m)
theorem St.isRef {B : Shared} {F : List Addr} {T s a x} (h : St B F T μ s) (m : (a, D.ref x) ∈ T) : a = .ref x := by
  obtain ⟨⟨φ, _, _, _, _, _, h6⟩, _, _⟩ := h
  have := h6 _ m; cases this; rfl

theorem rInt (i : Int) (t : Tok) : ∀ φ, Rep φ (.int i t) (.int i) := fun _ => .int i t
theorem rBool (b : Bool) : ∀ φ, Rep φ (.bool b) (.bool b) := fun _ => .bool b
theorem rStr (x : Str) (t : Tok) : ∀ φ, Rep φ (.str x t) (.str x) := fun _ => .str x t
theorem rNone : ∀ φ, Rep φ .none .none := fun _ => .none

theorem ev_int {i : Int} {k : Nat} {pos : Pos} (h : P (.int i) μ) : Ev C env μ (.Constant (.int i) k pos) P X :=
  fun _ _ _ _ _ st hQ _ => wpAny_Constant_int (hQ _ _ _ _ h ((st.toks _).add (rInt _ _)))
theorem ev_bool {b : Bool} {k : Nat} {pos : Pos} (h : P (.bool b) μ) : Ev C env μ (.Constant (.bool b) k pos) P X :=
  fun _ _ _ _ _ st hQ _ => wpAny_Constant_bool (hQ _ _ _ _ h (st.add (rBool _)))
theorem ev_none {k : Nat} {pos : Pos} (h : P .none μ) : Ev C env μ (.Constant .none k pos) P X :=
  fun _ _ _ _ _ st hQ _ => wpAny_Constant_none (hQ _ _ _ _ h (st.add rNone))
theorem ev_str {x : Str} {k : Nat} {pos : Pos} (h : P (.str x) μ) : Ev C env μ (.Constant (.str x) k pos) P X :=
  fun _ _ _ _ _ st hQ _ => Calls.Constant_str (hQ _ _ _ _ h ((st.toks _).add (rStr _ _)))

theorem ev_local {x : Str} {pos : Pos} {d : D} {L : Addr} {kn : List (Str × NameKind)} {ns : List Str} {vs : List (Option D)} {μ' : List MO} (hk : env.scope.kind = .function) (hl : env.kindOf x = some .local) (hL : env.locals = L) (hc : (cellsK L kn).lookup x = none) (hm : Look x d ns vs)
    (h : P d (.frame L kn ns vs :: μ')) (hd : (x == ("__debug__" : Str)) = false) : Ev C env (.frame L kn ns vs :: μ') (.Name x pos) P X := by
  intro T ρ s Q E st hQ hE
  have st' := st
  obtain ⟨⟨φ, h1, h2, h3, h4, h5, h6⟩, ho, hg⟩ := st'
  obtain ⟨mv, hn, hmv, hcs⟩ := h3 _ (.head _)
  obtain ⟨v, r, hv⟩ := hmv x d hm
  rw [hc] at hv
  refine wpAny_Name (wpAny_loadName_local hk hl (hL ▸ hn) hv (hQ v d _ s h ⟨⟨φ, h1, h2, h3, h4, h5, fun p hp => ?_⟩, ho, hg⟩)) hd
  rcases List.mem_cons.mp hp with rfl | hp
  · exact r
  · exact h6 p hp
theorem ev_cell {x : Str} {pos : Pos} {d : D} {L c : Addr} {kn : List (Str × NameKind)} {ns : List Str} {vs : List (Option D)} (hk : env.scope.kind = .function) (hl : env.kindOf x = some .cell) (hc : env.cells.lookup x = some c) (hf : MO.frame L kn ns vs ∈ μ) (hcs : (cellsK L kn).lookup x = some c) (hm : Look x d ns vs)
    (h : P d μ) (hd : (x == ("__debug__" : Str)) = false) : Ev C env μ (.Name x pos) P X := by
  intro T ρ s Q E st hQ hE
  have st' := st
  obtain ⟨⟨φ, h1, h2, h3, h4, h5, h6⟩, ho, hg⟩ := st'
  obtain ⟨mv, hn, hmv, _⟩ := h3 _ (List.mem_append_left _ hf)
  obtain ⟨v, r, hv⟩ := hmv x d hm
  rw [hcs] at hv
  refine wpAny_Name (wpAny_loadName_cell hk hl hc hv (hQ v d _ s h ⟨⟨φ, h1, h2, h3, h4, h5, fun p hp => ?_⟩, ho, hg⟩)) hd
  rcases List.mem_cons.mp hp with rfl | hp
  · exact r
  · exact h6 p hp
theorem ev_global {x : Str} {pos : Pos} {d : D} {v : Value} {mg : Str → Option Value} (hk : env.scope.kind = .function) (hl : env.kindOf x = some .globalImplicit) (hg : C.B.heap.Ns env.globals mg) (hv : mg x = some v) (hr : ∀ φ, Rep φ v d)
    (h : P d μ) (hd : (x == ("__debug__" : Str)) = false := by decide) : Ev C env μ (.Name x pos) P X :=
  fun _ _ _ _ _ st hQ _ => Calls.Name_function_global hk hl (Calls.loadGlobal_global (hg.keeps st.stays) hv (hQ _ _ _ _ h (st.add hr))) hd
theorem ev_builtin {x : Str} {pos : Pos} {v : Value} {mg mb : Str → Option Value} (hk : env.scope.kind = .function) (hl : env.kindOf x = some .globalImplicit) (hg : C.B.heap.Ns env.globals mg) (hmiss : mg x = none) (hb : C.B.heap.Ns env.builtins mb) (hv : mb x = some v)
    (h : P (.val v) μ) (hd : (x == ("__debug__" : Str)) = false := by decide) : Ev C env μ (.Name x pos) P X :=
  fun _ _ _ _ _ st hQ _ => Calls.Name_function_global hk hl (Calls.loadGlobal_builtin (hg.keeps st.stays) hmiss (hb.keeps st.stays) hv (hQ _ _ _ _ h (st.add fun _ => .val v))) hd

theorem ev_BinOp {l r : Expr} {op : Operator} {pos : Pos} (h : Ev C env μ l (fun d1 μ1 => Ev C env μ1 r (fun d2 μ2 => Bin C op d1 d2 μ2 P X) X) X) : Ev C env μ (.BinOp l op r pos) P X :=
  fun T ρ _ _ _ st hQ hE => wpAny_BinOp (h T ρ _ _ _ st (fun a d1 μ1 s1 h1 st1 => h1 ((a, d1) :: T) ρ s1 _ _ st1
    (fun b d2 μ2 s2 h2 st2 => h2 _ a b (.tail _ (.head _)) (.head _) ρ s2 _ _ st2 (fun v d μ' s' p st' => hQ v d μ' s' p (st'.keepHead fun _ hq => .tail _ (.tail _ hq))) fun e c t μ' s' x st' => hE e c t μ' s' x (st'.sub fun _ hq => .tail _ (.tail _ hq)))
    fun e c t μ' s' x st' => hE e c t μ' s' x st'.tail) hE)

theorem bin_add {a b : Int} (h : P (.int (a + b)) μ) : Bin C .Add (.int a) (.int b) μ P X := fun _ _ _ ha hb _ _ _ _ st hQ _ => by
  obtain ⟨t, rfl⟩ := st.isInt ha; obtain ⟨u, rfl⟩ := st.isInt hb
  exact add_int (hQ _ _ _ _ h ((st.toks _).add (rInt _ _)))
theorem bin_sub {a b : Int} (h : P (.int (a - b)) μ) : Bin C .Sub (.int a) (.int b) μ P X := fun _ _ _ ha hb _ _ _ _ st hQ _ => by
  obtain ⟨t, rfl⟩ := st.isInt ha; obtain ⟨u, rfl⟩ := st.isInt hb
  exact sub_int (hQ _ _ _ _ h ((st.toks _).add (rInt _ _)))
theorem bin_mul {a b : Int} (hm : IntMulOk a b) (h : P (.int (a * b)) μ) : Bin C .Mult (.int a) (.int b) μ P X := fun _ _ _ ha hb _ _ _ _ st hQ _ => by
  obtain ⟨t, rfl⟩ := st.isInt ha; obtain ⟨u, rfl⟩ := st.isInt hb
  exact mul_int (hQ _ _ _ _ h ((st.toks _).add (rInt _ _))) hm
theorem bin_mod {a b : Int} (hb0 : b ≠ 0) (h : P (.int (a.fmod b)) μ) : Bin C .Mod (.int a) (.int b) μ P X := fun _ _ _ ha hb _ _ _ _ st hQ _ => by
  obtain ⟨t, rfl⟩ := st.isInt ha; obtain ⟨u, rfl⟩ := st.isInt hb
  exact mod_int hb0 (hQ _ _ _ _ h ((st.toks _).add (rInt _ _)))
theorem bin_div {a b : Int} (hb0 : b ≠ 0) (hbs : b.natAbs < 1073741824) (h : P (.int (a.fdiv b)) μ) : Bin C .FloorDiv (.int a) (.int b) μ P X := fun _ _ _ ha hb _ _ _ _ st hQ _ => by
  obtain ⟨t, rfl⟩ := st.isInt ha; obtain ⟨u, rfl⟩ := st.isInt hb
  exact floordiv_int hb0 (hQ _ _ _ _ h ((st.toks _).add (rInt _ _))) (.inl (PyProof.noPylong_small hbs))
theorem bin_shl {a b : Int} (hn : 0 ≤ b) (hn2 : b ≤ 1000000) (hs : a.natAbs < 2 ^ 64) (h : P (.int (a * 2 ^ b.toNat)) μ) : Bin C .LShift (.int a) (.int b) μ P X := fun _ _ _ ha hb _ _ _ _ st hQ _ => by
  obtain ⟨t, rfl⟩ := st.isInt ha; obtain ⟨u, rfl⟩ := st.isInt hb
  exact lshift_int_small hn hn2 hs (hQ _ _ _ _ h ((st.toks _).add (rInt _ _)))
theorem bin_shr {a b : Int} (hn : 0 ≤ b) (h : P (.int (a.fdiv (2 ^ b.toNat))) μ) : Bin C .RShift (.int a) (.int b) μ P X := fun _ _ _ ha hb _ _ _ _ st hQ _ => by
  obtain ⟨t, rfl⟩ := st.isInt ha; obtain ⟨u, rfl⟩ := st.isInt hb
  exact rshift_int hn (hQ _ _ _ _ h ((st.toks _).add (rInt _ _)))

theorem cmp_lt {a b : Int} {P : Bool → List MO → Prop} (h : P (decide (a < b)) μ) : Cmp C .Lt (.int a) (.int b) μ P X := fun _ _ _ ha hb _ _ _ _ st hQ _ => by
  obtain ⟨t, rfl⟩ := st.isInt ha; obtain ⟨u, rfl⟩ := st.isInt hb
  exact lt_int (hQ _ _ _ _ ⟨_, rfl, h⟩ (st.add (rBool _)))
theorem cmp_gt {a b : Int} {P : Bool → List MO → Prop} (h : P (decide (b < a)) μ) : Cmp C .Gt (.int a) (.int b) μ P X := fun _ _ _ ha hb _ _ _ _ st hQ _ => by
  obtain ⟨t, rfl⟩ := st.isInt ha; obtain ⟨u, rfl⟩ := st.isInt hb
  exact gt_int (hQ _ _ _ _ ⟨_, rfl, h⟩ (st.add (rBool _)))
theorem cmp_le {a b : Int} {P : Bool → List MO → Prop} (h : P (decide (a ≤ b)) μ) : Cmp C .LtE (.int a) (.int b) μ P X := fun _ _ _ ha hb _ _ _ _ st hQ _ => by
  obtain ⟨t, rfl⟩ := st.isInt ha; obtain ⟨u, rfl⟩ := st.isInt hb
  exact le_int (hQ _ _ _ _ ⟨_, rfl, h⟩ (st.add (rBool _)))
theorem cmp_ge {a b : Int} {P : Bool → List MO → Prop} (h : P (decide (b ≤ a)) μ) : Cmp C .GtE (.int a) (.int b) μ P X := fun _ _ _ ha hb _ _ _ _ st hQ _ => by
  obtain ⟨t, rfl⟩ := st.isInt ha; obtain ⟨u, rfl⟩ := st.isInt hb
  exact ge_int (hQ _ _ _ _ ⟨_, rfl, h⟩ (st.add (rBool _)))
theorem cmp_eq {a b : Int} {P : Bool → List MO → Prop} (h : P (a == b) μ) : Cmp C .Eq (.int a) (.int b) μ P X := fun _ _ _ ha hb _ _ _ _ st hQ _ => by
  obtain ⟨t, rfl⟩ := st.isInt ha; obtain ⟨u, rfl⟩ := st.isInt hb
  exact eq_int (hQ _ _ _ _ ⟨_, rfl, h⟩ (st.add (rBool _)))
theorem cmp_ne {a b : Int} {P : Bool → List MO → Prop} (h : P (a != b) μ) : Cmp C .NotEq (.int a) (.int b) μ P X := fun _ _ _ ha hb _ _ _ _ st hQ _ => by
  obtain ⟨t, rfl⟩ := st.isInt ha; obtain ⟨u, rfl⟩ := st.isInt hb
  exact ne_int (hQ _ _ _ _ ⟨_, rfl, h⟩ (st.add (rBool _)))

theorem ev_Compare {l r : Expr} {op : CmpOp} {pos : Pos} (h : Ev C env μ l (fun d1 μ1 => Ev C env μ1 r (fun d2 μ2 => Cmp C op d1 d2 μ2 (fun c => P (.bool c)) X) X) X) (hm : behindInMarks op r = false) : Ev C env μ (.Compare l [op] [r] pos) P X :=
  fun T ρ _ _ _ st hQ hE => wpAny_Compare1 (h T ρ _ _ _ st (fun a d1 μ1 s1 h1 st1 => h1 ((a, d1) :: T) ρ s1 _ _ st1
    (fun b d2 μ2 s2 h2 st2 => h2 _ a b (.tail _ (.head _)) (.head _) ρ s2 _ _ st2 (fun v d μ' s' ⟨c, hc, p⟩ st' => hQ v d μ' s' (hc ▸ p) (st'.keepHead fun _ hq => .tail _ (.tail _ hq))) fun e c t μ' s' x st' => hE e c t μ' s' x (st'.sub fun _ hq => .tail _ (.tail _ hq)))
    fun e c t μ' s' x st' => hE e c t μ' s' x st'.tail) hE) hm
theorem te_Compare {l r : Expr} {op : CmpOp} {pos : Pos} {P : Bool → List MO → Prop} (h : Ev C env μ l (fun d1 μ1 => Ev C env μ1 r (fun d2 μ2 => Cmp C op d1 d2 μ2 P X) X) X) (hm : behindInMarks op r = false) : Te C env μ (.Compare l [op] [r] pos) P X :=
  fun T ρ _ _ _ st hQ hE => wpAny_isTrue_Compare1 (h T ρ _ _ _ st (fun a d1 μ1 s1 h1 st1 => h1 ((a, d1) :: T) ρ s1 _ _ st1
    (fun b d2 μ2 s2 h2 st2 => h2 _ a b (.tail _ (.head _)) (.head _) ρ s2 _ _ st2 (fun v d μ' s' ⟨c, hc, p⟩ st' => by
      subst hc
      have e := st'.isBool (.head _); subst e
      exact wpAny_truthy_bool (hQ c μ' s' p (st'.sub fun _ hq => .tail _ (.tail _ (.tail _ hq)))))
      fun e c t μ' s' x st' => hE e c t μ' s' x (st'.sub fun _ hq => .tail _ (.tail _ hq)))
    fun e c t μ' s' x st' => hE e c t μ' s' x st'.tail) hE) hm

theorem te_Not {x : Expr} {pos : Pos} {P : Bool → List MO → Prop} (h : Te C env μ x (fun b μ1 => P (!b) μ1) X) : Te C env μ (.UnaryOp .Not x pos) P X :=
  fun T ρ _ _ _ st hQ hE => wpAny_isTrue_Not (h T ρ _ _ _ st (fun b μ' s' p st' => hQ _ μ' s' p st') hE)
theorem te_value {e : Expr} {P : Bool → List MO → Prop} (h : Ev C env μ e (fun d μ1 => ∃ b, d = .bool b ∧ P b μ1) X)
    (he : isTrue e env (eval e env) = (do let v ← eval e env; standAt e.pos; holding [v] (truthy v))) : Te C env μ e P X :=
  fun T ρ _ _ _ st hQ hE => wpAny_isTrue_value (h T ρ _ _ _ st (fun v d μ' s' ⟨b, hb, p⟩ st' => by
    subst hb
    have e := st'.isBool (.head _); subst e
    exact wpAny_truthy_bool (hQ b μ' s' p st'.tail)) hE) he
def TeL (C : Cx) (env : Env) (op : BoolOp) (μ : List MO) (es : List Expr) (P : Bool → List MO → Prop) (X : XPost) : Prop := TrB C μ (allTrue op es env) P X
theorem te_BoolOp {op : BoolOp} {es : List Expr} {pos : Pos} {P : Bool → List MO → Prop} (h : TeL C env op μ es P X) : Te C env μ (.BoolOp op es pos) P X :=
  fun T ρ _ _ _ st hQ hE => wpAny_isTrue_BoolOp (h T ρ _ _ _ st hQ hE)
theorem tel_and_nil {P : Bool → List MO → Prop} (h : P true μ) : TeL C env .And μ [] P X := fun _ _ _ _ _ st hQ _ => wpAny_allTrue_And_nil (hQ _ _ _ h st)
theorem tel_or_nil {P : Bool → List MO → Prop} (h : P false μ) : TeL C env .Or μ [] P X := fun _ _ _ _ _ st hQ _ => wpAny_allTrue_Or_nil (hQ _ _ _ h st)
theorem tel_and {e : Expr} {es : List Expr} {P : Bool → List MO → Prop} (h : Te C env μ e (fun b μ1 => (b = true → TeL C env .And μ1 es P X) ∧ (b = false → P false μ1)) X) : TeL C env .And μ (e :: es) P X :=
  fun T ρ _ _ _ st hQ hE => wpAny_allTrue_And_cons (h T ρ _ _ _ st (fun b μ' s' p st' => by
    cases b with
    | true => exact p.1 rfl T ρ s' _ _ st' hQ hE
    | false => exact hQ _ _ _ (p.2 rfl) st') hE)
theorem tel_or {e : Expr} {es : List Expr} {P : Bool → List MO → Prop} (h : Te C env μ e (fun b μ1 => (b = true → P true μ1) ∧ (b = false → TeL C env .Or μ1 es P X)) X) : TeL C env .Or μ (e :: es) P X :=
  fun T ρ _ _ _ st hQ hE => wpAny_allTrue_Or_cons (h T ρ _ _ _ st (fun b μ' s' p st' => by
    cases b with
    | true => exact hQ _ _ _ (p.1 rfl) st'
    | false => exact p.2 rfl T ρ s' _ _ st' hQ hE) hE)

def EvB (C : Cx) (env : Env) (op : BoolOp) (pos : Pos) (μ : List MO) (es : List Expr) (P : Post) (X : XPost) : Prop := TrV C μ (boolOp pos op (evalEach es env)) P X
theorem ev_BoolOp {op : BoolOp} {es : List Expr} {pos : Pos} (h : EvB C env op pos μ es P X) : Ev C env μ (.BoolOp op es pos) P X := h
theorem evb_one {op : BoolOp} {e : Expr} {pos : Pos} (h : Ev C env μ e P X) : EvB C env op pos μ [e] P X := h
theorem evb_and {e e' : Expr} {es : List Expr} {pos : Pos} (h : Ev C env μ e (fun d μ1 => ∃ b, d = .bool b ∧ (b = true → EvB C env .And pos μ1 (e' :: es) P X) ∧ (b = false → P (.bool false) μ1)) X) : EvB C env .And pos μ (e :: e' :: es) P X := by
  intro T ρ s Q E st hQ hE
  show wpAny C.M C.A (do let v ← eval e env; standAt pos; let t ← holding [v] (truthy v); match BoolOp.And, t with | .And, false | .Or, true => pure v | _, _ => boolOp pos .And (evalEach (e' :: es) env)) Q E s
  refine wpAny_bind (h T ρ _ _ _ st (fun v d μ' s' ⟨b, hb, p⟩ st' => ?_) hE)
  subst hb
  have e := st'.isBool (.head _); subst e
  refine wpAny_bind (wpAny_standAt (wpAny_bind (wpAny_holding (wpAny_truthy_bool ?_))))
  cases b with
  | true => exact p.1 rfl T ρ s' _ _ st'.tail hQ hE
  | false => exact wpAny_pure (hQ _ _ _ _ (p.2 rfl) st')
theorem evb_or {e e' : Expr} {es : List Expr} {pos : Pos} (h : Ev C env μ e (fun d μ1 => ∃ b, d = .bool b ∧ (b = true → P (.bool true) μ1) ∧ (b = false → EvB C env .Or pos μ1 (e' :: es) P X)) X) : EvB C env .Or pos μ (e :: e' :: es) P X := by
  intro T ρ s Q E st hQ hE
  show wpAny C.M C.A (do let v ← eval e env; standAt pos; let t ← holding [v] (truthy v); match BoolOp.Or, t with | .And, false | .Or, true => pure v | _, _ => boolOp pos .Or (evalEach (e' :: es) env)) Q E s
  refine wpAny_bind (h T ρ _ _ _ st (fun v d μ' s' ⟨b, hb, p⟩ st' => ?_) hE)
  subst hb
  have e := st'.isBool (.head _); subst e
  refine wpAny_bind (wpAny_standAt (wpAny_bind (wpAny_holding (wpAny_truthy_bool ?_))))
  cases b with
  | false => exact p.2 rfl T ρ s' _ _ st'.tail hQ hE
  | true => exact wpAny_pure (hQ _ _ _ _ (p.1 rfl) st')
theorem ev_Not {x : Expr} {pos : Pos} (h : Ev C env μ x (fun d μ1 => ∃ b, d = .bool b ∧ P (.bool (!b)) μ1) X) : Ev C env μ (.UnaryOp .Not x pos) P X :=
  fun T ρ _ _ _ st hQ hE => wpAny_UnaryOp (h T ρ _ _ _ st (fun v d μ' s' ⟨b, hb, p⟩ st' => by
    subst hb
    have e := st'.isBool (.head _); subst e
    exact not_of (wpAny_truthy_bool (hQ _ _ _ _ p (st'.tail.add (rBool _))))) hE)

theorem ex_nil {P : Fw → List MO → Prop} (h : P .next μ) : Ex C env μ [] P X := fun _ _ _ _ _ st hQ _ => wpAny_execs_nil (hQ .next .next _ _ h st)
theorem ex_cons {st : Stmt} {ss : List Stmt} {P : Fw → List MO → Prop} (h : Ex1 C env μ st (fun fl μ1 => match fl with | .next => Ex C env μ1 ss P X | fl => P fl μ1) X) : Ex C env μ (st :: ss) P X :=
  fun T ρ _ _ _ st hQ hE => wpAny_execs_cons (h T ρ _ _ _ st (fun f fl μ' s' p st' => by
    cases f <;> cases fl <;> first | exact False.elim st' | exact p T ρ s' _ _ st' hQ hE | exact hQ _ _ _ _ p st') hE)
theorem ex_Return {e : Expr} {pos : Pos} {P : Fw → List MO → Prop} (h : Ev C env μ e (fun d μ1 => P (.ret d) μ1) X) : Ex1 C env μ (.Return (some e) pos) P X :=
  fun T ρ _ _ _ st hQ hE => wpAny_Return_some (h T ρ _ _ _ st (fun v d μ' s' p st' => hQ (.ret v) (.ret d) μ' s' p st') hE)
theorem ex_Return0 {pos : Pos} {P : Fw → List MO → Prop} (h : P (.ret .none) μ) : Ex1 C env μ (.Return none pos) P X :=
  fun _ _ _ _ _ st hQ _ => wpAny_Return_none (hQ (.ret .none) (.ret .none) _ _ h (st.add rNone))
theorem ex_If {test : Expr} {body orelse : List Stmt} {pos : Pos} {P : Fw → List MO → Prop} (h : Te C env μ test (fun b μ1 => (b = true → Ex C env μ1 body P X) ∧ (b = false → Ex C env μ1 orelse P X)) X) : Ex1 C env μ (.If test body orelse pos) P X :=
  fun T ρ _ _ _ st hQ hE => wpAny_If (h T ρ _ _ _ st (fun b μ' s' p st' => by
    cases b with
    | true => exact p.1 rfl T ρ s' _ _ st' hQ hE
    | false => exact p.2 rfl T ρ s' _ _ st' hQ hE) hE)
end

end Mine

open PySem PyProof.Rows
set_option linter.unusedVariables false
namespace Mine

structure FrOk (C : Cx) : Prop where
  ex : ∃ fs, C.A.frames = some fs ∧ ∀ env ∈ fs, env.scope.kind ≠ .module ∧ ∃ L ∈ C.F, env.frame = some L
structure FrAt (C : Cx) (env : Env) (L : Addr) : Prop where
  here : ∃ fs, C.A.frames = some (env :: fs) ∧ ∀ env ∈ fs, env.scope.kind ≠ .module ∧ ∃ L ∈ C.F, env.frame = some L
  frame : env.frame = some L
  kind : env.scope.kind ≠ .module
  own : L ∈ C.F

theorem fr_owned {μ : List MO} {L : Addr} (h : L ∈ μ.filterMap MO.fr) : ∃ kn ns vs, MO.frame L kn ns vs ∈ μ := by
  obtain ⟨x, hx, e⟩ := List.mem_filterMap.mp h
  cases x with
  | frame L' kn ns vs => simp only [MO.fr, Option.some.injEq] at e; subst e; exact ⟨kn, ns, vs, hx⟩
  | _ => simp [MO.fr] at e

theorem frame_there {φ : FM} {h : Heap} {L : Addr} {kn ns vs} (hh : (MO.frame L kn ns vs).holds φ h) : ∃ o, h.get? L = some o ∧ ∀ fs, o.data ≠ .fields fs := by
  obtain ⟨mv, ⟨o, es, ep, ho, hd, _⟩, _⟩ := hh
  exact ⟨o, ho, fun fs e => by rw [hd] at e; cases e⟩

theorem funFrames {h base : Heap} (hb : ∀ b, base.get? b = none) : ∀ {l : List Env}, (∀ env ∈ l, env.scope.kind ≠ .module ∧ ∃ L o, env.frame = some L ∧ h.get? L = some o ∧ ∀ fs, o.data ≠ .fields fs) → h.FunFrames base l
  | [], _ => trivial
  | env :: l, H => by
    obtain ⟨h1, L, o, h2, h3, h4⟩ := H env (.head _)
    exact ⟨h1, ⟨L, o, h2, hb L, h3, h4⟩, funFrames hb fun e he => H e (.tail _ he)⟩

theorem holds_slots {φ : FM} {S : List Addr} {h h' : Heap} (k : Heap.SlotsOnly S h h') : ∀ {x : MO}, x.holds φ h → (∀ a ∈ x.owned, a ∈ S → x.fr = some a) → x.holds φ h'
  | .frame L kn ns vs, ⟨mv, ⟨o, es, ep, ho, hd, r⟩, hm, hc⟩, hs => by
    have cell : ∀ c v, c ∈ (cellsK L kn).map (·.2) → h.IsCell c v → h'.IsCell c v := fun c v hcm ⟨o, ho, hd⟩ => by
      obtain ⟨sl, e⟩ := k.2.2 c o ho
      exact ⟨_, e, hd⟩
    obtain ⟨sl, e⟩ := k.2.2 L o ho
    refine ⟨mv, ⟨_, es, ep, e, hd, r⟩, fun x d q => ?_, fun p hp => ?_⟩
    · obtain ⟨v, r, q⟩ := hm x d q
      refine ⟨v, r, ?_⟩
      revert q
      cases hx : (cellsK L kn).lookup x with
      | none => exact id
      | some c => exact fun q => cell c _ (List.mem_map.mpr ⟨_, mem_of_lookup hx, rfl⟩) q
    · obtain ⟨v, q⟩ := hc p hp
      exact ⟨v, cell p.2 v (List.mem_map.mpr ⟨_, hp, rfl⟩) q⟩
  | .list a ds, ⟨vs, ⟨n, ho⟩, r⟩, hs => by
    have : a ∉ S := fun q => by have := hs a (by simp [MO.owned]) q; simp [MO.fr] at this
    exact ⟨vs, ⟨n, (k.2.1 a this).trans ho⟩, r⟩
  | .exc e cls tb, ⟨oe, vs, he, hc, hdat, hu⟩, hs => by
    have he' : e ∉ S := fun q => by have := hs e (by simp [MO.owned]) q; simp [MO.fr] at this
    refine ⟨oe, vs, (k.2.1 e he').trans he, hc, hdat, ?_⟩
    cases tb with
    | none => exact hu
    | some T =>
      obtain ⟨T, fl⟩ := T
      obtain ⟨h1, oT, ts, h4, h5, h6⟩ := hu
      have hT : T ∉ S := fun q => by have := hs T (by simp [MO.owned]) q; simp [MO.fr] at this
      exact ⟨h1, oT, ts, (k.2.1 T hT).trans h4, h5, h6⟩
  | .raw a R, ⟨o, ho, r⟩, hs => by
    have : a ∉ S := fun q => by have := hs a (by simp [MO.owned]) q; simp [MO.fr] at this
    exact ⟨o, (k.2.1 a this).trans ho, r⟩
  | .pin _ _, h, _ => h
  | .dep a R _, ⟨o, ho, r⟩, hs => by
    have : a ∉ S := fun q => by have := hs a (by simp [MO.owned]) q; simp [MO.fr] at this
    exact ⟨o, (k.2.1 a this).trans ho, r⟩

theorem own_fr {x : MO} {L : Addr} (h : x.fr = some L) : L ∈ x.owned := by
  cases x with
  | frame L' kn ns vs => simp only [MO.fr, Option.some.injEq] at h; subst h; simp [MO.owned]
  | _ => simp [MO.fr] at h
theorem owner_one {μ : List MO} (hn : (μ.flatMap MO.owned).Nodup) {x y : MO} {a : Addr} (hx : x ∈ μ) (hy : y ∈ μ) (ha : a ∈ x.owned) (hb : a ∈ y.owned) : x = y := by
  induction μ with
  | nil => cases hx
  | cons z μ ih =>
    rw [List.flatMap_cons] at hn
    obtain ⟨_, h2, h3⟩ := List.nodup_append.mp hn
    rcases List.mem_cons.mp hx with e | hx
    · rcases List.mem_cons.mp hy with e' | hy
      · exact e.trans e'.symm
      · exact absurd rfl (h3 a (e ▸ ha) a (List.mem_flatMap.mpr ⟨y, hy, hb⟩))
    · rcases List.mem_cons.mp hy with e' | hy
      · exact absurd rfl (h3 a (e' ▸ hb) a (List.mem_flatMap.mpr ⟨x, hx, ha⟩))
      · exact ih h2 hx hy

theorem St.slots {B : Shared} {F S : List Addr} {T : List (Value × D)} {μ : List MO} {s : Shared} {h' : Heap} (st : St B F T μ s) (k : Heap.SlotsOnly S s.heap h') (hS : ∀ L ∈ S, L ∈ F) : St B F T μ { s with heap := h' } := by
  obtain ⟨⟨φ, h1, h2, h3, h4, h5, h6⟩, ho, hg⟩ := st
  refine ⟨⟨φ, h1, fun a o e => ?_, fun x hx => holds_slots k (h3 x hx) fun a ha haS => ?_, h4, h5, h6⟩, ho, hg⟩
  · have : a ∉ S := fun q => by
      obtain ⟨x, hx, e'⟩ := List.mem_filterMap.mp (hg.2 a (hS a q))
      rw [h4 x hx a (own_fr e')] at e; cases e
    exact (k.2.1 a this).trans (h2 a o e)
  · obtain ⟨y, hy, e'⟩ := List.mem_filterMap.mp (hg.2 a (hS a haS))
    have := owner_one h5 hx hy ha (own_fr e')
    rw [this]; exact e'

theorem St.renew {B : Shared} {F : List Addr} {T : List (Value × D)} {μ : List MO} {s : Shared} {x x' : MO} {h' : Heap} (st : St B F T (x :: μ) s) (k : Turned x.owned s.heap h') (hf : x'.fr = x.fr)
    (hx : ∀ φ : FM, x.holds φ s.heap → x'.holds φ h') (ho : ∀ a ∈ x'.owned, a ∈ x.owned ∨ s.heap.get? a = none) (hn : x'.owned.Nodup) : St B F T (x' :: μ) { s with heap := h' } := by
  obtain ⟨⟨φ, h1, h2, h3, h4, h5, h6⟩, hos, hg⟩ := st
  rw [List.flatMap_cons] at h5
  obtain ⟨hb1, hb2, hb3⟩ := List.nodup_append.mp h5
  have new : ∀ a, s.heap.get? a = none → φ a = none := fun a e => by
    cases q : φ a with
    | none => rfl
    | some o => rw [h2 a o q] at e; cases e
  refine ⟨⟨φ, h1, fun a o e => k a o (fun q => by rw [h4 x (.head _) a q] at e; cases e) (h2 a o e), fun y hy => ?_, fun y hy a ha => ?_, ?_, h6⟩, hos, hg.1, fun L hL => ?_⟩
  · rcases List.mem_cons.mp hy with rfl | hy
    · exact hx φ (h3 x (.head _))
    · exact MO.holds_turned (fun _ _ e => e) k (h3 y (.tail _ hy)) fun a ha q => hb3 a q a (List.mem_flatMap.mpr ⟨y, hy, ha⟩) rfl
  · rcases List.mem_cons.mp hy with rfl | hy
    · rcases ho a ha with q | q
      · exact h4 x (.head _) a q
      · exact new a q
    · exact h4 y (.tail _ hy) a ha
  · rw [List.flatMap_cons]
    refine List.nodup_append.mpr ⟨hn, hb2, fun a ha b hb e => ?_⟩
    subst e
    rcases ho a ha with q | q
    · exact hb3 a q a hb rfl
    · obtain ⟨y, hy, hay⟩ := List.mem_flatMap.mp hb
      obtain ⟨o, e⟩ := MO.holds_there (h3 y (.tail _ hy)) a hay
      rw [e] at q; cases q
  · have := hg.2 L hL
    simp only [List.filterMap_cons] at this ⊢
    rw [hf]; exact this

theorem dict_mapFields (f : Array Value → Array Value) (o : Obj) : (Obj.mapFields f o).dict = o.dict := by
  obtain ⟨c, d, dt, sl⟩ := o
  cases dt <;> rfl
def emptyHeap : Heap := { (default : Heap) with objs := #[] }
theorem emptyHeap_none (b : Addr) : emptyHeap.get? b = none := by
  cases q : emptyHeap.get? b with
  | none => rfl
  | some o => exact absurd (Heap.lt_size q) (by simp [emptyHeap])

section
variable {C : Cx} {env : Env} {L : Addr} {T : List (Value × D)} {μ : List MO} {s : Shared} {E : Value → Shared → Prop}
theorem wp_frameOf {Q : Value → Shared → Prop} (H : FrAt C env L) (st : St C.B C.F T μ s) (h : ∀ s', St C.B C.F T μ s' → Q (.ref L) s') : wpAny C.M C.A (frameOf env) Q E s := by
  obtain ⟨fs, hfs, hall⟩ := H.here
  have hex : ∀ L ∈ C.F, ∃ o, s.heap.get? L = some o ∧ ∀ fs, o.data ≠ .fields fs := fun L hL => by
    obtain ⟨⟨φ, _, _, h3, _⟩, _, hg⟩ := st
    obtain ⟨kn, ns, vs, hm⟩ := fr_owned (hg.2 L hL)
    exact frame_there (h3 _ hm)
  have hall' : ∀ e ∈ env :: fs, e.scope.kind ≠ .module ∧ ∃ L ∈ C.F, e.frame = some L := fun e he => by
    rcases List.mem_cons.mp he with rfl | he
    · exact ⟨H.kind, L, H.own, H.frame⟩
    · exact hall e he
  refine wpAny_frameOf_fun (base := emptyHeap) hfs (funFrames emptyHeap_none fun e he => ?_) H.frame fun h' k => h _ (st.slots k fun L' hL' => ?_)
  · obtain ⟨h1, L', h2, h3⟩ := hall' e he
    obtain ⟨o, h4, h5⟩ := hex L' h2
    exact ⟨h1, L', o, h3, h4, h5⟩
  · obtain ⟨e, he, q⟩ := List.mem_filterMap.mp hL'
    obtain ⟨_, L2, h2, h3⟩ := hall' e he
    rw [h3] at q; cases q; exact h2

theorem wp_setFlight {e : Addr} {c : Value} {t : Addr} {fl : Value} {f : Option Addr} {Q : Unit → Shared → Prop} (st : St C.B C.F T (.exc e c (some (t, fl)) :: μ) s) (h : ∀ s', St C.B C.F T (.exc e c (some (t, f.elim .none fun f => rawInt f)) :: μ) s' → Q () s') : wpAny C.M C.A (setFlight (.ref e) f) Q E s := by
  obtain ⟨⟨φ, h1, h2, h3, h4, h5, h6⟩, ho, hg⟩ := id st
  obtain ⟨oe, vs, he, hc, hd, hv, oT, ts, hT, hdT, hts⟩ := h3 _ (.head _)
  have hne : e ≠ t := fun q => by
    rw [List.flatMap_cons] at h5
    have := (List.nodup_append.mp h5).1
    simp [MO.owned, q] at this
  unfold setFlight
  refine wpAny_bind (wpAny_field he hd hv ?_)
  rw [if_pos (by simp)]
  refine wpAny_setField hT hdT (Array.getElem?_eq_some_iff.mp hts).1 (h _ ?_)
  refine St.renew (x := .exc e c (some (t, fl))) (x' := .exc e c (some (t, f.elim .none fun f => rawInt f))) st (fun b o hb hbo => ?_) rfl (fun ψ _ => ?_) (fun a ha => .inl ha) ?_
  · exact (Heap.get?_update_other _ _ (fun q => hb (by subst q; simp [MO.owned]))).trans hbo
  · refine ⟨oe, vs, (Heap.get?_update_other _ _ (Ne.symm hne)).trans he, hc, hd, hv, _, _, Heap.get?_update_self _ hT (Obj.isFreed_of_fields (Obj.data_mapFields hdT _)), Obj.data_mapFields hdT _, ?_⟩
    have := (Array.getElem?_eq_some_iff.mp hts).1
    simp [Array.getElem?_setIfInBounds_self_of_lt this]
  · simp [MO.owned, hne]

theorem wp_entry {e : Addr} {c : Value} {tb : Option (Addr × Value)} {head : Value} {hadNext : Bool} {Q : Unit → Shared → Prop} (H : FrAt C env L) (st : St C.B C.F T (.exc e c tb :: μ) s) (h : ∀ t s', St C.B C.F T (.exc e c (some (t, rawInt L)) :: μ) s' → Q () s') :
    wpAny C.M C.A (do let a ← frameOf env; let pl ← entryPlaceOf L hadNext; let b ← EntryCells.newEntry head a .none (rawInt L) .none pl; setField (.ref e) 1 b) Q E s := by
  refine wpAny_bind (wp_frameOf H st fun s1 st1 => ?_)
  refine wpAny_bind (wpAny_entryPlaceOf fun pl hpl => ?_)
  unfold EntryCells.newEntry newFields
  refine wpAny_bind (wpAny_newObj_type ?_ (hpl.sizeOk5 _ _ _ _ _))
  obtain ⟨⟨φ, h1, h2, h3, h4, h5, h6⟩, ho, hg⟩ := id st1
  obtain ⟨oe, vs, he, hc, hd, hu⟩ := h3 _ (.head _)
  have hsz : 1 < vs.size := by
    cases tb with
    | none => exact (Array.getElem?_eq_some_iff.mp hu).1
    | some x => exact (Array.getElem?_eq_some_iff.mp hu.1).1
  have he₂ := Heap.get?_push_of_some (h := s1.heap) { cls := .type "traceback", dict := none, data := .fields ([head, .ref L, .none, rawInt L, .none] ++ (if pl.isEmpty then List.replicate 6 Value.none else pl)).toArray } he
  refine wpAny_setField he₂ hd hsz (h s1.heap.objs.size _ ?_)
  have hTe : s1.heap.objs.size ≠ e := Nat.ne_of_gt (Heap.lt_size he)
  have hd₃ := Obj.data_mapFields hd (·.setIfInBounds 1 (Value.ref s1.heap.objs.size))
  have he₃ := Heap.get?_update_self (Obj.mapFields (·.setIfInBounds 1 (Value.ref s1.heap.objs.size))) he₂ (Obj.isFreed_of_fields hd₃)
  refine St.renew (s := s1) (x := .exc e c tb) (x' := .exc e c (some (s1.heap.objs.size, rawInt L))) st1 (fun b o hb hbo => ?_) rfl (fun ψ _ => ?_) (fun a ha => ?_) ?_
  · exact (Heap.get?_update_other _ _ (fun q => hb (by subst q; simp [MO.owned]))).trans (Heap.get?_push_of_some _ hbo)
  · refine ⟨_, _, he₃, ⟨(Obj.cls_mapFields _ _).trans hc.1, (dict_mapFields _ _).trans hc.2⟩, hd₃, by simp [hsz], _, _, (Heap.get?_update_other _ _ (Ne.symm hTe)).trans (Heap.get?_push_size _ rfl), rfl, by simp⟩
  · simp only [MO.owned, Option.map_some, Option.toList_some, List.mem_cons, List.not_mem_nil, or_false] at ha
    rcases ha with rfl | rfl
    · exact .inl (by simp [MO.owned])
    · right
      cases q : s1.heap.get? s1.heap.objs.size with
      | none => rfl
      | some o => exact absurd (Heap.lt_size q) (Nat.lt_irrefl _)
  · simp [MO.owned, Ne.symm hTe]
theorem wp_note {e : Addr} {c : Value} {tb : Option (Addr × Value)} {Q : Unit → Shared → Prop} (H : FrAt C env L) (st : St C.B C.F T (.exc e c tb :: μ) s) (h : ∀ t s', St C.B C.F T (.exc e c (some (t, rawInt L)) :: μ) s' → Q () s') : wpAny C.M C.A (noteFrame (.ref e) env) Q E s := by
  obtain ⟨⟨φ, h1, h2, h3, h4, h5, h6⟩, ho, hg⟩ := id st
  obtain ⟨oe, vs, he, hc, hd, hu⟩ := h3 _ (.head _)
  unfold noteFrame
  simp only [H.frame]
  cases tb with
  | none =>
    refine wpAny_bind (wpAny_field he hd hu ?_)
    rw [if_neg (by decide)]
    exact wp_entry H st h
  | some x =>
    obtain ⟨t, fl⟩ := x
    obtain ⟨hv, oT, ts, hT, hdT, hts⟩ := hu
    refine wpAny_bind (wpAny_field he hd hv ?_)
    rw [if_pos (by simp)]
    refine wpAny_bind (wpAny_field hT hdT hts ?_)
    by_cases q : (fl == rawInt L) = true
    · rw [if_pos q]
      have : fl = rawInt L := beq_iff_eq.mp q
      subst this
      exact wpAny_pure (h t s st)
    · rw [if_neg q]
      have hne : e ≠ t := fun q => by
        rw [List.flatMap_cons] at h5
        have := (List.nodup_append.mp h5).1
        simp [MO.owned, q] at this
      refine wpAny_bind (wpAny_setField hT hdT (Array.getElem?_eq_some_iff.mp hts).1 ?_)
      refine wp_entry (tb := some (t, .none)) H ?_ h
      refine St.renew (x := .exc e c (some (t, fl))) (x' := .exc e c (some (t, .none))) st (fun b o hb hbo => ?_) rfl (fun ψ _ => ?_) (fun a ha => .inl ha) ?_
      · exact (Heap.get?_update_other _ _ (fun q => hb (by subst q; simp [MO.owned]))).trans hbo
      · refine ⟨oe, vs, (Heap.get?_update_other _ _ (Ne.symm hne)).trans he, hc, hd, hv, _, _, Heap.get?_update_self _ hT (Obj.isFreed_of_fields (Obj.data_mapFields hdT _)), Obj.data_mapFields hdT _, ?_⟩
        have := (Array.getElem?_eq_some_iff.mp hts).1
        simp [Array.getElem?_setIfInBounds_self_of_lt this]
      · simp [MO.owned, hne]
theorem wp_leaving {e : Addr} {c : Value} {tb : Option (Addr × Value)} {Q : Unit → Shared → Prop} (H : FrAt C env L) (st : St C.B C.F T (.exc e c tb :: μ) s) (h : ∀ t s', St C.B C.F T (.exc e c (some (t, .none)) :: μ) s' → Q () s') : wpAny C.M C.A (leaving env (.ref e)) Q E s := by
  unfold leaving
  refine wpAny_bind (wp_note H st fun t s1 st1 => ?_)
  exact wp_setFlight (f := none) st1 fun s2 st2 => h t s2 st2
theorem wp_noted {e : Addr} {c : Value} {tb : Option (Addr × Value)} {E' : Value → Shared → Prop} (H : FrAt C env L) (st : St C.B C.F T (.exc e c tb :: μ) s) (h : ∀ t s', St C.B C.F T (.exc e c (some (t, rawInt L)) :: μ) s' → E' (.ref e) s') : notedBy C.M C.A env E' (.ref e) s :=
  wp_note H st fun t s' st' => h t s' st'
theorem wp_cameBack {e : Addr} {c : Value} {t : Addr} {fl : Value} {E' : Value → Shared → Prop} (H : FrAt C env L) (st : St C.B C.F T (.exc e c (some (t, fl)) :: μ) s) (h : ∀ s', St C.B C.F T (.exc e c (some (t, rawInt L)) :: μ) s' → E' (.ref e) s') : cameBackBy C.M C.A env E' (.ref e) s := by
  obtain ⟨⟨φ, h1, h2, h3, h4, h5, h6⟩, ho, hg⟩ := id st
  obtain ⟨oe, vs, he, hc, hd, hv, _⟩ := h3 _ (.head _)
  unfold cameBackBy
  refine wpAny_bind (wpAny_field he hd hv ?_)
  rw [if_neg (by simp)]
  rw [H.frame]
  exact wp_setFlight (f := some L) st fun s' st' => h s' st'
end
end Mine

open PySem PyProof.Rows
set_option linter.unusedVariables false
namespace Mine

theorem cellsFrom_some' {x : Str} : ∀ (names : List (Str × NameKind)) (n : Nat) (acc : List (Str × Addr)), names.lookup x = some .cell ∨ (acc.lookup x).isSome = true → ((cellsFrom n names acc).lookup x).isSome = true
  | [], _, _, h => h.elim (fun e => by cases e) id
  | (y, k) :: r, n, acc, h => by
    unfold cellsFrom
    by_cases hk : (k == .cell) = true
    · rw [if_pos hk]
      refine cellsFrom_some' r (n + 1) ((y, n) :: acc) ?_
      by_cases hy : (x == y) = true
      · exact .inr (by rw [List.lookup_cons, hy]; rfl)
      · have hy' : (x == y) = false := by simpa using hy
        refine h.imp (fun e => ?_) fun e => ?_
        · rw [List.lookup_cons, hy'] at e; exact e
        · rw [List.lookup_cons, hy']; exact e
    · rw [if_neg hk]
      refine cellsFrom_some' r n acc ?_
      by_cases hy : (x == y) = true
      · refine .inr (h.elim (fun e => ?_) id)
        rw [List.lookup_cons, hy] at e
        exact absurd (by rw [Option.some.inj e]; rfl) hk
      · have hy' : (x == y) = false := by simpa using hy
        refine h.imp (fun e => ?_) id
        rw [List.lookup_cons, hy'] at e; exact e
theorem cellsFrom_none {x : Str} : ∀ (names : List (Str × NameKind)) (n : Nat) (acc : List (Str × Addr)), (names.all fun p => p.1 != x || p.2 != .cell) = true → acc.lookup x = none → (cellsFrom n names acc).lookup x = none
  | [], _, _, _, h => h
  | (y, k) :: r, n, acc, ha, h => by
    unfold cellsFrom
    rw [List.all_cons, Bool.and_eq_true] at ha
    by_cases hk : (k == .cell) = true
    · rw [if_pos hk]
      have hk' : k = .cell := by simpa using hk
      refine cellsFrom_none r (n + 1) _ ha.2 ?_
      have hy : (x == y) = false := by
        have := ha.1
        simp only [hk', bne_self_eq_false, Bool.or_false, bne_iff_ne, ne_eq] at this
        simpa using fun e => this e.symm
      rw [List.lookup_cons, hy]; exact h
    · rw [if_neg hk]; exact cellsFrom_none r n acc ha.2 h
theorem cellsFrom_mem {p : Str × Addr} : ∀ (names : List (Str × NameKind)) (n : Nat) (acc : List (Str × Addr)), p ∈ cellsFrom n names acc → p ∈ acc ∨ n ≤ p.2
  | [], _, _, h => .inl h
  | (y, k) :: r, n, acc, h => by
    unfold cellsFrom at h
    split at h
    · rcases cellsFrom_mem r (n + 1) _ h with h | h
      · rcases List.mem_cons.mp h with rfl | h
        · exact .inr (Nat.le_refl _)
        · exact .inl h
      · exact .inr (by omega)
    · exact cellsFrom_mem r n acc h

theorem lookup_of_nodup {α : Type} : ∀ {l : List (Str × α)} {p : Str × α}, (l.map (·.1)).Nodup → p ∈ l → l.lookup p.1 = some p.2
  | (y, v) :: r, p, hn, hp => by
    rw [List.lookup_cons]
    rcases List.mem_cons.mp hp with rfl | hp
    · rw [beq_self_eq_true]
    · simp only [List.map_cons, List.nodup_cons] at hn
      have : (p.1 == y) = false := by
        simpa using fun e => hn.1 (by rw [← e]; exact List.mem_map_of_mem hp)
      rw [this]; exact lookup_of_nodup hn.2 hp
theorem cellsFrom_names' : ∀ (names : List (Str × NameKind)) (n k : Nat) (acc bcc : List (Str × Addr)), acc.map (·.1) = bcc.map (·.1) → (cellsFrom n names acc).map (·.1) = (cellsFrom k names bcc).map (·.1)
  | [], _, _, _, _, h => h
  | (y, kd) :: r, n, k, acc, bcc, h => by
    unfold cellsFrom
    split
    · exact cellsFrom_names' r _ _ _ _ (by simp [h])
    · exact cellsFrom_names' r _ _ _ _ h

def paramsOk (sc : List (Str × NameKind)) (names : List Str) : Bool := decide ((cellsFrom 0 sc []).map (·.1)).Nodup && names.all fun x => (sc.lookup x == some .local && sc.all fun p => p.1 != x || p.2 != .cell) || sc.lookup x == some .cell

theorem lookup_zip_mem {α : Type} : ∀ {ns : List Str} {vs : List α} {x : Str} {v : α}, (ns.zip vs).lookup x = some v → x ∈ ns
  | n :: ns, v' :: vs, x, v, h => by
    rw [List.zip_cons_cons, List.lookup_cons] at h
    cases hb : x == n with
    | true => rw [beq_iff_eq.mp hb]; exact List.mem_cons_self
    | false => rw [hb] at h; exact .tail _ (lookup_zip_mem h)
  | [], _, _, _, h => by simp at h
  | _ :: _, [], _, _, h => by simp at h

theorem bindL_lookup (k : Str → Option NameKind) : ∀ {ns : List Str} {vs : List Value} (m : Str → Option Value) (x : Str), ns.Nodup → k x = some .local →
    bindL k (ns.zip vs) m x = ((ns.zip vs).lookup x).or (m x)
  | [], _, _, _, _, _ => by simp [bindL]
  | _ :: _, [], _, _, _, _ => by simp [bindL]
  | n :: ns, v :: vs, m, x, hnd, hk => by
    obtain ⟨h1, h2⟩ := List.nodup_cons.mp hnd
    rw [List.zip_cons_cons, bindL, bindL_lookup k _ x h2 hk, List.lookup_cons]
    by_cases hx : x = n
    · subst hx
      rw [beq_self_eq_true, if_pos hk, if_pos rfl]
      cases q : (ns.zip vs).lookup x with
      | none => rfl
      | some v' => exact absurd (lookup_zip_mem q) h1
    · have : (x == n) = false := by simpa using hx
      rw [this]
      split <;> simp [hx]
theorem bindC_lookup (k : Str → Option NameKind) : ∀ {ns : List Str} {vs : List Value} (m : Str → Option Value) (x : Str), ns.Nodup → k x = some .cell →
    bindC k (ns.zip vs) m x = ((ns.zip vs).lookup x).or (m x)
  | [], _, _, _, _, _ => by simp [bindC]
  | _ :: _, [], _, _, _, _ => by simp [bindC]
  | n :: ns, v :: vs, m, x, hnd, hk => by
    obtain ⟨h1, h2⟩ := List.nodup_cons.mp hnd
    rw [List.zip_cons_cons, bindC, bindC_lookup k _ x h2 hk, List.lookup_cons]
    by_cases hx : x = n
    · subst hx
      rw [beq_self_eq_true, if_neg (by rw [hk]; decide), if_pos rfl]
      cases q : (ns.zip vs).lookup x with
      | none => rfl
      | some v' => exact absurd (lookup_zip_mem q) h1
    · have : (x == n) = false := by simpa using hx
      rw [this]
      split <;> simp [hx]

theorem reps_lookup {φ : FM} : ∀ {ns : List Str} {vs : List Value} {ds : List D} {x : Str} {d : D}, vs.length = ds.length → (∀ p ∈ vs.zip ds, Rep φ p.1 p.2) → (ns.zip ds).lookup x = some d → ∃ v, (ns.zip vs).lookup x = some v ∧ Rep φ v d
  | [], _, _, _, _, _, _, h => by simp at h
  | _ :: _, [], [], _, _, _, _, h => by simp at h
  | n :: ns, v :: vs, d' :: ds, x, d, hl, hr, h => by
    rw [List.zip_cons_cons, List.lookup_cons] at h
    rw [List.zip_cons_cons, List.lookup_cons]
    cases hb : x == n with
    | true => rw [hb] at h; cases h; exact ⟨v, rfl, hr _ (.head _)⟩
    | false => rw [hb] at h; exact reps_lookup (by simpa using hl) (fun p hp => hr p (.tail _ hp)) h
  | _ :: _, _ :: _, [], _, _, hl, _, _ => by simp at hl
  | _ :: _, [], _ :: _, _, _, hl, _, _ => by simp at hl

theorem look_nones {x : Str} {d : D} : ∀ {rest : List Str}, ¬ Look x d rest (rest.map fun _ => none)
  | [], h => by cases h
  | _ :: _, h => by cases h with | there h => exact look_nones h
theorem look_params {x : Str} {d : D} : ∀ {names : List Str} {ds : List D} {rest : List Str}, names.length = ds.length → names.Nodup → Look x d (names ++ rest) (ds.map some ++ rest.map fun _ => none) → (names.zip ds).lookup x = some d
  | [], [], _, _, _, h => (look_nones h).elim
  | n :: ns, e :: ds, rest, hl, hn, h => by
    rw [List.zip_cons_cons, List.lookup_cons]
    have aux : ∀ {q : List Str} {w : List (Option D)}, Look x d (n :: q) (some e :: w) → (x = n ∧ d = e) ∨ Look x d q w := by
      intro q w h
      cases h with
      | here => exact .inl ⟨rfl, rfl⟩
      | there h => exact .inr h
    rcases aux (by simpa using h) with ⟨rfl, rfl⟩ | h'
    · simp
    · have r := look_params (by simpa using hl) (List.nodup_cons.mp hn).2 h'
      have : (x == n) = false := by
        refine beq_eq_false_iff_ne.mpr fun e' => (List.nodup_cons.mp hn).1 ?_
        rw [← e']; exact lookup_zip_mem r
      rw [this]; exact r

def Cx.deeper (C : Cx) (env : Env) : Cx := { C with A := C.A.deeper env, F := env.locals :: C.F }

structure FnAt (B : Shared) (f : Addr) (fd : FuncData) (body : List Stmt) (names : List Str) : Prop where
  obj : ∃ fo, B.heap.get? f = some fo ∧ fo.data = .func fd
  lim : B.heap.NoLimit
  code : B.heap.CodeRec fd.code fd.qualname
  body : fd.body = .stmts body
  clo : fd.closure = []
  bind : ∀ vs : List Value, vs.length = names.length → bindArgs fd ⟨vs, []⟩ = pure (names.zip vs)
  nodup : names.Nodup
  ok : paramsOk fd.scope.names names = true
  co : fd.scope.isCoroutine = false
  gen : fd.scope.isGenerator = false
  kind : fd.scope.kind = .function

section
variable {C : Cx} {env : Env} {μ : List MO} {P : Post} {X : XPost}

theorem kind_of_ok {sc : List (Str × NameKind)} {names : List Str} (ok : paramsOk sc names = true) {x : Str} (hx : x ∈ names) :
    (sc.lookup x = some .local ∧ ∀ n, (cellsFrom n sc []).lookup x = none) ∨ (sc.lookup x = some .cell ∧ ∀ n, ((cellsFrom n sc []).lookup x).isSome = true) := by
  have := List.all_eq_true.mp (Bool.and_eq_true_iff.mp ok).2 x hx
  rcases Bool.or_eq_true_iff.mp this with q | q
  · obtain ⟨a, b⟩ := Bool.and_eq_true_iff.mp q
    exact .inl ⟨beq_iff_eq.mp a, fun n => cellsFrom_none _ _ _ b rfl⟩
  · exact .inr ⟨beq_iff_eq.mp q, fun n => cellsFrom_some' _ _ _ (.inl (beq_iff_eq.mp q))⟩

theorem St.enter {B : Shared} {F : List Addr} {T : List (Value × D)} {s s₁ : Shared} {fd : FuncData} {f : Addr} {names rest : List Str} {vs : List Value} {ds : List D} (st : St B F T μ s) (ok : paramsOk fd.scope.names names = true) (hnd : names.Nodup) (hln : names.length = ds.length) (hl : vs.length = ds.length) (hv : ∀ p ∈ vs.zip ds, p ∈ T)
    (x : InCallC s (callEnvC fd s.heap.objs.size f).locals (bindL (callEnvC fd s.heap.objs.size f).kindOf (names.zip vs) fun _ => none) (callEnvC fd s.heap.objs.size f).cells (bindC (callEnvC fd s.heap.objs.size f).kindOf (names.zip vs) fun _ => none) s₁) :
    St B (s.heap.objs.size :: F) T (.frame s.heap.objs.size fd.scope.names (names ++ rest) (ds.map some ++ rest.map fun _ => none) :: μ) s₁ := by
  obtain ⟨⟨φ, h1, h2, h3, h4, h5, h6⟩, ho, hg⟩ := st
  obtain ⟨h', tk, rfl, keep⟩ := x.done
  have small : ∀ a o, s.heap.get? a = some o → a < s.heap.objs.size := fun a o e => Heap.lt_size e
  have ownLt : ∀ y ∈ μ, ∀ a ∈ y.owned, a < s.heap.objs.size := fun y hy a ha => by
    obtain ⟨o, e⟩ := MO.holds_there (h3 y hy) a ha; exact Heap.lt_size e
  have newGe : ∀ a ∈ (MO.frame s.heap.objs.size fd.scope.names (names ++ rest) (ds.map some ++ rest.map fun _ => none)).owned, s.heap.objs.size ≤ a := fun a ha => by
    simp only [MO.owned, List.mem_cons, List.mem_map] at ha
    rcases ha with rfl | ⟨p, hp, rfl⟩
    · exact Nat.le_refl _
    · rcases cellsFrom_mem _ _ _ hp with q | q
      · cases q
      · omega
  refine ⟨⟨φ, h1, fun a o e => keep a o (h2 a o e), fun y hy => ?_, fun y hy => ?_, ?_, h6⟩, ho, hg.1, fun L hL => ?_⟩
  · rcases List.mem_cons.mp hy with rfl | hy
    · refine ⟨_, x.toInCall.ns, fun n d hn => ?_, fun p hp => ?_⟩
      · replace hn := look_params hln hnd hn
        obtain ⟨v, hv', r⟩ := reps_lookup hl (fun p hp => h6 p (hv p hp)) hn
        refine ⟨v, r, ?_⟩
        unfold cellsK
        rcases kind_of_ok ok (lookup_zip_mem hn) with ⟨a, b⟩ | ⟨a, b⟩
        · rw [b]
          show bindL _ _ _ n = some v
          rw [bindL_lookup _ _ n hnd (show Env.kindOf (callEnvC fd s.heap.objs.size f) n = _ from a), hv']; rfl
        · obtain ⟨c, hc⟩ := Option.isSome_iff_exists.mp (b (s.heap.objs.size + 1))
          rw [hc]
          have := x.cell n c hc
          rw [bindC_lookup _ _ n hnd (show Env.kindOf (callEnvC fd s.heap.objs.size f) n = _ from a), hv'] at this
          exact this
      · refine ⟨_, x.cell p.1 p.2 (lookup_of_nodup ?_ hp)⟩
        have q := of_decide_eq_true (Bool.and_eq_true_iff.mp ok).1
        show ((cellsFrom (s.heap.objs.size + 1) fd.scope.names []).map (·.1)).Nodup
        rw [← cellsFrom_names' fd.scope.names 0 (s.heap.objs.size + 1) [] [] rfl]; exact q
    · exact MO.holds_turned (S := []) (fun _ _ e => e) (fun b o _ e => keep b o e) (h3 y hy) (by simp)
  · rcases List.mem_cons.mp hy with rfl | hy
    · intro a ha
      cases q : φ a with
      | none => rfl
      | some o => exact absurd (small a o (h2 a o q)) (Nat.not_lt.mpr (newGe a ha))
    · exact h4 y hy
  · rw [List.flatMap_cons]
    refine List.nodup_append.mpr ⟨?_, h5, fun a ha b hb e => ?_⟩
    · show (s.heap.objs.size :: (cellsFrom (s.heap.objs.size + 1) fd.scope.names []).map (·.2)).Nodup
      refine List.nodup_cons.mpr ⟨fun q => ?_, ?_⟩
      · obtain ⟨p, hp, e⟩ := List.mem_map.mp q
        have := x.above p.1 p.2 hp
        exact absurd e (Nat.ne_of_gt this)
      · exact List.pairwise_map.mpr x.apart
    · subst e
      obtain ⟨y, hy, ha'⟩ := List.mem_flatMap.mp hb
      exact absurd (ownLt y hy a ha') (Nat.not_lt.mpr (newGe a ha))
  · simp only [List.filterMap_cons, MO.fr]
    rcases List.mem_cons.mp hL with rfl | hL
    · exact .head _
    · exact .tail _ (hg.2 L hL)

theorem ca_fn {f : Addr} {fd : FuncData} {body : List Stmt} {names : List Str} {ds : List D} (rest : List Str) (F : FnAt C.B f fd body names) (hF : FrOk C) (hroom : C.A.depth < recursionLimit) (hlen : ds.length = names.length)
    (h : ∀ L, FrAt (C.deeper (callEnvC fd L f)) (callEnvC fd L f) L → Ex (C.deeper (callEnvC fd L f)) (callEnvC fd L f) (.frame L fd.scope.names (names ++ rest) (ds.map some ++ rest.map fun _ => none) :: μ) body
      (fun fl μ' => ∃ ns' vs' μ'', μ'.Perm (.frame L fd.scope.names ns' vs' :: μ'') ∧ P (match fl with | .ret d => d | _ => .none) μ'') (fun c μ' => ∃ ns' vs' μ'', μ'.Perm (.frame L fd.scope.names ns' vs' :: μ'') ∧ X c μ'')) : Ca C (.ref f) ds μ P X := by
  intro T vs hl hv ρ s Q E st hQ hE
  obtain ⟨fo, ho, hd⟩ := F.obj
  have hne : ∀ L ∈ C.F, L ≠ s.heap.objs.size := fun L hL => by
    obtain ⟨⟨φ, _, _, h3, _⟩, _, hg⟩ := id st
    obtain ⟨x, hx, e⟩ := List.mem_filterMap.mp (hg.2 L hL)
    obtain ⟨o, e'⟩ := MO.holds_there (h3 x hx) L (own_fr e)
    exact Nat.ne_of_lt (Heap.lt_size e')
  have drop : ∀ {T' : List (Value × D)} {ns' vs'} {pre μ'' : List MO} {s' : Shared}, St C.B (s.heap.objs.size :: C.F) T' (pre ++ .frame s.heap.objs.size fd.scope.names ns' vs' :: μ'') s' → St C.B C.F T' (pre ++ μ'') s' := by
    intro T' ns' vs' pre μ'' s' st'
    refine St.forget st' ((List.Sublist.refl pre).append (List.sublist_cons_self _ _)) fun L hL => ?_
    have := st'.gf.2 L (.tail _ hL)
    simp only [List.filterMap_append, List.filterMap_cons, MO.fr, List.mem_append, List.mem_cons] at this ⊢
    rcases this with q | q | q
    · exact .inl q
    · exact absurd q (hne L hL)
    · exact .inr q
  have hat : FrAt (C.deeper (callEnvC fd s.heap.objs.size f)) (callEnvC fd s.heap.objs.size f) s.heap.objs.size := by
    obtain ⟨fs, h1, h2⟩ := hF.ex
    refine ⟨⟨fs, PySem.Around.frames_deeper h1, fun e he => ?_⟩, rfl, by show fd.scope.kind ≠ _; rw [F.kind]; decide, .head _⟩
    obtain ⟨a, L, b, c⟩ := h2 e he
    exact ⟨a, L, .tail _ b, c⟩
  refine wpAny_call (codeAny_call_cells hroom (st.stays _ _ ho) hd (F.lim.keeps st.stays) (F.code.keeps st.stays) F.body (F.bind vs (hl.trans hlen)) F.clo (fun x hx => ?_) (fun s₁ x => ?_) F.co F.gen F.kind)
  · have := (List.of_mem_zip (show (x.1, x.2) ∈ _ from hx)).1
    rcases kind_of_ok F.ok this with ⟨a, _⟩ | ⟨a, b⟩
    · exact .inl a
    · exact .inr ⟨a, b _⟩
  · refine h s.heap.objs.size hat T ρ s₁ _ _ (st.enter F.ok F.nodup hlen.symm hl hv x) (fun f' fl μ' s' p st' => ?_) fun e c tb μ' s' q st' => ?_
    · obtain ⟨ns', vs', μ'', pm, p⟩ := p
      cases f' <;> cases fl <;> first
        | exact False.elim st'
        | exact hQ _ _ _ _ p ((drop (pre := []) (St.perm st' (pm.symm.append (List.Perm.refl ρ)))).add rNone)
        | exact hQ _ _ _ _ p (drop (pre := []) (St.perm st' (pm.symm.append (List.Perm.refl ρ))))
    · obtain ⟨ns', vs', μ'', pm, q⟩ := q
      refine wp_leaving hat st' fun t s'' st'' => hE e c _ μ'' s'' q (drop (pre := [.exc e c (some (t, .none))]) (St.perm st'' (.cons _ (pm.symm.append (List.Perm.refl ρ)))))
end
end Mine

open PySem PyProof.Rows
set_option linter.unusedVariables false
namespace Mine

def starred : Expr → Bool
  | .Starred .. => true
  | _ => false
def noStars : List Expr → Bool
  | [] => true
  | e :: es => !starred e && noStars es
theorem starEach_plain (env : Env) : ∀ {es : List Expr}, noStars es = true → starEach es env = es.map fun e => (false, eval e env)
  | [], _ => rfl
  | e :: es, h => by
    obtain ⟨h1, h2⟩ := Bool.and_eq_true_iff.mp h
    have : starEach (e :: es) env = (false, eval e env) :: starEach es env := by
      cases e <;> first | rfl | (simp [starred] at h1)
    rw [this, starEach_plain env h2]; rfl
theorem backTo_plain (pos : Pos) (env : Env) : ∀ (es : List Expr), backTo pos (es.map fun e => (false, eval e env)) = es.map fun e => (false, eval e env)
  | [] => rfl
  | e :: es => by
    have := backTo_plain pos env es
    unfold backTo at this ⊢
    simp only [List.map_cons, this]; rfl

section
variable {C : Cx} {env : Env} {P : Post} {X : XPost}

theorem evl_spliced : ∀ {es : List Expr} {μ : List MO} {P : List D → List MO → Prop}, EvL C env μ es P X → ∀ T ρ s (Q : List Value → Shared → Prop) (E : Value → Shared → Prop), St C.B C.F T (μ ++ ρ) s →
    (∀ vs ds μ' s' T', P ds μ' → vs.length = ds.length → (∀ p ∈ vs.zip ds, p ∈ T') → (∀ p ∈ T, p ∈ T') → St C.B C.F T' (μ' ++ ρ) s' → Q vs s') → (∀ e c tb μ' s', X c μ' → St C.B C.F T (.exc e c tb :: (μ' ++ ρ)) s' → E (.ref e) s') → wpAny C.M C.A (spliced (es.map fun e => (false, eval e env))) Q E s
  | [], μ, P, h, T, ρ, s, Q, E, st, hQ, hE => Calls.spliced_nil (hQ [] [] μ s T h rfl (fun _ q => nomatch q) (fun _ q => q) st)
  | e :: es, μ, P, h, T, ρ, s, Q, E, st, hQ, hE => by
    refine Calls.spliced_cons (h T ρ s _ _ st (fun v d μ1 s1 h1 st1 => ?_) hE)
    refine evl_spliced h1 ((v, d) :: T) ρ s1 _ _ st1 (fun vs ds μ' s' T' p hl hz hT st' => ?_) fun e c t μ' s' x st' => hE e c t μ' s' x st'.tail
    refine hQ (v :: vs) (d :: ds) μ' s' T' p (by simp [hl]) (fun q hq => ?_) (fun q hq => hT q (.tail _ hq)) st'
    rw [List.zip_cons_cons] at hq
    rcases List.mem_cons.mp hq with rfl | hq
    · exact hT _ (.head _)
    · exact hz q hq

theorem evl_evalArgs {es : List Expr} {μ : List MO} {f : Value} {P : List D → List MO → Prop} (h : EvL C env μ es P X) (T : List (Value × D)) (ρ : List MO) (s : Shared) (Q : Args → Shared → Prop) (E : Value → Shared → Prop) (st : St C.B C.F T (μ ++ ρ) s)
    (hQ : ∀ vs ds μ' s' T', P ds μ' → vs.length = ds.length → (∀ p ∈ vs.zip ds, p ∈ T') → (∀ p ∈ T, p ∈ T') → St C.B C.F T' (μ' ++ ρ) s' → Q ⟨vs, []⟩ s') (hE : ∀ e c tb μ' s', X c μ' → St C.B C.F T (.exc e c tb :: (μ' ++ ρ)) s' → E (.ref e) s') :
    wpAny C.M C.A (evalArgs f true (es.map fun e => (false, eval e env)) []) Q E s := by
  cases es with
  | nil => exact PyProof.Rows.evalArgs_nil3 (hQ [] [] μ s T h rfl (fun _ q => nomatch q) (fun _ q => q) st)
  | cons e es => exact Calls.evalArgs_plain (evl_spliced h T ρ s _ _ st hQ hE)

theorem TrT.from {T T' : List (Value × D)} {μ : List MO} {t : Sem Value} (h : TrT C T' μ t P X) (k : ∀ p ∈ T, p ∈ T') (ρ : List MO) (s : Shared) (Q E : Value → Shared → Prop) (st : St C.B C.F T' (μ ++ ρ) s)
    (hQ : ∀ v d μ' s', P d μ' → St C.B C.F ((v, d) :: T) (μ' ++ ρ) s' → Q v s') (hE : ∀ e c tb μ' s', X c μ' → St C.B C.F T (.exc e c tb :: (μ' ++ ρ)) s' → E (.ref e) s') : wpAny C.M C.A t Q E s :=
  h ρ s Q E st (fun v d μ' s' p st' => hQ v d μ' s' p (st'.keepHead k)) fun e c t μ' s' x st' => hE e c t μ' s' x (st'.sub k)

theorem ev_call {μ : List MO} {x : Str} {np pos : Pos} {args : List Expr} {f : Addr} {fo : Obj} {fd : FuncData} (hn : ∀ P', P' (.ref f) μ → Ev C env μ (.Name x np) P' X) (hf : C.B.heap.get? f = some fo) (hd : fo.data = .func fd) (hs : noStars args = true)
    (h : EvL C env μ args (fun ds μ1 => Ca C (.ref f) ds μ1 P X) X) : Ev C env μ (.Call (.Name x np) args [] pos) P X := by
  intro T ρ s Q E st hQ hE
  refine wpAny_Call_ofName (hn (fun d μ1 => d = .ref f ∧ μ1 = μ) ⟨rfl, rfl⟩ T ρ s _ _ st (fun v d μ1 s1 ⟨hd1, hμ⟩ st1 => ?_) hE)
  subst hd1 hμ
  have e := st1.isRef (.head _); subst e
  rw [starEach_plain env hs, backTo_plain]
  refine Calls.callWith_function (o := fo) (fd := fd) (evl_evalArgs h T ρ s1 _ _ st1.tail (fun vs ds μ' s' T' p hl hz hT st' => ?_) hE)
  exact ⟨⟨st'.stays _ _ hf, hd⟩, (p T' vs hl hz).from hT ρ s' Q E st' hQ hE⟩

theorem ev_callB {μ : List MO} {x : Str} {np pos : Pos} {args : List Expr} {id : String} (hn : ∀ P', P' (.val (.builtin id)) μ → Ev C env μ (.Name x np) P' X) (hs : noStars args = true)
    (h : EvL C env μ args (fun ds μ1 => Ca C (.builtin id) ds μ1 P X) X) : Ev C env μ (.Call (.Name x np) args [] pos) P X := by
  intro T ρ s Q E st hQ hE
  refine wpAny_Call_ofName (hn (fun d μ1 => d = .val (.builtin id) ∧ μ1 = μ) ⟨rfl, rfl⟩ T ρ s _ _ st (fun v d μ1 s1 ⟨hd1, hμ⟩ st1 => ?_) hE)
  subst hd1 hμ
  have e := st1.isVal (.head _); subst e
  rw [starEach_plain env hs, backTo_plain]
  refine Calls.callWith_builtin (by simp) (evl_evalArgs h T ρ s1 _ _ st1.tail (fun vs ds μ' s' T' p hl hz hT st' => ?_) hE)
  exact (p T' vs hl hz).from hT ρ s' Q E st' hQ hE
end
end Mine

open PySem PyProof.Rows
set_option linter.unusedVariables false
namespace Mine

inductive Upd (x : Str) (d : D) : List Str → List (Option D) → List (Option D) → Prop
  | here {ns : List Str} {v : Option D} {vs : List (Option D)} : Upd x d (x :: ns) (v :: vs) (some d :: vs)
  | there {y : Str} {v : Option D} {ns : List Str} {vs vs' : List (Option D)} : Upd x d ns vs vs' → Upd x d (y :: ns) (v :: vs) (v :: vs')
theorem Upd.mem {x : Str} {d : D} {ns : List Str} {vs vs' : List (Option D)} (h : Upd x d ns vs vs') : x ∈ ns := by
  induction h with
  | here => exact .head _
  | there _ ih => exact .tail _ ih
theorem Upd.look {x : Str} {d : D} {ns : List Str} {vs vs' : List (Option D)} (hn : ns.Nodup) (h : Upd x d ns vs vs') {y : Str} {e : D} (l : Look y e ns vs') : (y = x ∧ e = d) ∨ (y ≠ x ∧ Look y e ns vs) := by
  induction h with
  | here =>
    cases l with
    | here => exact .inl ⟨rfl, rfl⟩
    | there l => exact .inr ⟨fun q => (List.nodup_cons.mp hn).1 (q ▸ l.mem), .there l⟩
  | there h ih =>
    cases l with
    | here => exact .inr ⟨fun q => (List.nodup_cons.mp hn).1 (q ▸ h.mem), .here⟩
    | there l => exact (ih (List.nodup_cons.mp hn).2 l).imp id fun ⟨a, b⟩ => ⟨a, .there b⟩

section
variable {C : Cx} {env : Env} {μ : List MO} {X : XPost}
def Sto (C : Cx) (env : Env) (μ : List MO) (x : Str) (d : D) (P : List MO → Prop) (X : XPost) : Prop := ∀ T v, (v, d) ∈ T → TrU C T μ (storeName env x v) P X

theorem St.turn {B : Shared} {F : List Addr} {T T' : List (Value × D)} {s : Shared} {x x' : MO} {pre post : List MO} {h' : Heap} (st : St B F T (pre ++ x :: post) s) (ho : x'.owned = x.owned) (k : Turned x.owned s.heap h')
    (hx : ∀ φ : FM, (∀ a o, φ a = some o → s.heap.get? a = some o) → (∀ p ∈ T, Rep φ p.1 p.2) → x.holds φ s.heap → x'.holds φ h') (hT : ∀ p ∈ T', p ∈ T) (t : Nat) (hf : x'.fr = x.fr := by rfl) : St B F T' (pre ++ x' :: post) { s with heap := h', toks := t } := by
  obtain ⟨⟨φ, h1, h2, h3, h4, h5, h6⟩, hos, hg⟩ := st
  have mem : ∀ y, y ∈ pre ∨ y ∈ post → y ∈ pre ++ x :: post := fun y hy => hy.elim (fun q => List.mem_append_left _ q) fun q => List.mem_append_right _ (.tail _ q)
  have hxm : x ∈ pre ++ x :: post := List.mem_append_right _ (.head _)
  have apart : ∀ y, y ∈ pre ∨ y ∈ post → ∀ a ∈ y.owned, a ∉ x.owned := by
    rw [List.flatMap_append, List.flatMap_cons] at h5
    obtain ⟨_, hb, hc⟩ := List.nodup_append.mp h5
    obtain ⟨_, _, he⟩ := List.nodup_append.mp hb
    intro y hy a ha hax
    rcases hy with hy | hy
    · exact hc a (List.mem_flatMap.mpr ⟨y, hy, ha⟩) a (List.mem_append_left _ hax) rfl
    · exact he a hax a (List.mem_flatMap.mpr ⟨y, hy, ha⟩) rfl
  refine ⟨⟨φ, h1, fun a o e => k a o (fun q => by rw [h4 x hxm a q] at e; cases e) (h2 a o e), fun y hy => ?_, fun y hy => ?_, ?_, fun p hp => h6 p (hT p hp)⟩, hos, hg.1, fun L hL => by have := hg.2 L hL; simpa only [List.filterMap_append, List.filterMap_cons, hf] using this⟩
  · have keepO : ∀ y, y ∈ pre ∨ y ∈ post → y.holds φ h' := fun y hy => MO.holds_turned (fun _ _ e => e) k (h3 y (mem y hy)) (apart y hy)
    rcases List.mem_append.mp hy with hy | hy
    · exact keepO y (.inl hy)
    · rcases List.mem_cons.mp hy with rfl | hy
      · exact hx φ h2 h6 (h3 x hxm)
      · exact keepO y (.inr hy)
  · rcases List.mem_append.mp hy with hy | hy
    · exact h4 y (mem y (.inl hy))
    · rcases List.mem_cons.mp hy with rfl | hy
      · rw [ho]; exact h4 x hxm
      · exact h4 y (mem y (.inr hy))
  · rw [List.flatMap_append, List.flatMap_cons, ho]
    rw [List.flatMap_append, List.flatMap_cons] at h5
    exact h5

theorem sto_local {x : Str} {d : D} {L : Addr} {kn : List (Str × NameKind)} {ns : List Str} {vs vs' : List (Option D)} {P : List MO → Prop} (hk : env.scope.kind = .function) (hl : env.kindOf x = some .local) (hL : env.locals = L) (hc : (cellsK L kn).lookup x = none) (hnd : ns.Nodup) (hu : Upd x d ns vs vs')
    (h : P (.frame L kn ns vs' :: μ)) : Sto C env (.frame L kn ns vs :: μ) x d P X := by
  intro T v hv ρ s Q E st hQ hE
  have st' := st
  obtain ⟨⟨φ, h1, h2, h3, h4, h5, h6⟩, ho, hg⟩ := st'
  have hfr := h3 _ (.head _)
  obtain ⟨mv, hn, hmv, hcs⟩ := hfr
  refine wpAny_storeName_local hl (hL ▸ hn) (fun h' hn' hs' => hQ _ _ h (St.turn (pre := []) (T := T) (x := .frame L kn ns vs) (x' := .frame L kn ns vs') st rfl ?_ ?_ (fun _ q => q) _)) (by rw [hk]; rfl)
  · exact (Turned.of_sameBut hs').mono fun a ha => by rw [List.mem_singleton] at ha; rw [ha, hL]; exact List.mem_cons_self
  · intro φ' _ h6' ⟨mv', hn2, hmv2, hcs2⟩
    rw [hL] at hn' hs'
    rw [List.cons_append, List.flatMap_cons] at h5
    obtain ⟨ha, _, _⟩ := List.nodup_append.mp h5
    have apart : ∀ p ∈ cellsK L kn, p.2 ≠ L := fun p hp ec => (List.nodup_cons.mp ha).1 (List.mem_map.mpr ⟨p, hp, ec⟩)
    refine ⟨_, hn', fun y d' hy => ?_, fun p hp => ?_⟩
    · rcases hu.look hnd hy with ⟨rfl, rfl⟩ | ⟨e, hy⟩
      · refine ⟨v, h6' _ hv, ?_⟩
        rw [hc]; exact if_pos rfl
      · obtain ⟨v', r, q⟩ := hmv2 y d' hy
        refine ⟨v', r, ?_⟩
        revert q
        cases hcy : (cellsK L kn).lookup y with
        | none => intro q; show (if y = x then some v else mv y) = some v'; rw [if_neg e, ← q]; exact hn.agree hn2 y
        | some c => intro q; exact q.sameBut hs' (apart _ (mem_of_lookup hcy))
    · obtain ⟨v', q⟩ := hcs2 p hp
      exact ⟨v', q.sameBut hs' (apart p hp)⟩

theorem sto_cell {x : Str} {d : D} {L c : Addr} {kn : List (Str × NameKind)} {ns : List Str} {vs vs' : List (Option D)} {P : List MO → Prop} (hk : env.scope.kind = .function) (hl : env.kindOf x = some .cell) (hce : env.cells.lookup x = some c) (hc : (cellsK L kn).lookup x = some c) (hnd' : ns.Nodup) (hu : Upd x d ns vs vs')
    (h : P (.frame L kn ns vs' :: μ)) : Sto C env (.frame L kn ns vs :: μ) x d P X := by
  intro T v hv ρ s Q E st hQ hE
  have st' := st
  obtain ⟨⟨φ, h1, h2, h3, h4, h5, h6⟩, ho, hg⟩ := st'
  have hfr := h3 _ (.head _)
  obtain ⟨mv, hn, hmv, hcs⟩ := hfr
  obtain ⟨v₀, hcell⟩ := hcs _ (mem_of_lookup hc)
  rw [List.cons_append, List.flatMap_cons] at h5
  obtain ⟨hnd, _, _⟩ := List.nodup_append.mp h5
  obtain ⟨hL1, hnd⟩ := List.nodup_cons.mp hnd
  have hcL : c ≠ L := fun e => hL1 (List.mem_map.mpr ⟨_, mem_of_lookup hc, e⟩)
  refine wpAny_storeName_cell hk hl hce hcell fun h' hc' hs' => hQ _ _ h (St.turn (pre := []) (T := T) (x := .frame L kn ns vs) (x' := .frame L kn ns vs') st rfl ?_ ?_ (fun _ q => q) _)
  · exact (Turned.of_sameBut hs').mono fun a ha => by rw [List.mem_singleton] at ha; rw [ha]; exact List.mem_cons_of_mem _ (List.mem_map_of_mem (f := (·.2)) (mem_of_lookup hc))
  · intro φ' _ h6' ⟨mv', hn2, hmv2, hcs2⟩
    refine ⟨mv', hn2.sameBut hs' (Ne.symm hcL), fun y d' hy => ?_, fun p hp => ?_⟩
    · rcases hu.look hnd' hy with ⟨rfl, rfl⟩ | ⟨e, hy⟩
      · refine ⟨v, h6' _ hv, ?_⟩
        rw [hc]; exact hc'
      · obtain ⟨v', r, q⟩ := hmv2 y d' hy
        refine ⟨v', r, ?_⟩
        revert q
        cases hcy : (cellsK L kn).lookup y with
        | none => exact id
        | some c' =>
          intro q
          refine q.sameBut hs' fun ec => e ?_
          exact name_of_addr (List.pairwise_map.mp hnd) (mem_of_lookup hcy) (ec ▸ mem_of_lookup hc)
    · by_cases e : p.2 = c
      · exact ⟨_, e ▸ hc'⟩
      · obtain ⟨v', q⟩ := hcs2 p hp
        exact ⟨v', q.sameBut hs' e⟩

theorem ex_assign {x : Str} {p pos : Pos} {value : Expr} {P : Fw → List MO → Prop} (h : Ev C env μ value (fun d μ1 => Sto C env μ1 x d (P .next) X) X) (hs : swapsWith value (some (.Name x p)) pos.line env = pure false) :
    Ex1 C env μ (.Assign [.Name x p] value pos) P X :=
  fun T ρ _ _ _ st hQ hE => wpAny_Assign_Name (h T ρ _ _ _ st (fun v d μ1 s1 h1 st1 => h1 _ v (.head _) ρ s1 _ _ st1 (fun μ' s' p' st' => hQ .next .next μ' s' p' st'.tail) fun e c t μ' s' x' st' => hE e c t μ' s' x' st'.tail) hE) hs
end
end Mine

open PySem PyProof.Rows
set_option linter.unusedVariables false
namespace Mine

def Items (μ : List MO) (d : D) (ds : List D) : Prop := d = .lst ds ∨ ∃ a, d = .ref a ∧ MO.list a ds ∈ μ
theorem Items.app {μ : List MO} {d : D} {ds : List D} (h : Items μ d ds) (ρ : List MO) : Items (μ ++ ρ) d ds := h.imp id fun ⟨a, e, m⟩ => ⟨a, e, List.mem_append_left _ m⟩
theorem Items.cons {μ : List MO} {d : D} {ds : List D} (h : Items μ d ds) (x : MO) : Items (x :: μ) d ds := h.imp id fun ⟨a, e, m⟩ => ⟨a, e, .tail _ m⟩

section
variable {C : Cx} {env : Env} {μ : List MO} {X : XPost}

theorem zip_reps {φ : FM} {vs : List Value} {ds : List D} (h : Reps φ vs ds) : ∀ p ∈ vs.zip ds, Rep φ p.1 p.2 := by
  have aux : ∀ {vs ds}, Reps φ vs ds → ∀ p ∈ vs.zip ds, Rep φ p.1 p.2 := by
    intro vs
    induction vs with
    | nil => intro ds h p hp; simp at hp
    | cons v vs ih =>
      intro ds h p hp
      cases h with
      | cons h1 h2 =>
        rw [List.zip_cons_cons] at hp
        rcases List.mem_cons.mp hp with rfl | hp
        · exact h1
        · exact ih h2 p hp
  exact aux h
theorem reps_zip {φ : FM} : ∀ {vs : List Value} {ds : List D}, vs.length = ds.length → (∀ p ∈ vs.zip ds, Rep φ p.1 p.2) → Reps φ vs ds
  | [], [], _, _ => .nil
  | v :: vs, d :: ds, hl, h => .cons (h _ (.head _)) (reps_zip (by simpa using hl) fun p hp => h p (.tail _ hp))

theorem St.items {B : Shared} {F : List Addr} {T : List (Value × D)} {s : Shared} {v : Value} {d : D} {ds : List D} (st : St B F T μ s) (hv : (v, d) ∈ T) (hi : Items μ d ds) :
    ∃ a vs, v = .ref a ∧ s.heap.IsList a (List.toArray vs) ∧ vs.length = ds.length ∧ St B F (vs.zip ds ++ T) μ s := by
  obtain ⟨⟨φ, h1, h2, h3, h4, h5, h6⟩, ho, hg⟩ := st
  have fin : ∀ {a : Addr} {vs : List Value}, v = .ref a → s.heap.IsList a vs.toArray → Reps φ vs ds → ∃ a vs, v = .ref a ∧ s.heap.IsList a (List.toArray vs) ∧ vs.length = ds.length ∧ St B F (vs.zip ds ++ T) μ s := fun {a vs} e hl r =>
    ⟨a, vs, e, hl, r.length, ⟨⟨φ, h1, h2, h3, h4, h5, fun p hp => (List.mem_append.mp hp).elim (zip_reps r p) (h6 p)⟩, ho, hg⟩⟩
  have hr := h6 _ hv
  rcases hi with rfl | ⟨a, rfl, hm⟩
  · cases hr with
    | lst ha hc hd r => exact fin rfl ⟨_, h2 _ _ ha, hc, _, hd⟩ r
  · cases hr
    obtain ⟨vs, hl, r⟩ := h3 _ hm
    exact fin rfl hl.isList r

theorem St.perm' {B : Shared} {F : List Addr} {T μ μ' s} (h : St B F T μ s) (k : μ.Perm μ') : St B F T μ' s := h.perm k.symm

theorem St.alloc {B : Shared} {F : List Addr} {T : List (Value × D)} {s : Shared} {o : Obj} {x : MO} {μ ρ : List MO} (st : St B F T (μ ++ ρ) s) (hx : x.owned = [s.heap.objs.size]) (t : Nat)
    (hh : ∀ φ : FM, (∀ p ∈ T, Rep φ p.1 p.2) → x.holds φ (s.heap.push o)) : St B F T (μ ++ x :: ρ) { s with heap := s.heap.push o, toks := t } := by
  obtain ⟨⟨φ, h1, h2, h3, h4, h5, h6⟩, ho, hg⟩ := st
  have new : φ s.heap.objs.size = none := by
    cases q : φ s.heap.objs.size with
    | none => rfl
    | some o' => exact absurd (Heap.lt_size (h2 _ _ q)) (Nat.lt_irrefl _)
  refine St.perm' (μ := x :: (μ ++ ρ)) ⟨⟨φ, h1, fun a o' e => Heap.get?_push_of_some _ (h2 a o' e), fun y hy => ?_, fun y hy => ?_, ?_, h6⟩, ho, hg.1, fun L hL => by obtain ⟨y, hy, e⟩ := List.mem_filterMap.mp (hg.2 L hL); exact List.mem_filterMap.mpr ⟨y, .tail _ hy, e⟩⟩ List.perm_middle.symm
  · rcases List.mem_cons.mp hy with rfl | hy
    · exact hh φ h6
    · exact MO.holds_turned (S := []) (fun _ _ e => e) (Turned.push _ _) (h3 y hy) (by simp)
  · rcases List.mem_cons.mp hy with rfl | hy
    · intro a ha; rw [hx, List.mem_singleton] at ha; rw [ha]; exact new
    · exact h4 y hy
  · rw [List.flatMap_cons, hx]
    refine List.nodup_append.mpr ⟨by simp, h5, fun a ha b hb e => ?_⟩
    subst e
    rw [List.mem_singleton] at ha
    obtain ⟨y, hy, ha'⟩ := List.mem_flatMap.mp hb
    obtain ⟨o', e'⟩ := MO.holds_there (h3 y hy) a ha'
    exact absurd (ha ▸ Heap.lt_size e') (Nat.lt_irrefl _)

theorem St.turnAt {B : Shared} {F : List Addr} {T : List (Value × D)} {s : Shared} {x x' : MO} {μ ρ : List MO} {h' : Heap} (st : St B F T (μ ++ x :: ρ) s) (ho : x'.owned = x.owned) (k : Turned x.owned s.heap h')
    (hx : ∀ φ : FM, (∀ a o, φ a = some o → s.heap.get? a = some o) → (∀ p ∈ T, Rep φ p.1 p.2) → x.holds φ s.heap → x'.holds φ h') (t : Nat) (hf : x'.fr = x.fr := by rfl) : St B F T (μ ++ x' :: ρ) { s with heap := h', toks := t } :=
  St.turn st ho k hx (fun _ q => q) t hf
theorem fr_without {F : List Addr} {x : MO} {μ ρ : List MO} (h : ∀ L ∈ F, L ∈ (μ ++ x :: ρ).filterMap MO.fr) (hx : ∀ L ∈ F, x.fr ≠ some L) : ∀ L ∈ F, L ∈ (μ ++ ρ).filterMap MO.fr := fun L hL => by
  obtain ⟨y, hy, e⟩ := List.mem_filterMap.mp (h L hL)
  refine List.mem_filterMap.mpr ⟨y, ?_, e⟩
  rcases List.mem_append.mp hy with q | q
  · exact List.mem_append_left _ q
  · rcases List.mem_cons.mp q with rfl | q
    · exact absurd e (hx L hL)
    · exact List.mem_append_right _ q
theorem St.forgetAt {B : Shared} {F : List Addr} {T : List (Value × D)} {s : Shared} {x : MO} {μ ρ : List MO} (st : St B F T (μ ++ x :: ρ) s) (hx : ∀ L ∈ F, x.fr ≠ some L := by intro _ _ h; cases h) : St B F T (μ ++ ρ) s :=
  st.forget ((List.Sublist.refl μ).append (List.sublist_cons_self _ _)) (fr_without st.gf.2 hx)

theorem St.gone {B : Shared} {F : List Addr} {T : List (Value × D)} {s : Shared} {x : MO} {μ ρ : List MO} {h' : Heap} (st : St B F T (μ ++ x :: ρ) s) (k : Turned x.owned s.heap h') (t : Nat) (hx : ∀ L ∈ F, x.fr ≠ some L := by intro _ _ h; cases h) : St B F T (μ ++ ρ) { s with heap := h', toks := t } := by
  obtain ⟨⟨φ, h1, h2, h3, h4, h5, h6⟩, hos, hg⟩ := st
  have hxm : x ∈ μ ++ x :: ρ := List.mem_append_right _ (.head _)
  have sub : List.Sublist (μ ++ ρ) (μ ++ x :: ρ) := (List.Sublist.refl μ).append (List.sublist_cons_self _ _)
  have apart : ∀ y ∈ μ ++ ρ, ∀ a ∈ y.owned, a ∉ x.owned := by
    rw [List.flatMap_append, List.flatMap_cons] at h5
    obtain ⟨_, hb, hc⟩ := List.nodup_append.mp h5
    obtain ⟨_, _, he⟩ := List.nodup_append.mp hb
    intro y hy a ha hax
    rcases List.mem_append.mp hy with hy | hy
    · exact hc a (List.mem_flatMap.mpr ⟨y, hy, ha⟩) a (List.mem_append_left _ hax) rfl
    · exact he a hax a (List.mem_flatMap.mpr ⟨y, hy, ha⟩) rfl
  refine ⟨⟨φ, h1, fun a o e => k a o (fun q => by rw [h4 x hxm a q] at e; cases e) (h2 a o e), fun y hy => ?_, fun y hy => h4 y (sub.subset hy), ?_, h6⟩, hos, hg.1, fr_without hg.2 hx⟩
  · exact MO.holds_turned (fun _ _ e => e) k (h3 y (sub.subset hy)) (apart y hy)
  · rw [List.flatMap_append]
    rw [List.flatMap_append, List.flatMap_cons] at h5
    exact ((List.Sublist.refl _).append (List.sublist_append_right _ _)).nodup h5

structure Src (C : Cx) (T₀ : List (Value × D)) (it : Addr) (R : Nat → Obj → Prop) (ds : List D) (I : Nat → List MO → Prop) : Prop where
  next : ∀ {i d T μ ρ s} {Q : Option Value → Shared → Prop} {E : Value → Shared → Prop}, (∀ p ∈ T₀, p ∈ T) → I i μ → ds[i]? = some d → St C.B C.F T (μ ++ MO.raw it (R i) :: ρ) s →
    (∀ v s', St C.B C.F ((v, d) :: T) (μ ++ MO.raw it (R (i + 1)) :: ρ) s' → Q (some v) s') → wpAny C.M C.A (pyNext (.ref it)) Q E s
  fin : ∀ {T μ ρ s} {Q : Option Value → Shared → Prop} {E : Value → Shared → Prop}, (∀ p ∈ T₀, p ∈ T) → I ds.length μ → St C.B C.F T (μ ++ MO.raw it (R ds.length) :: ρ) s →
    (∀ s', St C.B C.F T (μ ++ ρ) s' → Q none s') → wpAny C.M C.A (pyNext (.ref it)) Q E s
  self : ∀ {T μ ρ s} {Q : Value → Shared → Prop} {E : Value → Shared → Prop}, St C.B C.F T (μ ++ MO.raw it (R 0) :: ρ) s → Q (.ref it) s → wpAny C.M C.A (pyIter (.ref it)) Q E s

def Itb (C : Cx) (d : D) (ds : List D) (I : Nat → List MO → Prop) : Prop := ∀ v T μ ρ s (Q : Value → Shared → Prop) (E : Value → Shared → Prop), (v, d) ∈ T → I 0 μ → St C.B C.F T (μ ++ ρ) s →
  (∀ it R s', Src C [(v, d)] it R ds I → St C.B C.F T (μ ++ MO.raw it (R 0) :: ρ) s' → Q (.ref it) s') → wpAny C.M C.A (pyIter v) Q E s

def Asg (C : Cx) (env : Env) (μ : List MO) (target : Expr) (d : D) (P : List MO → Prop) (X : XPost) : Prop := ∀ T v, (v, d) ∈ T → TrU C T μ (assign target env v) P X
theorem asg_name {x : Str} {p : Pos} {d : D} {P : List MO → Prop} (h : Sto C env μ x d P X) : Asg C env μ (.Name x p) d P X :=
  fun T v hv ρ s Q E st hQ hE => wpAny_assign_Name (h T v hv ρ s Q E st hQ hE)

def Turn (I : List MO → Prop) (P : Fw → List MO → Prop) : Fw → List MO → Prop
  | .next, μ => I μ
  | .cont, μ => I μ
  | .brk, μ => P .next μ
  | .ret d, μ => P (.ret d) μ
def noX : XPost := fun _ _ => False

theorem for_core {T₀ : List (Value × D)} {target : Expr} {body : List Stmt} {it L : Addr} {R : Nat → Obj → Prop} {ds : List D} {I : Nat → List MO → Prop} {P : Fw → List MO → Prop} (H : FrAt C env L) (S : Src C T₀ it R ds I) (ht : ∀ v, letOwnedTupleGo target (.ref it) v = pure ())
    (turn : ∀ i d μ, ds[i]? = some d → I i μ → Asg C env μ target d (fun μ1 => Ex C env μ1 body (Turn (I (i + 1)) P) X) X) (fin : ∀ μ, I ds.length μ → P .next μ)
    (T : List (Value × D)) (ρ : List MO) (s : Shared) (Q : Flow → Shared → Prop) (E : Value → Shared → Prop) (hT : ∀ p ∈ T₀, p ∈ T) (h0 : I 0 μ) (st : St C.B C.F T (μ ++ MO.raw it (R 0) :: ρ) s) (hQ : ∀ f fl μ' s', P fl μ' → FwSt C.B C.F T (μ' ++ ρ) s' f fl → Q f s')
    (hE : ∀ e c tb μ' s', X c μ' → St C.B C.F T (.exc e c tb :: (μ' ++ ρ)) s' → E (.ref e) s') :
    codeAny C.M C.A (.forLoop target (.ref it) body [] env) (fun r s' => match r with | .ok f => Q f s' | .error e => cameBackBy C.M C.A env E e s') s := by
  have err : ∀ {T' : List (Value × D)} {j e c tb μ' s'}, (∀ p ∈ T, p ∈ T') → X c μ' → St C.B C.F T' (.exc e c tb :: (μ' ++ MO.raw it (R j) :: ρ)) s' → notedBy C.M C.A env (cameBackBy C.M C.A env E) (.ref e) s' := by
    intro T' j e c tb μ' s' hT' x st'
    refine wp_noted H st' fun t s2 st2 => wp_cameBack H st2 fun s3 st3 => hE e c (some (t, rawInt L)) μ' s3 x ?_
    exact (St.forgetAt (μ := .exc e c (some (t, rawInt L)) :: μ') st3).sub hT'
  refine codeAny_forLoop (fun k s => ∃ i μ, k + i = ds.length ∧ I i μ ∧ St C.B C.F T (μ ++ MO.raw it (R i) :: ρ) s) (fun k s ⟨i, μ, hk, hI, st⟩ => ?_) ds.length ⟨0, μ, rfl, h0, st⟩ ht
  by_cases hi : i < ds.length
  · obtain ⟨d, hd⟩ : ∃ d, ds[i]? = some d := ⟨_, List.getElem?_eq_getElem hi⟩
    refine S.next hT hI hd st fun v s1 st1 => ?_
    refine turn i d μ hd hI ((v, d) :: T) v (.head _) (MO.raw it (R (i + 1)) :: ρ) s1 _ _ st1 (fun μ1 s2 h2 st2 => ?_) fun e c tb μ' s' x st' => err (fun _ q => .tail _ q) x st'
    refine h2 T (MO.raw it (R (i + 1)) :: ρ) s2 _ _ st2.tail (fun f fl μ' s' p st' => ?_) fun e c tb μ' s' x st' => err (fun _ q => q) x st'
    cases f <;> cases fl <;> first
      | exact False.elim st'
      | exact ⟨k - 1, by omega, i + 1, μ', by omega, p, st'⟩
      | exact hQ .next .next μ' s' p (St.forgetAt st')
      | exact hQ (.ret _) (.ret _) μ' s' p (St.forgetAt st')
  · have hi' : i = ds.length := by omega
    subst hi'
    refine S.fin hT hI st fun s1 st1 => ?_
    exact wpAny_execs_nil (hQ .next .next μ s1 (fin μ hI) st1)

def listIt (a : Addr) (i : Nat) (o : Obj) : Prop := o.cls = .type "list_iterator" ∧ o.data = .fields #[.ref a, .int i 0]
theorem FwSt.drop {B : Shared} {F : List Addr} {p : Value × D} {T : List (Value × D)} {s : Shared} {f : Flow} {fl : Fw} (h : FwSt B F (p :: T) μ s f fl) : FwSt B F T μ s f fl := by
  cases f <;> cases fl <;> first | exact h | exact St.tail h | exact St.drop2 h

theorem src_list {a it : Addr} {d : D} {ds : List D} {I : Nat → List MO → Prop} (hA : C.A.handled = none) (hit : ∀ i μ, I i μ → Items μ d ds) : Src C [(.ref a, d)] it (listIt a) ds I where
  next := by
    intro i x T μ ρ s Q E hT hI hx st hQ
    obtain ⟨a', vs, e, hl, hlen, st2⟩ := st.items (hT _ (.head _)) ((hit i μ hI).app _)
    cases e
    obtain ⟨⟨φ, _, _, h3, _⟩, _, _⟩ := id st
    obtain ⟨o, ho, hc, hd⟩ := h3 _ (List.mem_append_right _ (.head _))
    obtain ⟨v, hv⟩ : ∃ v, vs[i]? = some v := ⟨_, List.getElem?_eq_getElem (by rw [hlen]; exact (List.getElem?_eq_some_iff.mp hx).1)⟩
    refine wpAny_pyNext_list_item ⟨o, ho, hc, hd⟩ hl (by simpa using hv) fun h' hi hs => hQ v _ ?_
    have hz : (v, x) ∈ vs.zip ds := by
      refine List.mem_of_getElem? (i := i) ?_
      rw [List.getElem?_zip_eq_some]; exact ⟨hv, hx⟩
    have := St.turnAt (x' := .raw it (listIt a (i + 1))) (st2.sub (T' := (v, x) :: T) fun p hp => by
      rcases List.mem_cons.mp hp with rfl | hp
      · exact List.mem_append_left _ hz
      · exact List.mem_append_right _ hp) rfl (Turned.of_sameBut hs) (fun φ _ _ _ => by
        obtain ⟨o', ho', hc', hd'⟩ := hi; exact ⟨o', ho', hc', hd'⟩) s.toks
    exact this
  fin := by
    intro T μ ρ s Q E hT hI st hQ
    obtain ⟨a', vs, e, hl, hlen, st2⟩ := st.items (hT _ (.head _)) ((hit _ μ hI).app _)
    cases e
    obtain ⟨⟨φ, h1, h2, h3, h4, h5, h6⟩, ho', hg⟩ := id st
    obtain ⟨o, ho, hc, hd⟩ := h3 _ (List.mem_append_right _ (.head _))
    refine wpAny_pyNext_list_end hA ⟨o, ho, hc, hd⟩ hl (by simp [hlen]) fun h' hs => hQ _ ?_
    exact st.gone (Turned.of_extBut hs) s.toks
  self := by
    intro T μ ρ s Q E st hQ
    obtain ⟨⟨φ, _, _, h3, _⟩, _, _⟩ := st
    obtain ⟨o, ho, hc, hd⟩ := h3 _ (List.mem_append_right _ (.head _))
    exact wpAny_pyIter_listiter ⟨o, ho, hc, hd⟩ hQ

theorem itb_list {d : D} {ds : List D} {I : Nat → List MO → Prop} (hA : C.A.handled = none) (hit : ∀ i μ, I i μ → Items μ d ds) : Itb C d ds I := by
  intro v T μ ρ s Q E hv h0 st hQ
  obtain ⟨a, vs, rfl, hl, hlen, st2⟩ := st.items hv ((hit 0 μ h0).app ρ)
  exact wpAny_pyIter_list hl (hQ _ _ _ (src_list hA hit) (st.alloc rfl s.toks fun _ _ => ⟨_, Heap.get?_push_size _ rfl, rfl, rfl⟩))

theorem St.titems {B : Shared} {F : List Addr} {T : List (Value × D)} {s : Shared} {v : Value} {ds : List D} (st : St B F T μ s) (hv : (v, .tup ds) ∈ T) :
    ∃ a vs, v = .ref a ∧ s.heap.IsTuple a (List.toArray vs) ∧ vs.length = ds.length ∧ St B F (vs.zip ds ++ T) μ s := by
  obtain ⟨⟨φ, h1, h2, h3, h4, h5, h6⟩, ho, hg⟩ := st
  have hr := h6 _ hv
  cases hr with
  | tup ha hc hd r => exact ⟨_, _, rfl, ⟨_, h2 _ _ ha, hc, _, hd⟩, r.length, ⟨⟨φ, h1, h2, h3, h4, h5, fun p hp => (List.mem_append.mp hp).elim (zip_reps r p) (h6 p)⟩, ho, hg⟩⟩
def tupIt (a : Addr) (i : Nat) (o : Obj) : Prop := o.cls = .type "tuple_iterator" ∧ o.data = .fields #[.ref a, .int i 0]
theorem St.isRng {B : Shared} {F : List Addr} {T : List (Value × D)} {s : Shared} {v : Value} {a b c : Int} (st : St B F T μ s) (hv : (v, .rng a b c) ∈ T) : ∃ r t u w, v = .ref r ∧ IsRange s.heap r a b c t u w := by
  obtain ⟨⟨φ, h1, h2, h3, h4, h5, h6⟩, ho, hg⟩ := st
  have hr := h6 _ hv
  cases hr with
  | rng h => exact ⟨_, _, _, _, rfl, h2 _ _ h⟩
def rngList (a c : Int) (n : Nat) : List D := (List.range n).map fun (i : Nat) => D.int (a + i * c)
theorem rngList_get {a c : Int} {n i : Nat} {d : D} (h : (rngList a c n)[i]? = some d) : i < n ∧ d = .int (a + i * c) := by
  unfold rngList at h
  rw [List.getElem?_map] at h
  by_cases hi : i < n
  · rw [List.getElem?_range hi] at h; cases h; exact ⟨hi, rfl⟩
  · rw [List.getElem?_eq_none (by simpa using hi)] at h; cases h
theorem rngList_length (a c : Int) (n : Nat) : (rngList a c n).length = n := by simp [rngList]
def rngIt (a c : Int) (n i : Nat) (o : Obj) : Prop := o = { cls := .type "range_iterator", dict := none, data := .fields #[rawInt (a + i * c), rawInt ((n : Int) - i), rawInt c], slots := #[] }
theorem src_rng {T₀ : List (Value × D)} {a c : Int} {n : Nat} {it : Addr} {I : Nat → List MO → Prop} (hA : C.A.handled = none) : Src C T₀ it (rngIt a c n) (rngList a c n) I where
  next := by
    intro i x T μ ρ s Q E hT hI hx st hQ
    obtain ⟨hi, rfl⟩ := rngList_get hx
    obtain ⟨⟨φ, _, _, h3, _⟩, _, _⟩ := id st
    obtain ⟨o, ho, hc⟩ := h3 _ (List.mem_append_right _ (.head _))
    rw [hc] at ho
    refine wpAny_pyNext_range_item ho (by omega) fun h' hi' hs => hQ _ _ ?_
    refine St.add (St.turnAt (x' := .raw it (rngIt a c n (i + 1))) st rfl (Turned.of_sameBut hs) (fun φ _ _ _ => ⟨_, hi', ?_⟩) _) (rInt _ _)
    show _ = _
    have e1 : a + (i : Int) * c + c = a + ((i + 1 : Nat) : Int) * c := by rw [Int.natCast_add, Int.add_mul]; simp; omega
    have e2 : (n : Int) - i - 1 = (n : Int) - ((i + 1 : Nat) : Int) := by omega
    rw [e1, e2]
  fin := by
    intro T μ ρ s Q E hT hI st hQ
    rw [rngList_length] at st
    obtain ⟨⟨φ, _, _, h3, _⟩, _, _⟩ := id st
    obtain ⟨o, ho, hc⟩ := h3 _ (List.mem_append_right _ (.head _))
    rw [hc] at ho
    exact wpAny_pyNext_range_end hA ho (by omega) fun h' hs => hQ _ (st.gone (Turned.of_extBut hs) s.toks)
  self := by
    intro T μ ρ s Q E st hQ
    obtain ⟨⟨φ, _, _, h3, _⟩, _, _⟩ := st
    obtain ⟨o, ho, hc⟩ := h3 _ (List.mem_append_right _ (.head _))
    rw [hc] at ho
    exact wpAny_pyIter_rangeiter ho hQ
theorem itb_rng {a b c : Int} {n : Nat} {I : Nat → List MO → Prop} (hA : C.A.handled = none) (hs : Builtin.Range.small a b c = true) (hn : Builtin.Range.rangeSize a b c = n) : Itb C (.rng a b c) (rngList a c n) I := by
  intro v T μ ρ s Q E hv h0 st hQ
  obtain ⟨r, t, u, w, rfl, hr⟩ := st.isRng hv
  refine wpAny_pyIter_range hr hs (hQ _ (rngIt a c n) _ (src_rng hA) (st.alloc rfl s.toks fun _ _ => ⟨_, Heap.get?_push_size _ rfl, ?_⟩))
  show _ = _
  rw [hn]; simp
theorem itb_range {a b : Int} {I : Nat → List MO → Prop} (hA : C.A.handled = none) (ha : -(2 ^ 62) ≤ a) (ha' : a < 2 ^ 62) (hb : -(2 ^ 62) ≤ b) (hb' : b < 2 ^ 62) : Itb C (.rng a b 1) (rngList a 1 (b - a).toNat) I :=
  itb_rng hA (small_one ha ha' hb hb') (by rw [rangeSize_one]; split <;> omega)

theorem ex_for {target iter : Expr} {body : List Stmt} {pos : Pos} {L : Addr} {P : Fw → List MO → Prop} (H : FrAt C env L)
    (h : Ev C env μ iter (fun d μ1 => ∃ ds, ∃ I : Nat → List MO → Prop, Itb C d ds I ∧ I 0 μ1 ∧ (∀ i d μ, ds[i]? = some d → I i μ → Asg C env μ target d (fun μ1 => Ex C env μ1 body (Turn (I (i + 1)) P) X) X) ∧ ∀ μ, I ds.length μ → P .next μ) X)
    (ht : ∀ it v, letOwnedTupleGo target it v = pure ()) (hs : ∀ x, foldedSetIterable iter env x = pure x) : Ex1 C env μ (.For target iter body [] pos) P X := by
  intro T ρ s Q E st hQ hE
  refine wpAny_For (h T ρ s _ _ st (fun v d μ1 s1 ⟨ds, I, hit, h0, turn, fin⟩ st1 => ?_) hE) hs
  refine hit v _ μ1 ρ s1 _ _ (.head _) h0 st1 fun it R s2 S st2 => ?_
  exact for_core H S (ht _) turn fin ((v, d) :: T) ρ _ Q E (fun _ q => by rw [List.mem_singleton] at q; rw [q]; exact .head _) h0 st2 (fun f fl μ' s' p st' => hQ f fl μ' s' p (FwSt.drop st')) fun e c tb μ' s' x st' => hE e c tb μ' s' x st'.tail
end
end Mine

open PySem PyProof.Rows
set_option linter.unusedVariables false
namespace Mine

section
variable {C : Cx} {env : Env} {μ : List MO} {X : XPost}

def Ifs (C : Cx) (env : Env) (μ : List MO) (ifs : List Expr) (P : Bool → List MO → Prop) (X : XPost) : Prop :=
  TrB C μ (forIn ifs true fun c r => if r = true then do let ok ← isTrue c env (eval c env); pure (ForInStep.yield ok) else pure (ForInStep.yield r)) P X
theorem ifs_nil {P : Bool → List MO → Prop} (h : P true μ) : Ifs C env μ [] P X := fun T ρ s Q E st hQ hE => wpAny_tests_nil (hQ _ _ _ h st)
theorem ifs_one {c : Expr} {P : Bool → List MO → Prop} (h : Te C env μ c P X) : Ifs C env μ [c] P X := fun T ρ s Q E st hQ hE => wpAny_tests_one (h T ρ s Q E st hQ hE)

theorem St.weaken {B : Shared} {F : List Addr} {T : List (Value × D)} {s : Shared} {x x' : MO} {pre post : List MO} (st : St B F T (pre ++ x :: post) s) (ho : x'.owned = x.owned) (hx : ∀ φ : FM, x.holds φ s.heap → x'.holds φ s.heap) (hf : x'.fr = x.fr := by rfl) : St B F T (pre ++ x' :: post) s :=
  St.turn st ho (fun _ _ _ e => e) (fun φ _ _ h => hx φ h) (fun _ q => q) s.toks hf
theorem St.fr_lt {B : Shared} {F : List Addr} {T : List (Value × D)} {μ : List MO} {s : Shared} (st : St B F T μ s) : ∀ L ∈ F, L < s.heap.objs.size := fun L hL => by
  obtain ⟨⟨φ, _, _, h3, _⟩, _, hg⟩ := st
  obtain ⟨x, hx, e⟩ := List.mem_filterMap.mp (hg.2 L hL)
  obtain ⟨o, e'⟩ := MO.holds_there (h3 x hx) L (own_fr e)
  exact Heap.lt_size e'
theorem St.forgetLocals {B : Shared} {F : List Addr} {T : List (Value × D)} {s : Shared} {L : Addr} {kn : List (Str × NameKind)} {ns ns' : List Str} {vs : List (Option D)} {post : List MO} (st : St B F T (.frame L kn ns vs :: post) s) : St B F T (.frame L kn ns' (ns'.map fun _ => none) :: post) s :=
  St.weaken (pre := []) st rfl fun φ ⟨mv, hn, _, hc⟩ => ⟨mv, hn, fun x d e => (look_nones e).elim, hc⟩

theorem St.freeze {B : Shared} {F : List Addr} {T : List (Value × D)} {s : Shared} {a : Addr} {ds : List D} {μ ρ : List MO} (st : St B F T (μ ++ .list a ds :: ρ) s) : St B F ((.ref a, .lst ds) :: T) (μ ++ ρ) s := by
  obtain ⟨⟨φ, h1, h2, h3, h4, h5, h6⟩, ho, hg⟩ := st
  have hxm : MO.list a ds ∈ μ ++ .list a ds :: ρ := List.mem_append_right _ (.head _)
  have sub : List.Sublist (μ ++ ρ) (μ ++ .list a ds :: ρ) := (List.Sublist.refl μ).append (List.sublist_cons_self _ _)
  have ha : φ a = none := h4 _ hxm a (by simp [MO.owned])
  obtain ⟨vs, hpl, r⟩ := h3 _ hxm
  obtain ⟨o, hoa, hc, n, hd⟩ := hpl.isList
  let ψ : FM := fun b => if b = a then some o else φ b
  have kψ : FM.le φ ψ := fun b o' e => by
    show (if b = a then some o else φ b) = some o'
    rw [if_neg (fun q => by rw [q, ha] at e; cases e)]; exact e
  have apart : ∀ y ∈ μ ++ ρ, ∀ b ∈ y.owned, b ≠ a := by
    rw [List.flatMap_append, List.flatMap_cons] at h5
    obtain ⟨_, hb, hc⟩ := List.nodup_append.mp h5
    obtain ⟨_, _, he⟩ := List.nodup_append.mp hb
    intro y hy b hb' e
    subst e
    rcases List.mem_append.mp hy with hy | hy
    · exact hc b (List.mem_flatMap.mpr ⟨y, hy, hb'⟩) b (List.mem_append_left _ (by simp [MO.owned])) rfl
    · exact he b (by simp [MO.owned]) b (List.mem_flatMap.mpr ⟨y, hy, hb'⟩) rfl
  refine ⟨⟨ψ, fun b o' e => kψ b o' (h1 b o' e), fun b o' e => ?_, fun y hy => ?_, fun y hy b hb => ?_, ?_, fun p hp => ?_⟩, ho, hg.1, fr_without hg.2 (by intro _ _ h; cases h)⟩
  · by_cases q : b = a
    · subst q
      have : some o = some o' := by rw [← e]; exact (if_pos rfl).symm
      cases this; exact hoa
    · exact h2 b o' (by rw [← e]; exact (if_neg q).symm)
  · exact MO.holds_turned (S := []) kψ (fun _ _ _ e => e) (h3 y (sub.subset hy)) (by simp)
  · exact (if_neg (apart y hy b hb)).trans (h4 y (sub.subset hy) b hb)
  · rw [List.flatMap_append]
    rw [List.flatMap_append, List.flatMap_cons] at h5
    exact ((List.Sublist.refl _).append (List.sublist_append_right _ _)).nodup h5
  · rcases List.mem_cons.mp hp with rfl | hp
    · exact .lst (if_pos rfl) hc hd (r.mono kψ)
    · exact (h6 p hp).mono kψ

def ClOk (scope : Scope) (env : Env) (cl : List (Str × Addr)) : Prop := ∀ x, (x, NameKind.free) ∈ scope.names → cl.lookup x = env.cells.lookup x
theorem closureFor_ok {scope : Scope} (h : ∀ x, (x, NameKind.free) ∈ scope.names → ∃ c, env.cells.lookup x = some c) : ∃ cl, closureFor scope env = pure cl ∧ ClOk scope env cl := by
  have aux : ∀ (names : List (Str × NameKind)) (acc : List (Str × Addr)), (∀ x, (x, NameKind.free) ∈ names → ∃ c, env.cells.lookup x = some c) → (∀ p ∈ acc, env.cells.lookup p.1 = some p.2) →
      ∃ cl : List (Str × Addr), (forIn names acc fun (x : Str × NameKind) (cs : List (Str × Addr)) => (match x with | (name, kind) => if (kind == .free) = true then (do let a ← cellOf env name; pure (ForInStep.yield ((name, a) :: cs))) else pure (ForInStep.yield cs) : Sem (ForInStep (List (Str × Addr))))) = pure cl ∧
        (∀ p ∈ cl, env.cells.lookup p.1 = some p.2) ∧ (∀ p ∈ acc, p ∈ cl) ∧ ∀ x, (x, NameKind.free) ∈ names → ∃ c, (x, c) ∈ cl := by
    intro names
    induction names with
    | nil => intro acc _ ha; exact ⟨acc, by rw [List.forIn_nil], ha, fun _ q => q, fun _ q => nomatch q⟩
    | cons y names ih =>
      obtain ⟨n, k⟩ := y
      intro acc hx ha
      by_cases hk : k = .free
      · subst hk
        obtain ⟨c, hc⟩ := hx n (.head _)
        obtain ⟨cl, e, h1, h2, h3⟩ := ih ((n, c) :: acc) (fun x q => hx x (.tail _ q)) fun p hp => by
          rcases List.mem_cons.mp hp with rfl | hp
          · exact hc
          · exact ha p hp
        refine ⟨cl, ?_, h1, fun p hp => h2 p (.tail _ hp), fun x q => ?_⟩
        · rw [List.forIn_cons]
          have : cellOf env n = pure c := by unfold cellOf; rw [hc]
          simp only [beq_self_eq_true, if_true, this, pure_bind]
          exact e
        · rcases List.mem_cons.mp q with q | q
          · cases q; exact ⟨c, h2 _ (.head _)⟩
          · exact h3 x q
      · obtain ⟨cl, e, h1, h2, h3⟩ := ih acc (fun x q => hx x (.tail _ q)) ha
        refine ⟨cl, ?_, h1, h2, fun x q => ?_⟩
        · rw [List.forIn_cons]
          have : (k == NameKind.free) = false := by simpa using hk
          simp only [this, Bool.false_eq_true, if_false, pure_bind]
          exact e
        · rcases List.mem_cons.mp q with q | q
          · cases q; exact absurd rfl hk
          · exact h3 x q
  obtain ⟨cl, e, h1, _, h3⟩ := aux scope.names [] h (fun _ q => nomatch q)
  refine ⟨cl, ?_, fun x hx => ?_⟩
  · unfold closureFor
    simp only [] at e ⊢
    rw [show (forIn scope.names ([] : List (Str × Addr)) fun x r => (match x with | (name, kind) => if (kind == .free) = true then (do let a ← cellOf env name; pure (ForInStep.yield ((name, a) :: r))) else pure (ForInStep.yield r) : Sem (ForInStep (List (Str × Addr))))) = pure cl from e]
    rfl
  · obtain ⟨c, hc⟩ := h3 x hx
    obtain ⟨c', hc'⟩ : ∃ c', cl.lookup x = some c' := by
      cases q : cl.lookup x with
      | some c' => exact ⟨c', rfl⟩
      | none => exact absurd (List.lookup_eq_none_iff.mp q _ hc) (by simp)
    rw [hc', h1 _ (mem_of_lookup hc')]

def CompTurn (C : Cx) (env : Env) (scope : Scope) (tn : List Str) (μ1 : List MO) (target elt : Expr) (ifs : List Expr) (d : D) (g g' : List D) : Prop :=
  ∀ cl Lc, ClOk scope env cl → Asg C (compEnvC scope cl Lc env) (.frame Lc [] tn (tn.map fun _ => none) :: μ1) target d (fun μ2 => Ifs C (compEnvC scope cl Lc env) μ2 ifs (fun b μ3 =>
    (b = true → Ev C (compEnvC scope cl Lc env) μ3 elt (fun y μ4 => g' = g ++ [y] ∧ ∃ vs, μ4 = .frame Lc [] tn vs :: μ1) noX) ∧ (b = false → g' = g ∧ ∃ vs, μ3 = .frame Lc [] tn vs :: μ1)) noX) noX

theorem comp_core {T₀ : List (Value × D)} {target iter elt : Expr} {ifs : List Expr} {scope : Scope} {cl : List (Str × Addr)} {tn : List Str} {pos : Pos} {it : Addr} {R : Nat → Obj → Prop} {ds : List D} {G : Nat → List D} {I : Nat → List MO → Prop} {RR : Value → Addr → Result → Shared → Prop}
    (S : Src C T₀ it R ds I) (hI : ∀ i x, I i (x :: μ)) (hcl : ClOk scope env cl) (ht : ∀ v, letOwnedTupleGo target (.ref it) v = pure ()) (hcell : ∀ y ∈ scope.names, y.2 ≠ .cell) (hkind : scope.kind = .function) (hG0 : G 0 = []) (hlen : ∀ i, (G i).length ≤ sizeLine)
    (turn : ∀ i d, ds[i]? = some d → CompTurn C env scope tn μ target elt ifs d (G i) (G (i + 1)))
    (T : List (Value × D)) (ρ : List MO) (s : Shared) (E : Value → Shared → Prop) (hT : ∀ p ∈ T₀, p ∈ T) (st : St C.B C.F T (μ ++ MO.raw it (R 0) :: ρ) s)
    (hRR : ∀ Dl Cl s' vs, (∀ L ∈ C.F, L ≠ Cl) → St C.B C.F T (.frame Cl [] tn vs :: (μ ++ .list Dl (G ds.length) :: ρ)) s' → RR (.ref Dl) Cl (.ok .next) s') :
    wpAny C.M C.A (newList []) (fun acc s₃ => wpAny C.M C.A (newFunctionEnv scope env.globals cl [] env.qual none .none (some env)) (fun cenv s₄ =>
      codeAny C.M C.A (.compStart (.ListComp elt [⟨target, iter, ifs, 0⟩] scope pos) 0 (.ref it) acc { cenv with scope := relabel scope env }) (RR acc cenv.locals) s₄) E s₃) E s := by
  refine wpAny_newObj_type (wpAny_newFunctionEnv hcell (by intro y hy; simp at hy) (fun h₁ hns₁ hsb₁ => ?_) hkind)
  dsimp only at hns₁ hsb₁ ⊢
  have st1 : St C.B C.F T (μ ++ (.list s.heap.objs.size (G 0)) :: MO.raw it (R 0) :: ρ) { s with heap := s.heap.push { cls := .type "list", dict := none, data := .seq ([] : List Value).toArray } } :=
    st.alloc rfl s.toks fun φ _ => ⟨[], ⟨_, Heap.get?_push_size _ rfl⟩, by rw [hG0]; exact .nil⟩
  have hne : ∀ L ∈ C.F, L ≠ (s.heap.push { cls := .type "list", dict := none, data := .seq ([] : List Value).toArray }).objs.size := fun L hL => Nat.ne_of_lt (st1.fr_lt L hL)
  generalize hH : s.heap.push { cls := .type "list", dict := none, data := .seq ([] : List Value).toArray } = H at hns₁ hsb₁ st1 hne ⊢
  have st2 : St C.B C.F T (.frame H.objs.size [] tn (tn.map fun _ => none) :: (μ ++ (.list s.heap.objs.size (G 0)) :: MO.raw it (R 0) :: ρ)) { s with heap := h₁ } := by
    have a1 := St.alloc (μ := []) (x := .frame H.objs.size [] tn (tn.map fun _ => none)) (o := { cls := .type "dict", data := .dict #[] }) st1 rfl s.toks fun φ _ => ⟨_, Heap.Ns.new _ _, fun _ _ e => (look_nones e).elim, fun _ q => nomatch q⟩
    exact St.turnAt (μ := []) (x' := .frame H.objs.size [] tn (tn.map fun _ => none)) a1 rfl (Turned.of_sameBut hsb₁) (fun φ _ _ _ => ⟨_, hns₁, fun _ _ e => (look_nones e).elim, fun _ q => nomatch q⟩) s.toks
  have loop : ∀ t : Nat, codeAny C.M C.A (.compLoop (.ListComp elt [⟨target, iter, ifs, 0⟩] scope pos) 0 (.ref it) (.ref s.heap.objs.size) (compEnvC scope cl H.objs.size env)) (RR (.ref s.heap.objs.size) H.objs.size) { s with heap := h₁, toks := t } := by
    intro t
    refine codeAny_compLoop_tests (fun k s' => ∃ i vs, k + i = ds.length ∧ St C.B C.F T (.frame H.objs.size [] tn vs :: (μ ++ (.list s.heap.objs.size (G i)) :: MO.raw it (R i) :: ρ)) s') (fun k s' ⟨i, vs, hk, st⟩ => ?_) ds.length ⟨0, _, rfl, st2.toks t⟩ ht
    by_cases hi : i < ds.length
    · obtain ⟨d, hd⟩ : ∃ d, ds[i]? = some d := ⟨_, List.getElem?_eq_getElem hi⟩
      have st' : St C.B C.F T ((.frame H.objs.size [] tn (tn.map fun _ => none) :: μ) ++ MO.raw it (R i) :: .list s.heap.objs.size (G i) :: ρ) s' :=
        (st.forgetLocals (ns' := tn)).perm' (.cons _ ((List.Perm.refl μ).append (.swap _ _ _)))
      refine S.next hT (hI _ _) hd st' fun v s1 st1 => ?_
      refine turn i d hd cl H.objs.size hcl ((v, d) :: T) v (.head _) (MO.raw it (R (i + 1)) :: .list s.heap.objs.size (G i) :: ρ) s1 _ _ st1 (fun μ2 s2 h2 st2 => ?_) fun _ _ _ _ _ q => q.elim
      refine h2 T _ s2 _ _ st2.tail (fun b μ3 s3 h3 st3 => ?_) fun _ _ _ _ _ q => q.elim
      cases b with
      | false =>
        obtain ⟨hg, vs', rfl⟩ := h3.2 rfl
        refine ⟨k - 1, by omega, i + 1, vs', by omega, ?_⟩
        rw [hg]
        exact st3.perm' (.cons _ ((List.Perm.refl μ).append (.swap _ _ _)))
      | true =>
        refine h3.1 rfl T _ s3 _ _ st3 (fun y d' μ4 s4 h4 st4 => ?_) fun _ _ _ _ _ q => q.elim
        obtain ⟨hg, vs', rfl⟩ := h4
        have st5 : St C.B C.F ((y, d') :: T) ((.frame H.objs.size [] tn vs' :: μ) ++ .list s.heap.objs.size (G i) :: MO.raw it (R (i + 1)) :: ρ) s4 := st4.perm' (.cons _ ((List.Perm.refl μ).append (.swap _ _ _)))
        obtain ⟨⟨φ, _, _, hh, _⟩, _, _⟩ := id st5
        obtain ⟨us, hl, r⟩ := hh _ (List.mem_append_right _ (.head _))
        refine wpAny_list_append_plain hl (fun h' hl' hs' => ⟨k - 1, by omega, i + 1, vs', by omega, ?_⟩) (by rw [List.size_toArray, r.length]; exact hlen i)
        rw [hg]
        refine St.tail (p := (y, d')) (St.turnAt (x' := .list s.heap.objs.size (G i ++ [d'])) st5 rfl (Turned.of_sameBut hs') (fun φ' q6 q7 ⟨us', hl2, r2⟩ => ⟨us' ++ [y], ?_, r2.append (.cons (q7 _ (.head _)) .nil)⟩) s4.toks)
        have : us' = us := by
          obtain ⟨n, e⟩ := hl; obtain ⟨n', e'⟩ := hl2
          rw [e] at e'; cases e'; rfl
        subst this
        simpa using hl'
    · have hi' : i = ds.length := by omega
      subst hi'
      have st' : St C.B C.F T ((.frame H.objs.size [] tn vs :: μ) ++ MO.raw it (R ds.length) :: .list s.heap.objs.size (G ds.length) :: ρ) s' :=
        st.perm' (.cons _ ((List.Perm.refl μ).append (.swap _ _ _)))
      exact S.fin hT (hI _ _) st' fun s1 st1 => hRR _ _ _ _ hne st1
  refine codeAny_compStart_list (loop _) ?_
  have st3 : St C.B C.F T ((.frame H.objs.size [] tn (tn.map fun _ => none) :: μ) ++ MO.raw it (R 0) :: .list s.heap.objs.size (G 0) :: ρ) { s with heap := h₁, toks := s.toks + ([] : List (Str × Value)).length } :=
    (st2.toks _).perm' (.cons _ ((List.Perm.refl μ).append (.swap _ _ _)))
  exact S.self st3 (loop _)

def CompI (μ : List MO) : Nat → List MO → Prop := fun _ μ' => μ' = μ ∨ ∃ x, μ' = x :: μ
def compScope (scope : Scope) : Bool := scope.names.all (fun y => y.2 != .cell) && scope.names.all (fun y => y.2 != .local || scope.names.lookup y.1 == some .local)
theorem compScope_ok {scope : Scope} (h : compScope scope = true) : (∀ y ∈ scope.names, y.2 ≠ .cell) ∧ ∀ y ∈ scope.names, y.2 = .local → scope.names.lookup y.1 = some .local := by
  obtain ⟨a, b⟩ := Bool.and_eq_true_iff.mp h
  refine ⟨fun y hy e => ?_, fun y hy e => ?_⟩
  · have := List.all_eq_true.mp a y hy; rw [e] at this; simp at this
  · have := List.all_eq_true.mp b y hy; rw [e] at this; simpa using this

theorem ev_comp {target iter elt : Expr} {ifs : List Expr} {scope : Scope} {pos : Pos} {P : Post} {X : XPost} (tn : List Str)
    (h : Ev C env μ iter (fun d μ1 => ∃ ds, ∃ G : Nat → List D, Itb C d ds (CompI μ1) ∧ G 0 = [] ∧ (∀ i, (G i).length ≤ sizeLine) ∧ (∀ i d, ds[i]? = some d → CompTurn C env scope tn μ1 target elt ifs d (G i) (G (i + 1))) ∧ P (.lst (G ds.length)) μ1) X)
    (hfr : ∀ x, (x, NameKind.free) ∈ scope.names → ∃ c, env.cells.lookup x = some c) (hsc : compScope scope = true) (hkind : scope.kind = .function) (ht : ∀ it v, letOwnedTupleGo target it v = pure ()) (hs : ∀ x, foldedSetIterable iter env x = pure x) :
    Ev C env μ (.ListComp elt [⟨target, iter, ifs, 0⟩] scope pos) P X := by
  intro T ρ s Q E st hQ hE
  obtain ⟨hcell, hnames⟩ := compScope_ok hsc
  obtain ⟨cl, hclos, hclok⟩ := closureFor_ok hfr
  show wpAny C.M C.A (eval (.ListComp elt [⟨target, iter, ifs, 0⟩] scope pos) env) Q E s
  rw [eval_ListComp]
  refine wpAny_comprehension_free (use := none) rfl hs hclos hkind hnames (h T ρ s _ _ st (fun v d μ1 s1 ⟨ds, G, hit, hG0, hlen, turn, p⟩ st1 => ?_) hE)
  refine hit v _ μ1 ρ s1 _ _ (.head _) (.inl rfl) st1 fun it R s2 S st2 => ?_
  refine comp_core (RR := fun acc Cl => compPost C.M C.A E none Q acc Cl) S (fun _ x => .inr ⟨x, rfl⟩) hclok (ht _) hcell hkind hG0 hlen turn ((v, d) :: T) ρ s2 E (fun _ q => by rw [List.mem_singleton] at q; rw [q]; exact .head _) st2 fun Dl Cl s' vs' hne st' => ?_
  obtain ⟨⟨φ, _, _, h3, _⟩, _, _⟩ := id st'
  obtain ⟨mv, hn, _⟩ := h3 _ (.head _)
  refine ⟨mv, hn, fun h' hs' => hQ _ _ _ _ p ?_⟩
  have := St.gone (μ := []) st' ((Turned.of_sameBut hs').mono fun a ha => by rw [List.mem_singleton] at ha; rw [ha]; exact List.mem_cons_self) s'.toks (fun L hL e => hne L hL (Option.some.inj e).symm)
  exact (St.freeze this).drop2

theorem ex_assign_comp {x : Str} {p pos : Pos} {target iter elt : Expr} {ifs : List Expr} {scope : Scope} {cpos : Pos} {P : Fw → List MO → Prop} {X : XPost} (tn : List Str)
    (h : Ev C env μ iter (fun d μ1 => ∃ ds, ∃ G : Nat → List D, Itb C d ds (CompI μ1) ∧ G 0 = [] ∧ (∀ i, (G i).length ≤ sizeLine) ∧ (∀ i d, ds[i]? = some d → CompTurn C env scope tn μ1 target elt ifs d (G i) (G (i + 1))) ∧ Sto C env μ1 x (.lst (G ds.length)) (P .next) X) X)
    (hsw : swapsWith (.ListComp elt [⟨target, iter, ifs, 0⟩] scope cpos) (some (.Name x p)) pos.line env = pure true)
    (hfr : ∀ x, (x, NameKind.free) ∈ scope.names → ∃ c, env.cells.lookup x = some c) (hsc : compScope scope = true) (hkind : scope.kind = .function) (ht : ∀ it v, letOwnedTupleGo target it v = pure ()) (hs : ∀ x, foldedSetIterable iter env x = pure x) :
    Ex1 C env μ (.Assign [.Name x p] (.ListComp elt [⟨target, iter, ifs, 0⟩] scope cpos) pos) P X := by
  intro T ρ s Q E st hQ hE
  obtain ⟨hcell, hnames⟩ := compScope_ok hsc
  obtain ⟨cl, hclos, hclok⟩ := closureFor_ok hfr
  show wpAny C.M C.A (exec (.Assign [.Name x p] (.ListComp elt [⟨target, iter, ifs, 0⟩] scope cpos) pos) env) Q E s
  rw [exec_Assign_Name_used _ _ _ _ hsw]
  refine wpAny_bind (wpAny_standAt (wpAny_bind ?_))
  show wpAny _ C.A (do let _ ← comprehension (.ListComp elt [⟨target, iter, ifs, 0⟩] scope cpos) scope env _ (newList []) false (eval iter env) (some (assign (.Name x p) env))) _ _ s
  refine wpAny_bind (wpAny_mono (wpAny_comprehension_free (use := some (assign (.Name x p) env)) (Q := fun _ s' => Q .next s') rfl hs hclos hkind hnames
    (h T ρ s _ _ st (fun v d μ1 s1 ⟨ds, G, hit, hG0, hlen, turn, q⟩ st1 => ?_) hE)) (fun _ s' hq => wpAny_pure (wpAny_pure hq)) fun _ _ e => e)
  refine hit v _ μ1 ρ s1 _ _ (.head _) (.inl rfl) st1 fun it R s2 S st2 => ?_
  refine comp_core (RR := fun acc Cl => compPost C.M C.A E (some (assign (.Name x p) env)) (fun _ s' => Q .next s') acc Cl) S (fun _ x => .inr ⟨x, rfl⟩) hclok (ht _) hcell hkind hG0 hlen turn ((v, d) :: T) ρ s2 E (fun _ q => by rw [List.mem_singleton] at q; rw [q]; exact .head _) st2 fun Dl Cl s' vs' hne st' => ?_
  have stf : St C.B C.F ((.ref Dl, .lst (G ds.length)) :: T) (μ1 ++ .frame Cl [] tn vs' :: ρ) s' :=
    ((St.freeze (μ := .frame Cl [] tn vs' :: μ1) st').drop2).perm' List.perm_middle.symm
  show wpAny C.M C.A (assign (.Name x p) env (.ref Dl)) _ _ _
  refine wpAny_assign_Name (q _ (.ref Dl) (.head _) (.frame Cl [] tn vs' :: ρ) s' _ _ stf (fun μ' s'' pp st'' => ?_) fun e c tb μ' s'' xx st'' => hE e c tb μ' s'' xx (St.forgetAt (μ := .exc e c tb :: μ') st'' (fun L hL e => hne L hL (Option.some.inj e).symm)).tail)
  obtain ⟨⟨φ, _, _, h3, _⟩, _, _⟩ := id st''
  obtain ⟨mv, hn, _⟩ := h3 (.frame Cl [] tn vs') (List.mem_append_right _ (.head _))
  refine ⟨mv, hn, fun h' hs' => hQ .next .next _ _ pp ?_⟩
  exact (St.gone st'' ((Turned.of_sameBut hs').mono fun a ha => by rw [List.mem_singleton] at ha; rw [ha]; exact List.mem_cons_self) s''.toks (fun L hL e => hne L hL (Option.some.inj e).symm)).tail
end
end Mine

open PySem PyProof.Rows
set_option linter.unusedVariables false
namespace Mine
section
variable {C : Cx} {env : Env} {μ : List MO} {P : Post} {X : XPost}

theorem ev_callT {x : Str} {np pos : Pos} {args : List Expr} {T : String} (hn : ∀ P', P' (.val (.type T)) μ → Ev C env μ (.Name x np) P' X) (hs : noStars args = true)
    (h : EvL C env μ args (fun ds μ1 => Ca C (.type T) ds μ1 P X) X) : Ev C env μ (.Call (.Name x np) args [] pos) P X := by
  intro Ts ρ s Q E st hQ hE
  refine wpAny_Call_ofName (hn (fun d μ1 => d = .val (.type T) ∧ μ1 = μ) ⟨rfl, rfl⟩ Ts ρ s _ _ st (fun v d μ1 s1 ⟨hd1, hμ⟩ st1 => ?_) hE)
  subst hd1 hμ
  have e := st1.isVal (.head _); subst e
  rw [starEach_plain env hs, backTo_plain]
  refine PyProof.Rows.callWith_type (by simp) (evl_evalArgs h Ts ρ s1 _ _ st1.tail (fun vs ds μ' s' T' p hl hz hT st' => ?_) hE)
  exact (p T' vs hl hz).from hT ρ s' Q E st' hQ hE

theorem ca1 {f : Value} {d : D} (h : ∀ T v, (v, d) ∈ T → TrT C T μ (call f [v]) P X) : Ca C f [d] μ P X := fun T vs hl hz => by
  match vs, hl, hz with
  | [v], _, hz => exact h T v (hz _ (.head _))
theorem ca2 {f : Value} {d e : D} (h : ∀ T v w, (v, d) ∈ T → (w, e) ∈ T → TrT C T μ (call f [v, w]) P X) : Ca C f [d, e] μ P X := fun T vs hl hz => by
  match vs, hl, hz with
  | [v, w], _, hz => exact h T v w (hz _ (.head _)) (hz _ (.tail _ (.head _)))
inductive Kd (μ : List MO) : D → String → Prop
  | none : Kd μ .none "NoneType"
  | bool (b : Bool) : Kd μ (.bool b) "bool"
  | int (i : Int) : Kd μ (.int i) "int"
  | str (x : Str) : Kd μ (.str x) "str"
  | tup (ds : List D) : Kd μ (.tup ds) "tuple"
  | lst (ds : List D) : Kd μ (.lst ds) "list"
  | own {a : Addr} {ds : List D} : MO.list a ds ∈ μ → Kd μ (.ref a) "list"
def isT (T K : String) : Bool := T == K || (T == "int" && K == "bool")
theorem St.isTup {B : Shared} {F : List Addr} {T : List (Value × D)} {s : Shared} {v : Value} {ds : List D} (st : St B F T μ s) (hv : (v, .tup ds) ∈ T) : ∃ a o, v = .ref a ∧ s.heap.get? a = some o ∧ o.cls = .type "tuple" := by
  obtain ⟨a, vs, e, ⟨o, ho, hc, _⟩, _⟩ := st.titems hv; exact ⟨a, o, e, ho, hc⟩
theorem St.isLst {B : Shared} {F : List Addr} {T : List (Value × D)} {s : Shared} {v : Value} {d : D} {ds : List D} (st : St B F T μ s) (hv : (v, d) ∈ T) (hi : Items μ d ds) : ∃ a o, v = .ref a ∧ s.heap.get? a = some o ∧ o.cls = .type "list" := by
  obtain ⟨a, vs, e, ⟨o, ho, hc, _⟩, _⟩ := st.items hv hi; exact ⟨a, o, e, ho, hc⟩

theorem ca_isi {d : D} {K T : String} (k : Kd μ d K) (hT : T ∈ ["int", "bool", "str", "list", "tuple"]) (h : P (.bool (isT T K)) μ) : Ca C (.builtin "isinstance") [d, .val (.type T)] μ P X := by
  refine ca2 fun Ts v w hv hw ρ s Q E st hQ hE => ?_
  have e := st.isVal hw; subst e
  have q0 : ∀ b, isT T K = b → Q (.bool b) s := fun b e => hQ _ _ _ _ h (by rw [e]; exact st.add (rBool _))
  have q1 : ∀ b, isT T K = b → Q (.bool b) { s with toks := s.toks + 1 } := fun b e => hQ _ _ _ _ h (by rw [e]; exact (st.toks _).add (rBool _))
  simp only [List.mem_cons, List.not_mem_nil, or_false] at hT
  cases k with
  | none =>
    have e := st.isNone hv; subst e
    rcases hT with rfl | rfl | rfl | rfl | rfl
    · exact IsiPair.NoneType_int (q1 _ rfl)
    · exact IsiPair.NoneType_bool (q1 _ rfl)
    · exact IsiPair.NoneType_str (q1 _ rfl)
    · exact IsiPair.NoneType_list (q1 _ rfl)
    · exact IsiPair.NoneType_tuple (q1 _ rfl)
  | bool b =>
    have e := st.isBool hv; subst e
    rcases hT with rfl | rfl | rfl | rfl | rfl
    · exact IsiPair.bool_int (q0 _ rfl)
    · exact IsiPair.bool_bool (q0 _ rfl)
    · exact IsiPair.bool_str (q1 _ rfl)
    · exact IsiPair.bool_list (q1 _ rfl)
    · exact IsiPair.bool_tuple (q1 _ rfl)
  | int i =>
    obtain ⟨t, rfl⟩ := st.isInt hv
    rcases hT with rfl | rfl | rfl | rfl | rfl
    · exact IsiPair.int_int (q0 _ rfl)
    · exact IsiPair.int_bool (q1 _ rfl)
    · exact IsiPair.int_str (q1 _ rfl)
    · exact IsiPair.int_list (q1 _ rfl)
    · exact IsiPair.int_tuple (q1 _ rfl)
  | str x =>
    obtain ⟨t, rfl⟩ := st.isStr hv
    rcases hT with rfl | rfl | rfl | rfl | rfl
    · exact IsiPair.str_int (q1 _ rfl)
    · exact IsiPair.str_bool (q1 _ rfl)
    · exact IsiPair.str_str (q0 _ rfl)
    · exact IsiPair.str_list (q1 _ rfl)
    · exact IsiPair.str_tuple (q1 _ rfl)
  | tup ds =>
    obtain ⟨a, o, rfl, ho, hc⟩ := st.isTup hv
    rcases hT with rfl | rfl | rfl | rfl | rfl
    · exact IsiPair.tuple_int ho hc (q1 _ rfl)
    · exact IsiPair.tuple_bool ho hc (q1 _ rfl)
    · exact IsiPair.tuple_str ho hc (q1 _ rfl)
    · exact IsiPair.tuple_list ho hc (q1 _ rfl)
    · exact IsiPair.tuple_tuple ho hc (q0 _ rfl)
  | lst ds =>
    obtain ⟨a, o, rfl, ho, hc⟩ := st.isLst hv (.inl rfl)
    rcases hT with rfl | rfl | rfl | rfl | rfl
    · exact IsiPair.list_int ho hc (q1 _ rfl)
    · exact IsiPair.list_bool ho hc (q1 _ rfl)
    · exact IsiPair.list_str ho hc (q1 _ rfl)
    · exact IsiPair.list_list ho hc (q0 _ rfl)
    · exact IsiPair.list_tuple ho hc (q1 _ rfl)
  | own hm =>
    obtain ⟨a, o, rfl, ho, hc⟩ := st.isLst hv (.inr ⟨_, rfl, List.mem_append_left _ hm⟩)
    rcases hT with rfl | rfl | rfl | rfl | rfl
    · exact IsiPair.list_int ho hc (q1 _ rfl)
    · exact IsiPair.list_bool ho hc (q1 _ rfl)
    · exact IsiPair.list_str ho hc (q1 _ rfl)
    · exact IsiPair.list_list ho hc (q0 _ rfl)
    · exact IsiPair.list_tuple ho hc (q1 _ rfl)

theorem ca_len {d : D} {ds : List D} (hi : Items μ d ds) (hl : ds.length < 2 ^ 62) (h : P (.int ds.length) μ) : Ca C (.builtin "len") [d] μ P X := by
  refine ca1 fun T v hv ρ s Q E st hQ hE => ?_
  obtain ⟨a, vs, rfl, hL, hlen, st2⟩ := st.items hv (hi.app ρ)
  refine Calls.call_len_list hL (by simp only [List.size_toArray]; omega) (hQ _ _ _ _ h ?_)
  rw [List.size_toArray, hlen]
  exact (st.toks _).add (rInt _ _)

theorem ca_list {d : D} {ds : List D} (hi : Items μ d ds) (hl : ds.length ≤ sizeLine) (h : P (.lst ds) μ) : Ca C (.type "list") [d] μ P X := by
  refine ca1 fun T v hv ρ s Q E st hQ hE => ?_
  obtain ⟨a, vs, rfl, ⟨o, ho, hc, n, hd⟩, hlen, st2⟩ := st.items hv (hi.app ρ)
  refine call_list_seq a (.inl rfl) ho hc hd (fun h' c' hk hD => hQ _ _ _ _ h ?_) (by simpa [hlen] using hl)
  have a1 : St C.B C.F (vs.zip ds ++ T) (μ ++ ρ) { s with heap := h' } := st2.grown hk s.toks
  obtain ⟨⟨φ, h1, h2, h3, h4, h5, h6⟩, hos, hg⟩ := st2
  have new : φ s.heap.objs.size = none := by
    cases q : φ s.heap.objs.size with
    | none => rfl
    | some o' => exact absurd (Heap.lt_size (h2 _ _ q)) (Nat.lt_irrefl _)
  let ψ : FM := fun b => if b = s.heap.objs.size then some { cls := .type "list", dict := none, data := .seq vs.toArray c', slots := #[] } else φ b
  have kψ : FM.le φ ψ := fun b o' e => by
    show (if b = s.heap.objs.size then some _ else φ b) = some o'
    rw [if_neg (fun q => by rw [q, new] at e; cases e)]; exact e
  refine ⟨⟨ψ, fun b o' e => kψ b o' (h1 b o' e), fun b o' e => ?_, fun y hy => MO.holds_turned (S := []) kψ (fun b o _ e => hk b o e) (h3 y hy) (by simp), fun y hy b hb => ?_, h5, fun p hp => ?_⟩, hos, hg⟩
  · by_cases q : b = s.heap.objs.size
    · subst q
      have : some ({ cls := .type "list", dict := none, data := .seq vs.toArray c', slots := #[] } : Obj) = some o' := by rw [← e]; exact (if_pos rfl).symm
      cases this; exact hD
    · exact hk b o' (h2 b o' (by rw [← e]; exact (if_neg q).symm))
  · obtain ⟨o', e'⟩ := MO.holds_there (h3 y hy) b hb
    exact (if_neg (Nat.ne_of_lt (Heap.lt_size e'))).trans (h4 y hy b hb)
  · rcases List.mem_cons.mp hp with rfl | hp
    · exact .lst (if_pos rfl) rfl rfl ((reps_zip hlen fun p hp => h6 p (List.mem_append_left _ hp)).mono kψ)
    · exact (h6 p (List.mem_append_right _ hp)).mono kψ

theorem ca_range1 {n : Int} (h : P (.rng 0 n 1) μ) : Ca C (.type "range") [.int n] μ P X := by
  refine ca1 fun T v hv ρ s Q E st hQ hE => ?_
  obtain ⟨t, rfl⟩ := st.isInt hv
  exact call_range_1 (hQ _ _ _ _ h (st.frozen rfl _ fun φ _ e => .rng e))
theorem ca_range2 {a b : Int} (h : P (.rng a b 1) μ) : Ca C (.type "range") [.int a, .int b] μ P X := by
  refine ca2 fun T v w hv hw ρ s Q E st hQ hE => ?_
  obtain ⟨t, rfl⟩ := st.isInt hv; obtain ⟨u, rfl⟩ := st.isInt hw
  exact call_range_2 (hQ _ _ _ _ h (st.frozen rfl _ fun φ _ e => .rng e))

def intsD (ns : List Int) : List D := ns.map D.int
theorem ints_of {φ : FM} : ∀ {vs : List Value} {ns : List Int}, Reps φ vs (intsD ns) → ∃ xs : Array (Int × Tok), vs.toArray = intItems xs ∧ xs.toList.map (·.1) = ns
  | [], [], _ => ⟨#[], by simp [intItems], rfl⟩
  | [], _ :: _, h => by simp [intsD] at h; cases h
  | _ :: _, [], h => by simp [intsD] at h; cases h
  | v :: vs, n :: ns, h => by
    simp only [intsD, List.map_cons] at h
    cases h with
    | cons h1 h2 =>
      cases h1 with
      | int i t =>
        obtain ⟨xs, e1, e2⟩ := ints_of (ns := ns) h2
        refine ⟨((n, t) :: xs.toList).toArray, ?_, by simp [e2]⟩
        have : vs = (intItems xs).toList := by rw [← e1]
        rw [this]
        simp [intItems]
theorem ca_sum {d : D} {ns : List Int} (hA : C.A.handled = none) (hi : Items μ d (intsD ns)) (h : P (.int ns.sum) μ) : Ca C (.builtin "sum") [d] μ P X := by
  refine ca1 fun T v hv ρ s Q E st hQ hE => ?_
  obtain ⟨a, vs, rfl, hL, hlen, st2⟩ := st.items hv (hi.app ρ)
  obtain ⟨⟨φ, _, _, _, _, _, h6⟩, _, _⟩ := id st2
  obtain ⟨xs, e1, e2⟩ := ints_of (reps_zip hlen fun p hp => h6 p (List.mem_append_left _ hp))
  rw [e1] at hL
  refine sum_intListG hA hL fun h' tk t' hk => hQ _ _ _ _ h ?_
  rw [preSum_eq, List.take_of_length_le (by simp), e2]
  exact (st.grown hk tk).add (rInt _ _)
end
end Mine

open PySem PyProof.Rows
set_option linter.unusedVariables false
namespace Mine
section
variable {C : Cx} {env : Env} {μ : List MO} {P : Post} {X : XPost}

theorem bin_add_list {d e : D} {ds es : List D} (hd : Items μ d ds) (he : Items μ e es) (hl : ds.length + es.length ≤ sizeLine) (h : P (.lst (ds ++ es)) μ) : Bin C .Add d e μ P X := by
  intro T a b ha hb ρ s Q E st hQ hE
  obtain ⟨a', vs, rfl, hL, hlen, st2⟩ := st.items ha (hd.app ρ)
  obtain ⟨b', ws, rfl, hL2, hlen2, st3⟩ := st2.items (List.mem_append_right _ hb) (he.app ρ)
  obtain ⟨⟨cls, dd, data, sl⟩, ho, hc, n, hdat⟩ := hL
  obtain ⟨⟨cls2, dd2, data2, sl2⟩, ho2, hc2, n2, hdat2⟩ := hL2
  simp only at hc hdat hc2 hdat2
  subst hc hdat hc2 hdat2
  have e : vs.toArray ++ ws.toArray = (vs ++ ws).toArray := by simp
  refine concat_meets ⟨_, ho, rfl⟩ ⟨_, ho2, rfl⟩ noFill_list_add seq_list_add PySem.F.slot_list_add PySem.F.entry_list_add (PySem.F.args_list_add_2 _ _) (list_addW a' b' vs.toArray ws.toArray n n2 dd dd2 sl sl2 (by simp only [List.size_toArray]; omega)) ⟨ho, ho2, ?_⟩
  rw [e]
  refine hQ _ _ _ _ h ((st3.frozen (d := .lst (ds ++ es)) rfl _ fun φ hT hφ => ?_).keepHead fun p hp => List.mem_append_right _ (List.mem_append_right _ hp))
  exact .lst hφ rfl rfl ((reps_zip hlen fun p hp => hT p (List.mem_append_right _ (List.mem_append_left _ hp))).append (reps_zip hlen2 fun p hp => hT p (List.mem_append_left _ hp)))

def Sub (C : Cx) (value slice : Expr) (d i : D) (μ : List MO) (P : Post) (X : XPost) : Prop := ∀ T o iv, (o, d) ∈ T → (iv, i) ∈ T → TrT C T μ (subscriptTail value slice o iv) P X
theorem ev_Subscript {value slice : Expr} {pos : Pos} (h : Ev C env μ value (fun d μ1 => Ev C env μ1 slice (fun i μ2 => Sub C value slice d i μ2 P X) X) X) : Ev C env μ (.Subscript value slice pos) P X :=
  fun T ρ _ _ _ st hQ hE => Subscript_ (h T ρ _ _ _ st (fun a d1 μ1 s1 h1 st1 => h1 ((a, d1) :: T) ρ s1 _ _ st1
    (fun b d2 μ2 s2 h2 st2 => h2 _ a b (.tail _ (.head _)) (.head _) ρ s2 _ _ st2 (fun v d μ' s' p st' => hQ v d μ' s' p (st'.keepHead fun _ hq => .tail _ (.tail _ hq))) fun e c t μ' s' x st' => hE e c t μ' s' x (st'.sub fun _ hq => .tail _ (.tail _ hq)))
    fun e c t μ' s' x st' => hE e c t μ' s' x st'.tail) hE)
def noSlice : Expr → Bool
  | .Slice .. => false
  | _ => true
theorem sub_plain {slice : Expr} (h : noSlice slice = true) (o i : Value) : subscripted slice false o i = operate [o, i] (getItem o i) := by
  cases slice <;> first | rfl | (simp [noSlice] at h)
theorem zip_at {vs : List Value} {ds : List D} {k : Nat} {v : Value} {x : D} (h1 : vs[k]? = some v) (h2 : ds[k]? = some x) : (v, x) ∈ vs.zip ds :=
  List.mem_of_getElem? (i := k) (by rw [List.getElem?_zip_eq_some]; exact ⟨h1, h2⟩)
theorem at_of_len {vs : List Value} {ds : List D} {k : Nat} {x : D} (hl : vs.length = ds.length) (h : ds[k]? = some x) : ∃ v, vs[k]? = some v :=
  ⟨_, List.getElem?_eq_getElem (by rw [hl]; exact (List.getElem?_eq_some_iff.mp h).1)⟩

theorem sub_list {value slice : Expr} {d : D} {ds : List D} {k : Int} {x : D} (hi : Items μ d ds) (h0 : 0 ≤ k) (hx : ds[k.toNat]? = some x) (hk : k < 2 ^ 63) (hs : noSlice slice = true) (h : P x μ) : Sub C value slice d (.int k) μ P X := by
  intro T o iv ho hiv ρ s Q E st hQ hE
  obtain ⟨t, rfl⟩ := st.isInt hiv
  obtain ⟨a, vs, rfl, hL, hlen, st2⟩ := st.items ho (hi.app ρ)
  obtain ⟨v, hv⟩ := at_of_len hlen hx
  refine tail_any hL.typeIs slot_list_getitem.lookup (wpAny_getItem_list hL h0 hk (by simpa using hv) (hQ v x _ _ h ?_)) (sub_plain hs _ _)
  exact st2.sub fun p hp => by
    rcases List.mem_cons.mp hp with rfl | hp
    · exact List.mem_append_left _ (zip_at hv hx)
    · exact List.mem_append_right _ hp
theorem slice_upto (vs : List Value) (b : Int) (hb : 0 ≤ b) : slicePick vs.toArray none (some b) none = (vs.take b.toNat).toArray := by
  unfold slicePick
  have e : sliceBounds none (some b) none vs.toArray.size = (((0 : Nat) : Int), ((min b.toNat vs.length : Nat) : Int), 1) := by
    simp only [sliceBounds, Option.getD_none]
    have h2 : ¬ (b < 0) := by omega
    simp only [h2, if_false, show (1 : Int) > 0 by decide, if_true, List.size_toArray]
    congr 1
    congr 1; omega
  rw [e]
  simp only [sliceRange_one, pick_run]
  simp [List.take_eq_take_iff]
theorem slice_from (vs : List Value) (a : Int) (ha : 0 ≤ a) : slicePick vs.toArray (some a) none none = (vs.drop a.toNat).toArray := by
  unfold slicePick
  have e : sliceBounds (some a) none none vs.toArray.size = (((min a.toNat vs.length : Nat) : Int), ((vs.length : Nat) : Int), 1) := by
    simp only [sliceBounds, Option.getD_none]
    have h1 : ¬ (a < 0) := by omega
    simp only [h1, if_false, show (1 : Int) > 0 by decide, if_true, List.size_toArray]
    congr 1
    omega
  rw [e]
  simp only [sliceRange_one, pick_run]
  by_cases h : a.toNat ≤ vs.length
  · rw [Nat.min_eq_left h, List.take_of_length_le (by simp)]
  · rw [Nat.min_eq_right (by omega)]; simp; omega
theorem slice_both (vs : List Value) (a b : Int) (ha : 0 ≤ a) (hb : 0 ≤ b) : slicePick vs.toArray (some a) (some b) none = ((vs.drop a.toNat).take (b.toNat - a.toNat)).toArray := by
  unfold slicePick
  have e : sliceBounds (some a) (some b) none vs.toArray.size = (((min a.toNat vs.length : Nat) : Int), ((min b.toNat vs.length : Nat) : Int), 1) := by
    simp only [sliceBounds, Option.getD_none]
    have h1 : ¬ (a < 0) := by omega
    have h2 : ¬ (b < 0) := by omega
    simp only [h1, h2, if_false, show (1 : Int) > 0 by decide, if_true, List.size_toArray]
    congr 1
    · omega
    · congr 1; omega
  rw [e]
  simp only [sliceRange_one, pick_run]
  by_cases h : a.toNat ≤ vs.length
  · rw [Nat.min_eq_left h]
    congr 1
    rw [List.take_eq_take_iff]; simp; omega
  · have hm : min a.toNat vs.length = vs.length := by omega
    have h2 : vs.drop a.toNat = [] := by simp; omega
    rw [hm, h2]; simp

def EvO (C : Cx) (env : Env) (μ : List MO) (e : Option Expr) (P : Post) (X : XPost) : Prop := TrV C μ (evalPart e env) P X
theorem evo_none (h : P .none μ) : EvO C env μ none P X := fun T ρ s Q E st hQ hE => wpAny_pure (hQ _ _ _ _ h (st.add rNone))
theorem evo_some {e : Expr} (h : Ev C env μ e P X) : EvO C env μ (some e) P X := h
def partD : D → Option Int → Prop
  | .none, none => True
  | .int i, some j => i = j
  | _, _ => False
def cutD (lo hi : Option Int) (ds : List D) : List D := match lo, hi with
  | none, none => ds
  | none, some b => ds.take b.toNat
  | some a, none => ds.drop a.toNat
  | some a, some b => (ds.drop a.toNat).take (b.toNat - a.toNat)
theorem cut_vals {φ : FM} {vs : List Value} {ds : List D} (r : Reps φ vs ds) (lo hi : Option Int) (hlo : ∀ a, lo = some a → 0 ≤ a) (hhi : ∀ a, hi = some a → 0 ≤ a) (hb : lo.isSome ∨ hi.isSome) : ∃ ws : List Value, slicePick vs.toArray lo hi none = ws.toArray ∧ Reps φ ws (cutD lo hi ds) := by
  match lo, hi with
  | none, none => simp at hb
  | none, some b => exact ⟨_, slice_upto vs b (hhi b rfl), r.take _⟩
  | some a, none => exact ⟨_, slice_from vs a (hlo a rfl), r.drop _⟩
  | some a, some b => exact ⟨_, slice_both vs a b (hlo a rfl) (hhi b rfl), (r.drop _).take _⟩
mutual
def toP : D → PyData
  | .none => .none
  | .bool b => .bool b
  | .int i => .int i
  | .str x => .str x
  | .tup ds => .tuple (toPs ds)
  | .lst ds => .list (toPs ds)
  | _ => .none
def toPs : List D → List PyData
  | [] => []
  | d :: ds => toP d :: toPs ds
end
mutual
def plainD : D → Bool
  | .none | .bool _ | .int _ | .str _ => true
  | .tup ds => plainDs ds
  | .lst ds => plainDs ds
  | _ => false
def plainDs : List D → Bool
  | [] => true
  | d :: ds => plainD d && plainDs ds
end
mutual
theorem Rep.reads {φ : FM} {h : Heap} (k : ∀ a o, φ a = some o → h.get? a = some o) : ∀ {v d}, Rep φ v d → plainD d = true → ∃ as, Reads h v (toP d) as
  | _, _, .none, _ => ⟨_, by simp only [toP]; exact .none⟩
  | _, _, .bool b, _ => ⟨_, by simp only [toP]; exact .bool b⟩
  | _, _, .int i t, _ => ⟨_, by simp only [toP]; exact .int i t⟩
  | _, _, .str x t, _ => ⟨_, by simp only [toP]; exact .str x t⟩
  | _, _, .tup ha hc hd r, hp => by
    obtain ⟨as, q⟩ := Reps.reads k r (by simpa [plainD] using hp)
    exact ⟨as, by simp only [toP]; exact .tuple (k _ _ ha) hc hd q⟩
  | _, _, .lst ha hc hd r, hp => by
    obtain ⟨as, q⟩ := Reps.reads k r (by simpa [plainD] using hp)
    exact ⟨_ :: as, by simp only [toP]; exact .list (k _ _ ha) hc hd q⟩
  | _, _, .rng _, hp => by simp [plainD] at hp
  | _, _, .ref _, hp => by simp [plainD] at hp
  | _, _, .val _, hp => by simp [plainD] at hp
theorem Reps.reads {φ : FM} {h : Heap} (k : ∀ a o, φ a = some o → h.get? a = some o) : ∀ {vs ds}, Reps φ vs ds → plainDs ds = true → ∃ as, ReadsAll h vs (toPs ds) as
  | _, _, .nil, _ => ⟨[], by simp only [toPs]; exact .nil⟩
  | _, _, .cons h1 h2, hp => by
    simp only [plainDs, Bool.and_eq_true] at hp
    obtain ⟨a, q⟩ := Rep.reads k h1 hp.1
    obtain ⟨b, r⟩ := Reps.reads k h2 hp.2
    exact ⟨a ++ b, by simp only [toPs]; exact .cons q r⟩
end
def Seen (μ : List MO) (d : D) (e : D) : Prop := d = e ∨ ∃ a ds, d = .ref a ∧ MO.list a ds ∈ μ ∧ e = .lst ds
theorem Seen.app {d e : D} (h : Seen μ d e) (ρ : List MO) : Seen (μ ++ ρ) d e := h.imp id fun ⟨a, ds, h1, h2, h3⟩ => ⟨a, ds, h1, List.mem_append_left _ h2, h3⟩
theorem St.reads {B : Shared} {F : List Addr} {T : List (Value × D)} {s : Shared} {v : Value} {d e : D} (st : St B F T μ s) (hv : (v, d) ∈ T) (hs : Seen μ d e) (hp : plainD e = true) : ∃ as, Reads s.heap v (toP e) as := by
  obtain ⟨⟨φ, h1, h2, h3, h4, h5, h6⟩, ho, hg⟩ := st
  rcases hs with rfl | ⟨a, ds, rfl, hm, rfl⟩
  · exact (h6 _ hv).reads h2 hp
  · have := h6 _ hv
    cases this
    obtain ⟨vs, hpl, r⟩ := h3 _ hm
    obtain ⟨o, hoo, hc, n, hd⟩ := hpl.isList
    obtain ⟨as, q⟩ := r.reads h2 (by simpa [plainD] using hp)
    exact ⟨_ :: as, by simp only [toP]; exact .list hoo hc hd q⟩
theorem cmp_eqD {d e d' e' : D} {P : Bool → List MO → Prop} (hd : Seen μ d d') (he : Seen μ e e') (pd : plainD d' = true) (pe : plainD e' = true) (sd : SeqAt.shaped (toP d') = true) (se : SeqAt.shaped (toP e') = true) (hu : C.A.units + 64 < cLine)
    (h : P (PyData.eqv (toP d') (toP e')) μ) : Cmp C .Eq d e μ P X := by
  intro T a b ha hb ρ s Q E st hQ hE
  obtain ⟨as, ra⟩ := st.reads ha (hd.app ρ) pd
  obtain ⟨bs, rb⟩ := st.reads hb (he.app ρ) pe
  exact SeqAt.compareEq_shaped ra rb sd se hu (hQ _ _ _ _ ⟨_, rfl, h⟩ (st.add (rBool _)))
theorem cmp_neD {d e d' e' : D} {P : Bool → List MO → Prop} (hd : Seen μ d d') (he : Seen μ e e') (pd : plainD d' = true) (pe : plainD e' = true) (sd : SeqAt.shaped (toP d') = true) (se : SeqAt.shaped (toP e') = true) (hu : C.A.units + 64 < cLine)
    (h : P (!PyData.eqv (toP d') (toP e')) μ) : Cmp C .NotEq d e μ P X := by
  intro T a b ha hb ρ s Q E st hQ hE
  obtain ⟨as, ra⟩ := st.reads ha (hd.app ρ) pd
  obtain ⟨bs, rb⟩ := st.reads hb (he.app ρ) pe
  exact SeqAt.compareNe_shaped ra rb sd se hu (hQ _ _ _ _ ⟨_, rfl, h⟩ (st.add (rBool _)))
end
end Mine

open PySem PyProof.Rows
set_option linter.unusedVariables false
namespace Mine
theorem mHead {α : Type} {a : α} {l : List α} : a ∈ a :: l := .head _
theorem mTail {α : Type} {a b : α} {l : List α} (h : a ∈ l) : a ∈ b :: l := .tail _ h

def stAt (p : Program) (n : Nat) : Stmt := p.main.body.getD n (.Pass ⟨0, 0, 0, 0⟩)
def fBody : Stmt → List Stmt
  | .FunctionDef _ _ b _ _ _ _ _ _ _ => b
  | _ => []
def fScope : Stmt → Scope
  | .FunctionDef _ _ _ _ _ _ sc _ _ _ => sc
  | _ => ⟨.function, [], false, false, []⟩
def fParams : Stmt → Arguments
  | .FunctionDef _ a _ _ _ _ _ _ _ _ => a
  | _ => ⟨[], [], none, [], [], none, []⟩
structure Fq where
  name : Str
  qual : Str
  dV : Value
  kV : Value
  doc : Value
  pm : Value
  an : Option Addr
  cd : Value
  ct : Value
def mkFd (st : Stmt) (q : Fq) : FuncData :=
  { name := q.name, qualname := q.qual, params := fParams st, body := .stmts (fBody st), scope := fScope st, globals := mainGlobals, closure := [], defaults := q.dV, kwdefaults := q.kV, doc := q.doc, pyModule := q.pm, annotations := q.an, code := q.cd, closureTuple := q.ct, builtins := builtinsNs }
def FnSt (B : Shared) (f : Addr) (st : Stmt) (names : List Str) : Prop := ∃ q, FnAt B f (mkFd st q) (fBody st) names
def envK (kn : List (Str × NameKind)) (more : List (Str × Const)) (q : Fq) (L f : Addr) : Env :=
  { scope := ⟨.function, kn, false, false, more⟩, locals := L, globals := mainGlobals, cells := cellsK L kn, qual := q.qual ++ ".<locals>.", func := some f, code := q.cd, frame := some L, builtins := builtinsNs }
structure KN (kn : List (Str × NameKind)) : Prop where
  nd : (kn.map (·.1)).Nodup
  dbg : ∀ p ∈ kn, (p.1 == ("__debug__" : Str)) = false
def knOk (kn : List (Str × NameKind)) : Bool := decide (kn.map (·.1)).Nodup && kn.all fun p => !(p.1 == ("__debug__" : Str))
theorem KN.of {kn : List (Str × NameKind)} (h : knOk kn = true) : KN kn := by
  obtain ⟨a, b⟩ := Bool.and_eq_true_iff.mp h
  exact ⟨of_decide_eq_true a, fun p hp => by simpa using List.all_eq_true.mp b p hp⟩
structure LN (ns : List Str) : Prop where
  nd : ns.Nodup
theorem KN.look {kn : List (Str × NameKind)} (K : KN kn) {x : Str} {k : NameKind} (h : (x, k) ∈ kn) : kn.lookup x = some k := lookup_of_nodup K.nd h
theorem KN.noCell {kn : List (Str × NameKind)} (K : KN kn) {x : Str} {k : NameKind} (h : (x, k) ∈ kn) (hk : k ≠ .cell) (L : Addr) : (cellsK L kn).lookup x = none := by
  refine cellsFrom_none _ _ _ (List.all_eq_true.mpr fun p hp => ?_) rfl
  by_cases e : p.1 = x
  · have h1 := lookup_of_nodup K.nd hp
    have h2 := K.look h
    rw [e, h2] at h1
    cases h1
    simp [hk]
  · simp [e]
theorem KN.cell {kn : List (Str × NameKind)} (K : KN kn) {x : Str} (h : (x, NameKind.cell) ∈ kn) (L : Addr) : ∃ c, (cellsK L kn).lookup x = some c :=
  Option.isSome_iff_exists.mp (cellsFrom_some' _ _ _ (.inl (K.look h)))
structure KindE (env : Env) (x : Str) (k : NameKind) : Prop where
  fn : env.scope.kind = .function
  kind : env.kindOf x = some k
  dbg : (x == ("__debug__" : Str)) = false
theorem kindK {kn : List (Str × NameKind)} {more : List (Str × Const)} {q : Fq} {L f : Addr} {x : Str} {k : NameKind} (K : KN kn) (h : (x, k) ∈ kn) : KindE (envK kn more q L f) x k := ⟨rfl, K.look h, K.dbg _ h⟩
theorem lookup_relabel {env : Env} {names : List (Str × NameKind)} {x : Str} {k : NameKind} (hk : k ≠ .free) : names.lookup x = some k →
    (names.map fun (n, k) => if (k == NameKind.free && env.scope.kind == .function && env.kindOf n == some .cell) then (n, NameKind.cell) else (n, k)).lookup x = some k := by
  induction names with
  | nil => intro h; simp at h
  | cons y r ih =>
    obtain ⟨n, k'⟩ := y
    intro h
    rw [List.lookup_cons] at h
    show List.lookup x ((if (k' == NameKind.free && env.scope.kind == .function && env.kindOf n == some .cell) = true then (n, NameKind.cell) else (n, k')) :: _) = _
    cases hx : x == n with
    | true =>
      rw [hx] at h; cases h
      have : (k == NameKind.free) = false := by simpa using hk
      simp [this, List.lookup_cons, hx]
    | false =>
      rw [hx] at h
      split <;> (rw [List.lookup_cons, hx]; exact ih h)
theorem lookup_relabel_free {env : Env} {names : List (Str × NameKind)} {x : Str} (hc : (env.scope.kind == .function && env.kindOf x == some .cell) = true) : names.lookup x = some .free →
    (names.map fun (n, k) => if (k == NameKind.free && env.scope.kind == .function && env.kindOf n == some .cell) then (n, NameKind.cell) else (n, k)).lookup x = some .cell := by
  induction names with
  | nil => intro h; simp at h
  | cons y r ih =>
    obtain ⟨n, k'⟩ := y
    intro h
    rw [List.lookup_cons] at h
    show List.lookup x ((if (k' == NameKind.free && env.scope.kind == .function && env.kindOf n == some .cell) = true then (n, NameKind.cell) else (n, k')) :: _) = _
    cases hx : x == n with
    | true =>
      rw [hx] at h; cases h
      have e := beq_iff_eq.mp hx; subst e
      rw [Bool.and_assoc, hc]
      simp [List.lookup_cons]
    | false =>
      rw [hx] at h
      split <;> (rw [List.lookup_cons, hx]; exact ih h)
theorem kindC {scope : Scope} {cl : List (Str × Addr)} {Lc : Addr} {env : Env} {x : Str} {k : NameKind} (hf : scope.kind = .function) (K : KN scope.names) (h : (x, k) ∈ scope.names) (hk : k ≠ .free) : KindE (compEnvC scope cl Lc env) x k :=
  ⟨hf, lookup_relabel hk (K.look h), K.dbg _ h⟩
theorem kindCap {scope : Scope} {cl : List (Str × Addr)} {Lc : Addr} {env : Env} {x : Str} (hf : scope.kind = .function) (K : KN scope.names) (h : (x, NameKind.free) ∈ scope.names) (ho : KindE env x .cell) : KindE (compEnvC scope cl Lc env) x .cell :=
  ⟨hf, lookup_relabel_free (by rw [ho.fn, ho.kind]; rfl) (K.look h), K.dbg _ h⟩

structure AOk (C : Cx) (n : Nat) : Prop where
  handled : C.A.handled = none
  depth : C.A.depth + n < recursionLimit
  units : C.A.units + 64 + 4 * n < cLine
  fr : FrOk C
theorem FrAt.ok {C : Cx} {env : Env} {L : Addr} (h : FrAt C env L) : FrOk C := by
  obtain ⟨fs, h1, h2⟩ := h.here
  refine ⟨env :: fs, h1, fun e he => ?_⟩
  rcases List.mem_cons.mp he with rfl | he
  · exact ⟨h.kind, L, h.own, h.frame⟩
  · exact h2 e he
theorem AOk.deeper {C : Cx} {n : Nat} {env : Env} {L : Addr} (h : AOk C (n + 1)) (hat : FrAt (C.deeper env) env L) : AOk (C.deeper env) n :=
  ⟨h.handled, by have := h.depth; show C.A.depth + 1 + n < recursionLimit; omega, by have := h.units; show C.A.units + 3 + 64 + 4 * n < cLine; omega, hat.ok⟩
structure AOkW (C : Cx) (n : Nat) : Prop where
  depth : C.A.depth + n < recursionLimit
  units : C.A.units + 64 + 4 * n < cLine
  fr : FrOk C
def Cx.marked (C : Cx) (e : Addr) : Cx := { C with A := C.A.mark (some (.ref e)) }
theorem AOk.mono {C : Cx} {n m : Nat} (h : AOk C n) (hm : m ≤ n) : AOk C m := ⟨h.handled, by have := h.depth; omega, by have := h.units; omega, h.fr⟩
theorem AOk.room {C : Cx} {n : Nat} (h : AOk C n) : C.A.depth < recursionLimit := by have := h.depth; omega
structure GOk (B : Shared) (gt bt ct : List (Str × Value)) : Prop where
  ex : ∃ mg mb, B.heap.Ns mainGlobals mg ∧ B.heap.Ns builtinsNs mb ∧ (∀ n v, (n, v) ∈ gt → mg n = some v) ∧ (∀ n v, (n, v) ∈ bt → mg n = none ∧ mb n = some v)
  cl : ∃ mg, B.heap.Ns mainGlobals mg ∧ ∀ n v, (n, v) ∈ ct → mg n = some v
  fn : ∀ n f, (n, Value.ref f) ∈ gt → ∃ fo fd, B.heap.get? f = some fo ∧ fo.data = .func fd

section
variable {C : Cx} {env : Env} {μ : List MO} {P : Post} {X : XPost}
theorem ev_g {gt bt ct : List (Str × Value)} {x : Str} {pos : Pos} {v : Value} {d : D} (G : GOk C.B gt bt ct) (hk : KindE env x .globalImplicit) (hgl : env.globals = mainGlobals) (hv : (x, v) ∈ gt) (hr : ∀ φ, Rep φ v d) (h : P d μ) : Ev C env μ (.Name x pos) P X := by
  obtain ⟨mg, mb, h1, h2, h3, h4⟩ := G.ex
  exact ev_global hk.fn hk.kind (hgl ▸ h1) (h3 x v hv) hr h hk.dbg
theorem ev_b {gt bt ct : List (Str × Value)} {x : Str} {pos : Pos} {v : Value} (G : GOk C.B gt bt ct) (hk : KindE env x .globalImplicit) (hgl : env.globals = mainGlobals) (hbl : env.builtins = builtinsNs) (hv : (x, v) ∈ bt) (h : P (.val v) μ) : Ev C env μ (.Name x pos) P X := by
  obtain ⟨mg, mb, h1, h2, h3, h4⟩ := G.ex
  exact ev_builtin hk.fn hk.kind (hgl ▸ h1) (h4 x v hv).1 (hbl ▸ h2) (h4 x v hv).2 h hk.dbg
theorem ev_c {gt bt ct : List (Str × Value)} {x : Str} {pos : Pos} {c : Addr} (G : GOk C.B gt bt ct) (hk : KindE env x .globalImplicit) (hgl : env.globals = mainGlobals) (hv : (x, Value.ref c) ∈ ct) (h : P (.ref c) μ) : Ev C env μ (.Name x pos) P X := by
  obtain ⟨mg, h1, h2⟩ := G.cl
  exact ev_global hk.fn hk.kind (hgl ▸ h1) (h2 x _ hv) (fun _ => .ref c) h hk.dbg
theorem nm_local {kn : List (Str × NameKind)} {more : List (Str × Const)} {q : Fq} {L f : Addr} {x : Str} {pos : Pos} {d : D} {ns : List Str} {vs : List (Option D)} (K : KN kn) (hx : (x, NameKind.local) ∈ kn) (hm : Look x d ns vs) (h : P d (.frame L kn ns vs :: μ)) : Ev C (envK kn more q L f) (.frame L kn ns vs :: μ) (.Name x pos) P X :=
  ev_local rfl (K.look hx) rfl (K.noCell hx (by decide) L) hm h (K.dbg _ hx)
theorem nm_cell {kn : List (Str × NameKind)} {more : List (Str × Const)} {q : Fq} {L f : Addr} {x : Str} {pos : Pos} {d : D} {ns : List Str} {vs : List (Option D)} (K : KN kn) (hx : (x, NameKind.cell) ∈ kn) (hm : Look x d ns vs) (h : P d (.frame L kn ns vs :: μ)) : Ev C (envK kn more q L f) (.frame L kn ns vs :: μ) (.Name x pos) P X := by
  obtain ⟨c, hc⟩ := K.cell hx L
  exact ev_cell rfl (K.look hx) hc (.head _) hc hm h (K.dbg _ hx)
theorem nc_local {scope : Scope} {cl : List (Str × Addr)} {Lc : Addr} {env : Env} {x : Str} {pos : Pos} {d : D} {ns : List Str} {vs : List (Option D)} (hf : scope.kind = .function) (K : KN scope.names) (hx : (x, NameKind.local) ∈ scope.names) (hm : Look x d ns vs) (h : P d (.frame Lc [] ns vs :: μ)) : Ev C (compEnvC scope cl Lc env) (.frame Lc [] ns vs :: μ) (.Name x pos) P X :=
  ev_local hf (kindC hf K hx (by decide)).kind rfl rfl hm h (K.dbg _ hx)
theorem nc_cap {scope : Scope} {cl : List (Str × Addr)} {Lc : Addr} {kn : List (Str × NameKind)} {more : List (Str × Const)} {q : Fq} {L f : Addr} {x : Str} {pos : Pos} {d : D} {ns tn : List Str} {vs ts : List (Option D)} (hf : scope.kind = .function) (K : KN scope.names) (Ko : KN kn) (hcl : ClOk scope (envK kn more q L f) cl) (hx : (x, NameKind.free) ∈ scope.names) (hxo : (x, NameKind.cell) ∈ kn)
    (hm : Look x d ns vs) (h : P d (.frame Lc [] tn ts :: .frame L kn ns vs :: μ)) : Ev C (compEnvC scope cl Lc (envK kn more q L f)) (.frame Lc [] tn ts :: .frame L kn ns vs :: μ) (.Name x pos) P X := by
  obtain ⟨c, hc⟩ := Ko.cell hxo L
  exact ev_cell hf (kindCap hf K hx (kindK Ko hxo)).kind ((hcl x hx).trans hc) (.tail _ (.head _)) hc hm h (K.dbg _ hx)
theorem st_local {kn : List (Str × NameKind)} {more : List (Str × Const)} {q : Fq} {L f : Addr} {x : Str} {d : D} {ns : List Str} {vs vs' : List (Option D)} {P : List MO → Prop} (K : KN kn) (hN : LN ns) (hx : (x, NameKind.local) ∈ kn) (hu : Upd x d ns vs vs') (h : P (.frame L kn ns vs' :: μ)) : Sto C (envK kn more q L f) (.frame L kn ns vs :: μ) x d P X :=
  sto_local rfl (K.look hx) rfl (K.noCell hx (by decide) L) hN.nd hu h
theorem st_cell {kn : List (Str × NameKind)} {more : List (Str × Const)} {q : Fq} {L f : Addr} {x : Str} {d : D} {ns : List Str} {vs vs' : List (Option D)} {P : List MO → Prop} (K : KN kn) (hN : LN ns) (hx : (x, NameKind.cell) ∈ kn) (hu : Upd x d ns vs vs') (h : P (.frame L kn ns vs' :: μ)) : Sto C (envK kn more q L f) (.frame L kn ns vs :: μ) x d P X := by
  obtain ⟨c, hc⟩ := K.cell hx L
  exact sto_cell rfl (K.look hx) hc hc hN.nd hu h
theorem st_comp {scope : Scope} {cl : List (Str × Addr)} {Lc : Addr} {env : Env} {x : Str} {d : D} {ns : List Str} {vs vs' : List (Option D)} {P : List MO → Prop} (hf : scope.kind = .function) (K : KN scope.names) (hN : LN ns) (hx : (x, NameKind.local) ∈ scope.names) (hu : Upd x d ns vs vs') (h : P (.frame Lc [] ns vs' :: μ)) : Sto C (compEnvC scope cl Lc env) (.frame Lc [] ns vs :: μ) x d P X :=
  sto_local hf (kindC hf K hx (by decide)).kind rfl rfl hN.nd hu h

theorem call_g {gt bt ct : List (Str × Value)} {x : Str} {np pos : Pos} {args : List Expr} {f : Addr} (G : GOk C.B gt bt ct) (hk : KindE env x .globalImplicit) (hgl : env.globals = mainGlobals) (hv : (x, Value.ref f) ∈ gt) (hs : noStars args = true)
    (h : EvL C env μ args (fun ds μ1 => Ca C (.ref f) ds μ1 P X) X) : Ev C env μ (.Call (.Name x np) args [] pos) P X := by
  obtain ⟨fo, fd, ho, hdat⟩ := G.fn x f hv
  exact ev_call (fun P' h' => ev_g G hk hgl hv (fun _ => .ref f) h') ho hdat hs h
theorem call_b {gt bt ct : List (Str × Value)} {x : Str} {np pos : Pos} {args : List Expr} {id : String} (G : GOk C.B gt bt ct) (hk : KindE env x .globalImplicit) (hgl : env.globals = mainGlobals) (hbl : env.builtins = builtinsNs) (hv : (x, Value.builtin id) ∈ bt) (hs : noStars args = true)
    (h : EvL C env μ args (fun ds μ1 => Ca C (.builtin id) ds μ1 P X) X) : Ev C env μ (.Call (.Name x np) args [] pos) P X :=
  ev_callB (fun P' h' => ev_b G hk hgl hbl hv h') hs h
theorem call_t {gt bt ct : List (Str × Value)} {x : Str} {np pos : Pos} {args : List Expr} {T : String} (G : GOk C.B gt bt ct) (hk : KindE env x .globalImplicit) (hgl : env.globals = mainGlobals) (hbl : env.builtins = builtinsNs) (hv : (x, Value.type T) ∈ bt) (hs : noStars args = true)
    (h : EvL C env μ args (fun ds μ1 => Ca C (.type T) ds μ1 P X) X) : Ev C env μ (.Call (.Name x np) args [] pos) P X :=
  ev_callT (fun P' h' => ev_b G hk hgl hbl hv h') hs h
theorem ev_Chain2 {l r1 r2 : Expr} {op1 op2 : CmpOp} {pos : Pos} (h : Ev C env μ l (fun d1 μ1 => Ev C env μ1 r1 (fun d2 μ2 => Cmp C op1 d1 d2 μ2 (fun c μ3 => (c = true → Ev C env μ3 r2 (fun d3 μ4 => Cmp C op2 d2 d3 μ4 (fun c => P (.bool c)) X) X) ∧ (c = false → P (.bool false) μ3)) X) X) X)
    (hm : lastMarks [op1, op2] [r1, r2] = false) : Ev C env μ (.Compare l [op1, op2] [r1, r2] pos) P X := by
  intro T ρ s Q E st hQ hE
  refine Compare_chain (rs := []) (ops := []) (h T ρ _ _ _ st (fun a d1 μ1 s1 h1 st1 => chain_link (h1 ((a, d1) :: T) ρ s1 _ _ st1 (fun b d2 μ2 s2 h2 st2 => ?_) fun e c t μ' s' x st' => hE e c t μ' s' x st'.tail)) hE) hm
  refine h2 _ a b (.tail _ (.head _)) (.head _) ρ s2 _ _ st2 (fun v d μ' s' ⟨c, hc, p⟩ st' => ?_) fun e c t μ' s' x st' => hE e c t μ' s' x (st'.sub fun _ hq => .tail _ (.tail _ hq))
  subst hc
  have e := st'.isBool (.head _); subst e
  refine wpAny_truthy_bool ?_
  cases c with
  | false => exact hQ _ _ _ _ (p.2 rfl) (st'.keepHead fun _ hq => .tail _ (.tail _ hq))
  | true =>
    refine chain_last (p.1 rfl _ ρ s' _ _ st'.tail (fun e d3 μ4 s4 h4 st4 => ?_) fun e c t μ' s' x st' => hE e c t μ' s' x (st'.sub fun _ hq => .tail _ (.tail _ hq)))
    refine h4 _ b e (.tail _ (.head _)) (.head _) ρ s4 _ _ st4 (fun v d μ' s' ⟨c, hc, p⟩ st' => hQ v d μ' s' (hc ▸ p) (st'.keepHead fun _ hq => .tail _ (.tail _ (.tail _ hq)))) fun e c t μ' s' x st' => hE e c t μ' s' x (st'.sub fun _ hq => .tail _ (.tail _ (.tail _ hq)))
theorem te_Chain2 {l r1 r2 : Expr} {op1 op2 : CmpOp} {pos : Pos} {P : Bool → List MO → Prop} (h : Ev C env μ l (fun d1 μ1 => Ev C env μ1 r1 (fun d2 μ2 => Cmp C op1 d1 d2 μ2 (fun c μ3 => (c = true → Ev C env μ3 r2 (fun d3 μ4 => Cmp C op2 d2 d3 μ4 P X) X) ∧ (c = false → P false μ3)) X) X) X)
    (hm : lastMarks [op1, op2] [r1, r2] = false) : Te C env μ (.Compare l [op1, op2] [r1, r2] pos) P X := by
  intro T ρ s Q E st hQ hE
  refine isTrue_chain (rs := []) (ops := []) (h T ρ _ _ _ st (fun a d1 μ1 s1 h1 st1 => test_link (h1 ((a, d1) :: T) ρ s1 _ _ st1 (fun b d2 μ2 s2 h2 st2 => ?_) fun e c t μ' s' x st' => hE e c t μ' s' x st'.tail)) hE) hm
  refine h2 _ a b (.tail _ (.head _)) (.head _) ρ s2 _ _ st2 (fun v d μ' s' ⟨c, hc, p⟩ st' => ?_) fun e c t μ' s' x st' => hE e c t μ' s' x (st'.sub fun _ hq => .tail _ (.tail _ hq))
  subst hc
  have e := st'.isBool (.head _); subst e
  refine wpAny_truthy_bool ?_
  cases c with
  | false => exact hQ _ _ _ (p.2 rfl) (st'.sub fun _ hq => .tail _ (.tail _ (.tail _ hq)))
  | true =>
    refine test_last (p.1 rfl _ ρ s' _ _ st'.tail (fun e d3 μ4 s4 h4 st4 => ?_) fun e c t μ' s' x st' => hE e c t μ' s' x (st'.sub fun _ hq => .tail _ (.tail _ hq)))
    refine h4 _ b e (.tail _ (.head _)) (.head _) ρ s4 _ _ st4 (fun v d μ' s' ⟨c, hc, p⟩ st' => ?_) fun e c t μ' s' x st' => hE e c t μ' s' x (st'.sub fun _ hq => .tail _ (.tail _ (.tail _ hq)))
    subst hc
    have e := st'.isBool (.head _); subst e
    exact wpAny_truthy_bool (hQ _ _ _ p (st'.sub fun _ hq => .tail _ (.tail _ (.tail _ (.tail _ hq)))))
theorem ex_Expr {e : Expr} {pos : Pos} {P : Fw → List MO → Prop} (h : Ev C env μ e (fun _ μ1 => P .next μ1) X) (hi : interactive env = false) (hs : swapsWith e none pos.line env = pure false) : Ex1 C env μ (.Expr e pos) P X := by
  intro T ρ s Q E st hQ hE
  show wpAny C.M C.A (exec (.Expr e pos) env) Q E s
  rw [exec_Expr env e pos hi hs]
  exact wpAny_bind (wpAny_standAt (wpAny_bind (h T ρ _ _ _ st (fun v d μ' s' p st' => wpAny_dropValue (hQ .next .next μ' s' p st'.tail)) hE)))
theorem gEv {e : Expr} (h : Ev C env μ e P X) : Ev C env μ e P X := h
theorem gTe {e : Expr} {P : Bool → List MO → Prop} (h : Te C env μ e P X) : Te C env μ e P X := h
theorem gEx1 {e : Stmt} {P : Fw → List MO → Prop} (h : Ex1 C env μ e P X) : Ex1 C env μ e P X := h
theorem gBin {op : Operator} {a b : D} (h : Bin C op a b μ P X) : Bin C op a b μ P X := h
theorem gCmp {op : CmpOp} {a b : D} {P : Bool → List MO → Prop} (h : Cmp C op a b μ P X) : Cmp C op a b μ P X := h
theorem gSto {x : Str} {d : D} {P : List MO → Prop} (h : Sto C env μ x d P X) : Sto C env μ x d P X := h
theorem evl_nil {P : List D → List MO → Prop} (h : P [] μ) : EvL C env μ [] P X := h
theorem evl_cons {e : Expr} {es : List Expr} {P : List D → List MO → Prop} (h : Ev C env μ e (fun d μ1 => EvL C env μ1 es (fun ds μ2 => P (d :: ds) μ2) X) X) : EvL C env μ (e :: es) P X := h

def Seq (C : Cx) (env : Env) (ss : List Stmt) (P : Fw → List MO → Prop) (X : XPost) : Fw → List MO → Prop
  | .next, μ => Ex C env μ ss P X
  | fl, μ => P fl μ
theorem ex_seq {st : Stmt} {ss : List Stmt} {P : Fw → List MO → Prop} (h : Ex1 C env μ st (Seq C env ss P X) X) : Ex C env μ (st :: ss) P X :=
  ex_cons (TrF.mono h (fun fl μ' p => by cases fl <;> exact p) fun _ _ x => x)
def Cut (R : List MO → Prop) (P : Fw → List MO → Prop) : Fw → List MO → Prop
  | .next, μ => R μ
  | fl, μ => P fl μ
theorem ex_cut {st : Stmt} {ss : List Stmt} {P : Fw → List MO → Prop} (R : List MO → Prop) (h : Ex1 C env μ st (Cut R P) X) (h2 : ∀ μ', R μ' → Ex C env μ' ss P X) : Ex C env μ (st :: ss) P X :=
  ex_cons (TrF.mono h (fun fl μ' p => by cases fl <;> first | exact p | exact h2 _ p) fun _ _ x => x)
theorem ex_cutF {α : Type} {L : Addr} {kn : List (Str × NameKind)} {ns : List Str} {vs0 : List (Option D)} {st : Stmt} {ss : List Stmt} {P : Fw → List MO → Prop} (vs : α → List (Option D)) (R : α → Prop) (h : Ex1 C env (.frame L kn ns vs0 :: μ) st (Cut (fun μ' => ∃ a, R a ∧ μ' = .frame L kn ns (vs a) :: μ) P) X) (h2 : ∀ a, R a → Ex C env (.frame L kn ns (vs a) :: μ) ss P X) : Ex C env (.frame L kn ns vs0 :: μ) (st :: ss) P X :=
  ex_cut _ h fun μ' ⟨a, ha, e⟩ => e ▸ h2 a ha
theorem cut_next {R : List MO → Prop} {P : Fw → List MO → Prop} (h : R μ) : Cut R P .next μ := h
theorem cut_ret {R : List MO → Prop} {P : Fw → List MO → Prop} {d : D} (h : P (.ret d) μ) : Cut R P (.ret d) μ := h
theorem cut_brk {R : List MO → Prop} {P : Fw → List MO → Prop} (h : P .brk μ) : Cut R P .brk μ := h
theorem cut_cont {R : List MO → Prop} {P : Fw → List MO → Prop} (h : P .cont μ) : Cut R P .cont μ := h
theorem gIf {t : Expr} {b o ss : List Stmt} {p : Pos} {P : Fw → List MO → Prop} (h : Ex C env μ (.If t b o p :: ss) P X) : Ex C env μ (.If t b o p :: ss) P X := h
theorem seq_next {ss : List Stmt} {P : Fw → List MO → Prop} (h : Ex C env μ ss P X) : Seq C env ss P X .next μ := h
theorem seq_ret {ss : List Stmt} {P : Fw → List MO → Prop} {d : D} (h : P (.ret d) μ) : Seq C env ss P X (.ret d) μ := h
theorem seq_brk {ss : List Stmt} {P : Fw → List MO → Prop} (h : P .brk μ) : Seq C env ss P X .brk μ := h
theorem seq_cont {ss : List Stmt} {P : Fw → List MO → Prop} (h : P .cont μ) : Seq C env ss P X .cont μ := h
theorem turn_next {I : List MO → Prop} {P : Fw → List MO → Prop} (h : I μ) : Turn I P .next μ := h
theorem turn_ret {I : List MO → Prop} {P : Fw → List MO → Prop} {d : D} (h : P (.ret d) μ) : Turn I P (.ret d) μ := h
theorem turn_cont {I : List MO → Prop} {P : Fw → List MO → Prop} (h : I μ) : Turn I P .cont μ := h
theorem turn_brk {I : List MO → Prop} {P : Fw → List MO → Prop} (h : P .next μ) : Turn I P .brk μ := h
def Leave (L : Addr) (kn : List (Str × NameKind)) (P : Post) : Fw → List MO → Prop := fun fl μ' => ∃ ns' vs' μ'', μ'.Perm (.frame L kn ns' vs' :: μ'') ∧ P (match fl with | .ret d => d | _ => .none) μ''
def LeaveX (L : Addr) (kn : List (Str × NameKind)) (X : XPost) : XPost := fun c μ' => ∃ ns' vs' μ'', μ'.Perm (.frame L kn ns' vs' :: μ'') ∧ X c μ''
theorem leave_ret {L : Addr} {kn : List (Str × NameKind)} {ns : List Str} {vs : List (Option D)} {d : D} (h : P d μ) : Leave L kn P (.ret d) (.frame L kn ns vs :: μ) := ⟨ns, vs, μ, .refl _, h⟩
theorem leave_next {L : Addr} {kn : List (Str × NameKind)} {ns : List Str} {vs : List (Option D)} (h : P .none μ) : Leave L kn P .next (.frame L kn ns vs :: μ) := ⟨ns, vs, μ, .refl _, h⟩
theorem leave_x {L : Addr} {kn : List (Str × NameKind)} {ns : List Str} {vs : List (Option D)} {c : Value} (h : X c μ) : LeaveX L kn X c (.frame L kn ns vs :: μ) := ⟨ns, vs, μ, .refl _, h⟩

theorem ca_def {f : Addr} {st : Stmt} {names : List Str} {ds : List D} {n : Nat} {kn : List (Str × NameKind)} {more : List (Str × Const)} {b1 : Stmt} {bs : List Stmt} (rest : List Str) (F : FnSt C.B f st names) (hA : AOk C (n + 1)) (hlen : ds.length = names.length) (hsc : fScope st = ⟨.function, kn, false, false, more⟩) (hb : fBody st = b1 :: bs) (hk : knOk kn = true) (hn : decide (names ++ rest).Nodup = true)
    (h : ∀ q L C', C'.B = C.B → AOk C' n → KN kn → LN (names ++ rest) → FrAt C' (envK kn more q L f) L → Ex C' (envK kn more q L f) (.frame L kn (names ++ rest) (ds.map some ++ rest.map fun _ => none) :: μ) (b1 :: bs) (Leave L kn P) (LeaveX L kn X)) : Ca C (.ref f) ds μ P X := by
  obtain ⟨q, F⟩ := F
  have e : ∀ L, callEnvC (mkFd st q) L f = envK kn more q L f := fun L => by
    unfold callEnvC mkFd
    simp only [hsc]; rfl
  have en : (mkFd st q).scope.names = kn := by show (fScope st).names = kn; rw [hsc]
  refine ca_fn rest F hA.fr hA.room hlen fun L hat => ?_
  rw [e L, en, hb]
  rw [e L] at hat
  exact h q L (C.deeper (envK kn more q L f)) rfl (hA.deeper hat) (KN.of hk) ⟨of_decide_eq_true hn⟩ hat
theorem ca_def1 {f : Addr} {st : Stmt} {n1 : Str} {d1 : D} {n : Nat} {kn : List (Str × NameKind)} {more : List (Str × Const)} {b1 : Stmt} {bs : List Stmt} (rest : List Str) (F : FnSt C.B f st [n1]) (hA : AOk C (n + 1)) (hsc : fScope st = ⟨.function, kn, false, false, more⟩) (hb : fBody st = b1 :: bs) (hk : knOk kn = true) (hn : decide (n1 :: rest).Nodup = true)
    (h : ∀ q L C', C'.B = C.B → AOk C' n → KN kn → LN (n1 :: rest) → FrAt C' (envK kn more q L f) L → Ex C' (envK kn more q L f) (.frame L kn (n1 :: rest) (some d1 :: rest.map fun _ => none) :: μ) (b1 :: bs) (Leave L kn P) (LeaveX L kn X)) : Ca C (.ref f) [d1] μ P X := ca_def rest F hA rfl hsc hb hk hn h
theorem ca_def2 {f : Addr} {st : Stmt} {n1 n2 : Str} {d1 d2 : D} {n : Nat} {kn : List (Str × NameKind)} {more : List (Str × Const)} {b1 : Stmt} {bs : List Stmt} (rest : List Str) (F : FnSt C.B f st [n1, n2]) (hA : AOk C (n + 1)) (hsc : fScope st = ⟨.function, kn, false, false, more⟩) (hb : fBody st = b1 :: bs) (hk : knOk kn = true) (hn : decide (n1 :: n2 :: rest).Nodup = true)
    (h : ∀ q L C', C'.B = C.B → AOk C' n → KN kn → LN (n1 :: n2 :: rest) → FrAt C' (envK kn more q L f) L → Ex C' (envK kn more q L f) (.frame L kn (n1 :: n2 :: rest) (some d1 :: some d2 :: rest.map fun _ => none) :: μ) (b1 :: bs) (Leave L kn P) (LeaveX L kn X)) : Ca C (.ref f) [d1, d2] μ P X := ca_def rest F hA rfl hsc hb hk hn h
theorem ca_def3 {f : Addr} {st : Stmt} {n1 n2 n3 : Str} {d1 d2 d3 : D} {n : Nat} {kn : List (Str × NameKind)} {more : List (Str × Const)} {b1 : Stmt} {bs : List Stmt} (rest : List Str) (F : FnSt C.B f st [n1, n2, n3]) (hA : AOk C (n + 1)) (hsc : fScope st = ⟨.function, kn, false, false, more⟩) (hb : fBody st = b1 :: bs) (hk : knOk kn = true) (hn : decide (n1 :: n2 :: n3 :: rest).Nodup = true)
    (h : ∀ q L C', C'.B = C.B → AOk C' n → KN kn → LN (n1 :: n2 :: n3 :: rest) → FrAt C' (envK kn more q L f) L → Ex C' (envK kn more q L f) (.frame L kn (n1 :: n2 :: n3 :: rest) (some d1 :: some d2 :: some d3 :: rest.map fun _ => none) :: μ) (b1 :: bs) (Leave L kn P) (LeaveX L kn X)) : Ca C (.ref f) [d1, d2, d3] μ P X := ca_def rest F hA rfl hsc hb hk hn h
theorem ca_def4 {f : Addr} {st : Stmt} {n1 n2 n3 n4 : Str} {d1 d2 d3 d4 : D} {n : Nat} {kn : List (Str × NameKind)} {more : List (Str × Const)} {b1 : Stmt} {bs : List Stmt} (rest : List Str) (F : FnSt C.B f st [n1, n2, n3, n4]) (hA : AOk C (n + 1)) (hsc : fScope st = ⟨.function, kn, false, false, more⟩) (hb : fBody st = b1 :: bs) (hk : knOk kn = true) (hn : decide (n1 :: n2 :: n3 :: n4 :: rest).Nodup = true)
    (h : ∀ q L C', C'.B = C.B → AOk C' n → KN kn → LN (n1 :: n2 :: n3 :: n4 :: rest) → FrAt C' (envK kn more q L f) L → Ex C' (envK kn more q L f) (.frame L kn (n1 :: n2 :: n3 :: n4 :: rest) (some d1 :: some d2 :: some d3 :: some d4 :: rest.map fun _ => none) :: μ) (b1 :: bs) (Leave L kn P) (LeaveX L kn X)) : Ca C (.ref f) [d1, d2, d3, d4] μ P X := ca_def rest F hA rfl hsc hb hk hn h
theorem ca_def5 {f : Addr} {st : Stmt} {n1 n2 n3 n4 n5 : Str} {d1 d2 d3 d4 d5 : D} {n : Nat} {kn : List (Str × NameKind)} {more : List (Str × Const)} {b1 : Stmt} {bs : List Stmt} (rest : List Str) (F : FnSt C.B f st [n1, n2, n3, n4, n5]) (hA : AOk C (n + 1)) (hsc : fScope st = ⟨.function, kn, false, false, more⟩) (hb : fBody st = b1 :: bs) (hk : knOk kn = true) (hn : decide (n1 :: n2 :: n3 :: n4 :: n5 :: rest).Nodup = true)
    (h : ∀ q L C', C'.B = C.B → AOk C' n → KN kn → LN (n1 :: n2 :: n3 :: n4 :: n5 :: rest) → FrAt C' (envK kn more q L f) L → Ex C' (envK kn more q L f) (.frame L kn (n1 :: n2 :: n3 :: n4 :: n5 :: rest) (some d1 :: some d2 :: some d3 :: some d4 :: some d5 :: rest.map fun _ => none) :: μ) (b1 :: bs) (Leave L kn P) (LeaveX L kn X)) : Ca C (.ref f) [d1, d2, d3, d4, d5] μ P X := ca_def rest F hA rfl hsc hb hk hn h
end
end Mine

open PySem PyProof.Rows
set_option linter.unusedVariables false
namespace Mine

inductive Pl : Nat → D → Prop
  | none {n : Nat} : Pl n .none
  | int {n : Nat} (i : Int) : Pl n (.int i)
  | str {n : Nat} {x : Str} : PyData.strOk x = true → Pl n (.str x)
  | tup {n : Nat} {ds : List D} : (∀ d ∈ ds, Pl n d) → Pl (n + 1) (.tup ds)
  | lst {n : Nat} {ds : List D} : (∀ d ∈ ds, Pl n d) → Pl (n + 1) (.lst ds)
theorem plainDs_of : ∀ {ds : List D}, (∀ d ∈ ds, plainD d = true) → plainDs ds = true
  | [], _ => rfl
  | d :: ds, h => by simp only [plainDs, Bool.and_eq_true]; exact ⟨h d (.head _), plainDs_of fun x hx => h x (.tail _ hx)⟩
theorem canLayAll_of : ∀ {ds : List D}, (∀ d ∈ ds, (toP d).canLay0 = true) → PyData.canLayAll0 (toPs ds) = true
  | [], _ => rfl
  | d :: ds, h => by simp only [toPs, PyData.canLayAll0, Bool.and_eq_true]; exact ⟨h d (.head _), canLayAll_of fun x hx => h x (.tail _ hx)⟩
theorem depthAll_of {n : Nat} : ∀ {ds : List D}, (∀ d ∈ ds, (toP d).depth ≤ n) → PyData.depthAll (toPs ds) ≤ n
  | [], _ => Nat.zero_le _
  | d :: ds, h => by simp only [toPs, PyData.depthAll]; exact Nat.max_le.mpr ⟨h d (.head _), depthAll_of fun x hx => h x (.tail _ hx)⟩
theorem Pl.plain {n : Nat} {d : D} (h : Pl n d) : plainD d = true ∧ (toP d).canLay0 = true ∧ (toP d).depth ≤ n := by
  induction h with
  | none => simp [plainD, toP, PyData.canLay0, PyData.depth]
  | int i => simp [plainD, toP, PyData.canLay0, PyData.depth]
  | str hx => simp [plainD, toP, PyData.canLay0, PyData.depth, hx]
  | tup _ ih => simp only [plainD, toP, PyData.canLay0, PyData.depth]; exact ⟨plainDs_of fun x hx => (ih x hx).1, canLayAll_of fun x hx => (ih x hx).2.1, Nat.succ_le_succ (depthAll_of fun x hx => (ih x hx).2.2)⟩
  | lst _ ih => simp only [plainD, toP, PyData.canLay0, PyData.depth]; exact ⟨plainDs_of fun x hx => (ih x hx).1, canLayAll_of fun x hx => (ih x hx).2.1, Nat.succ_le_succ (depthAll_of fun x hx => (ih x hx).2.2)⟩
theorem Pl.shaped {n : Nat} {d : D} (h : Pl n d) (hn : n ≤ 64) : SeqAt.shaped (toP d) = true := by
  unfold SeqAt.shaped
  rw [h.plain.2.1, decide_eq_true (Nat.le_trans h.plain.2.2 hn)]; rfl
theorem eqvAll_iff : ∀ {ds es : List D}, (∀ d ∈ ds, ∀ e ∈ es, PyData.eqv (toP d) (toP e) = true ↔ d = e) → (PyData.eqvAll (toPs ds) (toPs es) = true ↔ ds = es)
  | [], [], _ => by simp [toPs, PyData.eqvAll]
  | [], _ :: _, _ => by simp [toPs, PyData.eqvAll]
  | _ :: _, [], _ => by simp [toPs, PyData.eqvAll]
  | d :: ds, e :: es, h => by
    simp only [toPs, PyData.eqvAll, Bool.and_eq_true, List.cons.injEq]
    rw [h d (.head _) e (.head _), eqvAll_iff fun x hx y hy => h x (.tail _ hx) y (.tail _ hy)]
theorem Pl.eqv_iff {n : Nat} {d : D} (h : Pl n d) : ∀ {m : Nat} {e : D}, Pl m e → (PyData.eqv (toP d) (toP e) = true ↔ d = e) := by
  induction h with
  | none => intro m e he; cases he <;> simp [toP, PyData.eqv]
  | int i => intro m e he; cases he <;> simp [toP, PyData.eqv]
  | str hx => intro m e he; cases he <;> simp [toP, PyData.eqv]
  | tup _ ih =>
    intro m e he
    cases he with
    | tup he => simp only [toP, PyData.eqv, D.tup.injEq]; exact eqvAll_iff fun x hx y hy => ih x hx (he y hy)
    | _ => simp [toP, PyData.eqv]
  | lst _ ih =>
    intro m e he
    cases he with
    | lst he => simp only [toP, PyData.eqv, D.lst.injEq]; exact eqvAll_iff fun x hx y hy => ih x hx (he y hy)
    | _ => simp [toP, PyData.eqv]
section
variable {C : Cx} {env : Env} {μ : List MO} {P : Post} {X : XPost}
theorem cmp_neP {d e d' e' : D} {n m : Nat} {P : Bool → List MO → Prop} (hd : Seen μ d d') (he : Seen μ e e') (pd : Pl n d') (pe : Pl m e') (hn : n ≤ 64) (hm : m ≤ 64) (hu : C.A.units + 64 < cLine)
    (h : ∀ c, (c = true ↔ ¬ d' = e') → P c μ) : Cmp C .NotEq d e μ P X := by
  refine cmp_neD hd he pd.plain.1 pe.plain.1 (pd.shaped hn) (pe.shaped hm) hu (h _ ?_)
  rw [← pd.eqv_iff pe]; simp

def freeOk (sn kn : List (Str × NameKind)) : Bool := sn.all fun p => p.2 != .free || kn.contains (p.1, .cell)
theorem free_ok {kn : List (Str × NameKind)} {more : List (Str × Const)} {q : Fq} {L f : Addr} {scope : Scope} (K : KN kn) (h : freeOk scope.names kn = true) : ∀ x, (x, NameKind.free) ∈ scope.names → ∃ c, (envK kn more q L f).cells.lookup x = some c := fun x hx => by
  have := List.all_eq_true.mp h _ hx
  simp at this
  exact K.cell this L
theorem cmap {d : D} {ds : List D} {scope : Scope} {tn : List Str} {target elt : Expr} {Q : List D → List MO → Prop} (g : Nat → D) (hit : Itb C d ds (CompI μ)) (hl : ds.length ≤ sizeLine)
    (turn : ∀ i x, ds[i]? = some x → ∀ cl Lc, ClOk scope env cl → Asg C (compEnvC scope cl Lc env) (.frame Lc [] tn (tn.map fun _ => none) :: μ) target x (fun μ2 => Ev C (compEnvC scope cl Lc env) μ2 elt (fun y μ4 => y = g i ∧ ∃ vs, μ4 = .frame Lc [] tn vs :: μ) noX) noX)
    (h : Q ((List.range ds.length).map g) μ) :
    ∃ ds, ∃ G : Nat → List D, Itb C d ds (CompI μ) ∧ G 0 = [] ∧ (∀ i, (G i).length ≤ sizeLine) ∧ (∀ i d, ds[i]? = some d → CompTurn C env scope tn μ target elt [] d (G i) (G (i + 1))) ∧ Q (G ds.length) μ := by
  refine ⟨ds, fun n => (List.range (min n ds.length)).map g, hit, rfl, fun i => ?_, fun i x hx cl Lc hcl => ?_, ?_⟩
  · simp only [List.length_map, List.length_range]; omega
  · have hi := (List.getElem?_eq_some_iff.mp hx).1
    intro T v hv ρ s Q E st hQ hE
    refine turn i x hx cl Lc hcl T v hv ρ s Q E st (fun μ' s' h' st' => hQ μ' s' (ifs_nil ⟨fun _ => ?_, fun q => nomatch q⟩) st') hE
    refine TrV.mono h' (fun y μ'' ⟨e, r⟩ => ⟨?_, r⟩) fun _ _ q => q
    subst e
    dsimp only
    rw [Nat.min_eq_left (show i + 1 ≤ ds.length from hi), Nat.min_eq_left (Nat.le_of_lt hi), List.range_succ, List.map_append]; rfl
  · simp only [Nat.min_self]; exact h

def CTurns (C : Cx) (env : Env) (scope : Scope) (tn : List Str) (target elt : Expr) (μ : List MO) (ds : List D) (g : Nat → D) : Prop :=
  ∀ i x, ds[i]? = some x → ∀ cl Lc, KN scope.names → LN tn → ClOk scope env cl → Asg C (compEnvC scope cl Lc env) (.frame Lc [] tn (tn.map fun _ => none) :: μ) target x (fun μ2 => Ev C (compEnvC scope cl Lc env) μ2 elt (fun y μ4 => y = g i ∧ ∃ vs, μ4 = .frame Lc [] tn vs :: μ) noX) noX
theorem ev_cmap {target iter elt : Expr} {kn : List (Str × NameKind)} {more : List (Str × Const)} {q : Fq} {L f : Addr} {scope : Scope} {pos : Pos} (tn : List Str) (K : KN kn)
    (h : Ev C (envK kn more q L f) μ iter (fun d μ1 => ∃ ds g, Itb C d ds (CompI μ1) ∧ ds.length ≤ sizeLine ∧ CTurns C (envK kn more q L f) scope tn target elt μ1 ds g ∧ P (.lst ((List.range ds.length).map g)) μ1) X)
    (hfr : freeOk scope.names kn = true) (hsc : compScope scope = true) (hk : knOk scope.names = true) (hn : decide tn.Nodup = true) (hkind : scope.kind = .function) (ht : ∀ it v, letOwnedTupleGo target it v = pure ()) (hs : ∀ x, foldedSetIterable iter (envK kn more q L f) x = pure x) :
    Ev C (envK kn more q L f) μ (.ListComp elt [⟨target, iter, [], 0⟩] scope pos) P X :=
  ev_comp tn (TrV.mono h (fun d μ1 ⟨ds, g, h1, h2, h3, h4⟩ => cmap (Q := fun ds μ => P (.lst ds) μ) g h1 h2 (fun i x hx cl Lc hcl => h3 i x hx cl Lc (KN.of hk) ⟨of_decide_eq_true hn⟩ hcl) h4) fun _ _ x => x) (free_ok K hfr) hsc hkind ht hs
theorem range_ints (n : Nat) (g : Nat → Int) : (List.range n).map (fun i => D.int (g i)) = intsD ((List.range n).map g) := by simp [intsD]
theorem forF {α : Type} {L : Addr} {kn : List (Str × NameKind)} {ns : List Str} {vs0 : List (Option D)} {target : Expr} {body : List Stmt} {d : D} {Pf : Fw → List MO → Prop} (ds : List D) (vs : Nat → α → List (Option D)) (ms : Nat → α → List MO) (R : Nat → α → Prop) (a0 : α) (hit : Itb C d ds (fun i μ' => ∃ a, R i a ∧ μ' = .frame L kn ns (vs i a) :: ms i a)) (h0 : R 0 a0) (hv : vs0 = vs 0 a0) (hm : μ = ms 0 a0)
    (turn : ∀ i x a, ds[i]? = some x → R i a → Asg C env (.frame L kn ns (vs i a) :: ms i a) target x (fun μ1 => Ex C env μ1 body (Turn (fun μ' => ∃ a, R (i + 1) a ∧ μ' = .frame L kn ns (vs (i + 1) a) :: ms (i + 1) a) Pf) X) X) (fin : ∀ a, R ds.length a → Pf .next (.frame L kn ns (vs ds.length a) :: ms ds.length a)) :
    ∃ ds, ∃ I : Nat → List MO → Prop, Itb C d ds I ∧ I 0 (.frame L kn ns vs0 :: μ) ∧ (∀ i d μ, ds[i]? = some d → I i μ → Asg C env μ target d (fun μ1 => Ex C env μ1 body (Turn (I (i + 1)) Pf) X) X) ∧ ∀ μ, I ds.length μ → Pf .next μ :=
  ⟨ds, fun i μ' => ∃ a, R i a ∧ μ' = .frame L kn ns (vs i a) :: ms i a, hit, ⟨a0, h0, by rw [hv, hm]⟩, fun i x μ' hx ⟨a, ha, e⟩ => e ▸ turn i x a hx ha, fun μ' ⟨a, ha, e⟩ => e ▸ fin a ha⟩
end
end Mine

open PySem PyProof.Rows
set_option linter.unusedVariables false
namespace Mine

abbrev vbm : List Value := [.type "ValueError", .type "Exception", .type "BaseException", .type "object"]
structure ECls (B : Shared) (c : Addr) (bm : List Value) : Prop where
  ex : ∃ N nm q bs hdct sn sub ab col dd k0 k1 k2 k3 k5 mN, B.heap.get? c = some (excClassObj nm q c N bs bm hdct sn sub ab col dd k0 k1 k2 k3 k5 "ValueError.__new__") ∧ B.heap.Ns N mN ∧ mN "__init__" = none ∧ OwnTail B.heap vbm bm

theorem St.fresh {B : Shared} {F : List Addr} {T : List (Value × D)} {μ : List MO} {s : Shared} {x : MO} {h' : Heap} (st : St B F T μ s) (k : ∀ b o, s.heap.get? b = some o → h'.get? b = some o) (hx : ∀ φ : FM, x.holds φ h') (hn : ∀ a ∈ x.owned, s.heap.get? a = none) (hd : x.owned.Nodup) : St B F T (x :: μ) { s with heap := h' } := by
  obtain ⟨⟨φ, h1, h2, h3, h4, h5, h6⟩, ho, hg⟩ := st
  refine ⟨⟨φ, h1, fun a o e => k a o (h2 a o e), fun y hy => ?_, fun y hy a ha => ?_, ?_, h6⟩, ho, hg.1, fun L hL => ?_⟩
  · rcases List.mem_cons.mp hy with rfl | hy
    · exact hx φ
    · exact MO.holds_turned (S := []) (fun _ _ e => e) (fun b o _ e => k b o e) (h3 y hy) (by simp)
  · rcases List.mem_cons.mp hy with rfl | hy
    · cases q : φ a with
      | none => rfl
      | some o => have := h2 a o q; rw [hn a ha] at this; cases this
    · exact h4 y hy a ha
  · rw [List.flatMap_cons]
    refine List.nodup_append.mpr ⟨hd, h5, fun a ha b hb e => ?_⟩
    subst e
    obtain ⟨y, hy, hay⟩ := List.mem_flatMap.mp hb
    obtain ⟨o, e⟩ := MO.holds_there (h3 y hy) a hay
    rw [hn a ha] at e; cases e
  · obtain ⟨y, hy, e⟩ := List.mem_filterMap.mp (hg.2 L hL)
    exact List.mem_filterMap.mpr ⟨y, .tail _ hy, e⟩

section
variable {C : Cx} {env : Env} {μ : List MO} {P : Post} {X : XPost}
theorem noStars_any {args : List Expr} {env : Env} {cpos : Pos} (hs : noStars args = true) : (backTo cpos (starEach args env)).any (·.1) = false := by
  rw [starEach_plain env hs, backTo_plain]
  induction args with
  | nil => rfl
  | cons e es ih => simp only [List.map_cons, List.any_cons, Bool.false_or]; exact ih (Bool.and_eq_true_iff.mp hs).2

theorem ex_raise {x : Str} {np cpos pos : Pos} {args : List Expr} {c : Addr} {bm : List Value} {Pf : Fw → List MO → Prop} (K : ECls C.B c bm) (hA : C.A.handled = none) (hn : ∀ P', P' (.ref c) μ → Ev C env μ (.Name x np) P' X) (hs : noStars args = true)
    (h : EvL C env μ args (fun ds μ1 => ds.length ≤ 100 ∧ X (.ref c) μ1) X) : Ex1 C env μ (.Raise (some (.Call (.Name x np) args [] cpos)) none pos) Pf X := by
  intro T ρ s Q E st hQ hE
  obtain ⟨N, nm, q, bs, hdct, sn, sub, ab, col, dd, k0, k1, k2, k3, k5, mN, hC, hN, hni, hT⟩ := K.ex
  refine wpAny_Raise_call_subT (F := PySem.F.excBase_ValueError) (C := c) (nm := nm) (q := q) (N := N) (bs := bs) (bm := bm) (hdct := hdct) (sn := sn) (sub := sub) (ab := ab) (col := col) (dd := dd) (k0 := k0) (k1 := k1) (k2 := k2) (k3 := k3) (k5 := k5) (hT.hasType (by decide)) hA (noStars_any hs) hni ?_
  refine hn (fun d μ1 => d = .ref c ∧ μ1 = μ) ⟨rfl, rfl⟩ T ρ s _ _ st (fun v d μ1 s1 ⟨hd1, hμ⟩ st1 => ?_) hE
  subst hd1 hμ
  have e := st1.isRef (.head _); subst e
  refine ⟨rfl, ?_⟩
  rw [starEach_plain env hs, backTo_plain]
  refine evl_evalArgs h T ρ s1 _ _ st1.tail (fun vs ds μ' s' T' p hl hz hT' st' => ?_) hE
  refine ⟨rfl, by show vs.length ≤ sizeLine; rw [hl]; exact Nat.le_trans p.1 (by decide), st'.stays _ _ hC, hN.keeps st'.stays, hT.keeps st'.stays, fun h' e hm => ?_⟩
  obtain ⟨t, ht, _, _⟩ := hm.there
  refine hE e (.ref c) none μ' _ p.2 (St.fresh (st'.sub hT') hm.keeps (fun φ => ⟨_, _, ht, ⟨rfl, rfl⟩, rfl, rfl⟩) (fun a ha => ?_) (by simp [MO.owned]))
  simp only [MO.owned, Option.map_none, Option.toList_none, List.mem_singleton] at ha
  rw [ha]; exact hm.new

theorem ex_raiseS {gt bt ct : List (Str × Value)} {x : Str} {np cpos pos p : Pos} {msg : Str} {k : Nat} {c : Addr} {bm : List Value} {Pf : Fw → List MO → Prop} (G : GOk C.B gt bt ct) (hk : KindE env x .globalImplicit) (hgl : env.globals = mainGlobals) (hv : (x, Value.ref c) ∈ ct) (K : ECls C.B c bm) (hA : C.A.handled = none)
    (h : X (.ref c) μ) : Ex1 C env μ (.Raise (some (.Call (.Name x np) [.Constant (.str msg) k p] [] cpos)) none pos) Pf X :=
  ex_raise K hA (fun P' h' => ev_c G hk hgl hv h') rfl (evl_cons (ev_str (evl_nil ⟨by show 1 ≤ 100; decide, h⟩)))
def AsEnd (L : Addr) (kn : List (Str × NameKind)) (e : Addr) (k : Value) (Pf : Fw → List MO → Prop) : Fw → List MO → Prop := fun fl μ3 => ∃ ns3 vs3 μ4 tb', μ3.Perm (.frame L kn ns3 vs3 :: .exc e k tb' :: μ4) ∧ Pf fl (.frame L kn [] [] :: μ4)
end
end Mine

open PySem PyProof.Rows
set_option linter.unusedVariables false
namespace Mine

inductive SetL (a : Addr) (ds ds' : List D) : List MO → List MO → Prop
  | here {μ : List MO} : SetL a ds ds' (.list a ds :: μ) (.list a ds' :: μ)
  | there {x : MO} {μ μ' : List MO} : SetL a ds ds' μ μ' → SetL a ds ds' (x :: μ) (x :: μ')
theorem SetL.split {a : Addr} {ds ds' : List D} {μ μ' : List MO} (h : SetL a ds ds' μ μ') : ∃ pre post, μ = pre ++ .list a ds :: post ∧ μ' = pre ++ .list a ds' :: post := by
  induction h with
  | here => exact ⟨[], _, rfl, rfl⟩
  | there _ ih => obtain ⟨pre, post, rfl, rfl⟩ := ih; exact ⟨_ :: pre, post, rfl, rfl⟩
inductive DelL (a : Addr) (ds : List D) : List MO → List MO → Prop
  | here {μ : List MO} : DelL a ds (.list a ds :: μ) μ
  | there {x : MO} {μ μ' : List MO} : DelL a ds μ μ' → DelL a ds (x :: μ) (x :: μ')

theorem St.ownList {B : Shared} {F : List Addr} {T : List (Value × D)} {μ : List MO} {s : Shared} {a : Addr} {ds : List D} (st : St B F T μ s) (h : MO.list a ds ∈ μ) : ∃ vs n, IsL s.heap a (List.toArray vs) n ∧ vs.length = ds.length := by
  obtain ⟨⟨φ, _, _, h3, _⟩, _, _⟩ := st
  obtain ⟨vs, ⟨n, hl⟩, r⟩ := h3 _ h
  exact ⟨vs, n, hl, r.length⟩
theorem St.setL {B : Shared} {F : List Addr} {T : List (Value × D)} {μ μ' ρ : List MO} {s : Shared} {a : Addr} {ds ds' : List D} {vs : List Value} {n : Nat} {f : Array Value → Array Value} (st : St B F T (μ ++ ρ) s) (h : SetL a ds ds' μ μ') (hl : IsL s.heap a vs.toArray n)
    (hr : ∀ φ : FM, (∀ p ∈ T, Rep φ p.1 p.2) → Reps φ vs ds → ∃ vs' : List Value, f vs.toArray = vs'.toArray ∧ Reps φ vs' ds') (t : Nat) : St B F T (μ' ++ ρ) { s with heap := s.heap.update a (Obj.mapSeq f), toks := t } := by
  obtain ⟨pre, post, rfl, rfl⟩ := h.split
  have st' : St B F T (pre ++ .list a ds :: (post ++ ρ)) s := by simpa using st
  have := St.turnAt (x' := .list a ds') (h' := s.heap.update a (Obj.mapSeq f)) (t := t) st' rfl (fun b o hb e => ?_) (fun φ _ hT ⟨us, ⟨n', hu⟩, r⟩ => ?_)
  · simpa using this
  · exact (Heap.get?_update_other _ _ (fun q => hb (by subst q; simp [MO.owned]))).trans e
  · have e : us = vs := by rw [hl] at hu; exact (show us = vs ∧ n' = n by simpa using hu.symm).1
    subst e
    obtain ⟨vs', e', r'⟩ := hr φ hT r
    refine ⟨vs', ?_, r'⟩
    have hx : IsL (s.heap.update a (Obj.mapSeq f)) a (f us.toArray) _ := IsL.update hl f
    rw [e'] at hx
    exact ⟨_, hx⟩

section
variable {C : Cx} {env : Env} {μ : List MO} {P : Post} {X : XPost}
theorem ev_Tuple {elts : List Expr} {k : Nat} {pos : Pos} (h : EvL C env μ elts (fun ds μ1 => ds.length ≤ 100 ∧ P (.tup ds) μ1) X) (hs : noStars elts = true) : Ev C env μ (.Tuple elts k pos) P X := by
  intro T ρ s Q E st hQ hE
  refine wpAny_Tuple ?_
  rw [starEach_plain env hs, backTo_plain]
  refine evl_spliced h T ρ s _ _ st (fun vs ds μ' s' T' p hl hz hT st' => ⟨by rw [hl]; exact Nat.le_trans p.1 (by decide), hQ _ _ _ _ p.2 ?_⟩) hE
  refine (st'.frozen (d := .tup ds) rfl s'.toks fun φ hT' hφ => ?_).keepHead hT
  exact .tup hφ rfl rfl (reps_zip hl fun p hp => hT' p (hz p hp))
theorem ev_ListF {elts : List Expr} {pos : Pos} (h : EvL C env μ elts (fun ds μ1 => ds.length ≤ 100 ∧ P (.lst ds) μ1) X) (hs : noStars elts = true) : Ev C env μ (.List elts pos) P X := by
  intro T ρ s Q E st hQ hE
  refine wpAny_List ?_
  rw [starEach_plain env hs, backTo_plain]
  refine evl_spliced h T ρ s _ _ st (fun vs ds μ' s' T' p hl hz hT st' => ⟨by rw [hl]; exact Nat.le_trans p.1 (by decide), hQ _ _ _ _ p.2 ?_⟩) hE
  refine (st'.frozen (d := .lst ds) rfl s'.toks fun φ hT' hφ => ?_).keepHead hT
  exact .lst hφ rfl rfl (reps_zip hl fun p hp => hT' p (hz p hp))
theorem ev_ListO {elts : List Expr} {pos : Pos} (h : EvL C env μ elts (fun ds μ1 => ds.length ≤ 100 ∧ ∃ f μ2, μ1 = f :: μ2 ∧ ∀ a, P (.ref a) (f :: .list a ds :: μ2)) X) (hs : noStars elts = true) : Ev C env μ (.List elts pos) P X := by
  intro T ρ s Q E st hQ hE
  refine wpAny_List ?_
  rw [starEach_plain env hs, backTo_plain]
  refine evl_spliced h T ρ s _ _ st (fun vs ds μ' s' T' ⟨p1, f, μ2, e, p⟩ hl hz hT st' => ⟨by rw [hl]; exact Nat.le_trans p1 (by decide), ?_⟩) hE
  subst e
  refine hQ _ _ _ _ (p s'.heap.objs.size) (St.add ?_ fun _ => .ref _)
  exact (St.alloc (μ := [f]) (x := .list s'.heap.objs.size ds) st' rfl s'.toks fun φ hT' => ⟨vs, ⟨0, Heap.get?_push_size _ rfl⟩, reps_zip hl fun p hp => hT' p (hz p hp)⟩).sub hT

theorem ev_append {o e : Expr} {apos pos : Pos} (h : Ev C env μ o (fun d μ1 => ∃ a ds0, d = .ref a ∧ MO.list a ds0 ∈ μ1 ∧ Ev C env μ1 e (fun x μ2 => ∃ ds μ3, SetL a ds (ds ++ [x]) μ2 μ3 ∧ ds.length ≤ 1000 ∧ P .none μ3) X) X)
    (hbase : attributeBase o "append" env (eval o env) = eval o env) (hline : (apos.endLine == pos.line) = true) (hs : noStars [e] = true) : Ev C env μ (.Call (.Attribute o "append" apos) [e] [] pos) P X := by
  intro T ρ s Q E st hQ hE
  have ht : backTo pos (starEach [e] env) = [(false, eval e env)] := by rw [starEach_plain env hs, backTo_plain]; rfl
  refine wpAny_Call_method (T := "list") hbase (by rw [ht]; rfl) hline PySem.F.plainAttrs_list PySem.F.slot_list_append PySem.F.type_list_append ?_
  refine h T ρ s _ _ st (fun ov d μ1 s1 ⟨a, ds0, hd, hm, h1⟩ st1 => ?_) hE
  subst hd
  have e1 := st1.isRef (.head _); subst e1
  obtain ⟨vs0, n0, hl0, _⟩ := st1.ownList (List.mem_append_left ρ hm)
  refine ⟨⟨_, hl0, rfl⟩, fun b hb => by cases hb; exact ⟨_, hl0, rfl⟩, ?_⟩
  rw [ht]
  refine PySem.P.append_list (h1 T ρ s1 _ _ st1.tail (fun v x μ2 s2 ⟨ds, μ3, hset, hlen, p⟩ st2 => ?_) hE)
  have hm2 : MO.list a ds ∈ μ2 := by obtain ⟨pre, post, rfl, _⟩ := hset.split; exact List.mem_append_right _ (.head _)
  obtain ⟨vs, n, hl, hvl⟩ := st2.ownList (List.mem_append_left ρ hm2)
  refine ⟨vs.toArray, n, by rw [List.size_toArray, hvl]; exact Nat.le_trans hlen (by decide), hl, hQ _ _ _ _ p ?_⟩
  refine (St.add (st2.setL hset hl (fun φ hT r => ⟨vs ++ [v], by simp, r.append (.cons (hT _ (.head _)) .nil)⟩) s2.toks) rNone).keepHead fun _ hq => .tail _ hq
end
end Mine

open PySem PyProof.Rows
set_option linter.unusedVariables false
namespace Mine

def enumIt (it : Addr) (i : Nat) (o : Obj) : Prop := ∃ old, o = { cls := .type "enumerate", dict := none, data := .fields #[.none, .bool false, .ref it, rawInt i, .none, old], slots := #[] }
section
variable {C : Cx} {env : Env} {μ : List MO} {P : Post} {X : XPost}
end
end Mine

open PySem PyProof.Rows
set_option linter.unusedVariables false
namespace Mine
section
variable {C : Cx} {env : Env} {μ : List MO} {P : Post} {X : XPost} {f : MO}

def FzP (P : Post) : Post := fun d μ' => P d μ' ∨ ∃ a ds μ2, d = .ref a ∧ μ'.Perm (.list a ds :: μ2) ∧ P (.lst ds) μ2
theorem trT_fz {T : List (Value × D)} {t : Sem Value} (h : TrT C T μ t (FzP P) X) : TrT C T μ t P X := by
  intro ρ s Q E st hQ hE
  refine h ρ s Q E st (fun v d μ' s' hp st' => ?_) hE
  rcases hp with p | ⟨a, ds, μ2, hd, hμ, p⟩
  · exact hQ _ _ _ _ p st'
  subst hd
  have e := st'.isRef (.head _); subst e
  exact hQ _ _ _ _ p ((St.freeze (μ := []) (st'.perm (hμ.symm.append (List.Perm.refl ρ)))).drop2)
theorem ca_fz {g : Value} {ds : List D} (h : Ca C g ds μ (FzP P) X) : Ca C g ds μ P X := fun T vs hl hv => trT_fz (h T vs hl hv)
theorem fzP_mk {a : Addr} {ds : List D} {w : MO} (h : P (.lst ds) (w :: μ)) : FzP P (.ref a) (w :: .list a ds :: μ) := .inr ⟨a, ds, w :: μ, rfl, .swap _ _ _, h⟩
theorem fzP_h {a : Addr} {ds : List D} (h : P (.lst ds) μ) : FzP P (.ref a) (.list a ds :: μ) := .inr ⟨a, ds, μ, rfl, .refl _, h⟩
theorem bin_add_listO {d e : D} {ds es : List D} (hd : Items (f :: μ) d ds) (he : Items (f :: μ) e es) (hl : ds.length + es.length ≤ sizeLine) (h : ∀ a, P (.ref a) (f :: .list a (ds ++ es) :: μ)) : Bin C .Add d e (f :: μ) P X := by
  intro T a b ha hb ρ s Q E st hQ hE
  obtain ⟨a', vs, rfl, hL, hlen, st2⟩ := st.items ha (hd.app ρ)
  obtain ⟨b', ws, rfl, hL2, hlen2, st3⟩ := st2.items (List.mem_append_right _ hb) (he.app ρ)
  obtain ⟨⟨cls, dd, data, sl⟩, ho, hc, n, hdat⟩ := hL
  obtain ⟨⟨cls2, dd2, data2, sl2⟩, ho2, hc2, n2, hdat2⟩ := hL2
  simp only at hc hdat hc2 hdat2
  subst hc hdat hc2 hdat2
  have e : vs.toArray ++ ws.toArray = (vs ++ ws).toArray := by simp
  refine concat_meets ⟨_, ho, rfl⟩ ⟨_, ho2, rfl⟩ noFill_list_add seq_list_add PySem.F.slot_list_add PySem.F.entry_list_add (PySem.F.args_list_add_2 _ _) (list_addW a' b' vs.toArray ws.toArray n n2 dd dd2 sl sl2 (by simp only [List.size_toArray]; omega)) ⟨ho, ho2, ?_⟩
  rw [e]
  refine hQ _ _ _ _ (h s.heap.objs.size) (St.add ?_ fun _ => .ref _)
  exact (St.alloc (μ := [f]) (x := .list s.heap.objs.size (ds ++ es)) st3 rfl _ fun φ hT => ⟨vs ++ ws, ⟨0, Heap.get?_push_size _ rfl⟩, (reps_zip hlen fun p hp => hT p (List.mem_append_right _ (List.mem_append_left _ hp))).append (reps_zip hlen2 fun p hp => hT p (List.mem_append_left _ hp))⟩).sub fun p hp => List.mem_append_right _ (List.mem_append_right _ hp)
theorem bin_mul_listO {d : D} {ds : List D} {n : Int} (hd : Items (f :: μ) d ds) (h0 : 0 ≤ n) (hn : ds.length * n.toNat ≤ 10000) (hn2 : n ≤ 1000) (h : ∀ a, P (.ref a) (f :: .list a (List.flatten (List.replicate n.toNat ds)) :: μ)) : Bin C .Mult d (.int n) (f :: μ) P X := by
  intro T a b ha hb ρ s Q E st hQ hE
  obtain ⟨t, rfl⟩ := st.isInt hb
  obtain ⟨a', vs, rfl, hL, hlen, st2⟩ := st.items ha (hd.app ρ)
  obtain ⟨⟨cls, dd, data, sl⟩, ho, hcl, k, hdt⟩ := id hL
  simp only at hcl hdt
  subst hcl hdt
  have hsz' : vs.toArray.size * n.toNat ≤ 10000 := by simpa [hlen] using hn
  have hsz2 : vs.length * n.toNat ≤ 10000 := by rw [hlen]; exact hn
  refine wpAny_binaryOp_repeat_ref (T := "list") (U := "int") (by decide) ⟨_, ho, rfl⟩ (fun s' => typeIs_int s' n t) noFill_list_mul PySem.F.fills_int_mul PySem.F.slot_int_rmul repeat_list PySem.F.slot_int_index.lookup
    (call_meets PySem.F.slot_int_rmul (typeIs_int s n t) PySem.F.entry_int_rmul (PySem.F.args_int_rmul_2 _ _) (lm_int_rmul_list_any n t a' vs.toArray k dd sl)
      ⟨ho, rfl, ⟨_, ho, rfl⟩, call_meets PySem.F.slot_list_mul ⟨_, ho, rfl⟩ PySem.F.entry_list_mul (PySem.F.args_list_mul_2 _ _)
        (lm_list_mul_any a' vs.toArray k dd sl n t (by simp [Builtin.List.listFitsIndex]; omega) (by omega) (by simp [Builtin.List.listTooLong, sizeLine]; omega))
        ⟨ho, ?_⟩⟩)
  rw [listMul_foldl_if]
  refine hQ _ _ _ _ (h s.heap.objs.size) (St.add ?_ fun _ => .ref _)
  have rep : ∀ (φ : FM) (k : Nat), Reps φ vs ds → Reps φ (List.replicate k vs).flatten (List.replicate k ds).flatten := by
    intro φ k r
    induction k with
    | zero => exact .nil
    | succ k ih => simp only [List.replicate_succ, List.flatten_cons]; exact r.append ih
  exact (St.alloc (μ := [f]) (x := .list s.heap.objs.size (List.replicate n.toNat ds).flatten) st2 rfl _ fun φ hT => ⟨_, ⟨0, Heap.get?_push_size _ rfl⟩, rep φ _ (reps_zip hlen fun p hp => hT p (List.mem_append_left _ hp))⟩).sub fun p hp => List.mem_append_right _ hp

theorem SetL.mem {a : Addr} {ds ds' : List D} {μ μ' : List MO} (h : SetL a ds ds' μ μ') : MO.list a ds ∈ μ := by
  obtain ⟨pre, post, rfl, _⟩ := h.split; exact List.mem_append_right _ (.head _)
theorem setItem_plain {prog : Program} {w : World} {A : Around} {E : Value → Shared → Prop} {s : Shared} {l : Addr} {vs : List Value} {n : Nat} {k : Int} {t : Tok} {v : Value} {Q : Unit → Shared → Prop} (hl : IsL s.heap l vs.toArray n) (h0 : 0 ≤ k) (hfit : k < 2 ^ 63) (hn : k < vs.length)
    (hQ : Q () { s with heap := s.heap.update l (Obj.mapSeq fun xs => xs.setIfInBounds k.toNat v) }) : wpAny (model prog w) A (setItem (.ref l) (.int k t) v) Q E s := by
  have hL := IsL.isList hl
  unfold setItem
  try with_reducible refine wpAny_holding ?_
  first | refine wpAny_bind (wpAny_pure ?_) | skip
  refine wpAny_bind (wpAny_sequenceKey hL.typeIs (by decide) ?_)
  refine wpAny_bind (wpAny_callSpecial?_slot (name := Str.ofString "__setitem__") hL.typeIs slot_list_setitem
    (wpAny_call_entry slot_list_setitem hL.typeIs entry_list_setitem ?_ (args_list_setitem _ _ _)))
  show wpAny _ _ (Builtin.List.listSubscript? (.int k t) >>= _) _ _ s
  refine wpAny_bind (wpAny_listSubscript_int (fitsIndex_of h0 hfit) ?_)
  clear hfit
  obtain ⟨j, rfl⟩ := Int.eq_ofNat_of_zero_le h0
  have hj : j < vs.length := by omega
  have hx' : vs.toArray[j]? = some vs[j] := by simp [hj]
  show wpAny _ _ ((seqItemAt l j >>= fun r => pure (r.map (j, ·))) >>= _) _ _ s
  refine wpAny_bind (wpAny_bind (wpAny_seqItemAt hl rfl (wpAny_pure ?_)))
  rw [hx']
  show wpAny _ _ (setSeqItemAt l j v >>= _) _ _ s
  refine wpAny_bind (wpAny_setSeqItemAt hl rfl ?_)
  first
    | exact wpAny_bind (wpAny_pure (wpAny_pure ⟨.none, rfl, wpAny_pure hQ⟩))
    | exact wpAny_pure ⟨.none, rfl, wpAny_pure hQ⟩
theorem ex_setitem {o i value : Expr} {p pos : Pos} {Pf : Fw → List MO → Prop}
    (h : Ev C env μ value (fun x μ1 => Ev C env μ1 o (fun d μ2 => Ev C env μ2 i (fun k μ3 => ∃ (a : Addr) (ds : List D) (j : Int) (μ4 : List MO), d = .ref a ∧ k = .int j ∧ 0 ≤ j ∧ j < ds.length ∧ ds.length ≤ 1000 ∧ SetL a ds (ds.set j.toNat x) μ3 μ4 ∧ Pf .next μ4) X) X) X)
    (hs : swapsWith value (some (.Subscript o i p)) pos.line env = pure false) (hsl : noSlice i = true) : Ex1 C env μ (.Assign [.Subscript o i p] value pos) Pf X := by
  intro T ρ s Q E st hQ hE
  show wpAny C.M C.A (exec (.Assign [.Subscript o i p] value pos) env) Q E s
  rw [exec_Assign_Subscript o i p value pos hs]
  refine wpAny_bind (wpAny_standAt (wpAny_bind (h T ρ s _ _ st (fun xv x μ1 s1 h1 st1 => ?_) hE)))
  rw [assign_Subscript]
  refine wpAny_bind (wpAny_bind (wpAny_holding (h1 ((xv, x) :: T) ρ s1 _ _ st1 (fun ov d μ2 s2 h2 st2 => ?_) fun e c t μ' s' x st' => hE e c t μ' s' x st'.tail)))
  refine wpAny_bind (wpAny_holding (h2 ((ov, d) :: (xv, x) :: T) ρ s2 _ _ st2 (fun iv k μ3 s3 h3 st3 => ?_) fun e c t μ' s' x st' => hE e c t μ' s' x (st'.sub fun _ hq => .tail _ (.tail _ hq))))
  obtain ⟨a, ds, j, μ4, hd, hk, hj0, hj1, hlen, hset, p⟩ := h3
  subst hd hk
  have eo := st3.isRef (a := ov) (.tail _ (.head _)); subst eo
  obtain ⟨t, rfl⟩ := st3.isInt (a := iv) (.head _)
  obtain ⟨vs, n, hl, hvl⟩ := st3.ownList (List.mem_append_left ρ hset.mem)
  refine wpAny_bind (wpAny_standAt (wpAny_bind (wpAny_holding (setItem_plain hl hj0 (by omega) (by omega) ?_))))
  have st4 := St.setL (f := fun xs => xs.setIfInBounds j.toNat xv) st3 hset hl (fun φ hT r => ⟨vs.set j.toNat xv, by simp, r.set (hT _ (.tail _ (.tail _ (.head _)))) _⟩) s3.toks
  exact wpAny_release (wpAny_pure (hQ .next .next _ _ p (St.sub st4 fun _ hq => .tail _ (.tail _ (.tail _ hq)))))
end
end Mine

open PySem PyProof.Rows
set_option linter.unusedVariables false
namespace Mine
section
variable {C : Cx} {env : Env} {μ : List MO} {P : Post} {X : XPost} {f : MO}

def Slc (C : Cx) (value : Expr) (lower upper : Option Expr) (p : Pos) (d l u : D) (μ : List MO) (P : Post) (X : XPost) : Prop :=
  ∀ T o lv uv, (o, d) ∈ T → (lv, l) ∈ T → (uv, u) ∈ T → ∀ ρ s (Q E : Value → Shared → Prop), St C.B C.F T (μ ++ ρ) s → (∀ v d μ' s', P d μ' → St C.B C.F ((v, d) :: T) (μ' ++ ρ) s' → Q v s') →
    wpAny C.M C.A (subscriptTail value (.Slice lower upper none p) o (.ref s.heap.objs.size)) Q E { s with heap := s.heap.push { cls := .type "slice", data := .fields #[lv, uv, .none] } }
theorem ev_sliceG {value : Expr} {lower upper : Option Expr} {p pos : Pos}
    (h : Ev C env μ value (fun d μ1 => EvO C env μ1 lower (fun l μ2 => EvO C env μ2 upper (fun u μ3 => Slc C value lower upper p d l u μ3 P X) X) X) X) : Ev C env μ (.Subscript value (.Slice lower upper none p) pos) P X := by
  intro T ρ s Q E st hQ hE
  refine Subscript_ (h T ρ _ _ _ st (fun o d μ1 s1 h1 st1 => ?_) hE)
  refine wpAny_Slice (h1 ((o, d) :: T) ρ s1 _ _ st1 (fun l dl μ2 s2 h2 st2 => ?_) fun e c t μ' s' x st' => hE e c t μ' s' x st'.tail)
  refine h2 ((l, dl) :: (o, d) :: T) ρ s2 _ _ st2 (fun u du μ3 s3 h3 st3 => ?_) fun e c t μ' s' x st' => hE e c t μ' s' x (st'.sub fun _ hq => .tail _ (.tail _ hq))
  rw [evalPart_none]
  refine wpAny_pure ?_
  exact h3 _ o l u (.tail _ (.tail _ (.head _))) (.tail _ (.head _)) (.head _) ρ s3 Q E st3 fun v d μ' s' p st' => hQ v d μ' s' p (st'.keepHead fun _ hq => .tail _ (.tail _ (.tail _ hq)))
theorem slc_parts {B : Shared} {F : List Addr} {T : List (Value × D)} {s : Shared} {v : Value} {d : D} {k : Option Int} (st : St B F T μ s) (h : partD d k) (hv : (v, d) ∈ T) : IsPart v k := by
  match d, k, h with
  | .none, none, _ => have := st.isNone hv; subst this; exact .none
  | .int i, some j, e => have e : i = j := e; subst e; obtain ⟨t, rfl⟩ := st.isInt hv; exact .int _ _
theorem slc_listO {value : Expr} {lower upper : Option Expr} {p : Pos} {d l u : D} {ds : List D} {lo hi : Option Int} (hit : Items (f :: μ) d ds) (hlen : ds.length ≤ sizeLine) (pl : partD l lo) (pu : partD u hi) (hlo : ∀ a, lo = some a → 0 ≤ a) (hhi : ∀ a, hi = some a → 0 ≤ a) (hb : lo.isSome ∨ hi.isSome)
    (h : ∀ a, P (.ref a) (f :: .list a (cutD lo hi ds) :: μ)) : Slc C value lower upper p d l u (f :: μ) P X := by
  intro T o lv uv ho hlv huv ρ s Q E st hQ
  obtain ⟨a, vs, rfl, hL, hl2, st4⟩ := st.items ho (hit.app ρ)
  have hL' := hL.push { cls := .type "slice", data := .fields #[lv, uv, .none] }
  refine tail_any (ops := _) (T := "list") (s := { s with heap := s.heap.push { cls := .type "slice", data := .fields #[lv, uv, .none] } }) hL'.typeIs slot_list_getitem.lookup (wpAny_getItem_list_slice hL' (Heap.IsSliceOf.new ..) (slc_parts st pl hlv) (slc_parts st pu huv) .none (by simp) ?_ (by rw [List.size_toArray, hl2]; exact hlen)) rfl
  have st5 : St C.B C.F (vs.zip ds ++ T) ((f :: μ) ++ ρ) { s with heap := s.heap.push { cls := .type "slice", data := .fields #[lv, uv, .none] } } := st4.grown (fun _ _ e => Heap.get?_push_of_some _ e) s.toks
  obtain ⟨⟨φ0, _, _, _, _, _, h60⟩, _, _⟩ := id st4
  obtain ⟨ws, hws, _⟩ := cut_vals (reps_zip hl2 fun p hp => h60 p (List.mem_append_left _ hp)) lo hi hlo hhi hb
  rw [hws]
  refine hQ _ _ _ _ (h _) (St.add (St.sub (St.alloc (μ := [f]) (x := .list _ (cutD lo hi ds)) st5 rfl s.toks fun φ hT => ?_) fun p hp => List.mem_append_right _ hp) fun _ => .ref _)
  obtain ⟨ws', hws', r'⟩ := cut_vals (reps_zip hl2 fun p hp => hT p (List.mem_append_left _ hp)) lo hi hlo hhi hb
  have : ws' = ws := by
    have := hws'.symm.trans hws
    simpa using this
  subst this
  exact ⟨ws', ⟨0, Heap.get?_push_size _ rfl⟩, r'⟩
theorem slc_fz {value : Expr} {lower upper : Option Expr} {p : Pos} {d l u : D} (h : Slc C value lower upper p d l u μ (FzP P) X) : Slc C value lower upper p d l u μ P X := by
  intro T o lv uv ho hlv huv ρ s Q E st hQ
  refine h T o lv uv ho hlv huv ρ s Q E st fun v d μ' s' hp st' => ?_
  rcases hp with p | ⟨a, ds, μ2, hd, hμ, p⟩
  · exact hQ _ _ _ _ p st'
  subst hd
  have e := st'.isRef (.head _); subst e
  exact hQ _ _ _ _ p ((St.freeze (μ := []) (st'.perm (hμ.symm.append (List.Perm.refl ρ)))).drop2)
theorem slc_list {value : Expr} {lower upper : Option Expr} {p : Pos} {d l u : D} {ds : List D} {lo hi : Option Int} (hit : Items (f :: μ) d ds) (hlen : ds.length ≤ sizeLine) (pl : partD l lo) (pu : partD u hi) (hlo : ∀ a, lo = some a → 0 ≤ a) (hhi : ∀ a, hi = some a → 0 ≤ a) (hb : lo.isSome ∨ hi.isSome)
    (h : P (.lst (cutD lo hi ds)) (f :: μ)) : Slc C value lower upper p d l u (f :: μ) P X := slc_fz (slc_listO hit hlen pl pu hlo hhi hb fun a => fzP_mk h)

def takeS (x : Str) (k : Nat) : Str := ⟨(x.cps.toList.take k).toArray⟩
end
end Mine

open PySem PyProof.Rows
set_option linter.unusedVariables false
set_option maxRecDepth 100000
namespace Mine
def qn : List Str := ["__init__", "__getattribute__", "__getattr__", "__class__"]
inductive TailC (h : Heap) : List Value → Prop
  | base : TailC h vbm
  | own {A : Addr} {c0 : Value} {dd : Option Addr} {cd : ClassData} {sl : Array (Option Value)} {mA : Str → Option Value} {tl : List Value} :
      h.get? A = some { cls := c0, dict := dd, data := .cls cd, slots := sl } → h.Ns cd.ns mA → (∀ n ∈ qn, mA n = none) → TailC h tl → TailC h (.ref A :: tl)
structure ECls2 (B : Shared) (c : Addr) (bm : List Value) : Prop where
  ex : ∃ N nm q bs hdct sn sub ab col dd k0 k1 k2 k3 k5 mN, B.heap.get? c = some (excClassObj nm q c N bs bm hdct sn sub ab col dd k0 k1 k2 k3 k5 "ValueError.__new__") ∧ B.heap.Ns N mN ∧ (∀ n ∈ qn, mN n = none) ∧ TailC B.heap bm
section
variable {prog : Program} {w : World} {M : Model} {A : Around} {E : Value → Shared → Prop} {h : Heap} {g : Array GenState} {d : Drawn} {t : Nat} {os : OsState} {a : Addr} {o : Obj} {vs : Array Value}
  {nm q : Str} {C N : Addr} {bs bm : List Value} {hdct : Bool} {sn : List Str} {sub : List Value} {ab : Bool} {col : Option Bool} {dd : Option Addr} {k0 k1 k2 k3 k5 : Option Value} {newId : String} {mN : Str → Option Value}
end
section
variable {C : Cx} {env : Env} {μ : List MO} {P : Post} {X : XPost}
end
end Mine

open PySem PyProof.Rows
set_option linter.unusedVariables false
namespace Mine
section
variable {C : Cx} {env : Env} {μ : List MO} {P : Post} {X : XPost} {f : MO}

def FTurns (C : Cx) (env : Env) (scope : Scope) (tn : List Str) (target elt test : Expr) (μ : List MO) (ds : List D) (t : Nat → Bool) (g : Nat → D) : Prop :=
  ∀ i x, ds[i]? = some x → ∀ cl Lc, KN scope.names → LN tn → ClOk scope env cl → Asg C (compEnvC scope cl Lc env) (.frame Lc [] tn (tn.map fun _ => none) :: μ) target x (fun μ2 => Te C (compEnvC scope cl Lc env) μ2 test (fun b μ3 =>
    (b = true → t i = true ∧ Ev C (compEnvC scope cl Lc env) μ3 elt (fun y μ4 => y = g i ∧ ∃ vs, μ4 = .frame Lc [] tn vs :: μ) noX) ∧ (b = false → t i = false ∧ ∃ vs, μ3 = .frame Lc [] tn vs :: μ)) noX) noX
theorem cfilt {d : D} {ds : List D} {scope : Scope} {tn : List Str} {target elt test : Expr} {Q : List D → List MO → Prop} (t : Nat → Bool) (g : Nat → D) (hit : Itb C d ds (CompI μ)) (hl : ds.length ≤ sizeLine)
    (turn : FTurns C env scope tn target elt test μ ds t g) (hk : knOk scope.names = true) (hn : decide tn.Nodup = true)
    (h : Q (((List.range ds.length).filter t).map g) μ) :
    ∃ ds, ∃ G : Nat → List D, Itb C d ds (CompI μ) ∧ G 0 = [] ∧ (∀ i, (G i).length ≤ sizeLine) ∧ (∀ i d, ds[i]? = some d → CompTurn C env scope tn μ target elt [test] d (G i) (G (i + 1))) ∧ Q (G ds.length) μ := by
  refine ⟨ds, fun n => ((List.range (min n ds.length)).filter t).map g, hit, rfl, fun i => ?_, fun i x hx cl Lc hcl => ?_, ?_⟩
  · simp only [List.length_map]
    refine Nat.le_trans (List.length_filter_le _ _) ?_
    rw [List.length_range]; omega
  · have hi := (List.getElem?_eq_some_iff.mp hx).1
    have e1 : (List.range (min (i + 1) ds.length)).filter t = (List.range (min i ds.length)).filter t ++ (if t i = true then [i] else []) := by
      rw [Nat.min_eq_left (show i + 1 ≤ ds.length from hi), Nat.min_eq_left (Nat.le_of_lt hi), List.range_succ, List.filter_append]
      congr 1
      by_cases q : t i = true <;> simp [q]
    intro T v hv ρ s Q E st hQ hE
    refine turn i x hx cl Lc (KN.of hk) ⟨of_decide_eq_true hn⟩ hcl T v hv ρ s Q E st (fun μ' s' h' st' => hQ μ' s' (ifs_one ?_) st') hE
    intro T2 ρ2 s2 Q2 E2 st2 hQ2 hE2
    refine h' T2 ρ2 s2 Q2 E2 st2 (fun b μ3 s3 hb st3 => hQ2 b μ3 s3 ⟨fun q => ?_, fun q => ?_⟩ st3) hE2
    · obtain ⟨ht, he⟩ := hb.1 q
      refine TrV.mono he (fun y μ'' ⟨e, r⟩ => ⟨?_, r⟩) fun _ _ q => q
      subst e
      dsimp only
      rw [e1, if_pos ht, List.map_append]; rfl
    · obtain ⟨ht, he⟩ := hb.2 q
      refine ⟨?_, he⟩
      dsimp only
      rw [e1, if_neg (by rw [ht]; decide), List.append_nil]
  · simp only [Nat.min_self]; exact h
theorem ev_cfilt {target iter elt test : Expr} {kn : List (Str × NameKind)} {more : List (Str × Const)} {q : Fq} {L fa : Addr} {scope : Scope} {pos : Pos} (tn : List Str) (K : KN kn)
    (h : Ev C (envK kn more q L fa) μ iter (fun d μ1 => ∃ ds t g, Itb C d ds (CompI μ1) ∧ ds.length ≤ sizeLine ∧ FTurns C (envK kn more q L fa) scope tn target elt test μ1 ds t g ∧ P (.lst (((List.range ds.length).filter t).map g)) μ1) X)
    (hfr : freeOk scope.names kn = true) (hsc : compScope scope = true) (hk : knOk scope.names = true) (hn : decide tn.Nodup = true) (hkind : scope.kind = .function) (ht : ∀ it v, letOwnedTupleGo target it v = pure ()) (hs : ∀ x, foldedSetIterable iter (envK kn more q L fa) x = pure x) :
    Ev C (envK kn more q L fa) μ (.ListComp elt [⟨target, iter, [test], 0⟩] scope pos) P X :=
  ev_comp tn (TrV.mono h (fun d μ1 ⟨ds, t, g, h1, h2, h3, h4⟩ => cfilt (Q := fun ds μ => P (.lst ds) μ) t g h1 h2 h3 hk hn h4) fun _ _ x => x) (free_ok K hfr) hsc hkind ht hs
theorem ex_assign_cfilt {x : Str} {p : Pos} {target iter elt test : Expr} {kn : List (Str × NameKind)} {more : List (Str × Const)} {q : Fq} {L fa : Addr} {scope : Scope} {pos cpos : Pos} {P : Fw → List MO → Prop} (tn : List Str) (K : KN kn)
    (h : Ev C (envK kn more q L fa) μ iter (fun d μ1 => ∃ ds t g, Itb C d ds (CompI μ1) ∧ ds.length ≤ sizeLine ∧ FTurns C (envK kn more q L fa) scope tn target elt test μ1 ds t g ∧ Sto C (envK kn more q L fa) μ1 x (.lst (((List.range ds.length).filter t).map g)) (P .next) X) X)
    (hsw : swapsWith (.ListComp elt [⟨target, iter, [test], 0⟩] scope cpos) (some (.Name x p)) pos.line (envK kn more q L fa) = pure true)
    (hfr : freeOk scope.names kn = true) (hsc : compScope scope = true) (hk : knOk scope.names = true) (hn : decide tn.Nodup = true) (hkind : scope.kind = .function) (ht : ∀ it v, letOwnedTupleGo target it v = pure ()) (hs : ∀ x, foldedSetIterable iter (envK kn more q L fa) x = pure x) :
    Ex1 C (envK kn more q L fa) μ (.Assign [.Name x p] (.ListComp elt [⟨target, iter, [test], 0⟩] scope cpos) pos) P X :=
  ex_assign_comp tn (TrV.mono h (fun d μ1 ⟨ds, t, g, h1, h2, h3, h4⟩ => cfilt (Q := fun ds μ => Sto C (envK kn more q L fa) μ x (.lst ds) (P .next) X) t g h1 h2 h3 hk hn h4) fun _ _ x => x) hsw (free_ok K hfr) hsc hkind ht hs

def DpP (P : Post) : Post := fun d μ' => P d μ' ∨ ∃ a ds μ2, μ'.Perm (.list a ds :: μ2) ∧ P d μ2
theorem trT_dp {T : List (Value × D)} {t : Sem Value} (h : TrT C T μ t (DpP P) X) : TrT C T μ t P X := by
  intro ρ s Q E st hQ hE
  refine h ρ s Q E st (fun v d μ' s' hp st' => ?_) hE
  rcases hp with p | ⟨a, ds, μ2, hμ, p⟩
  · exact hQ _ _ _ _ p st'
  exact hQ _ _ _ _ p (St.forgetAt (μ := []) (st'.perm (hμ.symm.append (List.Perm.refl ρ))))
theorem ev_dp {e : Expr} (h : Ev C env μ e (DpP P) X) : Ev C env μ e P X := fun T => trT_dp (h T)
theorem bin_dp {op : Operator} {a b : D} (h : Bin C op a b μ (DpP P) X) : Bin C op a b μ P X := fun T x y hx hy => trT_dp (h T x y hx hy)
theorem dpP_3 {d : D} {a : Addr} {ds : List D} {g : MO} (h : P d (f :: g :: μ)) : DpP P d (f :: g :: .list a ds :: μ) := .inr ⟨a, ds, f :: g :: μ, List.perm_middle (l₁ := [f, g]), h⟩
def PmP (P : Post) : Post := fun d μ' => ∃ μ2, μ'.Perm μ2 ∧ P d μ2
theorem ca_pm {g : Value} {ds : List D} (h : Ca C g ds μ (PmP P) X) : Ca C g ds μ P X := by
  intro T vs hl hv ρ s Q E st hQ hE
  refine h T vs hl hv ρ s Q E st (fun v d μ' s' hp st' => ?_) hE
  obtain ⟨μ2, hμ, p⟩ := hp
  exact hQ _ _ _ _ p (st'.perm (hμ.symm.append (List.Perm.refl ρ)))
theorem pmP_swap {d : D} {x w : MO} (h : P d (w :: x :: μ)) : PmP P d (x :: w :: μ) := ⟨_, .swap _ _ _, h⟩
inductive Pb : Nat → D → Prop
  | none {n : Nat} : Pb n .none
  | bool {n : Nat} (b : Bool) : Pb n (.bool b)
  | int {n : Nat} (i : Int) : Pb n (.int i)
  | str {n : Nat} {x : Str} : PyData.strOk x = true → Pb n (.str x)
  | tup {n : Nat} {ds : List D} : (∀ d ∈ ds, Pb n d) → Pb (n + 1) (.tup ds)
  | lst {n : Nat} {ds : List D} : (∀ d ∈ ds, Pb n d) → Pb (n + 1) (.lst ds)
theorem Pb.plain {n : Nat} {d : D} (h : Pb n d) : plainD d = true ∧ (toP d).canLay0 = true ∧ (toP d).depth ≤ n := by
  induction h with
  | none => simp [plainD, toP, PyData.canLay0, PyData.depth]
  | bool b => simp [plainD, toP, PyData.canLay0, PyData.depth]
  | int i => simp [plainD, toP, PyData.canLay0, PyData.depth]
  | str hx => simp [plainD, toP, PyData.canLay0, PyData.depth, hx]
  | tup _ ih => simp only [plainD, toP, PyData.canLay0, PyData.depth]; exact ⟨plainDs_of fun x hx => (ih x hx).1, canLayAll_of fun x hx => (ih x hx).2.1, Nat.succ_le_succ (depthAll_of fun x hx => (ih x hx).2.2)⟩
  | lst _ ih => simp only [plainD, toP, PyData.canLay0, PyData.depth]; exact ⟨plainDs_of fun x hx => (ih x hx).1, canLayAll_of fun x hx => (ih x hx).2.1, Nat.succ_le_succ (depthAll_of fun x hx => (ih x hx).2.2)⟩
theorem Pb.shaped {n : Nat} {d : D} (h : Pb n d) (hn : n ≤ 64) : SeqAt.shaped (toP d) = true := by
  unfold SeqAt.shaped
  rw [h.plain.2.1, decide_eq_true (Nat.le_trans h.plain.2.2 hn)]; rfl
theorem cmp_eqB {d e d' e' : D} {n m : Nat} {P : Bool → List MO → Prop} (hd : Seen μ d d') (he : Seen μ e e') (pd : Pb n d') (pe : Pb m e') (hn : n ≤ 64) (hm : m ≤ 64) (hu : C.A.units + 64 < cLine)
    (h : P (PyData.eqv (toP d') (toP e')) μ) : Cmp C .Eq d e μ P X := cmp_eqD hd he pd.plain.1 pe.plain.1 (pd.shaped hn) (pe.shaped hm) hu h
theorem eqv_nil (ds : List D) : PyData.eqv (toP (.lst ds)) (toP (.lst [])) = ds.isEmpty := by
  cases ds <;> simp [toP, toPs, PyData.eqv, PyData.eqvAll]
end
end Mine

open PySem PySem.W PyProof.Rows
set_option linter.unusedVariables false
namespace Mine

def recOf : Stmt → DefRec
  | .FunctionDef name a b _ _ _ sc _ _ pos => ⟨name, a, b, sc, pos⟩
  | _ => ⟨Str.empty, ⟨[], [], none, [], [], none, []⟩, [], ⟨.function, [], false, false, []⟩, ⟨0, 0, 0, 0⟩⟩
def scOk (sc : Scope) : Bool := !sc.isCoroutine && !sc.isGenerator && (match sc.kind with | .function => true | _ => false)
theorem fnSt_of {p : Program} {loose : List Str} {mean : ExcName → Option Value} {mg mb : Str → Option Value} {B : Shared} (T : Top p loose mean mg mb B.heap) {d : DefRec} {st : Stmt} {names : List Str} (i : Nat) (h : (recsOf p)[i]? = some d) (hd : d = recOf st) (hn : decide names.Nodup = true) (hok : paramsOk (recOf st).scope.names names = true) (hsc : scOk (recOf st).scope = true)
    (hpar : fParams st = (recOf st).params) (hbody : fBody st = (recOf st).body) (hscope : fScope st = (recOf st).scope)
    (hb : ∀ pm cd doc (vs : List Value), vs.length = names.length → bindArgs (Calls.docDef (recOf st).name (recOf st).params (recOf st).body (recOf st).scope pm cd doc) ⟨vs, []⟩ = pure (names.zip vs)) :
    ∃ a, mg d.name = some (.ref a) ∧ FnSt B a st names := by
  obtain ⟨a, o, pm, code, doc, h1, h2, h3, h4⟩ := T.fn d (List.mem_of_getElem? h)
  subst hd
  obtain ⟨hs1, hs2⟩ := Bool.and_eq_true_iff.mp hsc
  obtain ⟨hs3, hs4⟩ := Bool.and_eq_true_iff.mp hs1
  refine ⟨a, h1, ⟨(recOf st).name, (recOf st).name, .none, .none, doc, pm, none, code, .none⟩, ?_⟩
  have e : mkFd st ⟨(recOf st).name, (recOf st).name, .none, .none, doc, pm, none, code, .none⟩ = Calls.docDef (recOf st).name (recOf st).params (recOf st).body (recOf st).scope pm code doc := by
    unfold mkFd Calls.docDef
    rw [hpar, hbody, hscope]
  rw [e]
  refine ⟨⟨o, h2, h3⟩, T.nolimit, h4, by rw [hbody]; rfl, rfl, hb pm code doc, of_decide_eq_true hn, hok, by simpa [Calls.docDef] using hs3, by simpa [Calls.docDef] using hs4, ?_⟩
  show (recOf st).scope.kind = .function
  revert hs2; cases (recOf st).scope.kind <;> simp
theorem FnSt.func {B : Shared} {a : Addr} {st : Stmt} {names : List Str} (h : FnSt B a st names) : ∃ fo fd, B.heap.get? a = some fo ∧ fo.data = .func fd := by
  obtain ⟨q, F⟩ := h
  obtain ⟨fo, h1, h2⟩ := F.obj
  exact ⟨fo, _, h1, h2⟩

theorem reps_ints {φ : FM} : ∀ {vs : List Value} {ns : List Int}, IntsAre vs ns → Reps φ vs (intsD ns)
  | _, _, .nil => .nil
  | _, _, .cons n t h => .cons (.int n t) (reps_ints h)
def gsOk (mg : Str → Option Value) : List (Str × Value) → Prop
  | [] => True
  | (n, v) :: r => mg n = some v ∧ gsOk mg r
theorem gsOk.at {mg : Str → Option Value} : ∀ {l : List (Str × Value)}, gsOk mg l → ∀ n v, (n, v) ∈ l → mg n = some v
  | _ :: _, ⟨h1, h2⟩, n, v, hm => by
    rcases List.mem_cons.mp hm with e | hm
    · cases e; exact h1
    · exact gsOk.at h2 n v hm
def fnsOk (B : Shared) : List (Str × Value) → Prop
  | [] => True
  | (n, v) :: r => (∀ f, v = .ref f → ∃ fo fd, B.heap.get? f = some fo ∧ fo.data = .func fd) ∧ fnsOk B r
theorem fnsOk.at {B : Shared} : ∀ {l : List (Str × Value)}, fnsOk B l → ∀ n f, (n, Value.ref f) ∈ l → ∃ fo fd, B.heap.get? f = some fo ∧ fo.data = .func fd
  | _ :: _, ⟨h1, h2⟩, n, f, hm => by
    rcases List.mem_cons.mp hm with e | hm
    · cases e; exact h1 f rfl
    · exact fnsOk.at h2 n f hm
def boots : List (Str × Value) → Prop
  | [] => True
  | (n, v) :: r => bootBuiltins n = some v ∧ boots r
def freeNames (p : Program) (loose : List Str) (l : List Str) : Bool := l.all fun x => !startupNames.contains x && !loose.contains x && !((recsOf p).map (·.name)).contains x && !((litsOf p).map (·.1)).contains x && !((clssOf p loose).map (·.name)).contains x
theorem gOk_of {p : Program} {loose : List Str} {mean : ExcName → Option Value} {mg mb : Str → Option Value} {B : Shared} (T : Top p loose mean mg mb B.heap) {gt bt ct : List (Str × Value)} (h1 : gsOk mg gt) (h2 : fnsOk B gt) (hc : gsOk mg ct) (h3 : boots bt) (h4 : freeNames p loose (bt.map (·.1)) = true) : GOk B gt bt ct := by
  refine ⟨⟨mg, mb, T.g, T.b, h1.at, ?_⟩, ⟨mg, T.g, hc.at⟩, h2.at⟩
  have aux : ∀ {l : List (Str × Value)}, boots l → freeNames p loose (l.map (·.1)) = true → ∀ n v, (n, v) ∈ l → mg n = none ∧ mb n = some v := by
    intro l
    induction l with
    | nil => intro _ _ _ _ q; cases q
    | cons y r ih =>
      obtain ⟨m, u⟩ := y
      intro hb hf n v hm
      obtain ⟨hf1, hf2⟩ := (show _ ∧ _ by simpa only [freeNames, List.map_cons, List.all_cons, Bool.and_eq_true] using hf)
      rcases List.mem_cons.mp hm with e | hm
      · cases e
        simp only [Bool.not_eq_true', List.contains_eq_mem, decide_eq_false_iff_not] at hf1
        obtain ⟨⟨⟨⟨a1, a2⟩, a3⟩, a4⟩, a5⟩ := hf1
        refine ⟨T.free _ a1 a2 a3 a4 a5, (T.builtins _ fun e => a1 ?_).trans hb.1⟩
        rw [e]; exact .head _
      · exact ih hb.2 (by simpa only [freeNames] using List.all_eq_true.mpr (by simpa using hf2)) n v hm
  exact aux h3 h4
theorem const_int {p : Program} {loose : List Str} {mean : ExcName → Option Value} {mg mb : Str → Option Value} {h : Heap} (T : Top p loose mean mg mb h) {x : Str} {i : Int} (hv : valOf p x = some (.int i)) : ∃ t, mg x = some (.int i t) := by
  obtain ⟨v, h1, h2⟩ := T.const x _ hv
  have := h2 h
  cases this
  exact ⟨_, h1⟩
theorem St.start {B : Shared} (hg : B.gens = #[]) {a : Addr} {vs : List Value} {ns : List Int} (hL : B.heap.IsList a vs.toArray) (hI : IntsAre vs ns) : St B [] [(.ref a, .lst (intsD ns))] [] B := by
  obtain ⟨o, h1, h2, n, h3⟩ := hL
  refine ⟨⟨B.heap.get?, fun _ _ e => e, fun _ _ e => e, fun _ q => (nomatch q), fun _ q => (nomatch q), .nil, fun p hp => ?_⟩, rfl, hg, fun _ q => (nomatch q)⟩
  rw [List.mem_singleton] at hp; subst hp
  exact .lst h1 h2 h3 (reps_ints hI)
theorem callerA_ok {p : Program} {w : World} {s : Shared} {n : Nat} (h : n ≤ 100) : AOk ⟨p, w, callerA, s, []⟩ n :=
  ⟨rfl, Nat.lt_of_le_of_lt (Nat.add_le_add_left h _) (show callerA.depth + 100 < recursionLimit by decide), Nat.lt_of_le_of_lt (Nat.add_le_add_left (Nat.mul_le_mul_left 4 h) _) (show callerA.units + 64 + 4 * 100 < cLine by decide), ⟨[], rfl, fun _ q => (nomatch q)⟩⟩
theorem law_done {prog : Program} {w : World} {s₁ : Shared} {fa a : Addr} {vs : List Value} {ns : List Int} {Q E : Value → Shared → Prop} (hg : s₁.gens = #[]) (hL : s₁.heap.IsList a vs.toArray) (hI : IntsAre vs ns) (h : Ca ⟨prog, w, callerA, s₁, []⟩ (.ref fa) [.lst (intsD ns)] [] (fun d _ => d = .bool true) noX)
    (hQ : ∀ s' : Shared, (∀ b o, s₁.heap.get? b = some o → s'.heap.get? b = some o) → s'.os = s₁.os → s'.gens = #[] → Q (.bool true) s') : wpAny (model prog w) callerA (call (.ref fa) [.ref a]) Q E s₁ := by
  refine h [(.ref a, .lst (intsD ns))] [.ref a] rfl (fun p hp => by simpa using hp) [] s₁ Q E (St.start hg hL hI) ?_ fun _ _ _ _ _ h => h.elim
  intro v d μ' s' hd st
  subst hd
  have e := st.isBool (.head _); subst e
  exact hQ s' (fun b o e => st.stays b o e) st.os st.gf.1
end Mine

open PySem PySem.W PyProof.Rows
set_option linter.unusedVariables false
namespace Mine
def keysOk (es : Array DictEntry) : Bool := es.toList.all fun e => match e.key with | .str _ _ => true | _ => false
def findL (es : Array DictEntry) (n : Str) : Option Value := (es.toList.find? (·.key.isStr n)).map (·.val)
end Mine

namespace Mine
section
variable {α : Type} (kf : α → Int)
def sIns (x : α) : List α → List α
  | [] => [x]
  | y :: ys => if kf x ≤ kf y then x :: y :: ys else y :: sIns x ys
def sSort : List α → List α
  | [] => []
  | x :: xs => sIns kf x (sSort xs)
def sMrg : List α → List α → List α
  | [], bs => bs
  | a :: as, [] => a :: as
  | a :: as, b :: bs => if kf a ≤ kf b then a :: sMrg as (b :: bs) else b :: sMrg (a :: as) bs
termination_by as bs => as.length + bs.length
def Up (xs : List α) : Prop := xs.Pairwise fun x y => kf x ≤ kf y
def fk (k : Int) (xs : List α) : List α := xs.filter fun x => kf x == k
variable {kf}
end
end Mine

open PySem PyProof.Rows
set_option linter.unusedVariables false
namespace Mine
def kk (p : Keyed) : Int := numOf p.1
def Stb (a xs : Array Keyed) : Prop := ∀ c, fk kk c xs.toList = fk kk c a.toList
def Dn (xs : List Keyed) : Prop := xs.Pairwise fun p q => kk q ≤ kk p
section
variable {prog : Program} {w : World} {A : Around} {E : Value → Shared → Prop} {s : Shared} {a₀ : Array Keyed}
structure Fall (a : Array Keyed) (xs : Array Keyed) (P G : List Keyed) (g : Keyed) (R : List Keyed) : Prop where
  lst : xs.toList = P ++ (G ++ [g]) ++ R
  dn : Dn P
  lt : ∀ p ∈ P, kk g < kk p
  eq : ∀ p ∈ G, kk p = kk g
  fk : ∀ c, fk kk c a.toList = (fk kk c P).reverse ++ (Mine.fk kk c (G ++ [g]) ++ Mine.fk kk c R)
end
end Mine

open PySem PyProof.Rows
set_option linter.unusedVariables false
set_option maxHeartbeats 4000000
namespace Mine
def Cx.in2 (C : Cx) : Cx := { C with A := C.A.in1.in1 }
def KOut (kz : List Int) (vs out : List Value) : Prop :=
  out = (sSort Prod.fst (kz.zip vs)).map Prod.snd
section
variable {C : Cx} {env : Env} {μ : List MO} {P : Post} {X : XPost} {f : MO}
end
end Mine

open PySem PyProof.Rows
set_option linter.unusedVariables false
set_option maxHeartbeats 4000000
namespace Mine
section
variable {C : Cx} {env : Env} {μ : List MO} {P : Post} {X : XPost} {f : MO}
theorem cmp_isN {P : Bool → List MO → Prop} (h : P true μ) : Cmp C .Is .none .none μ P X := fun _ _ _ ha hb _ _ _ _ st hQ _ => by
  have e := st.isNone ha; subst e
  have e := st.isNone hb; subst e
  exact is_none_none (hQ _ _ _ _ ⟨_, rfl, h⟩ (st.add (rBool _)))
theorem cmp_isI {i : Int} {P : Bool → List MO → Prop} (h : P false μ) : Cmp C .Is (.int i) .none μ P X := fun _ _ _ ha hb _ _ _ _ st hQ _ => by
  obtain ⟨t, rfl⟩ := st.isInt ha
  have e := st.isNone hb; subst e
  exact is_int_none (hQ _ _ _ _ ⟨_, rfl, h⟩ (st.add (rBool _)))
theorem cmp_isnotN {P : Bool → List MO → Prop} (h : P false μ) : Cmp C .IsNot .none .none μ P X := fun _ _ _ ha hb _ _ _ _ st hQ _ => by
  have e := st.isNone ha; subst e
  have e := st.isNone hb; subst e
  exact isnot_none_none (hQ _ _ _ _ ⟨_, rfl, h⟩ (st.add (rBool _)))
theorem cmp_isnotI {i : Int} {P : Bool → List MO → Prop} (h : P true μ) : Cmp C .IsNot (.int i) .none μ P X := fun _ _ _ ha hb _ _ _ _ st hQ _ => by
  obtain ⟨t, rfl⟩ := st.isInt ha
  have e := st.isNone hb; subst e
  exact isnot_int_none (hQ _ _ _ _ ⟨_, rfl, h⟩ (st.add (rBool _)))
end
end Mine

open PySem PyProof.Rows
set_option linter.unusedVariables false
set_option maxHeartbeats 4000000
namespace Mine
abbrev tkd (prog : Program) (w : World) : HeapKind prog w (List Int) := tupleKind (intKind prog w)
def entT (y : List Int × Addr × Value) : DictEntry := ⟨reduceHash (Builtin.Tuple.tupleHashOf (y.1.map hashInt)), .ref y.2.1, y.2.2⟩
def tabR (d : Addr) (xs : List (List Int × D)) (φ : FM) (o : Obj) : Prop :=
  (d == sysModules) = false ∧ o.ExactDict ∧ ∃ (ys : List (List Int × Addr × Value)) (es : Array DictEntry) (ep : Nat), o.data = .dict es ep ∧ es.toList = ys.map entT ∧ (∀ y ∈ ys, Rep φ (.ref y.2.1) (.tup (intsD y.1))) ∧ (ys.map (·.1)).Nodup ∧ ys.map (·.1) = xs.map (·.1) ∧ Reps φ (ys.map (·.2.2)) (xs.map (·.2))
theorem tabR_mono (d : Addr) (xs : List (List Int × D)) : ∀ φ ψ o, FM.le φ ψ → tabR d xs φ o → tabR d xs ψ o := fun φ ψ o k ⟨h0, h1, ys, es, ep, h2, h3, h4, h5, h6, h7⟩ =>
  ⟨h0, h1, ys, es, ep, h2, h3, fun y hy => (h4 y hy).mono k, h5, h6, h7.mono k⟩
abbrev tabM (d : Addr) (xs : List (List Int × D)) : MO := .dep d (tabR d xs) (tabR_mono d xs)
theorem items_key {prog : Program} {w : World} {φ : FM} : ∀ {ks : List Int} {vs : List Value}, Reps φ vs (intsD ks) → ItemsAre (intKind prog w) ks vs
  | [], _, h => by cases h; exact .nil
  | k :: ks, _, h => by
    cases h with
    | cons h1 h2 =>
      cases h1
      exact .cons (by unfold intKind; simp [PySem.Value.isInt]) (items_key h2)
theorem tuple_key {prog : Program} {w : World} {φ : FM} {h : Heap} (hφ : ∀ a o, φ a = some o → h.get? a = some o) {ks : List Int} {a : Addr} (r : Rep φ (.ref a) (.tup (intsD ks))) : (tkd prog w).is h ks a := by
  cases r with
  | tup h1 h2 h3 h4 => exact ⟨_, _, _, hφ _ _ h1, h2, h3, by rw [List.toList_toArray]; exact items_key h4⟩
theorem atKey_zip {xs : List (List Int × D)} {k : List Int} {d : D} : ∀ {ys : List (List Int × Addr × Value)} {φ : FM}, ys.map (·.1) = xs.map (·.1) → Reps φ (ys.map (·.2.2)) (xs.map (·.2)) → xs.lookup k = some d → ∃ p, atKey ys k = some p ∧ Rep φ p.2 d := by
  induction xs with
  | nil => intro ys φ _ _ h; cases h
  | cons x xs ih =>
    intro ys φ e r h
    match ys, e, r with
    | y :: ys, e, r =>
      obtain ⟨e1, e2⟩ := List.cons.inj e
      have e1 : y.1 = x.1 := e1
      cases r with
      | cons r1 r2 =>
        by_cases hk : y.1 = k
        · refine ⟨y.2, by simp [atKey, hk], ?_⟩
          have : x.1 = k := by rw [← e1]; exact hk
          rw [List.lookup_cons, ← this] at h
          simp at h; rw [← h]; exact r1
        · have hk2 : ¬ x.1 = k := by rw [← e1]; exact hk
          have h' : xs.lookup k = some d := by
            rw [List.lookup_cons] at h
            have : (k == x.1) = false := by simpa using Ne.symm hk2
            rw [this] at h; exact h
          obtain ⟨p, hp, hr⟩ := ih e2 r2 h'
          refine ⟨p, ?_, hr⟩
          simpa [atKey, List.find?_cons, hk] using hp
section
variable {C : Cx} {env : Env} {μ : List MO} {P : Post} {X : XPost} {f : MO}
theorem ev_Dict0 {pos : Pos} (hg : ∃ o, C.B.heap.get? mainGlobals = some o) (h : ∀ a, P (.ref a) (f :: tabM a [] :: μ)) : Ev C env (f :: μ) (.Dict [] [] pos) P X := by
  intro T ρ s Q E st hQ hE
  have hsz : (s.heap.objs.size == sysModules) = false := by
    obtain ⟨o, ho⟩ := hg
    have := Heap.lt_size (st.stays _ _ ho)
    have h3 : (mainGlobals : Nat) = 3 := rfl
    have h1 : (sysModules : Nat) = 1 := rfl
    have hne : s.heap.objs.size ≠ sysModules := fun q => by
      rw [q] at this
      exact absurd this (by decide)
    simpa using hne
  refine wpAny_Dict_empty ?_
  refine hQ _ _ _ _ (h s.heap.objs.size) (St.add ?_ fun _ => .ref _)
  exact St.alloc (μ := [f]) (x := tabM s.heap.objs.size []) st rfl s.toks fun φ _ => ⟨_, Heap.get?_push_size _ rfl, hsz, ⟨rfl, rfl, rfl⟩, [], #[], 0, rfl, rfl, (fun _ q => nomatch q), .nil, rfl, .nil⟩
theorem sub_tab {value slice : Expr} {d : Addr} {xs : List (List Int × D)} {k : List Int} {x : D} (hm : tabM d xs ∈ μ) (hx : xs.lookup k = some x) (hu : C.A.units + 64 < cLine) (hs : noSlice slice = true) (h : P x μ) : Sub C value slice (.ref d) (.tup (intsD k)) μ P X := by
  intro T o iv ho hiv ρ s Q E st hQ hE
  have eo := st.isRef ho; subst eo
  obtain ⟨⟨φ, h1, h2, h3, h4, h5, h6⟩, hos, hg⟩ := id st
  obtain ⟨ob, hod, hds, hex, ys, es, ep, q1, q2, q3, q4, q5, q6⟩ := h3 _ (List.mem_append_left ρ hm)
  have hD : s.heap.DictOfH (tkd C.prog C.w) d ys := ⟨ob, es, ep, hod, hex, q1, q2, fun y hy => tuple_key h2 (q3 y hy), q4⟩
  obtain ⟨p, hp, hr⟩ := atKey_zip q5 q6 hx
  have hk := h6 _ hiv
  obtain ⟨a, hia⟩ : ∃ a, iv = .ref a := by cases hk; exact ⟨_, rfl⟩
  subst hia
  refine tail_any hD.typeIs slot_dict_getitem.lookup (wpAny_getItem_heap (knd := tkd C.prog C.w) (tupleKind_room_in1 (by omega)) (tuple_key h2 hk) hD hp ?_) (sub_plain hs _ _)
  refine hQ _ _ _ _ h ⟨⟨φ, h1, h2, h3, h4, h5, fun p' hp' => ?_⟩, hos, hg⟩
  rcases List.mem_cons.mp hp' with rfl | hp'
  · exact hr
  · exact h6 p' hp'
inductive SetT (a : Addr) (xs xs' : List (List Int × D)) : List MO → List MO → Prop
  | here {μ : List MO} : SetT a xs xs' (tabM a xs :: μ) (tabM a xs' :: μ)
  | there {x : MO} {μ μ' : List MO} : SetT a xs xs' μ μ' → SetT a xs xs' (x :: μ) (x :: μ')
theorem SetT.split {a : Addr} {xs xs' : List (List Int × D)} {μ μ' : List MO} (h : SetT a xs xs' μ μ') : ∃ pre post, μ = pre ++ tabM a xs :: post ∧ μ' = pre ++ tabM a xs' :: post := by
  induction h with
  | here => exact ⟨[], _, rfl, rfl⟩
  | there _ ih => obtain ⟨pre, post, rfl, rfl⟩ := ih; exact ⟨_ :: pre, post, rfl, rfl⟩
theorem ys_eq : ∀ {ys zs : List (List Int × Addr × Value)}, ys.map (·.1) = zs.map (·.1) → ys.map entT = zs.map entT → ys = zs
  | [], [], _, _ => rfl
  | [], _ :: _, e, _ => by cases e
  | _ :: _, [], e, _ => by cases e
  | (k, a, v) :: ys, (k', a', v') :: zs, e, e' => by
    obtain ⟨e1, e2⟩ := List.cons.inj e
    obtain ⟨e3, e4⟩ := List.cons.inj e'
    have hk : k = k' := e1
    unfold entT at e3
    have h3 : Value.ref a = Value.ref a' ∧ v = v' := by
      injection e3 with q1 q2 q3
      exact ⟨q2, q3⟩
    obtain ⟨q2, q3⟩ := h3
    cases q2; subst hk q3
    rw [ys_eq e2 e4]
theorem ex_settab {o i value : Expr} {p pos : Pos} {Pf : Fw → List MO → Prop}
    (h : Ev C env μ value (fun x μ1 => Ev C env μ1 o (fun d μ2 => Ev C env μ2 i (fun k μ3 => ∃ (a : Addr) (xs : List (List Int × D)) (ks : List Int) (μ4 : List MO), d = .ref a ∧ k = .tup (intsD ks) ∧ ks ∉ xs.map (·.1) ∧ xs.length ≤ 100000 ∧ SetT a xs (xs ++ [(ks, x)]) μ3 μ4 ∧ Pf .next μ4) X) X) X)
    (hu : C.A.units + 64 < cLine) (hs : swapsWith value (some (.Subscript o i p)) pos.line env = pure false) (hsl : noSlice i = true) : Ex1 C env μ (.Assign [.Subscript o i p] value pos) Pf X := by
  intro T ρ s Q E st hQ hE
  show wpAny C.M C.A (exec (.Assign [.Subscript o i p] value pos) env) Q E s
  rw [exec_Assign_Subscript o i p value pos hs]
  refine wpAny_bind (wpAny_standAt (wpAny_bind (h T ρ s _ _ st (fun xv x μ1 s1 h1 st1 => ?_) hE)))
  rw [assign_Subscript]
  refine wpAny_bind (wpAny_bind (wpAny_holding (h1 ((xv, x) :: T) ρ s1 _ _ st1 (fun ov d μ2 s2 h2 st2 => ?_) fun e c t μ' s' x st' => hE e c t μ' s' x st'.tail)))
  refine wpAny_bind (wpAny_holding (h2 ((ov, d) :: (xv, x) :: T) ρ s2 _ _ st2 (fun iv k μ3 s3 h3 st3 => ?_) fun e c t μ' s' x st' => hE e c t μ' s' x (st'.sub fun _ hq => .tail _ (.tail _ hq))))
  obtain ⟨a, xs, ks, μ4, hd, hk, hnew, hlen, hset, pf⟩ := h3
  subst hd hk
  have eo := st3.isRef (a := ov) (.tail _ (.head _)); subst eo
  obtain ⟨pre, post, rfl, rfl⟩ := hset.split
  obtain ⟨⟨φ0, h10, h20, h30, h40, h50, h60⟩, hos0, hg0⟩ := id st3
  obtain ⟨ob, hod, hds, hex, ys, es, ep, q1, q2, q3, q4, q5, q6⟩ := h30 (tabM a xs) (List.mem_append_left ρ (List.mem_append_right _ (.head _)))
  have hD : s3.heap.DictOfH (tkd C.prog C.w) a ys := ⟨ob, es, ep, hod, hex, q1, q2, fun y hy => tuple_key h20 (q3 y hy), q4⟩
  have hik := h60 (iv, .tup (intsD ks)) (.head _)
  obtain ⟨ia, hia⟩ : ∃ ia, iv = .ref ia := by cases hik; exact ⟨_, rfl⟩
  subst hia
  have hyl : ys.length = xs.length := by simpa using congrArg List.length q5
  have hnone : atKey ys ks = none := atKey_none_of_get fun j pp hj => hnew (by
    rw [← q5]; exact List.mem_map.mpr ⟨(ks, pp), List.mem_of_getElem? hj, rfl⟩)
  refine wpAny_bind (wpAny_standAt (wpAny_bind (wpAny_holding (wpAny_setItem_heap (knd := tkd C.prog C.w) (tupleKind_room_in1 (by omega)) (tuple_key h20 hik) hD (fun h' hD' hsb => ?_) (by rw [hyl]; exact Nat.le_trans hlen (by decide))))))
  rw [storedH_new hnone] at hD'
  obtain ⟨o', es', ep', g1, g2, g3, g4, g5, g6⟩ := hD'
  have st4 : St C.B C.F ((.ref ia, .tup (intsD ks)) :: (.ref a, .ref a) :: (xv, x) :: T) (pre ++ tabM a xs :: (post ++ ρ)) s3 := by simpa using st3
  have st5 := St.turnAt (x' := tabM a (xs ++ [(ks, x)])) (h' := h') (t := s3.toks + (tkd C.prog C.w).draws ks) st4 rfl (Turned.of_sameBut hsb) (fun φ _ hT ⟨ob2, hod2, hds2, hex2, zs, es2, ep2, r1, r2, r3, r4, r5, r6⟩ => ?_)
  · refine wpAny_release (wpAny_pure (hQ .next .next _ _ pf ?_))
    have st6 : St C.B C.F ((.ref ia, .tup (intsD ks)) :: (.ref a, .ref a) :: (xv, x) :: T) ((pre ++ tabM a (xs ++ [(ks, x)]) :: post) ++ ρ) { s3 with heap := h', toks := s3.toks + (tkd C.prog C.w).draws ks } := by simpa using st5
    exact St.sub st6 fun _ hq => .tail _ (.tail _ (.tail _ hq))
  · rw [hod] at hod2
    cases hod2
    rw [q1] at r1
    cases r1
    have ez : zs = ys := ys_eq (r5.trans q5.symm) (r2.symm.trans q2)
    subst ez
    refine ⟨o', g1, hds2, g2, zs ++ [(ks, ia, xv)], es', ep', g3, g4, fun y hy => ?_, g6, ?_, ?_⟩
    · rcases List.mem_append.mp hy with hy | hy
      · exact r3 y hy
      · rw [List.mem_singleton] at hy; subst hy
        exact hT _ (.head _)
    · simp only [List.map_append, r5]; rfl
    · simp only [List.map_append]
      exact r6.append (.cons (hT _ (.tail _ (.tail _ (.head _)))) .nil)
end
end Mine

open PySem PyProof.Rows
set_option linter.unusedVariables false
set_option maxHeartbeats 4000000
namespace Mine
section
variable {C : Cx} {env : Env} {μ : List MO} {P : Post} {X : XPost} {f : MO}
theorem ex_while {test : Expr} {body : List Stmt} {pos : Pos} {L : Addr} {Pf : Fw → List MO → Prop} (H : FrAt C env L) (I : Nat → List MO → Prop) (n : Nat) (h0 : I n μ)
    (turn : ∀ n μ, I n μ → Te C env μ test (fun b μ1 => (b = true → Ex C env μ1 body (Turn (fun μ' => ∃ m, m < n ∧ I m μ') Pf) X) ∧ (b = false → Pf .next μ1)) X) : Ex1 C env μ (.While test body [] pos) Pf X := by
  intro T ρ s Q E st hQ hE
  have err : ∀ {e c tb μ' s'}, X c μ' → St C.B C.F T (.exc e c tb :: (μ' ++ ρ)) s' → notedBy C.M C.A env (cameBackBy C.M C.A env E) (.ref e) s' := by
    intro e c tb μ' s' x st'
    exact wp_noted H st' fun t s2 st2 => wp_cameBack H st2 fun s3 st3 => hE e c (some (t, rawInt L)) μ' s3 x st3
  refine wpAny_While (codeAny_whileLoop (fun k s' => ∃ μ', I k μ' ∧ St C.B C.F T (μ' ++ ρ) s') (fun k s' ⟨μ', hI, st'⟩ => ?_) n ⟨μ, h0, st⟩)
  refine turn k μ' hI T ρ s' _ _ st' (fun b μ1 s1 hb st1 => ?_) fun e c tb μ2 s2 x st2 => err x st2
  cases b with
  | true =>
    rw [if_pos rfl]
    refine hb.1 rfl T ρ s1 _ _ st1 (fun fl' fl μ2 s2 p st2 => ?_) fun e c tb μ2 s2 x st2 => err x st2
    cases fl' <;> cases fl <;> first
      | exact False.elim st2
      | exact (let ⟨m, hm, hI'⟩ := p; ⟨m, hm, μ2, hI', st2⟩)
      | exact hQ .next .next μ2 s2 p st2
      | exact hQ (.ret _) (.ret _) μ2 s2 p st2
  | false =>
    rw [if_neg (by decide)]
    exact wpAny_execs_nil (hQ .next .next μ1 s1 (hb.2 rfl) st1)
end
end Mine

open PySem PyProof.Rows
set_option linter.unusedVariables false
set_option maxHeartbeats 4000000
namespace Mine
section
variable {C : Cx} {env : Env} {μ : List MO} {P : Post} {X : XPost} {f : MO}
theorem St.forgetJ {B : Shared} {F : List Addr} {T : List (Value × D)} {s : Shared} : ∀ {J μ : List MO}, (∀ x ∈ J, x.fr = none) → St B F T (J ++ μ) s → St B F T μ s
  | [], _, _, st => st
  | x :: J, μ, h, st => St.forgetJ (J := J) (fun y hy => h y (.tail _ hy)) (St.forgetAt (μ := []) st (fun L _ e => by rw [h x (.head _)] at e; cases e))
def Less (μ' μ : List MO) : Prop := ∃ J, μ'.Perm (J ++ μ) ∧ ∀ x ∈ J, x.fr = none
theorem St.less {B : Shared} {F : List Addr} {T : List (Value × D)} {s : Shared} {μ' μ ρ : List MO} (h : Less μ' μ) (st : St B F T (μ' ++ ρ) s) : St B F T (μ ++ ρ) s := by
  obtain ⟨J, hp, hJ⟩ := h
  have := st.perm (hp.symm.append (List.Perm.refl ρ))
  rw [List.append_assoc] at this
  exact St.forgetJ hJ this
theorem Less.refl : Less μ μ := ⟨[], .refl _, fun _ h => nomatch h⟩
theorem Less.perm {μ' : List MO} (h : μ'.Perm μ) : Less μ' μ := ⟨[], h, fun _ h => nomatch h⟩
theorem Less.keep {x : MO} {μ' : List MO} (h : Less μ' μ) : Less (x :: μ') (x :: μ) := by
  obtain ⟨J, hp, hJ⟩ := h
  exact ⟨J, (hp.cons x).trans List.perm_middle.symm, hJ⟩
theorem Less.drop {x : MO} {μ' : List MO} (hx : x.fr = none) (h : Less μ' μ) : Less (x :: μ') μ := by
  obtain ⟨J, hp, hJ⟩ := h
  exact ⟨x :: J, hp.cons x, fun y hy => by rcases List.mem_cons.mp hy with rfl | hy; exact hx; exact hJ y hy⟩
def JkP (P : Post) : Post := fun d μ' => ∃ μ2, Less μ' μ2 ∧ P d μ2
theorem trT_jk {T : List (Value × D)} {t : Sem Value} (h : TrT C T μ t (JkP P) X) : TrT C T μ t P X := by
  intro ρ s Q E st hQ hE
  refine h ρ s Q E st (fun v d μ' s' hp st' => ?_) hE
  obtain ⟨μ2, hl, p⟩ := hp
  exact hQ _ _ _ _ p (st'.less hl)
theorem ca_jk {g : Value} {ds : List D} (h : Ca C g ds μ (JkP P) X) : Ca C g ds μ P X := fun T vs hl hv => trT_jk (h T vs hl hv)
theorem jkP {d : D} {μ' : List MO} (hl : Less μ' μ) (h : P d μ) : JkP P d μ' := ⟨μ, hl, h⟩
theorem ca_less {g : Value} {ds : List D} {μ' : List MO} (hl : Less μ' μ) (h : Ca C g ds μ P X) : Ca C g ds μ' P X :=
  fun T vs hl' hv ρ s Q E st hQ hE => h T vs hl' hv ρ s Q E (st.less hl) hQ hE
def JfP (P : Post) : Post := fun d μ' => ∃ μ2, Less μ' μ2 ∧ (P d μ2 ∨ ∃ a ds μ3, d = .ref a ∧ μ2 = .list a ds :: μ3 ∧ P (.lst ds) μ3)
theorem ca_jf {g : Value} {ds : List D} (h : Ca C g ds μ (JfP P) X) : Ca C g ds μ P X := by
  refine ca_fz (ca_jk (Ca.mono h (fun d μ' hp => ?_) fun _ _ x => x))
  obtain ⟨μ2, hl, p | ⟨a, ds, μ3, h1, h2, p⟩⟩ := hp
  · exact ⟨μ2, hl, .inl p⟩
  · subst h1 h2
    exact ⟨_, hl, fzP_h p⟩
theorem jfP_l {a : Addr} {ds : List D} {μ' : List MO} (hl : Less μ' (.list a ds :: μ)) (h : P (.lst ds) μ) : JfP P (.ref a) μ' := ⟨_, hl, .inr ⟨a, ds, μ, rfl, rfl, h⟩⟩
end
end Mine

open PySem PyProof.Rows
set_option linter.unusedVariables false
set_option maxHeartbeats 4000000
namespace Mine
section
variable {C : Cx} {env : Env} {μ : List MO} {P : Post} {X : XPost} {f : MO}
theorem ca_via {g : Value} {ds : List D} {μ1 : List MO} (hp : μ.Perm μ1) (h : Ca C g ds μ1 (PmP P) noX) : Ca C g ds μ P X :=
  ca_less (.perm hp) (ca_pm (Ca.mono h (fun _ _ p => p) fun _ _ x => x.elim))
theorem ca_via3 {g : Value} {ds : List D} {x y : MO} (h : Ca C g ds (y :: x :: f :: μ) (fun d μ' => ∃ x' y', μ' = y' :: x' :: f :: μ ∧ P d (f :: x' :: y' :: μ)) noX) : Ca C g ds (f :: x :: y :: μ) P X := by
  have p : ∀ x y : MO, (f :: x :: y :: μ).Perm (y :: x :: f :: μ) := fun x y => (List.Perm.cons _ (.swap _ _ _)).trans (List.perm_middle (l₁ := [_, _])).symm
  refine ca_via (p x y) (Ca.mono h (fun d μ' hp => ?_) fun _ _ x => x)
  obtain ⟨x', y', rfl, q⟩ := hp
  exact ⟨_, (p x' y').symm, q⟩
end
def cntL (n : Nat) (g : Nat → Nat) : List Int := (List.range n).map fun i => ((g i : Nat) : Int)
theorem cntL_len (n : Nat) (g : Nat → Nat) : (cntL n g).length = n := by simp [cntL]
theorem cntL_get {n : Nat} {g : Nat → Nat} {i : Nat} (h : i < n) : (intsD (cntL n g))[i]? = some (.int (g i)) := by simp [intsD, cntL, h]
theorem cntL_set (n : Nat) (g : Nat → Nat) (j : Nat) : (intsD (cntL n g)).set j (.int ((g j : Int) + 1)) = intsD (cntL n fun i => if i = j then g i + 1 else g i) := by
  apply List.ext_getElem?
  intro i
  rw [List.getElem?_set]
  by_cases h : j = i
  · subst h
    simp only [intsD, cntL, List.length_map, List.length_range, if_true, List.getElem?_map]
    by_cases q : j < n
    · simp [q]
    · rw [if_neg q]; simp [q]
  · rw [if_neg h]
    simp only [intsD, cntL, List.getElem?_map]
    by_cases q : i < n
    · simp [q, show ¬ i = j from fun e => h e.symm]
    · simp [q]
theorem cntL_congr {n : Nat} {g g' : Nat → Nat} (h : ∀ i, i < n → g i = g' i) : cntL n g = cntL n g' := by
  unfold cntL
  exact List.map_congr_left fun i hi => by rw [h i (by simpa using hi)]
theorem flat_rep {α : Type} (x : α) : ∀ n, List.flatten (List.replicate n [x]) = List.replicate n x
  | 0 => rfl
  | n + 1 => by rw [List.replicate_succ, List.flatten_cons, flat_rep x n, List.replicate_succ]; rfl
theorem zeros (n : Nat) : List.flatten (List.replicate n [D.int 0]) = intsD (cntL n fun _ => 0) := by
  rw [flat_rep]
  apply List.ext_getElem?
  intro i
  simp only [intsD, cntL, List.getElem?_map, List.getElem?_replicate]
  by_cases q : i < n <;> simp [q]
theorem ones (n : Nat) : List.flatten (List.replicate n [D.int 1]) = intsD (cntL n fun _ => 1) := by
  rw [flat_rep]
  apply List.ext_getElem?
  intro i
  simp only [intsD, cntL, List.getElem?_map, List.getElem?_replicate]
  by_cases q : i < n <;> simp [q]
end Mine

namespace Mine
abbrev Pk := Int × List Int
def pkOwn (ws : List Int) : List Pk := ws.zipIdx.map fun p => (p.1, [(p.2 : Int)])
def iSort (xs : List Int) : List Int := sSort id xs
def pPairs : List Pk → List Pk
  | p :: q :: r => (p.1 + q.1, iSort (p.2 ++ q.2)) :: pPairs r
  | _ => []
def pRow (ws : List Int) : Nat → List Pk
  | 0 => []
  | t + 1 => sSort Prod.fst (sSort Prod.fst (pkOwn ws) ++ pPairs (pRow ws t))
def cntP (i : Int) (X : List Pk) : Nat := (X.map fun p => p.2.count i).sum
def sumTo (f : Nat → Nat) : Nat → Nat
  | 0 => 0
  | n + 1 => sumTo f n + f n
def sumZ (f : Nat → Int) : Nat → Int
  | 0 => 0
  | n + 1 => sumZ f n + f n
def PkOk (ws : List Int) (p : Pk) : Prop := p.1 = (p.2.map fun s => ws.getD s.toNat 0).sum ∧ ∀ s ∈ p.2, 0 ≤ s ∧ s < ws.length
def gK (t c : Nat) : Nat := 2 ^ t - 2 ^ (t - c)
def ltP (W : Int) (X : List Pk) : Nat := X.countP fun p => decide (p.1 < W)
end Mine

set_option linter.unusedVariables false
namespace Mine
def lvA (L : Nat) (z : List (Int × Nat)) (s : Nat) : List Int := (z.filter fun p => decide (L ≤ s + p.2)).map Prod.fst
inductive Lv : Nat → List Nat → Prop
  | leaf (d : Nat) : Lv d [d]
  | node {d : Nat} {xs ys : List Nat} : Lv (d + 1) xs → Lv (d + 1) ys → Lv d (xs ++ ys)
theorem Lv.ge {d : Nat} {xs : List Nat} (h : Lv d xs) : ∀ x ∈ xs, d ≤ x := by
  induction h with
  | leaf d => intro x hx; simp at hx; omega
  | node _ _ ih1 ih2 =>
    intro x hx
    rcases List.mem_append.mp hx with hx | hx
    · have := ih1 x hx; omega
    · have := ih2 x hx; omega
theorem Lv.split {d : Nat} {zs : List Nat} (h : Lv d zs) : ∀ {xs ys : List Nat} {e : Nat}, zs = xs ++ e :: ys → Lv d (xs ++ (e + 1) :: (e + 1) :: ys) := by
  induction h with
  | leaf d =>
    intro xs ys e h
    cases xs with
    | nil =>
      obtain ⟨rfl, rfl⟩ := List.cons.inj h
      exact .node (xs := [d + 1]) (ys := [d + 1]) (.leaf _) (.leaf _)
    | cons x xs => have := congrArg List.length h; simp at this
  | @node d as bs h1 h2 ih1 ih2 =>
    intro xs ys e h
    rcases List.append_eq_append_iff.mp h with ⟨cs, e1, e2⟩ | ⟨cs, e1, e2⟩
    · -- xs = as ++ cs, bs = cs ++ e :: ys
      rw [e1, List.append_assoc]
      exact .node h1 (ih2 e2)
    · -- as = xs ++ cs, e :: ys = cs ++ bs
      cases cs with
      | nil =>
        rw [List.append_nil] at e1
        subst e1
        have : Lv (d + 1) (([] : List Nat) ++ (e + 1) :: (e + 1) :: ys) := ih2 (by simpa using e2.symm)
        exact .node h1 this
      | cons c cs =>
        obtain ⟨rfl, rfl⟩ := List.cons.inj e2
        have := ih1 e1
        have q := Lv.node this h2
        simpa using q
theorem Lv.kraft {d : Nat} {xs : List Nat} (h : Lv d xs) {L : Nat} (hL : ∀ x ∈ xs, x ≤ L) : (xs.map fun x => 2 ^ (L - x)).sum = 2 ^ (L - d) := by
  induction h with
  | leaf d => simp
  | @node d as bs h1 h2 ih1 ih2 =>
    rw [List.map_append, List.sum_append, ih1 fun x hx => hL x (List.mem_append_left _ hx), ih2 fun x hx => hL x (List.mem_append_right _ hx)]
    have : d + 1 ≤ L := by
      have hne : as ≠ [] := by
        intro q
        cases h1 with
        | leaf => cases q
        | node a b =>
          have : ∀ {d xs}, Lv d xs → xs ≠ [] := by
            intro d xs h
            induction h with
            | leaf => simp
            | node _ _ i1 _ => simp [i1]
          exact this (Lv.node a b) q
      obtain ⟨x, hx⟩ := List.exists_mem_of_ne_nil _ hne
      exact Nat.le_trans (h1.ge x hx) (hL x (List.mem_append_left _ hx))
    rw [show L - d = L - (d + 1) + 1 by omega, Nat.pow_succ]; omega
theorem Lv.shallow {xs : List Nat} {L : Nat} (h : Lv 0 xs) (hL : ∀ x ∈ xs, x ≤ L) (hn : xs.length < 2 ^ L) : ∃ x ∈ xs, x < L := by
  have hk := h.kraft hL
  rw [Nat.sub_zero] at hk
  by_cases q : ∃ x ∈ xs, x < L
  · exact q
  · have : ∀ ys : List Nat, (∀ y ∈ ys, y = L) → (ys.map fun x => 2 ^ (L - x)).sum = ys.length := by
      intro ys
      induction ys with
      | nil => intro _; rfl
      | cons y ys ih => intro h; rw [List.map_cons, List.sum_cons, ih fun z hz => h z (.tail _ hz), h y (.head _)]; simp; omega
    rw [this xs fun y hy => by
      have := hL y hy
      rcases Nat.lt_or_ge y L with r | r
      · exact absurd ⟨y, hy, r⟩ q
      · omega] at hk
    omega
end Mine

namespace Mine
def bothO : Option Int → Option Int → Option Int
  | some a, some b => some (a + b)
  | _, _ => none
def bestO (v : Nat → Nat → Option Int) (f l : Nat) : Nat → Option (Int × Nat)
  | 0 => none
  | i + 1 => match bothO (v f (f + 1 + i)) (v (f + 1 + i) l), bestO v f l i with
    | none, b => b
    | some x, none => some (x, f + 1 + i)
    | some x, some (b, m) => if x < b then some (x, f + 1 + i) else some (b, m)
def sumW (ws : List Int) (f l : Nat) : Int := ((ws.drop f).take (l - f)).sum
def val (ws : List Int) : Nat → Nat → Nat → Option Int
  | 0, f, l => if l - f = 1 then some 0 else none
  | d + 1, f, l => if l - f = 1 then some 0 else if l - f > 2 ^ (d + 1) then none else (bestO (val ws d) f l (l - f - 1)).map fun p => sumW ws f l + p.1
theorem bestO_some {v : Nat → Nat → Option Int} {f l : Nat} : ∀ {i : Nat} {b : Int} {m : Nat}, bestO v f l i = some (b, m) → f + 1 ≤ m ∧ m < f + 1 + i ∧ bothO (v f m) (v m l) = some b ∧ ∀ j, j < i → ∀ x, bothO (v f (f + 1 + j)) (v (f + 1 + j) l) = some x → b ≤ x
  | 0, _, _, h => by cases h
  | i + 1, b, m, h => by
    unfold bestO at h
    cases hx : bothO (v f (f + 1 + i)) (v (f + 1 + i) l) with
    | none =>
      rw [hx] at h
      obtain ⟨h1, h2, h3, h4⟩ := bestO_some (i := i) h
      refine ⟨h1, by omega, h3, fun j hj x q => ?_⟩
      by_cases e : j = i
      · subst e; rw [hx] at q; cases q
      · exact h4 j (by omega) x q
    | some y =>
      cases hb : bestO v f l i with
      | none =>
        rw [hx, hb] at h
        cases h
        refine ⟨by omega, by omega, hx, fun j hj x q => ?_⟩
        by_cases e : j = i
        · subst e; rw [hx] at q; cases q; exact Int.le_refl _
        · exact absurd q (bestO_none hb j (by omega) x)
      | some p =>
        obtain ⟨b', m'⟩ := p
        rw [hx, hb] at h
        obtain ⟨h1, h2, h3, h4⟩ := bestO_some (i := i) hb
        simp only at h
        split at h
        · rename_i hlt
          cases h
          refine ⟨by omega, by omega, hx, fun j hj x q => ?_⟩
          by_cases e : j = i
          · subst e; rw [hx] at q; cases q; exact Int.le_refl _
          · have := h4 j (by omega) x q; omega
        · rename_i hlt
          cases h
          refine ⟨h1, by omega, h3, fun j hj x q => ?_⟩
          by_cases e : j = i
          · subst e; rw [hx] at q; cases q; omega
          · exact h4 j (by omega) x q
where
  bestO_none {v : Nat → Nat → Option Int} {f l : Nat} : ∀ {i : Nat}, bestO v f l i = none → ∀ j, j < i → ∀ x, ¬ bothO (v f (f + 1 + j)) (v (f + 1 + j) l) = some x
    | 0, _, j, hj, _, _ => absurd hj (Nat.not_lt_zero _)
    | i + 1, h, j, hj, x, q => by
      unfold bestO at h
      cases hx : bothO (v f (f + 1 + i)) (v (f + 1 + i) l) with
      | none =>
        rw [hx] at h
        by_cases e : j = i
        · subst e; rw [hx] at q; cases q
        · exact bestO_none (i := i) h j (by omega) x q
      | some y =>
        rw [hx] at h
        cases hb : bestO v f l i with
        | none => rw [hb] at h; cases h
        | some p =>
          rw [hb] at h
          simp only at h
          split at h <;> cases h
theorem val_room (ws : List Int) : ∀ (d f l : Nat), f < l → ((val ws d f l = none ↔ l - f > 2 ^ d))
  | 0, f, l, h => by
    unfold val
    by_cases e : l - f = 1
    · rw [if_pos e]; simp; omega
    · rw [if_neg e]; simp; omega
  | d + 1, f, l, h => by
    have p2 : 0 < 2 ^ d := Nat.pow_pos (by decide)
    have pe : 2 ^ (d + 1) = 2 * 2 ^ d := Nat.pow_succ'
    unfold val
    by_cases e : l - f = 1
    · rw [if_pos e]; simp; omega
    · rw [if_neg e]
      by_cases e2 : l - f > 2 ^ (d + 1)
      · rw [if_pos e2]; simp; exact e2
      · rw [if_neg e2]
        have hne : bestO (val ws d) f l (l - f - 1) ≠ none := by
          intro q
          -- a middle with room on both sides
          have hm : ∃ j, j < l - f - 1 ∧ (f + 1 + j) - f ≤ 2 ^ d ∧ l - (f + 1 + j) ≤ 2 ^ d := by
            by_cases c : l - f - 1 ≤ 2 ^ d
            · exact ⟨0, by omega, by omega, by omega⟩
            · exact ⟨2 ^ d - 1, by omega, by omega, by omega⟩
          obtain ⟨j, hj, h1, h2⟩ := hm
          have a1 := val_room ws d f (f + 1 + j) (by omega)
          have a2 := val_room ws d (f + 1 + j) l (by omega)
          cases hv1 : val ws d f (f + 1 + j) with
          | none => have := a1.mp hv1; omega
          | some x =>
            cases hv2 : val ws d (f + 1 + j) l with
            | none => have := a2.mp hv2; omega
            | some y =>
              exact bestO_some.bestO_none q j hj (x + y) (by rw [hv1, hv2]; rfl)
        cases hb : bestO (val ws d) f l (l - f - 1) with
        | none => exact absurd hb hne
        | some p => simp; omega
end Mine

set_option linter.unusedVariables false
namespace Mine
def midO (ws : List Int) (d f l : Nat) : Nat := match bestO (val ws d) f l (l - f - 1) with
  | some p => p.2
  | none => f + 1
def prun (ws : List Int) : Nat → Nat → Nat → List Nat
  | 0, f, l => List.replicate (l - f) 0
  | d + 1, f, l => if l - f = 1 then [0] else (prun ws d f (midO ws d f l) ++ prun ws d (midO ws d f l) l).map (· + 1)
theorem val_node {ws : List Int} {d f l : Nat} {x : Int} (h : val ws (d + 1) f l = some x) (h1 : l - f ≠ 1) : ∃ a b, val ws d f (midO ws d f l) = some a ∧ val ws d (midO ws d f l) l = some b ∧ x = sumW ws f l + (a + b) ∧ f < midO ws d f l ∧ midO ws d f l < l ∧
    bestO (val ws d) f l (l - f - 1) = some (a + b, midO ws d f l) := by
  rw [val, if_neg h1] at h
  split at h
  · cases h
  · cases hb : bestO (val ws d) f l (l - f - 1) with
    | none => rw [hb] at h; cases h
    | some p =>
      obtain ⟨b, m⟩ := p
      have hm : midO ws d f l = m := by unfold midO; rw [hb]
      rw [hb] at h
      obtain ⟨g1, g2, g3, g4⟩ := bestO_some hb
      rw [hm]
      cases ha : val ws d f m with
      | none => rw [ha] at g3; cases g3
      | some a =>
        cases hc : val ws d m l with
        | none => rw [ha, hc] at g3; cases g3
        | some c =>
          rw [ha, hc] at g3
          have : a + c = b := by injection g3
          subst this
          refine ⟨a, c, rfl, rfl, ?_, by omega, by omega, rfl⟩
          injection h with h
          exact h.symm
theorem val_one {ws : List Int} {d f l : Nat} (h : l - f = 1) : val ws d f l = some 0 := by cases d <;> (rw [val, if_pos h])
theorem prun_one {ws : List Int} {d f l : Nat} (h : l - f = 1) : prun ws d f l = [0] := by
  cases d with
  | zero => rw [prun, h]; rfl
  | succ d => rw [prun, if_pos h]
theorem val_zero {ws : List Int} {f l : Nat} {x : Int} (h : val ws 0 f l = some x) : l - f = 1 := by
  rw [val] at h
  split at h
  · assumption
  · cases h
theorem prun_len {ws : List Int} : ∀ {d f l : Nat} {x : Int}, val ws d f l = some x → (prun ws d f l).length = l - f
  | 0, f, l, x, h => by rw [prun]; simp
  | d + 1, f, l, x, h => by
    by_cases h1 : l - f = 1
    · rw [prun_one h1, h1]; rfl
    · obtain ⟨a, b, ha, hb, _, m1, m2, _⟩ := val_node h h1
      rw [prun, if_neg h1, List.length_map, List.length_append, prun_len ha, prun_len hb]; omega
theorem prun_lv {ws : List Int} : ∀ {d f l : Nat} {x : Int} (e : Nat), val ws d f l = some x → Lv e ((prun ws d f l).map (· + e)) ∧ ∀ y ∈ prun ws d f l, y ≤ d
  | 0, f, l, x, e, h => by
    have h1 := val_zero h
    rw [prun_one h1]
    exact ⟨by simpa using Lv.leaf e, by simp⟩
  | d + 1, f, l, x, e, h => by
    by_cases h1 : l - f = 1
    · rw [prun_one h1]
      exact ⟨by simpa using Lv.leaf e, by simp⟩
    · obtain ⟨a, b, ha, hb, _, m1, m2, _⟩ := val_node h h1
      obtain ⟨p1, p2⟩ := prun_lv (e + 1) ha
      obtain ⟨q1, q2⟩ := prun_lv (e + 1) hb
      rw [prun, if_neg h1]
      refine ⟨?_, fun y hy => ?_⟩
      · have := Lv.node p1 q1
        rw [← List.map_append] at this
        rw [List.map_map]
        have e' : ((fun x => x + e) ∘ fun x => x + 1) = fun x => x + (e + 1) := by funext z; simp; omega
        rw [e']; exact this
      · obtain ⟨z, hz, rfl⟩ := List.mem_map.mp hy
        rcases List.mem_append.mp hz with hz | hz
        · have := p2 z hz; omega
        · have := q2 z hz; omega
theorem prun_pos {ws : List Int} {d f l : Nat} {x : Int} (h : val ws d f l = some x) (h1 : l - f ≠ 1) : ∀ y ∈ prun ws d f l, 1 ≤ y := by
  cases d with
  | zero => exact absurd (val_zero h) h1
  | succ d =>
    rw [prun, if_neg h1]
    intro y hy
    obtain ⟨z, _, rfl⟩ := List.mem_map.mp hy
    omega
def wRow (ws : List Int) : Nat → List Nat → Int
  | _, [] => 0
  | f, x :: xs => ws.getD f 0 * (x : Int) + wRow ws (f + 1) xs
theorem wRow_app (ws : List Int) : ∀ (xs ys : List Nat) (f : Nat), wRow ws f (xs ++ ys) = wRow ws f xs + wRow ws (f + xs.length) ys
  | [], ys, f => by simp [wRow]
  | x :: xs, ys, f => by
    simp only [List.cons_append, wRow, wRow_app ws xs ys (f + 1), List.length_cons]
    rw [show f + 1 + xs.length = f + (xs.length + 1) by omega]; omega
theorem sumW_cons (ws : List Int) {f l : Nat} (h1 : f < l) (h2 : f < ws.length) : sumW ws f l = ws.getD f 0 + sumW ws (f + 1) l := by
  unfold sumW
  rw [List.drop_eq_getElem_cons h2, show l - f = (l - (f + 1)) + 1 by omega, List.take_succ_cons, List.sum_cons]
  simp [List.getD, h2]
theorem wRow_map (ws : List Int) : ∀ (xs : List Nat) (f : Nat), f + xs.length ≤ ws.length → wRow ws f (xs.map (· + 1)) = sumW ws f (f + xs.length) + wRow ws f xs
  | [], f, _ => by simp [wRow, sumW]
  | x :: xs, f, h => by
    simp only [List.length_cons] at h
    rw [List.map_cons, wRow, wRow, wRow_map ws xs (f + 1) (by omega), List.length_cons, sumW_cons ws (f := f) (by omega) (by omega), show f + 1 + xs.length = f + (xs.length + 1) by omega, Int.natCast_add, Int.mul_add]
    simp; omega
theorem wRow_zero (ws : List Int) : ∀ (k f : Nat), wRow ws f (List.replicate k 0) = 0
  | 0, f => rfl
  | k + 1, f => by rw [List.replicate_succ, wRow, wRow_zero ws k]; simp
theorem prun_weight {ws : List Int} : ∀ {d f l : Nat} {x : Int}, val ws d f l = some x → f ≤ l → l ≤ ws.length → wRow ws f (prun ws d f l) = x
  | 0, f, l, x, h, hf, hl => by
    have h1 := val_zero h
    rw [val_one h1] at h
    cases h
    rw [prun, wRow_zero]
  | d + 1, f, l, x, h, hf, hl => by
    by_cases h1 : l - f = 1
    · rw [val_one h1] at h
      cases h
      rw [prun_one h1]; simp [wRow]
    · obtain ⟨a, b, ha, hb, e, m1, m2, _⟩ := val_node h h1
      have hla := prun_len ha
      have hlb := prun_len hb
      rw [prun, if_neg h1, wRow_map ws _ f (by rw [List.length_append]; omega), wRow_app, prun_weight ha (by omega) (by omega), hla, show f + (midO ws d f l - f) = midO ws d f l by omega, prun_weight hb (by omega) hl,
        List.length_append, hla, hlb, show f + (midO ws d f l - f + (l - midO ws d f l)) = l by omega]
      exact e.symm
theorem Lv.len_pos {d : Nat} {xs : List Nat} (h : Lv d xs) : 0 < xs.length := by
  induction h with
  | leaf => simp
  | node _ _ i1 _ => rw [List.length_append]; omega
theorem Lv.len_le {d : Nat} {xs : List Nat} (h : Lv d xs) {L : Nat} (hL : ∀ x ∈ xs, x ≤ L) : xs.length ≤ 2 ^ (L - d) := by
  rw [← h.kraft hL]
  generalize xs = ys at *
  clear h
  induction ys with
  | nil => simp
  | cons y ys ih =>
    have := ih fun x hx => hL x (.tail _ hx)
    have hp : 0 < 2 ^ (L - y) := Nat.pow_pos (by decide)
    rw [List.map_cons, List.sum_cons, List.length_cons]; omega
theorem wRow_sub (ws : List Int) (e : Nat) : ∀ (xs : List Nat) (f : Nat), (∀ x ∈ xs, e + 1 ≤ x) → f + xs.length ≤ ws.length → wRow ws f (xs.map (· - e)) = sumW ws f (f + xs.length) + wRow ws f (xs.map (· - (e + 1)))
  | [], f, _, _ => by simp [wRow, sumW]
  | x :: xs, f, hx, h => by
    simp only [List.length_cons] at h
    have h1 := hx x (.head _)
    rw [List.map_cons, List.map_cons, wRow, wRow, wRow_sub ws e xs (f + 1) (fun y hy => hx y (.tail _ hy)) (by omega), List.length_cons, sumW_cons ws (f := f) (by omega) (by omega), show f + 1 + xs.length = f + (xs.length + 1) by omega,
      show x - e = x - (e + 1) + 1 by omega, Int.natCast_add, Int.mul_add]
    simp; omega
theorem val_least {ws : List Int} {e : Nat} {zs : List Nat} (h : Lv e zs) : ∀ {d f : Nat}, (∀ z ∈ zs, z ≤ e + d) → f + zs.length ≤ ws.length → ∃ x, val ws d f (f + zs.length) = some x ∧ x ≤ wRow ws f (zs.map (· - e)) := by
  induction h with
  | leaf e =>
    intro d f hz hl
    exact ⟨0, val_one (by simp), by simp [wRow]⟩
  | @node e as bs h1 h2 ih1 ih2 =>
    intro d f hz hl
    have hla := h1.len_pos
    have hlb := h2.len_pos
    rw [List.length_append] at hl ⊢
    obtain ⟨z, hzm⟩ : ∃ z, z ∈ as := List.exists_mem_of_ne_nil _ (by intro q; rw [q] at hla; simp at hla)
    have hz1 := h1.ge z hzm
    have hz2 := hz z (List.mem_append_left _ hzm)
    obtain ⟨d, rfl⟩ : ∃ d', d = d' + 1 := ⟨d - 1, by omega⟩
    have hza : ∀ z ∈ as, z ≤ e + 1 + d := fun z hz' => by have := hz z (List.mem_append_left _ hz'); omega
    have hzb : ∀ z ∈ bs, z ≤ e + 1 + d := fun z hz' => by have := hz z (List.mem_append_right _ hz'); omega
    obtain ⟨a, ha1, ha2⟩ := ih1 (d := d) (f := f) hza (by omega)
    obtain ⟨b, hb1, hb2⟩ := ih2 (d := d) (f := f + as.length) hzb (by omega)
    have hroom : ¬ (f + (as.length + bs.length)) - f > 2 ^ (d + 1) := by
      have q1 := h1.len_le hza
      have q2 := h2.len_le hzb
      rw [show e + 1 + d - (e + 1) = d by omega] at q1 q2
      rw [Nat.pow_succ]; omega
    have hne : val ws (d + 1) f (f + (as.length + bs.length)) ≠ none := fun q => hroom ((val_room ws _ _ _ (by omega)).mp q)
    cases hv : val ws (d + 1) f (f + (as.length + bs.length)) with
    | none => exact absurd hv hne
    | some x =>
      refine ⟨x, rfl, ?_⟩
      obtain ⟨a', b', _, _, ex, _, _, hbest⟩ := val_node hv (by omega)
      obtain ⟨_, _, _, hle⟩ := bestO_some hbest
      have := hle (as.length - 1) (by omega) (a + b) (by rw [show f + 1 + (as.length - 1) = f + as.length by omega, show f + (as.length + bs.length) = f + as.length + bs.length by omega, ha1, hb1]; rfl)
      have hge : ∀ z ∈ as ++ bs, e + 1 ≤ z := fun z hz' => by
        rcases List.mem_append.mp hz' with q | q
        · exact h1.ge z q
        · exact h2.ge z q
      rw [wRow_sub ws e (as ++ bs) f hge (by rw [List.length_append]; omega), List.map_append, wRow_app, List.length_map, List.length_append]
      omega
def placed (b : Nat) : Nat → List Nat → Nat
  | p, [] => p
  | p, x :: xs => placed b ((if p % 2 ^ (b - x) > 0 then p + 2 ^ (b - x) - p % 2 ^ (b - x) else p) + 2 ^ (b - x)) xs
theorem placed_app (b : Nat) : ∀ (xs ys : List Nat) (p : Nat), placed b p (xs ++ ys) = placed b (placed b p xs) ys
  | [], ys, p => rfl
  | x :: xs, ys, p => by simp only [List.cons_append, placed]; exact placed_app b xs ys _
theorem Lv.placed {e : Nat} {xs : List Nat} (h : Lv e xs) {b : Nat} (hb : ∀ x ∈ xs, x ≤ b) : ∀ p, p % 2 ^ (b - e) = 0 → Mine.placed b p xs = p + 2 ^ (b - e) := by
  induction h with
  | leaf e => intro p hp; simp [Mine.placed, hp]
  | @node e as bs h1 h2 ih1 ih2 =>
    intro p hp
    have hlt : e + 1 ≤ b := by
      obtain ⟨z, hzm⟩ : ∃ z, z ∈ as := List.exists_mem_of_ne_nil _ (by intro q; have := h1.len_pos; rw [q] at this; simp at this)
      exact Nat.le_trans (h1.ge z hzm) (hb z (List.mem_append_left _ hzm))
    have e2 : 2 ^ (b - e) = 2 ^ (b - (e + 1)) * 2 := by rw [show b - e = b - (e + 1) + 1 by omega, Nat.pow_succ]
    have hp1 : p % 2 ^ (b - (e + 1)) = 0 := by
      rw [e2] at hp
      exact Nat.mod_eq_zero_of_dvd (Nat.dvd_trans (Nat.dvd_mul_right _ _) (Nat.dvd_of_mod_eq_zero hp))
    rw [placed_app, ih1 (fun x hx => hb x (List.mem_append_left _ hx)) p hp1, ih2 (fun x hx => hb x (List.mem_append_right _ hx)) _ (by rw [Nat.add_mod, hp1]; simp), e2]
    omega
end Mine

set_option linter.unusedVariables false
namespace Mine
def pcnt (ws : List Int) : Nat → Nat → Nat → Nat → Nat
  | 0, _, _, _ => 0
  | d + 1, f, l, i => if l - f = 1 then 0 else (if f ≤ i ∧ i < l then 1 else 0) + (pcnt ws d f (midO ws d f l) i + pcnt ws d (midO ws d f l) l i)
theorem pcnt_one {ws : List Int} {d f l i : Nat} (h : l - f = 1) : pcnt ws d f l i = 0 := by
  cases d with
  | zero => rfl
  | succ d => rw [pcnt, if_pos h]
theorem pcnt_eq {ws : List Int} : ∀ {d f l : Nat} {x : Int}, val ws d f l = some x → ∀ i, pcnt ws d f l i = if f ≤ i ∧ i < l then (prun ws d f l).getD (i - f) 0 else 0
  | 0, f, l, x, h, i => by
    rw [prun_one (val_zero h), pcnt]
    have := val_zero h
    split
    · rw [show i - f = 0 by omega]; rfl
    · rfl
  | d + 1, f, l, x, h, i => by
    by_cases h1 : l - f = 1
    · rw [pcnt_one h1, prun_one h1]
      split
      · rw [show i - f = 0 by omega]; rfl
      · rfl
    · obtain ⟨a, b, ha, hb, _, m1, m2, _⟩ := val_node h h1
      have hla := prun_len ha
      have hlb := prun_len hb
      rw [pcnt, if_neg h1, pcnt_eq ha, pcnt_eq hb, prun, if_neg h1]
      by_cases q : f ≤ i ∧ i < l
      · rw [if_pos q, if_pos q]
        by_cases q2 : i < midO ws d f l
        · rw [if_pos (by omega), if_neg (by omega)]
          have hlt : i - f < (prun ws d f (midO ws d f l)).length := by omega
          have e1 : ((prun ws d f (midO ws d f l) ++ prun ws d (midO ws d f l) l).map (· + 1)).getD (i - f) 0 = (prun ws d f (midO ws d f l)).getD (i - f) 0 + 1 := by
            unfold List.getD
            rw [List.getElem?_map, List.getElem?_append_left hlt]; simp [hlt]
          rw [e1]; omega
        · rw [if_neg (by omega), if_pos (by omega)]
          have hge : (prun ws d f (midO ws d f l)).length ≤ i - f := by omega
          have hlt : i - midO ws d f l < (prun ws d (midO ws d f l) l).length := by omega
          have e2 : i - f - (prun ws d f (midO ws d f l)).length = i - midO ws d f l := by omega
          have e1 : ((prun ws d f (midO ws d f l) ++ prun ws d (midO ws d f l) l).map (· + 1)).getD (i - f) 0 = (prun ws d (midO ws d f l) l).getD (i - midO ws d f l) 0 + 1 := by
            unfold List.getD
            rw [List.getElem?_map, List.getElem?_append_right hge, e2]; simp [hlt]
          rw [e1]; omega
      · rw [if_neg q, if_neg q, if_neg (by omega), if_neg (by omega)]
theorem cnt_prun {ws : List Int} {d n : Nat} {x : Int} (h : val ws d 0 n = some x) : cntL n (pcnt ws d 0 n) = (prun ws d 0 n).map fun k : Nat => (k : Int) := by
  have hl := prun_len h
  apply List.ext_getElem?
  intro i
  simp only [cntL, List.getElem?_map]
  by_cases q : i < n
  · rw [List.getElem?_range q, Option.map_some, pcnt_eq h, if_pos (by omega)]
    have hlt : i < (prun ws d 0 n).length := by omega
    simp [List.getD, hlt]
  · rw [List.getElem?_eq_none (by simp; omega), List.getElem?_eq_none (by omega)]; rfl
def ordL (ws : List Int) (b : Nat) : List Int := if ws.length < 2 then cntL ws.length (fun _ => 1) else cntL ws.length (pcnt ws b 0 ws.length)
theorem ordL_len (ws : List Int) (b : Nat) : (ordL ws b).length = ws.length := by unfold ordL; split <;> exact cntL_len _ _
theorem val_some {ws : List Int} {d f l : Nat} (h : f < l) (hr : l - f ≤ 2 ^ d) : ∃ x, val ws d f l = some x := by
  cases hv : val ws d f l with
  | none => exact absurd ((val_room ws d f l h).mp hv) (by omega)
  | some x => exact ⟨x, rfl⟩
theorem wRow_sum (ws : List Int) : ∀ (ks : List Nat) (f : Nat), ((List.range ks.length).map fun i => ws.getD (f + i) 0 * ((ks.getD i 0 : Nat) : Int)).sum = wRow ws f ks
  | [], f => rfl
  | k :: ks, f => by
    rw [List.length_cons, List.range_succ_eq_map, List.map_cons, List.sum_cons, List.map_map, wRow, ← wRow_sum ws ks (f + 1)]
    congr 2
    apply List.map_congr_left
    intro i _
    simp only [Function.comp]
    rw [show f + Nat.succ i = f + 1 + i by omega]
    simp [List.getD]
abbrev Rn := Nat × Nat × Nat
def rnD (r : Rn) : D := .tup [.int r.1, .int r.2.1, .int r.2.2]
def rnC (ws : List Int) (rs : List Rn) (i : Nat) : Nat := (rs.map fun r => pcnt ws r.2.2 r.1 r.2.1 i).sum
def rnM (rs : List Rn) : Nat := (rs.map fun r => 2 * (r.2.1 - r.1) - 1).sum
def RnOk (ws : List Int) (B : Nat) (r : Rn) : Prop := r.1 < r.2.1 ∧ r.2.1 ≤ ws.length ∧ r.2.2 ≤ B ∧ r.2.1 - r.1 ≤ 2 ^ r.2.2
end Mine

set_option linter.unusedVariables false
namespace Mine
def nI (zs : List Nat) : List Int := zs.map fun k : Nat => (k : Int)
theorem nI_len (zs : List Nat) : (nI zs).length = zs.length := by simp [nI]
theorem nI_getD (zs : List Nat) (i : Nat) : (nI zs).getD i 0 = ((zs.getD i 0 : Nat) : Int) := by
  unfold nI List.getD
  rw [List.getElem?_map]
  cases zs[i]? <;> rfl
theorem nI_take (zs : List Nat) (i : Nat) : nI (zs.take i) = (nI zs).take i := by simp [nI]
theorem nI_drop (zs : List Nat) (i : Nat) : nI (zs.drop i) = (nI zs).drop i := by simp [nI]
theorem cntL_nI (n : Nat) (g : Nat → Nat) : cntL n g = nI ((List.range n).map g) := by simp [cntL, nI]
def LeafOk (m b : Nat) (zs : List Nat) : Prop := zs.length = m ∧ (∀ z ∈ zs, 1 ≤ z ∧ z ≤ b) ∧ ((m = 1 ∧ zs = [1]) ∨ (2 ≤ m ∧ Lv 0 zs))
theorem Lv.pos {zs : List Nat} (h : Lv 0 zs) (h2 : 2 ≤ zs.length) : ∀ z ∈ zs, 1 ≤ z := by
  cases h with
  | leaf => simp at h2
  | node h1 h3 =>
    intro z hz
    rcases List.mem_append.mp hz with q | q
    · exact h1.ge z q
    · exact h3.ge z q
def ordN (ws : List Int) (b : Nat) : List Nat := if ws.length < 2 then List.replicate ws.length 1 else prun ws b 0 ws.length
theorem ordL_eq {ws : List Int} {b : Nat} (hr : ws.length ≤ 2 ^ b) : ordL ws b = nI (ordN ws b) := by
  unfold ordL ordN
  by_cases h : ws.length < 2
  · rw [if_pos h, if_pos h, cntL_nI]
    congr 1
    apply List.ext_getElem?
    intro i
    simp only [List.getElem?_map, List.getElem?_replicate]
    by_cases q : i < ws.length <;> simp [q]
  · rw [if_neg h, if_neg h]
    obtain ⟨x, hx⟩ := val_some (ws := ws) (d := b) (f := 0) (l := ws.length) (by omega) (by omega)
    exact cnt_prun hx
theorem ordN_len {ws : List Int} {b : Nat} (hr : ws.length ≤ 2 ^ b) : (ordN ws b).length = ws.length := by
  have := congrArg List.length (ordL_eq hr)
  rw [ordL_len, nI_len] at this
  exact this.symm
theorem ordN_leaf {ws : List Int} {b : Nat} (hb : 1 ≤ b) (h1 : 1 ≤ ws.length) (hr : ws.length ≤ 2 ^ b) : LeafOk ws.length b (ordN ws b) := by
  refine ⟨ordN_len hr, ?_, ?_⟩ <;> unfold ordN
  · by_cases h : ws.length < 2
    · rw [if_pos h]
      intro z hz
      rw [List.eq_of_mem_replicate hz]; omega
    · rw [if_neg h]
      obtain ⟨x, hx⟩ := val_some (ws := ws) (d := b) (f := 0) (l := ws.length) (by omega) (by omega)
      intro z hz
      exact ⟨prun_pos hx (by omega) z hz, (prun_lv 0 hx).2 z hz⟩
  · by_cases h : ws.length < 2
    · rw [if_pos h]
      have : ws.length = 1 := by omega
      exact .inl ⟨this, by rw [this]; rfl⟩
    · rw [if_neg h]
      obtain ⟨x, hx⟩ := val_some (ws := ws) (d := b) (f := 0) (l := ws.length) (by omega) (by omega)
      exact .inr ⟨by omega, by simpa using (prun_lv 0 hx).1⟩
theorem LeafOk.placed {m b : Nat} {zs : List Nat} (h : LeafOk m b zs) : Mine.placed b 0 zs ≤ 2 ^ b := by
  obtain ⟨_, h1, ⟨_, rfl⟩ | ⟨_, h2⟩⟩ := h
  · have : b = (b - 1) + 1 := by have := h1 1 (.head _); omega
    simp only [Mine.placed, Nat.zero_mod, Nat.lt_irrefl, if_false, Nat.zero_add, gt_iff_lt]
    exact Nat.pow_le_pow_right (by decide) (by omega)
  · rw [h2.placed (fun x hx => (h1 x hx).2) 0 (by simp)]
    simp
theorem ord_least {ws : List Int} {b : Nat} {zs : List Nat} (hr : ws.length ≤ 2 ^ b) (h : LeafOk ws.length b zs) : wRow ws 0 (ordN ws b) ≤ wRow ws 0 zs := by
  obtain ⟨hl, h1, ⟨hm, rfl⟩ | ⟨hm, h2⟩⟩ := h
  · unfold ordN
    rw [if_pos (by omega), hm]
    exact Int.le_refl _
  · unfold ordN
    rw [if_neg (by omega)]
    obtain ⟨x, hx, hle⟩ := val_least (ws := ws) h2 (d := b) (f := 0) (fun z hz => by have := h1 z hz; omega) (by omega)
    rw [hl, Nat.zero_add] at hx
    rw [prun_weight hx (Nat.zero_le _) (Nat.le_refl _)]
    simpa using hle
theorem wSum (ws : List Int) (zs : List Nat) (h : zs.length = ws.length) : ((List.range ws.length).map fun i => ws.getD i 0 * (nI zs).getD i 0).sum = wRow ws 0 zs := by
  rw [← wRow_sum, h]
  congr 1
  apply List.map_congr_left
  intro i _
  rw [nI_getD, Nat.zero_add]
theorem getElem_cut {zs : List Nat} {j : Nat} (h : j < zs.length) : zs = zs.take j ++ zs.getD j 0 :: zs.drop (j + 1) := by
  have : zs.getD j 0 = zs[j] := by simp [List.getD, h]
  rw [this, List.getElem_cons_drop, List.take_append_drop]
end Mine

open PySem PyProof.Rows
set_option linter.unusedVariables false
set_option maxRecDepth 100000
namespace Mine
local macro_rules | `(tactic| walk_at "m_arith") => `(tactic| first | decide | omega)
local macro_rules | `(tactic| walk_at "m_mem") => `(tactic| first
  | (with_reducible exact mHead)
  | ((with_reducible refine' mTail ?kx); (case kx => walk_at "m_mem")))
local macro_rules | `(tactic| walk_at "m_look") => `(tactic| first
  | (with_reducible exact Look.here)
  | ((with_reducible refine' Look.there ?kx); (case kx => walk_at "m_look")))
local macro_rules | `(tactic| walk_at "m_upd") => `(tactic| first
  | (with_reducible exact Upd.here)
  | ((with_reducible refine' Upd.there ?kx); (case kx => walk_at "m_upd")))
local macro_rules | `(tactic| walk_at "m_kind") => `(tactic| first
  | ((with_reducible refine' kindK ?k1 ?k2); (case k1 => with_reducible assumption); (case k2 => walk_at "m_mem"))
  | ((with_reducible refine' kindC ?k0 ?k1 ?k2 ?k3); (case k0 => exact rfl); (case k1 => with_reducible assumption); (case k2 => walk_at "m_mem"); (case k3 => decide)))
local macro_rules | `(tactic| walk_at "m_name") => `(tactic| first
  | ((with_reducible refine' nm_local ?k1 ?k2 ?k3 ?_); (case k1 => with_reducible assumption); (case k2 => walk_at "m_mem"); (case k3 => walk_at "m_look"))
  | ((with_reducible refine' nm_cell ?k1 ?k2 ?k3 ?_); (case k1 => with_reducible assumption); (case k2 => walk_at "m_mem"); (case k3 => walk_at "m_look"))
  | ((with_reducible refine' nc_local ?k0 ?k1 ?k2 ?k3 ?_); (case k0 => exact rfl); (case k1 => with_reducible assumption); (case k2 => walk_at "m_mem"); (case k3 => walk_at "m_look"))
  | ((with_reducible refine' nc_cap ?k0 ?k1 ?k2 ?k3 ?k4 ?k5 ?k6 ?_); (case k0 => exact rfl); (case k1 => with_reducible assumption); (case k2 => with_reducible assumption); (case k3 => with_reducible assumption); (case k4 => walk_at "m_mem"); (case k5 => walk_at "m_mem"); (case k6 => walk_at "m_look"))
  | ((with_reducible refine' ev_g ?k0 ?k1 ?k2 ?k3 ?k4 ?_); (case k0 => with_reducible assumption); (case k3 => walk_at "m_mem"); (case k1 => walk_at "m_kind"); (case k2 => exact rfl); (case k4 => exact fun _ => Rep.int _ _))
  | ((with_reducible refine' ev_c ?k0 ?k1 ?k2 ?k3 ?_); (case k0 => with_reducible assumption); (case k3 => walk_at "m_mem"); (case k1 => walk_at "m_kind"); (case k2 => exact rfl))
  | ((with_reducible refine' ev_b ?k0 ?k1 ?k2 ?k3 ?k4 ?_); (case k0 => with_reducible assumption); (case k4 => walk_at "m_mem"); (case k1 => walk_at "m_kind"); (case k2 => exact rfl); (case k3 => exact rfl)))
local macro_rules | `(tactic| walk_at "m_sto") => `(tactic| first
  | ((with_reducible refine' st_local ?k1 ?k2 ?k3 ?k4 ?_); (case k1 => with_reducible assumption); (case k2 => with_reducible assumption); (case k3 => walk_at "m_mem"); (case k4 => walk_at "m_upd"))
  | ((with_reducible refine' st_cell ?k1 ?k2 ?k3 ?k4 ?_); (case k1 => with_reducible assumption); (case k2 => with_reducible assumption); (case k3 => walk_at "m_mem"); (case k4 => walk_at "m_upd"))
  | ((with_reducible refine' st_comp ?k0 ?k1 ?k2 ?k3 ?k4 ?_); (case k0 => exact rfl); (case k1 => with_reducible assumption); (case k2 => with_reducible assumption); (case k3 => walk_at "m_mem"); (case k4 => walk_at "m_upd")))
local macro_rules | `(tactic| walk_at "m_mul") => `(tactic| first
  | exact IntMulOk.of_left (intBits_le_64 (by walk_at "m_arith") (by walk_at "m_arith"))
  | exact IntMulOk.of_right (intBits_le_64 (by walk_at "m_arith") (by walk_at "m_arith")))
local macro_rules | `(tactic| walk_at "m_call") => `(tactic| first
  | ((with_reducible refine' call_g ?k0 ?k1 ?k2 ?k3 ?k4 ?_); (case k0 => with_reducible assumption); (case k3 => walk_at "m_mem"); (case k1 => walk_at "m_kind"); (case k2 => exact rfl); (case k4 => exact rfl))
  | ((with_reducible refine' call_b ?k0 ?k1 ?k2 ?k3 ?k4 ?k5 ?_); (case k0 => with_reducible assumption); (case k4 => walk_at "m_mem"); (case k1 => walk_at "m_kind"); (case k2 => exact rfl); (case k3 => exact rfl); (case k5 => exact rfl))
  | ((with_reducible refine' call_t ?k0 ?k1 ?k2 ?k3 ?k4 ?k5 ?_); (case k0 => with_reducible assumption); (case k4 => walk_at "m_mem"); (case k1 => walk_at "m_kind"); (case k2 => exact rfl); (case k3 => exact rfl); (case k5 => exact rfl)))
local macro_rules | `(tactic| walk_at "m_bin") => `(tactic| first
  | (with_reducible refine bin_add ?_)
  | (with_reducible refine bin_sub ?_)
  | (with_reducible refine bin_mod (by walk_at "m_arith") ?_)
  | (with_reducible refine bin_div (by walk_at "m_arith") (by walk_at "m_arith") ?_)
  | (with_reducible refine bin_mul (by walk_at "m_mul") ?_)
  | (with_reducible refine bin_shl (by walk_at "m_arith") (by walk_at "m_arith") (by decide) ?_)
  | (with_reducible refine bin_shr (by walk_at "m_arith") ?_))
local macro_rules | `(tactic| walk_at "m_cmp") => `(tactic| first
  | (with_reducible refine cmp_lt ?_)
  | (with_reducible refine cmp_le ?_)
  | (with_reducible refine cmp_gt ?_)
  | (with_reducible refine cmp_ge ?_)
  | (with_reducible refine cmp_eq ?_)
  | (with_reducible refine cmp_ne ?_))
local macro_rules | `(tactic| walk_at "m_ev") => `(tactic| first
  | walk_at "m_name"
  | (with_reducible refine ev_int ?_)
  | walk_at "m_call"
  | (with_reducible refine ev_BinOp ?_)
  | (with_reducible refine ev_Compare ?_ rfl)
  | (with_reducible refine ev_BoolOp ?_)
  | (with_reducible refine ev_Not ?_)
  | (with_reducible refine ev_str ?_)
  | (with_reducible refine ev_none ?_)
  | (with_reducible refine ev_bool ?_)
  | (with_reducible refine ev_Chain2 ?_ rfl)
  | (with_reducible refine ev_sliceG ?_)
  | (with_reducible refine ev_Subscript ?_))
local macro_rules | `(tactic| walk_at "m_st") => `(tactic| first
  | (with_reducible refine ex_assign ?_ rfl)
  | (with_reducible refine ex_If ?_)
  | (with_reducible refine ex_Return ?_)
  | (with_reducible refine ex_Return0 ?_)
  | (with_reducible refine ex_Expr ?_ rfl rfl)
  | ((with_reducible refine' ex_raiseS ?k0 ?k1 ?k2 ?k3 ?k4 ?k5 ?_); (case k0 => with_reducible assumption); (case k3 => walk_at "m_mem"); (case k1 => walk_at "m_kind"); (case k2 => exact rfl); (case k4 => with_reducible assumption); (case k5 => exact AOk.handled (by assumption))))
local macro_rules | `(tactic| walk_at "m_te") => `(tactic| first
  | (with_reducible refine te_Not ?_)
  | (with_reducible refine te_BoolOp ?_)
  | (with_reducible refine te_Compare ?_ rfl)
  | (with_reducible refine te_Chain2 ?_ rfl)
  | (with_reducible refine te_value ?_ rfl))
local macro_rules | `(tactic| walk_at "m_log") => `(tactic| first
  | (with_reducible refine evb_and ?_)
  | (with_reducible refine evb_or ?_)
  | (with_reducible refine evb_one ?_)
  | (with_reducible refine tel_and ?_)
  | (with_reducible refine tel_or ?_)
  | (with_reducible refine tel_and_nil ?_)
  | (with_reducible refine tel_or_nil ?_))
local macro_rules | `(tactic| walk_at "m_end") => `(tactic| first
  | (with_reducible refine seq_next ?_)
  | (with_reducible refine seq_ret ?_)
  | (with_reducible refine turn_next ?_)
  | (with_reducible refine turn_ret ?_)
  | (with_reducible refine leave_ret ?_)
  | (with_reducible refine leave_next ?_)
  | (with_reducible refine leave_x ?_)
  | (with_reducible refine cut_next ?_)
  | (with_reducible refine cut_ret ?_)
  | (with_reducible refine seq_brk ?_)
  | (with_reducible refine seq_cont ?_)
  | (with_reducible refine turn_brk ?_)
  | (with_reducible refine turn_cont ?_)
  | (with_reducible refine cut_brk ?_)
  | (with_reducible refine cut_cont ?_))
local macro_rules | `(tactic| walk_at "m") => `(tactic| first
  | ((with_reducible refine gEv ?_); walk_at "m_ev")
  | ((with_reducible refine gEx1 ?_); walk_at "m_st")
  | (with_reducible refine ex_seq ?_)
  | (with_reducible refine ex_nil ?_)
  | ((with_reducible refine gTe ?_); walk_at "m_te")
  | (with_reducible refine evl_cons ?_)
  | (with_reducible refine evl_nil ?_)
  | ((with_reducible refine gBin ?_); walk_at "m_bin")
  | ((with_reducible refine gCmp ?_); walk_at "m_cmp")
  | ((with_reducible refine gSto ?_); walk_at "m_sto")
  | (with_reducible refine asg_name ?_)
  | (with_reducible refine evo_none ?_)
  | (with_reducible refine evo_some ?_)
  | walk_at "m_log"
  | walk_at "m_end")
local macro_rules | `(tactic| walk_at "k") => `(tactic| ((fail_if_success (with_reducible refine gIf ?_)); walk_at "m"))

abbrev p11 : Program := PySem.Challenge.pw_uf040014_11
section
open PySem PySem.W PySem.Calls PyProof.Rows
/-- the top's run, over a heap that is a tree -/
def runT (tb : String → Option Builtin) (p : Program) (w : World) (n₀ : Nat) (ann : Option Value) : Nat → SharedT → Thread → Option SharedT
  | 0, _, _ => none
  | n + 1, s, t => match through t with
    | true => some s
    | false => match stepOk n₀ ann t with
      | false => none
      | true => match stepT (denote tb) p w s t with
        | some (s', t') => runT tb p w n₀ ann n s' t'
        | none => none
theorem runT_of {tb : String → Option Builtin} {p : Program} {w : World} {n₀ : Nat} {ann : Option Value} : ∀ {n : Nat} {s s' : SharedT} {t : Thread}, runT tb p w n₀ ann n s t = some s' → topRun tb p w n₀ ann n s.abs t = some s'.abs
  | 0, _, _, _, h => by cases h
  | n + 1, s, s', t, h => by
    unfold runT at h
    unfold topRun
    cases ht : through t with
    | true => rw [ht] at h; cases h; rfl
    | false =>
      rw [ht] at h
      cases hk : stepOk n₀ ann t with
      | false => rw [hk] at h; cases h
      | true =>
        rw [hk] at h
        cases hs : stepT (denote tb) p w s t with
        | none => rw [hs] at h; cases h
        | some r => obtain ⟨s₂, t₂⟩ := r; rw [hs] at h; rw [stepT_spec hs]; exact runT_of h
/-- what is looked at behind the top -/
def seenT (p q : Program) (loose : List Str) (Xt : Shared → Bool) {α : Type} (Yf : Shared → α) (H₀ : Heap) (s : Shared) :=
  (staticsOk (importedModules p.main.body) H₀ s.heap && namesBound p s.heap && gensDone s && laidKept H₀ s.heap, openSeen q loose (importedModules p.main.body) Xt true s, Yf s)
theorem left_tree {p q : Program} {loose : List Str} {Xt : Shared → Bool} {α : Type} {Yf : Shared → α} {Ya : World → α} {N M m₀ : Nat} {ann : Option Value} {T0 : Params → BT} {life : Life}
    (open_ : ∀ w : World, (fencedOpening treeTable p w N).map (fun s => (s.heap, s.gens, s.drawn, s.toks)) = some (boot_heap w.params, Array.mk [], boot_drawn, boot_toks))
    (tree : ∀ P : Params, boot_heap P = absHeap (T0 P) m₀ life)
    (size : ∀ P : Params, ((boot_heap P).isNs mainGlobals, (boot_heap P).nsMap mainGlobals "__annotations__") = (true, ann)) (le : Nat.ble M N = true)
    (run : ∀ (w : World) (os : OsState), (runT treeTable p w m₀ ann M ⟨T0 w.params, m₀, life, Array.mk [], boot_drawn, boot_toks, os⟩ (topStub p)).map (fun s => seenT p q loose Xt Yf (boot_heap w.params) s.abs) = some (true, openGood q loose, Ya w)) :
    LeftO p q loose Xt Yf Ya N true := fun w => by
  obtain ⟨⟨h, gs, d, k, os⟩, e, e'⟩ := Option.map_eq_some_iff.mp (open_ w)
  obtain ⟨rfl, rfl, rfl, rfl⟩ : h = boot_heap w.params ∧ gs = Array.mk [] ∧ d = boot_drawn ∧ k = boot_toks := by simpa using e'
  obtain ⟨z1, z3⟩ : _ ∧ _ := by simpa only [Prod.mk.injEq] using size w.params
  obtain ⟨s₁, r0, l⟩ := Option.map_eq_some_iff.mp (run w os)
  have l1 := congrArg Prod.fst l
  have l2 := congrArg (fun x => x.2.1) l
  have l3 := congrArg (fun x => x.2.2) l
  have r := topRun_mono (N - M) _ _ _ _ (runT_of r0)
  rw [show M + (N - M) = N by have := Nat.le_of_ble_eq_true le; omega] at r
  have ab : (⟨T0 w.params, m₀, life, Array.mk [], boot_drawn, boot_toks, os⟩ : SharedT).abs = ⟨boot_heap w.params, Array.mk [], boot_drawn, boot_toks, os⟩ := by
    rw [tree]; rfl
  rw [ab] at r
  have z2 : (boot_heap w.params).objs.size = m₀ := by rw [tree]; exact absHeap_size _ _ _
  have t : topFrom treeTable p w N ⟨boot_heap w.params, Array.mk [], boot_drawn, boot_toks, os⟩ = some s₁.abs := by
    unfold topFrom
    dsimp only
    rw [z1, z2, z3, r]
    show (match staticsOk (importedModules p.main.body) (boot_heap w.params) s₁.abs.heap && namesBound p s₁.abs.heap && gensDone s₁.abs && laidKept (boot_heap w.params) s₁.abs.heap with | true => _ | false => _) = _
    rw [show (staticsOk (importedModules p.main.body) (boot_heap w.params) s₁.abs.heap && namesBound p s₁.abs.heap && gensDone s₁.abs && laidKept (boot_heap w.params) s₁.abs.heap) = true from l1]
  unfold openEnds
  rw [e]
  show (topFrom treeTable p w N _).map _ = _
  rw [t]
  exact congrArg some (Prod.ext l2 l3)
/-- the same by the library's quick twins -/
noncomputable def runQ (p : Program) (w : World) (n₀ : Nat) (ann : Option Value) : Nat → SharedT → Thread → Option SharedT
  | 0, _, _ => none
  | n + 1, s, t => match through t with
    | true => some s
    | false => match Fast.tw6613529449190102663 n₀ ann t with
      | false => none
      | true => match Fast.tw10156331382660048174 (Fast.tw11892475500146522536 Fast.tw14364793385576792824) p w s t with
        | some (s', t') => runQ p w n₀ ann n s' t'
        | none => none
theorem runQ_eq (p : Program) (w : World) (n₀ : Nat) (ann : Option Value) : ∀ (n : Nat) (s : SharedT) (t : Thread), runT Fast.tw14364793385576792824 p w n₀ ann n s t = runQ p w n₀ ann n s t
  | 0, _, _ => rfl
  | n + 1, s, t => by
    unfold runT runQ
    rw [Fast.te6613529449190102663, Fast.te10156331382660048174, Fast.te11892475500146522536]
    cases through t with
    | true => rfl
    | false =>
      cases Fast.tw6613529449190102663 n₀ ann t with
      | false => rfl
      | true =>
        cases Fast.tw10156331382660048174 (Fast.tw11892475500146522536 Fast.tw14364793385576792824) p w s t with
        | none => rfl
        | some r => exact runQ_eq p w n₀ ann n r.1 r.2
noncomputable def seenQ (p q : Program) (loose : List Str) (Xt : Shared → Bool) {α : Type} (Yf : Shared → α) (H₀ : Heap) (s : Shared) :=
  (staticsOk (importedModules p.main.body) H₀ s.heap && namesBound p s.heap && gensDone s && laidKept H₀ s.heap, Fast.tw4187177175401517315 q loose (importedModules p.main.body) Xt true s, Yf s)
theorem seenQ_eq (p q : Program) (loose : List Str) (Xt : Shared → Bool) {α : Type} (Yf : Shared → α) (H₀ : Heap) (s : Shared) : seenT p q loose Xt Yf H₀ s = seenQ p q loose Xt Yf H₀ s := by
  unfold seenT seenQ
  rw [Fast.te4187177175401517315]
noncomputable def bootT (P : Params) : BT :=
  .node (boot_o_0 P) (.node (boot_o_1 P) (.node (boot_o_3 P) (.node (boot_o_7 P) .nil .nil) .nil) (.node (boot_o_5 P) (.node (boot_o_9 P) .nil .nil) .nil))
    (.node (boot_o_2 P) (.node (boot_o_4 P) (.node (boot_o_8 P) .nil .nil) .nil) (.node (boot_o_6 P) (.node (boot_o_10 P) .nil .nil) .nil))
theorem bootT_eq (P : Params) : boot_heap P = absHeap (bootT P) 11 {} := rfl
theorem bootN (P : Params) : ((boot_heap P).isNs mainGlobals, (boot_heap P).nsMap mainGlobals "__annotations__") = (true, some (.ref 6)) := by kernel_rfl
/-- the head: what the top leaves, by one run over a tree -/
theorem left_quick {p q : Program} {loose : List Str} {Xt : Shared → Bool} {α : Type} {Yf : Shared → α} {Ya : World → α} {N M : Nat} (e : opening p = plainProg p.main.scope.names) (f : ∀ s, fenceModules? p s = some s) (h6 : Nat.ble 600 N = true) (le : Nat.ble M N = true)
    (run : ∀ (w : World) (os : OsState), (runQ p w 11 (some (.ref 6)) M ⟨bootT w.params, 11, {}, Array.mk [], boot_drawn, boot_toks, os⟩ (topStub p)).map (fun s => seenQ p q loose Xt Yf (boot_heap w.params) s.abs) = some (true, openGood q loose, Ya w)) : LeftO p q loose Xt Yf Ya N true :=
  left_tree (T0 := bootT) (boot_open e h6 f) bootT_eq bootN le fun w os => by
    rw [Fast.te14364793385576792824, runQ_eq]
    simp only [seenQ_eq]
    exact run w os
end
section
open PySem PySem.W PyProof.Rows
set_option maxRecDepth 100000
set_option maxHeartbeats 8000000
def kx (P : Params) : Frag := []
def kxA : List Addr := []
def vw : Program := { p11 with main := { p11.main with body := [stAt p11 1, stAt p11 2, stAt p11 3, stAt p11 4, stAt p11 5, stAt p11 7, stAt p11 8, stAt p11 9, stAt p11 10, stAt p11 11, stAt p11 12, stAt p11 13, stAt p11 15, stAt p11 16, stAt p11 17, stAt p11 18, stAt p11 19, stAt p11 20, stAt p11 22, stAt p11 23, stAt p11 24, stAt p11 25, stAt p11 26, stAt p11 27, stAt p11 28, stAt p11 29, stAt p11 30, stAt p11 31, stAt p11 32] } }
noncomputable abbrev HK : Hook := kHook kx kxA (fun _ => rfl)
noncomputable abbrev XtL : Shared → Bool := fun s => xlAt vw [] s && recOk (RowW.records (OpenRow.toRowW PySem.Challenge.rw_uf040014_11.row)) s
set_option maxHeartbeats 0 in
theorem run_law (w : World) (os : OsState) : (runQ p11 w 11 (some (.ref 6)) 4000 ⟨bootT w.params, 11, {}, Array.mk [], boot_drawn, boot_toks, os⟩ (topStub p11)).map (fun s => seenQ p11 vw [] XtL (Hook.obs HK) (boot_heap w.params) s.abs) = some (true, openGood vw [], Hook.val HK w) := by kernel_rfl
noncomputable def sd.tw5305108693305235872 : Program := p11
theorem sd.te5305108693305235872 : PySem.Challenge.pw_uf040014_11 = sd.tw5305108693305235872 := rfl
set_option Elab.async true in
theorem sd (h : PySem.Challenge.rw_uf040014_11.row.wellSaid = true → PySem.Challenge.rw_uf040014_11.row.Holds) : PySem.Challenge.rw_uf040014_11.Holds := by
  w_on
  o_law
  exact h (by assumption)
theorem left_law : LeftO p11 vw [] XtL (Hook.obs HK) (Hook.val HK) 4000 true := left_quick (by kernel_rfl) (fun s => by kernel_rfl) rfl rfl run_law
end
structure Ad where
  f_is_within : Addr
  f_need_weights : Addr
  f_need_bound : Addr
  f_need_room : Addr
  f_both_at : Addr
  f_best_middle : Addr
  f_least_of : Addr
  f_least_table : Addr
  f_part_run : Addr
  f_ordered_lengths : Addr
  f_law_cell : Addr
  f_law_whole : Addr
  f_law_doubled : Addr
  f_law_weights : Addr
  f_law_least_bound : Addr
  f_law_many : Addr
  f_law_bound : Addr
  f_law_leaves : Addr
  f_law_order : Addr
  f_law_placed : Addr
  f_law : Addr
  t_MOST_SIGNS : Tok
  t_MOST_WEIGHT : Tok
  t_MOST_BOUND : Tok
abbrev gt (ad : Ad) : List (Str × Value) := [("is_within", .ref ad.f_is_within), ("need_weights", .ref ad.f_need_weights), ("need_bound", .ref ad.f_need_bound), ("need_room", .ref ad.f_need_room), ("both_at", .ref ad.f_both_at), ("best_middle", .ref ad.f_best_middle), ("least_of", .ref ad.f_least_of), ("least_table", .ref ad.f_least_table), ("part_run", .ref ad.f_part_run), ("ordered_lengths", .ref ad.f_ordered_lengths), ("_law_cell", .ref ad.f_law_cell), ("_law_whole", .ref ad.f_law_whole), ("_law_doubled", .ref ad.f_law_doubled), ("_law_weights", .ref ad.f_law_weights), ("_law_least_bound", .ref ad.f_law_least_bound), ("_law_many", .ref ad.f_law_many), ("_law_bound", .ref ad.f_law_bound), ("_law_leaves", .ref ad.f_law_leaves), ("_law_order", .ref ad.f_law_order), ("_law_placed", .ref ad.f_law_placed), ("law", .ref ad.f_law), ("MOST_SIGNS", .int 24 ad.t_MOST_SIGNS), ("MOST_WEIGHT", .int 1000000000000 ad.t_MOST_WEIGHT), ("MOST_BOUND", .int 12 ad.t_MOST_BOUND)]
abbrev bt : List (Str × Value) := [("ValueError", .type "ValueError"), ("range", .type "range"), ("list", .type "list"), ("sum", .builtin "sum"), ("isinstance", .builtin "isinstance"), ("int", .type "int"), ("len", .builtin "len"), ("bool", .type "bool")]
abbrev ct (ad : Ad) : List (Str × Value) := []
structure Facts (B : Shared) (ad : Ad) : Prop where
  g : GOk B (gt ad) bt (ct ad)
  f_is_within : FnSt B ad.f_is_within (stAt p11 10) ["thing", "least", "most"]
  f_need_weights : FnSt B ad.f_need_weights (stAt p11 11) ["weights"]
  f_need_bound : FnSt B ad.f_need_bound (stAt p11 12) ["bound"]
  f_need_room : FnSt B ad.f_need_room (stAt p11 13) ["weights", "bound"]
  f_both_at : FnSt B ad.f_both_at (stAt p11 15) ["table", "first", "middle", "last", "depth"]
  f_best_middle : FnSt B ad.f_best_middle (stAt p11 16) ["table", "first", "last", "depth"]
  f_least_of : FnSt B ad.f_least_of (stAt p11 17) ["table", "weights", "first", "last", "depth"]
  f_least_table : FnSt B ad.f_least_table (stAt p11 18) ["weights", "bound"]
  f_part_run : FnSt B ad.f_part_run (stAt p11 19) ["table", "lengths", "first", "last", "depth"]
  f_ordered_lengths : FnSt B ad.f_ordered_lengths (stAt p11 20) ["weights", "bound"]
  f_law_cell : FnSt B ad.f_law_cell (stAt p11 22) ["_law_script", "_law_k"]
  f_law_whole : FnSt B ad.f_law_whole (stAt p11 23) ["_law_found"]
  f_law_doubled : FnSt B ad.f_law_doubled (stAt p11 24) ["_law_times"]
  f_law_weights : FnSt B ad.f_law_weights (stAt p11 25) ["_law_script", "_law_first", "_law_many_here", "_law_kind"]
  f_law_least_bound : FnSt B ad.f_law_least_bound (stAt p11 26) ["_law_many_here"]
  f_law_many : FnSt B ad.f_law_many (stAt p11 27) ["_law_script"]
  f_law_bound : FnSt B ad.f_law_bound (stAt p11 28) ["_law_script", "_law_many_here"]
  f_law_leaves : FnSt B ad.f_law_leaves (stAt p11 29) ["_law_script", "_law_first", "_law_many_here", "_law_bound_here"]
  f_law_order : FnSt B ad.f_law_order (stAt p11 30) ["_law_script", "_law_first", "_law_many_here"]
  f_law_placed : FnSt B ad.f_law_placed (stAt p11 31) ["_law_lengths", "_law_bound_here"]
  f_law : FnSt B ad.f_law (stAt p11 32) ["_law_script"]

section
variable {C : Cx} {ad : Ad} {μ : List MO} {P : Post} {X : XPost} {n : Nat}
def withinD (d : D) (a b : Int) : Bool := match d with
  | .int i => decide (a ≤ i) && decide (i ≤ b)
  | _ => false

theorem Kd.cons {d : D} {K : String} (k : Kd μ d K) (x : MO) : Kd (x :: μ) d K := by
  cases k with
  | own h => exact .own (.tail _ h)
  | _ => constructor
theorem is_within_ca {d : D} {K : String} {a b : Int} (H : Facts C.B ad) (hA : AOk C 1) (k : Kd μ d K) (h : P (.bool (withinD d a b)) μ) : Ca C (.ref ad.f_is_within) [d, .int a, .int b] μ P X := by
  refine ca_def3 [] H.f_is_within hA rfl rfl (by decide +kernel) (by decide +kernel) fun q L C' hB hA' K N hE => ?_
  rw [← hB] at H
  have G := H.g
  unfold gt bt ct at G
  simp only [List.map]
  repeat' (walk_at "m")
  refine ca_isi (k.cons _) (by decide) ⟨_, rfl, fun h1 => ?_, fun h1 => ?_⟩
  · repeat' (walk_at "m")
    refine ca_isi (k.cons _) (by decide) ⟨_, rfl, ⟨_, rfl, fun h2 => ?_, fun h2 => ?_⟩⟩
    · cases k <;> simp [isT] at h1 h2
      repeat' (walk_at "m")
      refine ⟨fun h3 => ?_, fun h3 => ?_⟩
      · repeat' (walk_at "m")
        have : withinD (.int ‹Int›) a b = decide (‹Int› ≤ b) := by simp at h3; simp [withinD, h3]
        rw [← this]; exact h
      · repeat' (walk_at "m")
        have : withinD (.int ‹Int›) a b = false := by simp at h3; simp [withinD]; omega
        rw [← this]; exact h
    · cases k <;> simp [isT] at h1 h2
      repeat' (walk_at "m")
      exact h
  · repeat' (walk_at "m")
    cases k <;> simp [isT] at h1 <;> exact h

theorem withinD_int {i a b : Int} (h1 : a ≤ i) (h2 : i ≤ b) : withinD (.int i) a b = true := by simp [withinD, h1, h2]
theorem need_bound_ca {b : Int} (H : Facts C.B ad) (hA : AOk C 2) (h1 : 1 ≤ b) (h2 : b ≤ 12) (h : P .none μ) : Ca C (.ref ad.f_need_bound) [.int b] μ P X := by
  refine ca_def1 [] H.f_need_bound hA rfl rfl (by decide +kernel) (by decide +kernel) fun q L C' hB hA' K N hE => ?_
  rw [← hB] at H
  have G := H.g
  unfold gt bt ct at G
  simp only [List.map]
  repeat' (walk_at "m")
  refine is_within_ca H hA' (.int _) ?_
  rw [withinD_int h1 h2]
  refine ⟨_, rfl, fun h3 => absurd h3 (by decide), fun h3 => ?_⟩
  repeat' (walk_at "m")
  exact h
theorem intsD_get {ns : List Int} {i : Nat} (h : i < ns.length) : (intsD ns)[i]? = some (.int (ns.getD i 0)) := by
  simp [intsD, List.getD, h]
theorem intsD_at {ns : List Int} {i : Nat} {d : D} (h : (intsD ns)[i]? = some d) : ∃ k, ns[i]? = some k ∧ d = .int k := by
  simp only [intsD, List.getElem?_map, Option.map_eq_some_iff] at h
  obtain ⟨k, h1, h2⟩ := h
  exact ⟨k, h1, h2.symm⟩
theorem intsD_len {ns : List Int} : (intsD ns).length = ns.length := by simp [intsD]
def cellV (ns : List Int) (k : Int) : Int :=
  if k < ns.length then ns.getD k.toNat 0
  else if 0 < ns.length then ((ns.getD (k * 7 % ns.length).toNat 0 * 48271 + k * 7919).fmod 2147483647 * (ns.getD (k * 7 % ns.length).toNat 0 * 48271 + k * 7919).fmod 2147483647).fmod 2147483629
  else ((k * 7919 + 5) * (k * 7919 + 5)).fmod 2147483629
theorem cell_ca {k : Int} {d : D} {ns : List Int} (H : Facts C.B ad) (hA : AOk C 1) (hi : Items μ d (intsD ns)) (hl : ns.length ≤ 63) (h0 : 0 ≤ k) (h1 : k < 1000000) (h : P (.int (cellV ns k)) μ) : Ca C (.ref ad.f_law_cell) [d, .int k] μ P X := by
  refine ca_def2 ["_law_number"] H.f_law_cell hA rfl rfl (by decide +kernel) (by decide +kernel) fun q L C' hB hA' K N hE => ?_
  rw [← hB] at H
  have G := H.g
  unfold gt bt ct at G
  simp only [List.map]
  repeat' (walk_at "m")
  refine ca_len (hi.cons _) (by rw [intsD_len]; omega) ?_
  rw [intsD_len]
  repeat' (walk_at "m")
  refine ⟨fun h2 => ?_, fun h2 => ?_⟩
  · simp only [decide_eq_true_eq] at h2
    repeat' (walk_at "m")
    refine sub_list (hi.cons _) h0 (intsD_get (i := k.toNat) (by omega)) (by omega) rfl ?_
    repeat' (walk_at "m")
    rw [cellV, if_pos h2] at h
    exact h
  · simp only [decide_eq_false_iff_not] at h2
    rw [cellV, if_neg h2] at h
    repeat' (walk_at "m")
    refine ca_len (hi.cons _) (by rw [intsD_len]; omega) ?_
    rw [intsD_len]
    repeat' (walk_at "m")
    refine ⟨fun h3 => ?_, fun h3 => ?_⟩
    · simp only [decide_eq_true_eq] at h3
      rw [if_pos (by omega)] at h
      repeat' (walk_at "m")
      refine ca_len (hi.cons _) (by rw [intsD_len]; omega) ?_
      rw [intsD_len]
      repeat' (walk_at "m")
      rw [Int.fmod_eq_emod_of_nonneg _ (by omega)]
      have h5 : 0 ≤ k * 7 % (ns.length : Int) := Int.emod_nonneg _ (by omega)
      have h6 : k * 7 % (ns.length : Int) < ns.length := Int.emod_lt_of_pos _ (by omega)
      refine sub_list (hi.cons _) h5 (intsD_get (i := (k * 7 % (ns.length : Int)).toNat) (by omega)) (by omega) rfl ?_
      generalize ns.getD (k * 7 % (ns.length : Int)).toNat 0 = z at h ⊢
      repeat' (walk_at "m")
      have h7 : 0 ≤ (z * 48271 + k * 7919).fmod 2147483647 := Int.fmod_nonneg_of_pos _ (by decide)
      have h8 : (z * 48271 + k * 7919).fmod 2147483647 < 2147483647 := Int.fmod_lt_of_pos _ (by decide)
      generalize (z * 48271 + k * 7919).fmod 2147483647 = y at h h7 h8 ⊢
      repeat' (walk_at "m")
      exact h
    · simp only [decide_eq_false_iff_not] at h3
      rw [if_neg (by omega)] at h
      repeat' (walk_at "m")
      exact h
theorem whole_ca {d : D} {K : String} (H : Facts C.B ad) (hA : AOk C 1) (k : Kd μ d K) (h : P (.bool (K == "int")) μ) : Ca C (.ref ad.f_law_whole) [d] μ P X := by
  refine ca_def1 [] H.f_law_whole hA rfl rfl (by decide +kernel) (by decide +kernel) fun q L C' hB hA' K N hE => ?_
  rw [← hB] at H
  have G := H.g
  unfold gt bt ct at G
  simp only [List.map]
  repeat' (walk_at "m")
  refine ca_isi (k.cons _) (by decide) ⟨_, rfl, fun h1 => ?_, fun h1 => ?_⟩
  · repeat' (walk_at "m")
    refine ca_isi (k.cons _) (by decide) ⟨_, rfl, ?_⟩
    repeat' (walk_at "m")
    cases k <;> simp [isT] at h1 <;> exact h
  · repeat' (walk_at "m")
    cases k <;> simp [isT] at h1 <;> exact h
theorem doubled_ca {n : Int} (H : Facts C.B ad) (hA : AOk C 1) (h0 : 0 ≤ n) (h1 : n ≤ 100) (h : P (.int (2 ^ n.toNat)) μ) : Ca C (.ref ad.f_law_doubled) [.int n] μ P X := by
  refine ca_def1 ["_law_found", "_law_turn"] H.f_law_doubled hA rfl rfl (by decide +kernel) (by decide +kernel) fun q L C' hB hA' K N hE => ?_
  rw [← hB] at H
  have G := H.g
  unfold gt bt ct at G
  simp only [List.map]
  repeat' (walk_at "m")
  refine ex_for hE ?_ (fun _ _ => rfl) (fun _ => rfl)
  repeat' (walk_at "m")
  refine ca_range1 ?_
  refine ⟨_, fun i μ' => ∃ v, μ' = .frame L _ _ [some (.int n), some (.int (2 ^ i)), v] :: μ, itb_range hA'.handled (by decide) (by decide) (by omega) (by omega), ⟨_, rfl⟩, ?_, ?_⟩
  · rintro i x μ' hx ⟨v, rfl⟩
    obtain ⟨hi, rfl⟩ := rngList_get hx
    repeat' (walk_at "m")
    exact ⟨_, by rw [Int.pow_succ]⟩
  · rintro μ' ⟨v, rfl⟩
    rw [rngList_length, Int.sub_zero]
    repeat' (walk_at "m")
    exact h

end

section
variable {C : Cx} {ad : Ad} {μ : List MO} {P : Post} {X : XPost} {n : Nat}
theorem need_weights_ca {d : D} {ws : List Int} (H : Facts C.B ad) (hA : AOk C 2) (hi : Items μ d (intsD ws)) (hl : ws.length ≤ 24) (hw : ∀ x ∈ ws, 0 ≤ x ∧ x ≤ 1000000000000) (h : P .none μ) : Ca C (.ref ad.f_need_weights) [d] μ P X := by
  refine ca_def1 ["weight"] H.f_need_weights hA rfl rfl (by decide +kernel) (by decide +kernel) fun q L C' hB hA' K N hE => ?_
  rw [← hB] at H
  have G := H.g
  unfold gt bt ct at G
  simp only [List.map]
  repeat' (walk_at "m")
  refine ca_len (hi.cons _) (by rw [intsD_len]; omega) ?_
  rw [intsD_len]
  repeat' (walk_at "m")
  refine ⟨fun h1 => absurd h1 (by simp; omega), fun _ => ?_⟩
  repeat' (walk_at "m")
  refine ex_for hE ?_ (fun _ _ => rfl) (fun _ => rfl)
  repeat' (walk_at "m")
  refine forF (intsD ws) (fun i (v : Option D) => [some d, v]) (fun i _ => μ) (fun _ _ => True) none (itb_list hA'.handled ?_) trivial rfl rfl ?_ ?_
  · rintro i μ' ⟨v, _, rfl⟩; exact hi.cons _
  · rintro i x v hx -
    obtain ⟨k, hk, rfl⟩ := intsD_at hx
    have hk2 := hw k (List.mem_of_getElem? hk)
    repeat' (walk_at "m")
    refine is_within_ca H hA' (.int _) ?_
    rw [withinD_int hk2.1 hk2.2]
    refine ⟨_, rfl, fun h3 => absurd h3 (by decide), fun _ => ?_⟩
    repeat' (walk_at "m")
    exact ⟨some (.int k), trivial, rfl⟩
  · rintro v -
    repeat' (walk_at "m")
    exact h
theorem need_room_ca {d : D} {ws : List Int} {b : Nat} (H : Facts C.B ad) (hA : AOk C 3) (hi : Items μ d (intsD ws)) (hl : ws.length ≤ 24) (hw : ∀ x ∈ ws, 0 ≤ x ∧ x ≤ 1000000000000) (hb1 : 1 ≤ b) (hb2 : b ≤ 12) (hr : ws.length ≤ 2 ^ b) (h : P .none μ) : Ca C (.ref ad.f_need_room) [d, .int b] μ P X := by
  refine ca_def2 [] H.f_need_room hA rfl rfl (by decide +kernel) (by decide +kernel) fun q L C' hB hA' K N hE => ?_
  rw [← hB] at H
  have G := H.g
  unfold gt bt ct at G
  simp only [List.map]
  repeat' (walk_at "m")
  refine need_weights_ca H hA' (hi.cons _) hl hw ?_
  repeat' (walk_at "m")
  refine need_bound_ca H hA' (by omega) (by omega) ?_
  repeat' (walk_at "m")
  refine ca_len (hi.cons _) (by rw [intsD_len]; omega) ?_
  rw [intsD_len]
  repeat' (walk_at "m")
  have e : (1 * 2 ^ (b : Int).toNat : Int) = ((2 ^ b : Nat) : Int) := by simp
  rw [e]
  refine ⟨fun h1 => absurd h1 (by rw [decide_eq_true_eq]; omega), fun _ => ?_⟩
  repeat' (walk_at "m")
  exact h

def oD : Option Int → D
  | none => .none
  | some i => .int i
def kL (f l d : Nat) : List Int := [(f : Int), (l : Int), (d : Int)]
theorem both_at_ca {t : Addr} {xs : List (List Int × D)} {f m l d : Nat} {a b : Option Int} (H : Facts C.B ad) (hA : AOk C 1) (hm : tabM t xs ∈ μ) (h1 : xs.lookup (kL f m d) = some (oD a)) (h2 : xs.lookup (kL m l d) = some (oD b)) (h : P (oD (bothO a b)) μ) :
    Ca C (.ref ad.f_both_at) [.ref t, .int f, .int m, .int l, .int d] μ P X := by
  refine ca_def5 ["one", "other"] H.f_both_at hA rfl rfl (by decide +kernel) (by decide +kernel) fun q L C' hB hA' K N hE => ?_
  rw [← hB] at H
  have G := H.g
  unfold gt bt ct at G
  have hu : C'.A.units + 64 < cLine := by have := hA'.units; omega
  simp only [List.map]
  repeat' (walk_at "m")
  refine ev_Tuple ?_ rfl
  repeat' (walk_at "m")
  refine ⟨by simp, ?_⟩
  repeat' (walk_at "m")
  refine sub_tab (k := kL f m d) (.tail _ hm) h1 hu rfl ?_
  repeat' (walk_at "m")
  refine ev_Tuple ?_ rfl
  repeat' (walk_at "m")
  refine ⟨by simp, ?_⟩
  repeat' (walk_at "m")
  refine sub_tab (k := kL m l d) (.tail _ hm) h2 hu rfl ?_
  repeat' (walk_at "m")
  cases a with
  | none =>
    refine cmp_isN ?_
    refine ⟨fun _ => ?_, fun q => absurd q (by decide)⟩
    refine ⟨fun _ => ?_, fun q => absurd q (by decide)⟩
    repeat' (walk_at "m")
    exact h
  | some a =>
    refine cmp_isI ?_
    refine ⟨fun q => absurd q (by decide), fun _ => ?_⟩
    repeat' (walk_at "m")
    cases b with
    | none =>
      refine cmp_isN ?_
      refine ⟨fun _ => ?_, fun q => absurd q (by decide)⟩
      refine ⟨fun _ => ?_, fun q => absurd q (by decide)⟩
      repeat' (walk_at "m")
      exact h
    | some b =>
      refine cmp_isI ?_
      refine ⟨fun q => absurd q (by decide), fun _ => ?_⟩
      repeat' (walk_at "m")
      refine ⟨fun q => absurd q (by decide), fun _ => ?_⟩
      unfold oD
      repeat' (walk_at "m")
      exact h
def bD : Option (Int × Nat) → D
  | none => .none
  | some p => .int p.1
def mD : Option (Int × Nat) → D
  | none => .none
  | some p => .int p.2
theorem best_middle_ca {t : Addr} {xs : List (List Int × D)} {f l d : Nat} {v : Nat → Nat → Option Int} (H : Facts C.B ad) (hA : AOk C 2) (hm : tabM t xs ∈ μ) (hfl : f < l) (hl : l ≤ 1000) (h1 : ∀ m, f < m → m < l → xs.lookup (kL f m d) = some (oD (v f m)) ∧ xs.lookup (kL m l d) = some (oD (v m l)))
    (h : P (mD (bestO v f l (l - f - 1))) μ) : Ca C (.ref ad.f_best_middle) [.ref t, .int f, .int l, .int d] μ P X := by
  refine ca_def4 ["best", "at", "middle", "found"] H.f_best_middle hA rfl rfl (by decide +kernel) (by decide +kernel) fun q L C' hB hA' K N hE => ?_
  rw [← hB] at H
  have G := H.g
  unfold gt bt ct at G
  simp only [List.map]
  repeat' (walk_at "m")
  refine ex_for hE ?_ (fun _ _ => rfl) (fun _ => rfl)
  repeat' (walk_at "m")
  refine ca_range2 ?_
  refine forF (rngList ((f : Int) + 1) 1 ((l : Int) - ((f : Int) + 1)).toNat) (fun i (w : Option D × Option D) => [some (.ref t), some (.int f), some (.int l), some (.int d), some (bD (bestO v f l i)), some (mD (bestO v f l i)), w.1, w.2]) (fun i _ => μ) (fun _ _ => True) (none, none) (itb_range hA'.handled (by omega) (by omega) (by omega) (by omega)) trivial rfl rfl ?_ ?_
  · rintro i x w hx -
    obtain ⟨hi, rfl⟩ := rngList_get hx
    have ex : D.int ((f : Int) + 1 + (i : Int) * 1) = D.int ((f + 1 + i : Nat) : Int) := by congr 1; omega
    rw [ex]
    obtain ⟨q1, q2⟩ := h1 (f + 1 + i) (by omega) (by omega)
    repeat' (walk_at "m")
    refine both_at_ca H hA' (.tail _ hm) q1 q2 ?_
    repeat' (walk_at "m")
    have hb : bestO v f l (i + 1) = match bothO (v f (f + 1 + i)) (v (f + 1 + i) l), bestO v f l i with
      | none, b => b
      | some x, none => some (x, f + 1 + i)
      | some x, some (b, m) => if x < b then some (x, f + 1 + i) else some (b, m) := rfl
    cases hx2 : bothO (v f (f + 1 + i)) (v (f + 1 + i) l) with
    | none =>
      rw [hx2] at hb
      refine cmp_isnotN ?_
      refine ⟨fun q => absurd q (by decide), fun _ => ?_⟩
      refine ⟨fun q => absurd q (by decide), fun _ => ?_⟩
      repeat' (walk_at "m")
      exact ⟨(_, _), trivial, by rw [hb]⟩
    | some y =>
      rw [hx2] at hb
      refine cmp_isnotI ?_
      refine ⟨fun _ => ?_, fun q => absurd q (by decide)⟩
      repeat' (walk_at "m")
      cases hbi : bestO v f l i with
      | none =>
        rw [hbi] at hb
        refine cmp_isN ?_
        refine ⟨fun _ => ?_, fun q => absurd q (by decide)⟩
        refine ⟨fun _ => ?_, fun q => absurd q (by decide)⟩
        repeat' (walk_at "m")
        refine ⟨fun _ => ?_, fun q => absurd q (by decide)⟩
        repeat' (walk_at "m")
        exact ⟨(_, _), trivial, by rw [hb]; rfl⟩
      | some p =>
        obtain ⟨b, m⟩ := p
        rw [hbi] at hb
        refine cmp_isI ?_
        refine ⟨fun q => absurd q (by decide), fun _ => ?_⟩
        repeat' (walk_at "m")
        refine cmp_lt (a := y) (b := b) ?_
        refine ⟨fun hlt => ?_, fun hlt => ?_⟩
        · have hb2 : bestO v f l (i + 1) = some (y, f + 1 + i) := by rw [hb]; exact if_pos (by simpa using hlt)
          refine ⟨fun _ => ?_, fun q => absurd q (by decide)⟩
          repeat' (walk_at "m")
          refine ⟨fun _ => ?_, fun q => absurd q (by decide)⟩
          repeat' (walk_at "m")
          exact ⟨(_, _), trivial, by rw [hb2]; rfl⟩
        · have hb2 : bestO v f l (i + 1) = some (b, m) := by rw [hb]; exact if_neg (by simpa using hlt)
          repeat' (walk_at "m")
          refine ⟨fun q => absurd q (by decide), fun _ => ?_⟩
          refine ⟨fun q => absurd q (by decide), fun _ => ?_⟩
          repeat' (walk_at "m")
          exact ⟨(_, _), trivial, by rw [hb2]⟩
  · rintro w -
    rw [rngList_length]
    repeat' (walk_at "m")
    have e : ((l : Int) - ((f : Int) + 1)).toNat = l - f - 1 := by omega
    rw [e]
    exact h
theorem least_of_ca {t : Addr} {xs : List (List Int × D)} {dw : D} {ws : List Int} {f l d : Nat} {w : MO} (H : Facts C.B ad) (hA : AOk C 3) (hm : tabM t xs ∈ w :: μ) (hi : Items (w :: μ) dw (intsD ws)) (hwl : ws.length ≤ 24) (hfl : f < l) (hl : l ≤ ws.length) (hd : d ≤ 12)
    (h1 : ∀ d' m k, d = d' + 1 → m < k → k ≤ ws.length → xs.lookup (kL m k d') = some (oD (val ws d' m k))) (h : P (oD (val ws d f l)) (w :: μ)) : Ca C (.ref ad.f_least_of) [.ref t, dw, .int f, .int l, .int d] (w :: μ) P X := by
  refine ca_def5 ["middle"] H.f_least_of hA rfl rfl (by decide +kernel) (by decide +kernel) fun q L C' hB hA' K N hE => ?_
  rw [← hB] at H
  have G := H.g
  unfold gt bt ct at G
  simp only [List.map]
  repeat' (walk_at "m")
  refine ⟨fun q => ?_, fun q => ?_⟩
  · have e1 : l - f = 1 := by simp at q; omega
    have ev : val ws d f l = some 0 := by cases d <;> (unfold val; rw [if_pos e1])
    rw [ev] at h
    repeat' (walk_at "m")
    exact h
  have e1 : ¬ l - f = 1 := by simp at q; omega
  repeat' (walk_at "m")
  have e2 : (1 * 2 ^ (d : Int).toNat : Int) = ((2 ^ d : Nat) : Int) := by simp
  rw [e2]
  refine ⟨fun q2 => ?_, fun q2 => ?_⟩
  · have e3 : l - f > 2 ^ d := by rw [decide_eq_true_eq] at q2; omega
    rw [(val_room ws d f l hfl).mpr e3] at h
    repeat' (walk_at "m")
    exact h
  have e3 : ¬ l - f > 2 ^ d := by rw [decide_eq_false_iff_not] at q2; omega
  obtain ⟨d', rfl⟩ : ∃ d', d = d' + 1 := by
    cases d with
    | zero => simp at e3; omega
    | succ d' => exact ⟨d', rfl⟩
  have ev : val ws (d' + 1) f l = (bestO (val ws d') f l (l - f - 1)).map fun p => sumW ws f l + p.1 := by
    rw [val, if_neg e1, if_neg e3]
  have hne : val ws (d' + 1) f l ≠ none := fun q => e3 ((val_room ws _ f l hfl).mp q)
  cases hb : bestO (val ws d') f l (l - f - 1) with
  | none => rw [hb] at ev; exact absurd ev hne
  | some p =>
    obtain ⟨b, m⟩ := p
    obtain ⟨g1, g2, g3, g4⟩ := bestO_some hb
    rw [hb] at ev
    rw [ev] at h
    repeat' (walk_at "m")
    have ed : ((d' + 1 : Nat) : Int) - 1 = (d' : Int) := by omega
    rw [ed]
    refine best_middle_ca (v := val ws d') H hA' (.tail _ hm) hfl (by omega) (fun m' hm1 hm2 => ⟨h1 d' f m' rfl hm1 (by omega), h1 d' m' l rfl hm2 hl⟩) ?_
    rw [hb]
    repeat' (walk_at "m")
    refine slc_list (lo := some (f : Int)) (hi := some (l : Int)) (hi.cons _) (by rw [intsD_len]; exact Nat.le_trans (show _ ≤ 1000 by omega) (by decide)) rfl rfl (by simp) (by simp) (.inl rfl) ?_
    have ec : cutD (some (f : Int)) (some (l : Int)) (intsD ws) = intsD ((ws.drop f).take (l - f)) := by simp [cutD, intsD]
    rw [ec]
    repeat' (walk_at "m")
    refine ca_sum hA'.handled (.inl rfl) ?_
    repeat' (walk_at "m")
    rw [ed]
    refine both_at_ca (m := m) H (hA'.mono (by decide)) (.tail _ hm) (h1 d' f m rfl (by omega) (by omega)) (h1 d' m l rfl (by omega) hl) ?_
    rw [g3]
    refine bin_add (a := ((ws.drop f).take (l - f)).sum) (b := b) ?_
    repeat' (walk_at "m")
    exact h

def Done (d f j d' f' l' : Nat) : Prop := d' < d ∨ (d' = d ∧ (f' < f ∨ (f' = f ∧ l' ≤ f + j)))
def pre (n : Nat) : Nat → Nat
  | 0 => 0
  | f + 1 => pre n f + (n - f)
theorem pre_two (n : Nat) : ∀ f, f ≤ n → 2 * pre n f + (n - f) * (n - f + 1) = n * (n + 1)
  | 0, _ => by simp [pre]
  | f + 1, h => by
    have ih := pre_two n f (by omega)
    obtain ⟨k, hk⟩ : ∃ k, n - f = k + 1 := ⟨n - f - 1, by omega⟩
    have hk2 : n - (f + 1) = k := by omega
    rw [hk] at ih
    rw [pre, hk, hk2]
    have : (k + 1) * (k + 1 + 1) = 2 * (k + 1) + k * (k + 1) := by
      rw [← Nat.add_mul, Nat.mul_comm, Nat.add_comm 2]
    omega
theorem pre_all (n : Nat) : 2 * pre n n = n * (n + 1) := by
  have := pre_two n n (Nat.le_refl _)
  simpa using this
def TabInv (ws : List Int) (d f j : Nat) (xs : List (List Int × D)) : Prop :=
  (∀ d' f' l', f' < l' → l' ≤ ws.length → Done d f j d' f' l' → xs.lookup (kL f' l' d') = some (oD (val ws d' f' l'))) ∧ (∀ k ∈ xs.map (·.1), ∃ d' f' l', k = kL f' l' d' ∧ f' < l' ∧ l' ≤ ws.length ∧ Done d f j d' f' l') ∧
    xs.length = d * pre ws.length ws.length + pre ws.length f + j
theorem kL_inj {f l d f' l' d' : Nat} (h : kL f l d = kL f' l' d') : f = f' ∧ l = l' ∧ d = d' := by
  simp [kL] at h; omega
theorem tab_zero (ws : List Int) : TabInv ws 0 0 0 [] := by
  refine ⟨fun d' f' l' h1 h2 h3 => ?_, fun k hk => by simp at hk, by simp [pre]⟩
  rcases h3 with h | ⟨_, h | ⟨_, h⟩⟩ <;> omega
theorem tab_new {ws : List Int} {d f j : Nat} {xs : List (List Int × D)} (h : TabInv ws d f j xs) : kL f (f + 1 + j) d ∉ xs.map (·.1) := fun q => by
  obtain ⟨d', f', l', e, _, _, hd⟩ := h.2.1 _ q
  obtain ⟨e1, e2, e3⟩ := kL_inj e
  rcases hd with q | ⟨_, q | ⟨_, q⟩⟩ <;> omega
theorem tab_step {ws : List Int} {d f j : Nat} {xs : List (List Int × D)} (h : TabInv ws d f j xs) (hj : f + 1 + j ≤ ws.length) : TabInv ws d f (j + 1) (xs ++ [(kL f (f + 1 + j) d, oD (val ws d f (f + 1 + j)))]) := by
  have hn := tab_new h
  obtain ⟨h1, h2, h3⟩ := h
  refine ⟨fun d' f' l' a b c => ?_, fun k hk => ?_, by simp [h3]; omega⟩
  · rw [List.lookup_append]
    by_cases e : d' = d ∧ f' = f ∧ l' = f + 1 + j
    · obtain ⟨rfl, rfl, rfl⟩ := e
      have : xs.lookup (kL f' (f' + 1 + j) d') = none := by
        rw [List.lookup_eq_none_iff]
        intro p hp
        have : p.1 ≠ kL f' (f' + 1 + j) d' := fun q => hn (List.mem_map.mpr ⟨p, hp, q⟩)
        simpa using fun q => this q.symm
      rw [this]; simp
    · rw [h1 d' f' l' a b (by rcases c with q | ⟨q1, q | ⟨q2, q⟩⟩ <;> unfold Done <;> omega)]; rfl
  · rw [List.map_append] at hk
    rcases List.mem_append.mp hk with hk | hk
    · obtain ⟨d', f', l', e, a, b, c⟩ := h2 k hk
      exact ⟨d', f', l', e, a, b, by rcases c with q | ⟨q1, q | ⟨q2, q⟩⟩ <;> unfold Done <;> omega⟩
    · simp at hk
      exact ⟨d, f, f + 1 + j, hk, by omega, hj, .inr ⟨rfl, .inr ⟨rfl, by omega⟩⟩⟩
theorem tab_nextf {ws : List Int} {d f : Nat} {xs : List (List Int × D)} (h : TabInv ws d f (ws.length - f) xs) (hf : f < ws.length) : TabInv ws d (f + 1) 0 xs := by
  obtain ⟨h1, h2, h3⟩ := h
  refine ⟨fun d' f' l' a b c => h1 d' f' l' a b ?_, fun k hk => ?_, by rw [h3, pre]; omega⟩
  · rcases c with q | ⟨q1, q | ⟨q2, q⟩⟩ <;> unfold Done <;> omega
  · obtain ⟨d', f', l', e, a, b, c⟩ := h2 k hk
    exact ⟨d', f', l', e, a, b, by rcases c with q | ⟨q1, q | ⟨q2, q⟩⟩ <;> unfold Done <;> omega⟩
theorem tab_nextd {ws : List Int} {d : Nat} {xs : List (List Int × D)} (h : TabInv ws d ws.length 0 xs) : TabInv ws (d + 1) 0 0 xs := by
  obtain ⟨h1, h2, h3⟩ := h
  refine ⟨fun d' f' l' a b c => h1 d' f' l' a b ?_, fun k hk => ?_, by rw [h3, Nat.succ_mul]; simp [pre]⟩
  · rcases c with q | ⟨q1, q | ⟨q2, q⟩⟩ <;> unfold Done <;> omega
  · obtain ⟨d', f', l', e, a, b, c⟩ := h2 k hk
    exact ⟨d', f', l', e, a, b, by rcases c with q | ⟨q1, q | ⟨q2, q⟩⟩ <;> unfold Done <;> omega⟩
theorem tab_end {ws : List Int} {d : Nat} {xs : List (List Int × D)} (h : TabInv ws d 0 0 xs) {d' f l : Nat} (hd : d' < d) (hf : f < l) (hl : l ≤ ws.length) : xs.lookup (kL f l d') = some (oD (val ws d' f l)) := h.1 d' f l hf hl (.inl hd)
theorem pmP_swapM {d : D} {x w : MO} (h : P d (w :: x :: μ)) : PmP P d (x :: w :: μ) := ⟨_, .swap _ _ _, h⟩
theorem least_table_ca {dw : D} {ws : List Int} {b : Nat} {w : MO} (H : Facts C.B ad) (hA : AOk C 4) (hi : Items (w :: μ) dw (intsD ws)) (hl : ws.length ≤ 24) (hw : ∀ x ∈ ws, 0 ≤ x ∧ x ≤ 1000000000000) (hb1 : 1 ≤ b) (hb2 : b ≤ 12) (hr : ws.length ≤ 2 ^ b)
    (h : ∀ t xs, TabInv ws (b + 1) 0 0 xs → P (.ref t) (w :: tabM t xs :: μ)) : Ca C (.ref ad.f_least_table) [dw, .int b] (w :: μ) P X := by
  refine ca_pm ?_
  refine ca_def2 ["table", "depth", "first", "last"] H.f_least_table hA rfl rfl (by decide +kernel) (by decide +kernel) fun q L C' hB hA' K N hE => ?_
  rw [← hB] at H
  have G := H.g
  unfold gt bt ct at G
  have hu : C'.A.units + 64 < cLine := by have := hA'.units; omega
  have hmg : ∃ o, C'.B.heap.get? mainGlobals = some o := by
    obtain ⟨mg, ⟨o, _, _, ho, _⟩, _⟩ := G.cl
    exact ⟨o, ho⟩
  simp only [List.map]
  repeat' (walk_at "m")
  refine need_room_ca H hA' (hi.cons _) hl hw hb1 hb2 hr ?_
  repeat' (walk_at "m")
  refine ev_Dict0 hmg fun t => ?_
  repeat' (walk_at "m")
  refine ex_for hE ?_ (fun _ _ => rfl) (fun _ => rfl)
  repeat' (walk_at "m")
  refine ca_range1 ?_
  have hpl : pre ws.length ws.length ≤ 300 := by
    have := pre_all ws.length
    have : ws.length * (ws.length + 1) ≤ 24 * 25 := Nat.mul_le_mul hl (by omega)
    omega
  have hpf : ∀ f, f ≤ ws.length → pre ws.length f ≤ 300 := fun f hf => by
    have := pre_two ws.length f hf
    have : ws.length * (ws.length + 1) ≤ 24 * 25 := Nat.mul_le_mul hl (by omega)
    omega
  refine forF (rngList 0 1 ((b : Int) + 1 - 0).toNat) (fun i (v : List (List Int × D) × Option D × Option D × Option D) => [some dw, some (.int b), some (.ref t), v.2.1, v.2.2.1, v.2.2.2]) (fun i v => tabM t v.1 :: w :: μ) (fun i v => TabInv ws i 0 0 v.1) ([], none, none, none) (itb_range hA'.handled (by decide) (by decide) (by omega) (by omega)) (tab_zero ws) rfl rfl ?_ ?_
  · rintro i x ⟨xs, v1, v2, v3⟩ hx hT
    obtain ⟨hi', rfl⟩ := rngList_get hx
    have ex : D.int (0 + (i : Int) * 1) = D.int (i : Int) := by congr 1; omega
    rw [ex]
    dsimp only at hT ⊢
    repeat' (walk_at "m")
    refine ex_for hE ?_ (fun _ _ => rfl) (fun _ => rfl)
    repeat' (walk_at "m")
    refine ca_len ((hi.cons _).cons _) (by rw [intsD_len]; omega) ?_
    rw [intsD_len]
    repeat' (walk_at "m")
    refine ca_range1 ?_
    refine forF (rngList 0 1 ((ws.length : Int) - 0).toNat) (fun f (v : List (List Int × D) × Option D × Option D) => [some dw, some (.int b), some (.ref t), some (.int i), v.2.1, v.2.2]) (fun f v => tabM t v.1 :: w :: μ) (fun f v => TabInv ws i f 0 v.1) (xs, v2, v3) (itb_range hA'.handled (by decide) (by decide) (by omega) (by omega)) hT rfl rfl ?_ ?_
    · rintro f x ⟨xs, v2, v3⟩ hx hT
      obtain ⟨hf', rfl⟩ := rngList_get hx
      have hfn : f < ws.length := by omega
      have ex : D.int (0 + (f : Int) * 1) = D.int (f : Int) := by congr 1; omega
      rw [ex]
      dsimp only at hT ⊢
      repeat' (walk_at "m")
      refine ex_for hE ?_ (fun _ _ => rfl) (fun _ => rfl)
      repeat' (walk_at "m")
      refine ca_len ((hi.cons _).cons _) (by rw [intsD_len]; omega) ?_
      rw [intsD_len]
      repeat' (walk_at "m")
      refine ca_range2 ?_
      refine forF (rngList ((f : Int) + 1) 1 (((ws.length : Int) + 1) - ((f : Int) + 1)).toNat) (fun j (v : List (List Int × D) × Option D) => [some dw, some (.int b), some (.ref t), some (.int i), some (.int f), v.2]) (fun j v => tabM t v.1 :: w :: μ) (fun j v => TabInv ws i f j v.1) (xs, v3) (itb_range hA'.handled (by omega) (by omega) (by omega) (by omega)) hT rfl rfl ?_ ?_
      · rintro j x ⟨xs, v3⟩ hx hT
        obtain ⟨hj', rfl⟩ := rngList_get hx
        have hjn : f + 1 + j ≤ ws.length := by omega
        have ex : D.int ((f : Int) + 1 + (j : Int) * 1) = D.int ((f + 1 + j : Nat) : Int) := by congr 1; omega
        rw [ex]
        dsimp only at hT ⊢
        have hlen : xs.length ≤ 100000 := by
          rw [hT.2.2]
          have h1 := hpf f (by omega)
          have h2 : i * pre ws.length ws.length ≤ 13 * 300 := Nat.mul_le_mul (by omega) hpl
          omega
        repeat' (walk_at "m")
        refine ex_settab ?_ hu rfl rfl
        repeat' (walk_at "m")
        refine least_of_ca H hA' (.tail _ (.head _)) ((hi.cons _).cons _) hl (by omega) hjn (by omega) (fun d' m k hd hmk hk => hT.1 d' m k hmk hk (.inl (by omega))) ?_
        repeat' (walk_at "m")
        refine ev_Tuple ?_ rfl
        repeat' (walk_at "m")
        refine ⟨by simp, ?_⟩
        refine ⟨t, xs, kL f (f + 1 + j) i, _, rfl, rfl, tab_new hT, hlen, .there .here, ?_⟩
        repeat' (walk_at "m")
        exact ⟨(_, _), tab_step hT hjn, rfl⟩
      · rintro ⟨xs, v3⟩ hT
        rw [rngList_length] at hT
        have e : (((ws.length : Int) + 1) - ((f : Int) + 1)).toNat = ws.length - f := by omega
        rw [e] at hT
        repeat' (walk_at "m")
        exact ⟨(xs, _, _), tab_nextf hT hfn, rfl⟩
    · rintro ⟨xs, v2, v3⟩ hT
      rw [rngList_length] at hT
      have e : ((ws.length : Int) - 0).toNat = ws.length := by omega
      rw [e] at hT
      repeat' (walk_at "m")
      exact ⟨(xs, _, _, _), tab_nextd hT, rfl⟩
  · rintro ⟨xs, v1, v2, v3⟩ hT
    rw [rngList_length] at hT
    have e : ((b : Int) + 1 - 0).toNat = b + 1 := by omega
    rw [e] at hT
    repeat' (walk_at "m")
    exact pmP_swapM (h t xs hT)

end

section
variable {C : Cx} {ad : Ad} {μ : List MO} {P : Post} {X : XPost} {n : Nat}
theorem fmod_lo (a : Int) {b : Int} (h : 0 < b) : 0 ≤ a.fmod b := Int.fmod_nonneg_of_pos _ h
theorem fmod_hi (a : Int) {b : Int} (h : 0 < b) : a.fmod b < b := Int.fmod_lt_of_pos _ h
theorem pow24 {m : Int} (h0 : 0 ≤ m) (h : m ≤ 24) : (0 : Int) ≤ 2 ^ m.toNat ∧ (2 : Int) ^ m.toNat ≤ 16777216 := by
  have h1 : (2 : Nat) ^ m.toNat ≤ 2 ^ 24 := Nat.pow_le_pow_right (by decide) (by omega)
  have e : ((2 ^ m.toNat : Nat) : Int) = (2 : Int) ^ m.toNat := by simp
  rw [← e]
  exact ⟨Int.natCast_nonneg _, Int.le_trans (Int.ofNat_le.mpr h1) (by decide)⟩
theorem ints_app (ws : List Int) (y : Int) : intsD ws ++ [D.int y] = intsD (ws ++ [y]) := by simp [intsD]
theorem weights_ca {d : D} {sc : List Int} {first kind : Int} {m : Nat} {w : MO} (H : Facts C.B ad) (hA : AOk C 2) (hi : Items (w :: μ) d (intsD sc)) (hl : sc.length ≤ 63) (hf0 : 0 ≤ first) (hf1 : first ≤ 1000) (hm1 : m ≤ 24) (hk0 : 0 ≤ kind) (hk1 : kind < 5)
    (h : ∀ ws : List Int, ws.length = m → (∀ x ∈ ws, 0 ≤ x ∧ x ≤ 1000000000000) → P (.lst (intsD ws)) (w :: μ)) : Ca C (.ref ad.f_law_weights) [d, .int first, .int m, .int kind] (w :: μ) P X := by
  refine ca_fz ?_
  refine ca_def4 ["_law_weights_here", "_law_k", "_law_cell_here", "_law_step"] H.f_law_weights hA rfl rfl (by decide +kernel) (by decide +kernel) fun q L C' hB hA' K N hE => ?_
  rw [← hB] at H
  have G := H.g
  unfold gt bt ct at G
  simp only [List.map]
  repeat' (walk_at "m")
  refine ev_ListO ?_ rfl
  repeat' (walk_at "m")
  refine ⟨by decide, _, _, rfl, fun a => ?_⟩
  repeat' (walk_at "m")
  refine ex_for hE ?_ (fun _ _ => rfl) (fun _ => rfl)
  repeat' (walk_at "m")
  refine ca_range1 ?_
  refine forF (rngList 0 1 ((m : Int) - 0).toNat) (fun i (v : List Int × Option D × Option D × Option D) => [some d, some (.int first), some (.int m), some (.int kind), some (.ref a), v.2.1, v.2.2.1, v.2.2.2]) (fun i v => .list a (intsD v.1) :: w :: μ)
    (fun i v => v.1.length = i ∧ ∀ x ∈ v.1, 0 ≤ x ∧ x ≤ 1000000000000) ([], none, none, none) (itb_range hA'.handled (by decide) (by decide) (by omega) (by omega)) ⟨rfl, fun _ q => nomatch q⟩ rfl rfl ?_ ?_
  · rintro i x ⟨ws, vk, vc, vs⟩ hx ⟨h1, h2⟩
    obtain ⟨hi', rfl⟩ := rngList_get hx
    have ex : D.int (0 + (i : Int) * 1) = D.int (i : Int) := by congr 1; omega
    rw [ex]
    dsimp only at h1 h2 ⊢
    have him : i < m := by omega
    have fin : ∀ (y : Int), 0 ≤ y → y ≤ 1000000000000 → ((ws ++ [y]).length = i + 1 ∧ ∀ x ∈ ws ++ [y], 0 ≤ x ∧ x ≤ 1000000000000) := fun y y0 y1 =>
      ⟨by simp [h1], fun x hx => by
        rcases List.mem_append.mp hx with q | q
        · exact h2 x q
        · rw [List.mem_singleton] at q; subst q; exact ⟨y0, y1⟩⟩
    repeat' (walk_at "m")
    refine cell_ca H hA' ((hi.cons _).cons _) hl (by omega) (by omega) ?_
    generalize cellV sc (first + i) = c
    have hk5 : kind = 0 ∨ kind = 1 ∨ kind = 2 ∨ kind = 3 ∨ kind = 4 := by omega
    rcases hk5 with rfl | rfl | rfl | rfl | rfl
    · repeat' (walk_at "m")
      refine ⟨fun _ => ?_, fun q => absurd q (by decide)⟩
      repeat' (walk_at "m")
      refine ev_append ?_ rfl rfl rfl
      repeat' (walk_at "m")
      refine ⟨a, _, rfl, .tail _ (.head _), ?_⟩
      repeat' (walk_at "m")
      refine ⟨_, _, .there .here, by rw [intsD_len]; omega, ?_⟩
      repeat' (walk_at "m")
      refine ⟨fun q => absurd q (by decide), fun _ => ?_⟩
      repeat' (walk_at "m")
      refine ⟨fun q => absurd q (by decide), fun _ => ?_⟩
      repeat' (walk_at "m")
      refine ⟨fun q => absurd q (by decide), fun _ => ?_⟩
      repeat' (walk_at "m")
      refine ⟨fun q => absurd q (by decide), fun _ => ?_⟩
      repeat' (walk_at "m")
      have f1 := fmod_lo c (b := 4) (by decide)
      have f2 := fmod_hi c (b := 4) (by decide)
      rw [ints_app]
      exact ⟨(_, _, _, _), fin _ f1 (by omega), rfl⟩
    · repeat' (walk_at "m")
      refine ⟨fun q => absurd q (by decide), fun _ => ?_⟩
      repeat' (walk_at "m")
      refine ⟨fun _ => ?_, fun q => absurd q (by decide)⟩
      repeat' (walk_at "m")
      refine ev_append ?_ rfl rfl rfl
      repeat' (walk_at "m")
      refine ⟨a, _, rfl, .tail _ (.head _), ?_⟩
      repeat' (walk_at "m")
      refine ⟨_, _, .there .here, by rw [intsD_len]; omega, ?_⟩
      repeat' (walk_at "m")
      refine ⟨fun q => absurd q (by decide), fun _ => ?_⟩
      repeat' (walk_at "m")
      refine ⟨fun q => absurd q (by decide), fun _ => ?_⟩
      repeat' (walk_at "m")
      refine ⟨fun q => absurd q (by decide), fun _ => ?_⟩
      repeat' (walk_at "m")
      have f1 := fmod_lo c (b := 100) (by decide)
      have f2 := fmod_hi c (b := 100) (by decide)
      rw [ints_app]
      exact ⟨(_, _, _, _), fin _ f1 (by omega), rfl⟩
    · repeat' (walk_at "m")
      refine ⟨fun q => absurd q (by decide), fun _ => ?_⟩
      repeat' (walk_at "m")
      refine ⟨fun q => absurd q (by decide), fun _ => ?_⟩
      repeat' (walk_at "m")
      refine ⟨fun _ => ?_, fun q => absurd q (by decide)⟩
      repeat' (walk_at "m")
      refine ev_append ?_ rfl rfl rfl
      repeat' (walk_at "m")
      refine ⟨a, _, rfl, .tail _ (.head _), ?_⟩
      repeat' (walk_at "m")
      refine ⟨_, _, .there .here, by rw [intsD_len]; omega, ?_⟩
      repeat' (walk_at "m")
      refine ⟨fun q => absurd q (by decide), fun _ => ?_⟩
      repeat' (walk_at "m")
      refine ⟨fun q => absurd q (by decide), fun _ => ?_⟩
      repeat' (walk_at "m")
      have f1 := fmod_lo c (b := 1000000000001) (by decide)
      have f2 := fmod_hi c (b := 1000000000001) (by decide)
      rw [ints_app]
      exact ⟨(_, _, _, _), fin _ f1 (by omega), rfl⟩
    · repeat' (walk_at "m")
      refine ⟨fun q => absurd q (by decide), fun _ => ?_⟩
      repeat' (walk_at "m")
      refine ⟨fun q => absurd q (by decide), fun _ => ?_⟩
      repeat' (walk_at "m")
      refine ⟨fun q => absurd q (by decide), fun _ => ?_⟩
      repeat' (walk_at "m")
      refine ⟨fun _ => ?_, fun q => absurd q (by decide)⟩
      repeat' (walk_at "m")
      refine cell_ca H hA' ((hi.cons _).cons _) hl (by omega) (by omega) ?_
      generalize (cellV sc 2) = c2
      repeat' (walk_at "m")
      have g1 := fmod_lo (c2.fdiv 4) (b := 23) (by decide)
      have g2 := fmod_hi (c2.fdiv 4) (b := 23) (by decide)
      generalize (c2.fdiv 4).fmod 23 = s at g1 g2 ⊢
      refine ev_append ?_ rfl rfl rfl
      repeat' (walk_at "m")
      refine ⟨a, _, rfl, .tail _ (.head _), ?_⟩
      have f1 := fmod_lo c (b := 3) (by decide)
      have f2 := fmod_hi c (b := 3) (by decide)
      repeat' (walk_at "m")
      generalize c.fmod 3 = c3 at f1 f2 ⊢
      have e1 := fmod_lo ((i : Int) * (1 + s)) (b := (m : Int) + 1) (by omega)
      have e2 := fmod_hi ((i : Int) * (1 + s)) (b := (m : Int) + 1) (by omega)
      generalize ((i : Int) * (1 + s)).fmod ((m : Int) + 1) = e at e1 e2 ⊢
      refine doubled_ca H hA' e1 (by omega) ?_
      obtain ⟨p1, p2⟩ := pow24 e1 (by omega)
      generalize (2 : Int) ^ e.toNat = pw at p1 p2 ⊢
      have q1 : 0 ≤ (1 + c3) * pw := Int.mul_nonneg (by omega) p1
      have q2 : (1 + c3) * pw ≤ 3 * 16777216 := Int.mul_le_mul (by omega) p2 p1 (by decide)
      repeat' (walk_at "m")
      refine ⟨_, _, .there .here, by rw [intsD_len]; omega, ?_⟩
      repeat' (walk_at "m")
      refine ⟨fun q => absurd q (by decide), fun _ => ?_⟩
      repeat' (walk_at "m")
      rw [ints_app]
      exact ⟨(_, _, _, _), fin _ q1 (by omega), rfl⟩
    · repeat' (walk_at "m")
      refine ⟨fun q => absurd q (by decide), fun _ => ?_⟩
      repeat' (walk_at "m")
      refine ⟨fun q => absurd q (by decide), fun _ => ?_⟩
      repeat' (walk_at "m")
      refine ⟨fun q => absurd q (by decide), fun _ => ?_⟩
      repeat' (walk_at "m")
      refine ⟨fun q => absurd q (by decide), fun _ => ?_⟩
      repeat' (walk_at "m")
      refine ⟨fun _ => ?_, fun q => absurd q (by decide)⟩
      repeat' (walk_at "m")
      refine ev_append ?_ rfl rfl rfl
      repeat' (walk_at "m")
      refine ⟨a, _, rfl, .tail _ (.head _), ?_⟩
      repeat' (walk_at "m")
      refine ⟨_, _, .there .here, by rw [intsD_len]; omega, ?_⟩
      repeat' (walk_at "m")
      have f1 := fmod_lo c (b := 3) (by decide)
      have f2 := fmod_hi c (b := 3) (by decide)
      rw [ints_app]
      exact ⟨(_, _, _, _), fin _ (by omega) (by omega), rfl⟩
  · rintro ⟨ws, vk, vc, vs⟩ ⟨h1, h2⟩
    rw [rngList_length] at h1
    dsimp only at h1 h2 ⊢
    repeat' (walk_at "m")
    exact fzP_h (h ws (by omega) h2)
theorem least_bound_ca {m : Nat} (H : Facts C.B ad) (hA : AOk C 2) (hm : m ≤ 24) (h : ∀ b : Nat, 1 ≤ b → b ≤ 5 → m ≤ 2 ^ b → P (.int b) μ) : Ca C (.ref ad.f_law_least_bound) [.int m] μ P X := by
  refine ca_def1 ["_law_bound_here"] H.f_law_least_bound hA rfl rfl (by decide +kernel) (by decide +kernel) fun q L C' hB hA' K N hE => ?_
  rw [← hB] at H
  have G := H.g
  unfold gt bt ct at G
  simp only [List.map]
  repeat' (walk_at "m")
  refine ex_while hE (fun n μ' => ∃ b : Nat, 1 ≤ b ∧ b ≤ 5 ∧ n = 5 - b ∧ μ' = .frame L _ _ [some (.int m), some (.int b)] :: μ) 4 ⟨1, by decide, by decide, rfl, rfl⟩ ?_
  rintro n μ' ⟨b, b1, b2, rfl, rfl⟩
  repeat' (walk_at "m")
  refine doubled_ca H hA' (by omega) (by omega) ?_
  have e : (2 : Int) ^ (b : Int).toNat = ((2 ^ b : Nat) : Int) := by simp
  rw [e]
  repeat' (walk_at "m")
  refine ⟨fun q => ?_, fun q => ?_⟩
  · rw [decide_eq_true_eq] at q
    have hb5 : b ≠ 5 := by rintro rfl; simp at q; omega
    repeat' (walk_at "m")
    exact ⟨5 - (b + 1), by omega, b + 1, by omega, by omega, rfl, by simp⟩
  · rw [decide_eq_false_iff_not] at q
    repeat' (walk_at "m")
    exact h b b1 b2 (by omega)

theorem many_ca {d : D} {sc : List Int} (H : Facts C.B ad) (hA : AOk C 2) (hi : Items μ d (intsD sc)) (hl : sc.length ≤ 63) (h : ∀ m : Nat, m ≤ 24 → P (.int m) μ) : Ca C (.ref ad.f_law_many) [d] μ P X := by
  refine ca_def1 ["_law_many_here"] H.f_law_many hA rfl rfl (by decide +kernel) (by decide +kernel) fun q L C' hB hA' K N hE => ?_
  rw [← hB] at H
  have G := H.g
  unfold gt bt ct at G
  have fin : ∀ k : Int, 0 ≤ k → k ≤ 24 → P (.int k) μ := fun k h0 h1 => by
    have := h k.toNat (by omega)
    rwa [Int.toNat_of_nonneg h0] at this
  simp only [List.map]
  repeat' (walk_at "m")
  refine cell_ca H hA' (hi.cons _) hl (by omega) (by omega) ?_
  repeat' (walk_at "k")
  refine ex_cutF (fun k : Int => [some d, some (.int k)]) (fun k => 0 ≤ k ∧ k ≤ 24) ?_ ?_
  · repeat' (walk_at "m")
    refine cell_ca H hA' (hi.cons _) hl (by omega) (by omega) ?_
    repeat' (walk_at "m")
    refine ⟨fun q => ?_, fun q => ?_⟩
    · repeat' (walk_at "m")
      refine cell_ca H hA' (hi.cons _) hl (by omega) (by omega) ?_
      repeat' (walk_at "m")
      have g1 := fmod_lo ((cellV sc 0).fdiv 64) (b := 13) (by decide)
      have g2 := fmod_hi ((cellV sc 0).fdiv 64) (b := 13) (by decide)
      exact ⟨_, ⟨g1, by omega⟩, rfl⟩
    · repeat' (walk_at "m")
      have g1 := fmod_lo (cellV sc 0) (b := 8) (by decide)
      have g2 := fmod_hi (cellV sc 0) (b := 8) (by decide)
      exact ⟨_, ⟨g1, by omega⟩, rfl⟩
  · rintro k ⟨k0, k1⟩
    repeat' (walk_at "m")
    refine cell_ca H hA' (hi.cons _) hl (by omega) (by omega) ?_
    repeat' (walk_at "m")
    refine ⟨fun q => ?_, fun q => ?_⟩
    · repeat' (walk_at "m")
      refine cell_ca H hA' (hi.cons _) hl (by omega) (by omega) ?_
      repeat' (walk_at "m")
      have g1 := fmod_lo ((cellV sc 0).fdiv 128) (b := 12) (by decide)
      have g2 := fmod_hi ((cellV sc 0).fdiv 128) (b := 12) (by decide)
      exact fin _ (by omega) (by omega)
    · repeat' (walk_at "m")
      exact fin _ k0 k1
theorem bound_ca {d : D} {sc : List Int} {m : Nat} (H : Facts C.B ad) (hA : AOk C 3) (hi : Items μ d (intsD sc)) (hl : sc.length ≤ 63) (hm : m ≤ 24) (h : ∀ b : Nat, 1 ≤ b → b ≤ 12 → m ≤ 2 ^ b → P (.int b) μ) : Ca C (.ref ad.f_law_bound) [d, .int m] μ P X := by
  refine ca_def2 ["_law_least"] H.f_law_bound hA rfl rfl (by decide +kernel) (by decide +kernel) fun q L C' hB hA' K N hE => ?_
  rw [← hB] at H
  have G := H.g
  unfold gt bt ct at G
  simp only [List.map]
  repeat' (walk_at "m")
  refine least_bound_ca H hA' hm fun b b1 b2 b3 => ?_
  have fin : ∀ k : Int, 0 ≤ k → b + k ≤ 12 → P (.int (b + k)) μ := fun k h0 h1 => by
    have h2 : 2 ^ b ≤ 2 ^ (b + k.toNat) := Nat.pow_le_pow_right (by decide) (by omega)
    have := h (b + k.toNat) (by omega) (by omega) (by omega)
    rwa [Int.natCast_add, Int.toNat_of_nonneg h0] at this
  repeat' (walk_at "k")
  refine ex_cutF (fun _ : Unit => [some d, some (.int m), some (.int b)]) (fun _ => True) ?_ ?_
  · repeat' (walk_at "m")
    refine ⟨fun q => ?_, fun q => ?_⟩
    · repeat' (walk_at "m")
      refine cell_ca H (hA'.mono (by decide)) (hi.cons _) hl (by omega) (by omega) ?_
      repeat' (walk_at "m")
      refine ⟨fun q => ?_, fun q => ?_⟩
      · repeat' (walk_at "m")
        refine ⟨fun _ => ?_, fun q => absurd q (by decide)⟩
        repeat' (walk_at "m")
        refine cell_ca H (hA'.mono (by decide)) (hi.cons _) hl (by omega) (by omega) ?_
        repeat' (walk_at "m")
        have g1 := fmod_lo (cellV sc 1) (b := 2) (by decide)
        have g2 := fmod_hi (cellV sc 1) (b := 2) (by decide)
        exact fin _ g1 (by omega)
      · refine ⟨fun q => absurd q (by decide), fun _ => ?_⟩
        repeat' (walk_at "m")
        exact ⟨(), trivial, rfl⟩
    · refine ⟨fun q => absurd q (by decide), fun _ => ?_⟩
      repeat' (walk_at "m")
      exact ⟨(), trivial, rfl⟩
  rintro _ -
  repeat' (walk_at "m")
  refine cell_ca H (hA'.mono (by decide)) (hi.cons _) hl (by omega) (by omega) ?_
  repeat' (walk_at "m")
  refine ⟨fun q => ?_, fun q => ?_⟩
  · repeat' (walk_at "m")
    refine cell_ca H (hA'.mono (by decide)) (hi.cons _) hl (by omega) (by omega) ?_
    repeat' (walk_at "m")
    have g1 := fmod_lo ((cellV sc 1).fdiv 16) (b := 13 - b) (by omega)
    have g2 := fmod_hi ((cellV sc 1).fdiv 16) (b := 13 - b) (by omega)
    exact fin _ g1 (by omega)
  · repeat' (walk_at "m")
    refine cell_ca H (hA'.mono (by decide)) (hi.cons _) hl (by omega) (by omega) ?_
    repeat' (walk_at "m")
    have g1 := fmod_lo (cellV sc 1) (b := 4) (by decide)
    have g2 := fmod_hi (cellV sc 1) (b := 4) (by decide)
    exact fin _ g1 (by omega)

theorem part_run_ca {t a : Addr} {xs : List (List Int × D)} {ws : List Int} {B : Nat} (hT : TabInv ws (B + 1) 0 0 xs) (hwl : ws.length ≤ 24) (hB12 : B ≤ 12) : ∀ (d : Nat) {C : Cx} {μ : List MO} {P : Post} {f l : Nat} {g : Nat → Nat} {x : Int}, Facts C.B ad → AOk C (d + 3) → f < l → l ≤ ws.length → d ≤ B → val ws d f l = some x →
    P .none (tabM t xs :: .list a (intsD (cntL ws.length fun i => g i + pcnt ws d f l i)) :: μ) → Ca C (.ref ad.f_part_run) [.ref t, .ref a, .int f, .int l, .int d] (tabM t xs :: .list a (intsD (cntL ws.length g)) :: μ) P noX := by
  intro d
  induction d with
  | zero =>
    intro C μ P f l g x H hA hfl hl hdB hv h
    have h1 := val_zero hv
    simp only [pcnt, Nat.add_zero] at h
    refine ca_def5 ["sign", "middle"] H.f_part_run hA rfl rfl (by decide +kernel) (by decide +kernel) fun q L C' hB hA' K N hE => ?_
    rw [← hB] at H
    have G := H.g
    unfold gt bt ct at G
    simp only [List.map]
    repeat' (walk_at "m")
    refine ⟨fun _ => ?_, fun q => absurd q (by simp; omega)⟩
    repeat' (walk_at "m")
    exact h
  | succ d ih =>
    intro C μ P f l g x H hA hfl hl hdB hv h
    refine ca_def5 ["sign", "middle"] H.f_part_run hA rfl rfl (by decide +kernel) (by decide +kernel) fun q L C' hB hA' K N hE => ?_
    rw [← hB] at H
    have G := H.g
    unfold gt bt ct at G
    simp only [List.map]
    repeat' (walk_at "m")
    refine ⟨fun q => ?_, fun q => ?_⟩
    · have h1 : l - f = 1 := by simp at q; omega
      simp only [pcnt_one h1, Nat.add_zero] at h
      repeat' (walk_at "m")
      exact h
    have h1 : l - f ≠ 1 := by simp at q; omega
    obtain ⟨va, vb, ha, hb, _, m1, m2, hbest⟩ := val_node hv h1
    repeat' (walk_at "m")
    refine ex_for hE ?_ (fun _ _ => rfl) (fun _ => rfl)
    repeat' (walk_at "m")
    refine ca_range2 ?_
    refine forF (rngList (f : Int) 1 ((l : Int) - (f : Int)).toNat) (fun i (v : Option D) => [some (.ref t), some (.ref a), some (.int f), some (.int l), some (.int (d + 1 : Nat)), v, none]) (fun i _ => tabM t xs :: .list a (intsD (cntL ws.length fun j => g j + if f ≤ j ∧ j < f + i then 1 else 0)) :: μ) (fun _ _ => True) none (itb_range hA'.handled (by omega) (by omega) (by omega) (by omega)) trivial rfl ?_ ?_ ?_
    · congr 4
      refine cntL_congr fun j _ => ?_
      rw [if_neg (by omega)]; omega
    · rintro i y v hy -
      obtain ⟨hi, rfl⟩ := rngList_get hy
      have ex : D.int ((f : Int) + (i : Int) * 1) = D.int ((f + i : Nat) : Int) := by congr 1; omega
      rw [ex]
      repeat' (walk_at "m")
      refine ex_setitem ?_ rfl rfl
      repeat' (walk_at "m")
      refine sub_list (.inr ⟨a, rfl, .tail _ (.tail _ (.head _))⟩) (by omega) (cntL_get (i := ((f + i : Nat) : Int).toNat) (by omega)) (by omega) rfl ?_
      repeat' (walk_at "m")
      refine ⟨a, _, ((f + i : Nat) : Int), _, rfl, rfl, by omega, by rw [intsD_len, cntL_len]; omega, by rw [intsD_len, cntL_len]; omega, .there (.there .here), ?_⟩
      rw [Int.toNat_natCast, cntL_set ws.length (fun j => g j + if f ≤ j ∧ j < f + i then 1 else 0) (f + i)]
      repeat' (walk_at "m")
      refine ⟨some (.int ((f + i : Nat) : Int)), trivial, ?_⟩
      congr 5
      refine cntL_congr fun j _ => ?_
      by_cases e : j = f + i
      · rw [if_pos e, if_neg (by omega), if_pos (by omega)]
      · rw [if_neg e]
        by_cases e2 : f ≤ j ∧ j < f + i
        · rw [if_pos e2, if_pos (by omega)]
        · rw [if_neg e2, if_neg (by omega)]
    · rintro v -
      rw [rngList_length]
      have el : f + ((l : Int) - (f : Int)).toNat = l := by omega
      rw [el]
      repeat' (walk_at "m")
      have ed : ((d + 1 : Nat) : Int) - 1 = (d : Int) := by omega
      rw [ed]
      refine best_middle_ca (v := val ws d) H (hA'.mono (by omega)) (.tail _ (.head _)) hfl (by omega) (fun m' hm1 hm2 => ⟨tab_end hT (by omega) hm1 (by omega), tab_end hT (by omega) hm2 hl⟩) ?_
      rw [hbest]
      unfold mD
      repeat' (walk_at "m")
      rw [ed]
      refine ca_via (List.perm_middle (l₁ := [_, _])).symm (ih H (hA'.mono (by omega)) m1 (by omega) (by omega) ha ⟨_, List.perm_middle (l₁ := [_, _]), ?_⟩)
      repeat' (walk_at "m")
      rw [ed]
      refine ca_via (List.perm_middle (l₁ := [_, _])).symm (ih H (hA'.mono (by omega)) m2 (by omega) (by omega) hb ⟨_, List.perm_middle (l₁ := [_, _]), ?_⟩)
      repeat' (walk_at "m")
      have eg : (fun i => g i + pcnt ws (d + 1) f l i) = fun i => (g i + if f ≤ i ∧ i < l then 1 else 0) + pcnt ws d f (midO ws d f l) i + pcnt ws d (midO ws d f l) l i := by
        funext i; rw [pcnt, if_neg h1]; omega
      rw [eg] at h
      exact h
theorem ordered_lengths_ca {dw : D} {ws : List Int} {b : Nat} {w : MO} (H : Facts C.B ad) (hA : AOk C 16) (hi : Items (w :: μ) dw (intsD ws)) (hl : ws.length ≤ 24) (hw : ∀ x ∈ ws, 0 ≤ x ∧ x ≤ 1000000000000) (hb1 : 1 ≤ b) (hb2 : b ≤ 12) (hr : ws.length ≤ 2 ^ b)
    (h : P (.lst (intsD (ordL ws b))) (w :: μ)) : Ca C (.ref ad.f_ordered_lengths) [dw, .int b] (w :: μ) P X := by
  refine ca_jf ?_
  refine ca_def2 ["table", "lengths"] H.f_ordered_lengths hA rfl rfl (by decide +kernel) (by decide +kernel) fun q L C' hB hA' K N hE => ?_
  rw [← hB] at H
  have G := H.g
  unfold gt bt ct at G
  simp only [List.map]
  repeat' (walk_at "m")
  refine least_table_ca H (hA'.mono (by decide)) (hi.cons _) hl hw hb1 hb2 hr fun t xs hT => ?_
  repeat' (walk_at "m")
  refine ca_len ((hi.cons _).cons _) (by rw [intsD_len]; omega) ?_
  rw [intsD_len]
  repeat' (walk_at "m")
  refine ⟨fun q => ?_, fun q => ?_⟩
  · have h2 : ws.length < 2 := by simp at q; omega
    repeat' (walk_at "m")
    refine ev_ListF ?_ rfl
    repeat' (walk_at "m")
    refine ⟨by decide, ?_⟩
    repeat' (walk_at "m")
    refine ca_len ((hi.cons _).cons _) (by rw [intsD_len]; omega) ?_
    rw [intsD_len]
    refine bin_mul_listO (.inl rfl) (by omega) (by simp; omega) (by omega) fun a => ?_
    rw [Int.toNat_natCast, ones]
    repeat' (walk_at "m")
    rw [ordL, if_pos h2] at h
    exact jfP_l (.keep (.drop rfl .refl)) h
  · have h2 : ¬ ws.length < 2 := by simp at q; omega
    obtain ⟨x, hx⟩ := val_some (ws := ws) (d := b) (f := 0) (l := ws.length) (by omega) (by omega)
    rw [ordL, if_neg h2] at h
    repeat' (walk_at "m")
    refine ev_ListF ?_ rfl
    repeat' (walk_at "m")
    refine ⟨by decide, ?_⟩
    repeat' (walk_at "m")
    refine ca_len ((hi.cons _).cons _) (by rw [intsD_len]; omega) ?_
    rw [intsD_len]
    refine bin_mul_listO (.inl rfl) (by omega) (by simp; omega) (by omega) fun a => ?_
    rw [Int.toNat_natCast, zeros]
    repeat' (walk_at "m")
    refine ca_len (((hi.cons _).cons _).cons _) (by rw [intsD_len]; omega) ?_
    rw [intsD_len]
    repeat' (walk_at "m")
    refine ca_via3 (part_run_ca (f := 0) hT hl hb2 b H (hA'.mono (by omega)) (by omega) (by omega) (Nat.le_refl _) hx ⟨_, _, rfl, ?_⟩)
    repeat' (walk_at "m")
    simp only [Nat.zero_add]
    exact jfP_l (.keep (.drop rfl .refl)) h

end

section
variable {C : Cx} {ad : Ad} {μ : List MO} {P : Post} {X : XPost} {n : Nat}
theorem leaves_ca {d : D} {sc : List Int} {first : Int} {m b : Nat} {w : MO} (H : Facts C.B ad) (hA : AOk C 2) (hi : Items (w :: μ) d (intsD sc)) (hl : sc.length ≤ 63) (hf0 : 0 ≤ first) (hf1 : first ≤ 1000) (hm0 : 1 ≤ m) (hm1 : m ≤ 24) (hb : 1 ≤ b) (hr : m ≤ 2 ^ b)
    (h : ∀ a (zs : List Nat), LeafOk m b zs → P (.ref a) (w :: .list a (intsD (nI zs)) :: μ)) : Ca C (.ref ad.f_law_leaves) [d, .int first, .int m, .int b] (w :: μ) P X := by
  refine ca_pm ?_
  refine ca_def4 ["_law_depths", "_law_k", "_law_shallow", "_law_at"] H.f_law_leaves hA rfl rfl (by decide +kernel) (by decide +kernel) fun q L C' hB hA' K N hE => ?_
  rw [← hB] at H
  have G := H.g
  unfold gt bt ct at G
  simp only [List.map]
  repeat' (walk_at "m")
  refine ev_ListO ?_ rfl
  repeat' (walk_at "m")
  refine ⟨by decide, _, _, rfl, fun a0 => ?_⟩
  repeat' (walk_at "m")
  refine ex_for hE ?_ (fun _ _ => rfl) (fun _ => rfl)
  repeat' (walk_at "m")
  refine ca_range1 ?_
  refine forF (rngList 0 1 (((m : Int) - 1) - 0).toNat) (fun i (v : (Addr × List Nat) × Option D × Option D × Option D) => [some d, some (.int first), some (.int m), some (.int b), some (.ref v.1.1), v.2.1, v.2.2.1, v.2.2.2]) (fun i v => .list v.1.1 (intsD (nI v.1.2)) :: w :: μ)
    (fun i v => v.1.2.length = i + 1 ∧ Lv 0 v.1.2 ∧ ∀ z ∈ v.1.2, z ≤ b) ((a0, [0]), none, none, none) (itb_range hA'.handled (by decide) (by decide) (by omega) (by omega)) ⟨rfl, .leaf 0, by simp⟩ rfl rfl ?_ ?_
  · rintro i x ⟨⟨a, zs⟩, vk, vs, va⟩ hx ⟨hR, hlv, hle⟩
    obtain ⟨hi', rfl⟩ := rngList_get hx
    dsimp only at hR hlv hle ⊢
    have him : i + 1 < m := by omega
    have hnl := nI_len zs
    repeat' (walk_at "m")
    refine ex_assign_cfilt ["_law_at"] K ?_ rfl (by decide +kernel) (by decide +kernel) (by decide +kernel) (by decide +kernel) rfl (fun _ _ => rfl) (fun _ => rfl)
    repeat' (walk_at "m")
    refine ca_len (.inr ⟨a, rfl, .tail _ (.head _)⟩) (by rw [intsD_len]; omega) ?_
    rw [intsD_len]
    repeat' (walk_at "m")
    refine ca_range1 ?_
    refine ⟨rngList 0 1 (((nI zs).length : Int) - 0).toNat, fun j => decide (zs.getD j 0 < b), fun j => .int (j : Int), itb_range hA'.handled (by decide) (by decide) (by omega) (by omega), by rw [rngList_length]; exact Nat.le_trans (show _ ≤ 1000 by omega) (by decide), ?_, ?_⟩
    · intro j x hx cl Lc K2 N2 hcl
      obtain ⟨hj, rfl⟩ := rngList_get hx
      have hj2 : j < zs.length := by omega
      have ex : D.int (0 + (j : Int) * 1) = D.int (j : Int) := by congr 1; omega
      rw [ex]
      simp only [List.map]
      repeat' (walk_at "m")
      refine sub_list (.inr ⟨a, rfl, .tail _ (.tail _ (.head _))⟩) (by omega) (intsD_get (i := j) (by omega)) (by omega) rfl ?_
      rw [nI_getD]
      repeat' (walk_at "m")
      have e : decide (((zs.getD j 0 : Nat) : Int) < (b : Int)) = decide (zs.getD j 0 < b) := by simp
      rw [e]
      refine ⟨fun q => ⟨q, ?_⟩, fun q => ⟨q, _, rfl⟩⟩
      repeat' (walk_at "m")
      exact ⟨rfl, _, rfl⟩
    · rw [rngList_length]
      have hf : ∀ x ∈ ((List.range (((nI zs).length : Int) - 0).toNat).filter fun j => decide (zs.getD j 0 < b)).map (fun (j : Nat) => D.int (j : Int)), ∃ j : Nat, j < zs.length ∧ zs.getD j 0 < b ∧ x = .int j := fun x hx => by
        obtain ⟨j, hj, rfl⟩ := List.mem_map.mp hx
        obtain ⟨q1, q2⟩ := List.mem_filter.mp hj
        simp at q1
        exact ⟨j, by omega, by simpa using q2, rfl⟩
      have hne : 0 < (((List.range (((nI zs).length : Int) - 0).toNat).filter fun j => decide (zs.getD j 0 < b)).map (fun (j : Nat) => D.int (j : Int))).length := by
        obtain ⟨z, hz, hzb⟩ := hlv.shallow hle (by omega)
        obtain ⟨j, hj, rfl⟩ := List.mem_iff_getElem.mp hz
        refine List.length_pos_of_mem (a := D.int (j : Int)) (List.mem_map.mpr ⟨j, List.mem_filter.mpr ⟨by simp; omega, ?_⟩, rfl⟩)
        simpa [List.getD, hj] using hzb
      have hfl : (((List.range (((nI zs).length : Int) - 0).toNat).filter fun j => decide (zs.getD j 0 < b)).map (fun (j : Nat) => D.int (j : Int))).length ≤ 1000 := by
        rw [List.length_map]; refine Nat.le_trans (List.length_filter_le _ _) ?_
        rw [List.length_range]; omega
      generalize ((List.range (((nI zs).length : Int) - 0).toNat).filter fun j => decide (zs.getD j 0 < b)).map (fun (j : Nat) => D.int (j : Int)) = fs at hf hfl hne
      repeat' (walk_at "m")
      refine ev_ListF ?_ rfl
      repeat' (walk_at "m")
      refine ⟨by decide, ?_⟩
      repeat' (walk_at "m")
      refine cmp_eqB (.inl rfl) (.inl rfl) (.lst (n := 0) fun x hx => by obtain ⟨j, _, _, rfl⟩ := hf x hx; exact .int _) (.lst (n := 0) fun _ q => nomatch q) (by decide) (by decide) (by have := hA'.units; omega) ?_
      rw [eqv_nil]
      refine ⟨fun q => ?_, fun q => ?_⟩
      · cases fs with
        | nil => simp at hne
        | cons => simp at q
      repeat' (walk_at "m")
      refine cell_ca H (hA'.mono (by decide)) ((hi.cons _).cons _) hl (by omega) (by omega) ?_
      repeat' (walk_at "m")
      refine ca_len (.inl rfl) (by omega) ?_
      have hpos : (0 : Int) < fs.length := by omega
      repeat' (walk_at "m")
      have hc0 := Int.fmod_nonneg_of_pos (cellV sc (first + (0 + (i : Int) * 1))) hpos
      have hc1 := Int.fmod_lt_of_pos (cellV sc (first + (0 + (i : Int) * 1))) hpos
      generalize (cellV sc (first + (0 + (i : Int) * 1))).fmod fs.length = c at hc0 hc1
      have hcn : c.toNat < fs.length := by omega
      obtain ⟨j, hj, hjb, ej⟩ := hf fs[c.toNat] (List.getElem_mem hcn)
      refine sub_list (.inl rfl) hc0 ((List.getElem?_eq_getElem hcn).trans (congrArg some ej)) (by omega) rfl ?_
      repeat' (walk_at "m")
      have mm : MO.list a (intsD (nI zs)) ∈ MO.list a (intsD (nI zs)) :: w :: μ := .head _
      refine slc_list (lo := none) (hi := some (j : Int)) (.inr ⟨a, rfl, .tail _ mm⟩) (by rw [intsD_len]; exact Nat.le_trans (show _ ≤ 1000 by omega) (by decide)) trivial rfl (by simp) (by simp) (.inr rfl) ?_
      repeat' (walk_at "m")
      refine ev_ListF ?_ rfl
      repeat' (walk_at "m")
      refine sub_list (.inr ⟨a, rfl, .tail _ mm⟩) (by omega) (intsD_get (i := j) (by omega)) (by omega) rfl ?_
      repeat' (walk_at "m")
      refine sub_list (.inr ⟨a, rfl, .tail _ mm⟩) (by omega) (intsD_get (i := j) (by omega)) (by omega) rfl ?_
      repeat' (walk_at "m")
      refine ⟨by simp, ?_⟩
      have e1 : cutD none (some (j : Int)) (intsD (nI zs)) = intsD (nI (zs.take j)) := by rw [nI_take]; simp [cutD, intsD]
      rw [e1]
      refine bin_add_list (.inl rfl) (.inl rfl) (by rw [intsD_len, nI_len]; simp; exact Nat.le_trans (show _ ≤ 1000 by omega) (by decide)) ?_
      repeat' (walk_at "m")
      refine slc_list (lo := some ((j : Int) + 1)) (hi := none) (.inr ⟨a, rfl, .tail _ mm⟩) (by rw [intsD_len]; exact Nat.le_trans (show _ ≤ 1000 by omega) (by decide)) rfl trivial (by simp; omega) (by simp) (.inl rfl) ?_
      have e2 : cutD (some ((j : Int) + 1)) none (intsD (nI zs)) = intsD (nI (zs.drop (j + 1))) := by
        have : ((j : Int) + 1).toNat = j + 1 := by omega
        rw [nI_drop]; simp [cutD, intsD, this]
      rw [e2]
      have e3 : intsD (nI (zs.take j)) ++ [D.int ((nI zs).getD j 0 + 1), D.int ((nI zs).getD j 0 + 1)] ++ intsD (nI (zs.drop (j + 1))) = intsD (nI (zs.take j ++ (zs.getD j 0 + 1) :: (zs.getD j 0 + 1) :: zs.drop (j + 1))) := by rw [nI_getD]; simp [intsD, nI]
      refine bin_dp (bin_add_listO (.inl rfl) (.inl rfl) (by simp [intsD_len, nI_len]; exact Nat.le_trans (show _ ≤ 1000 by omega) (by decide)) fun a' => dpP_3 ?_)
      rw [e3]
      repeat' (walk_at "m")
      refine ⟨((a', _), _, _, _), ⟨?_, ?_, ?_⟩, rfl⟩
      · show List.length _ = _
        simp; omega
      · exact hlv.split (getElem_cut hj)
      · intro z hz
        have hz : z ∈ zs.take j ++ (zs.getD j 0 + 1) :: (zs.getD j 0 + 1) :: zs.drop (j + 1) := hz
        rcases List.mem_append.mp hz with q | q
        · exact hle z (List.mem_of_mem_take q)
        · rcases List.mem_cons.mp q with rfl | q
          · exact hjb
          · rcases List.mem_cons.mp q with rfl | q
            · exact hjb
            · exact hle z (List.mem_of_mem_drop q)
  · rintro ⟨⟨a, zs⟩, vk, vs, va⟩ ⟨hR, hlv, hle⟩
    rw [rngList_length] at hR
    dsimp only at hR hlv hle ⊢
    have hnl := nI_len zs
    have hzm : zs.length = m := by omega
    repeat' (walk_at "m")
    refine ca_len (.inr ⟨a, rfl, .tail _ (.head _)⟩) (by rw [intsD_len]; omega) ?_
    rw [intsD_len]
    repeat' (walk_at "m")
    refine ⟨fun q => ?_, fun q => ?_⟩
    · have hm : m = 1 := by simp at q; omega
      repeat' (walk_at "m")
      refine ev_dp (ev_ListO ?_ rfl)
      repeat' (walk_at "m")
      refine ⟨by decide, _, _, rfl, fun a' => dpP_3 ?_⟩
      repeat' (walk_at "m")
      exact pmP_swap (h a' [1] ⟨by simp [hm], by simp; exact hb, .inl ⟨hm, rfl⟩⟩)
    · have hm : m ≠ 1 := by simp at q; omega
      repeat' (walk_at "m")
      exact pmP_swap (h a zs ⟨hzm, fun z hz => ⟨hlv.pos (by omega) z hz, hle z hz⟩, .inr ⟨by omega, hlv⟩⟩)

theorem placed_ca {d : D} {zs : List Nat} {b : Nat} (H : Facts C.B ad) (hA : AOk C 2) (hi : Items μ d (intsD (nI zs))) (hz : ∀ z ∈ zs, z ≤ b) (hb : b ≤ 12) (h : P (.bool (decide (placed b 0 zs ≤ 2 ^ b))) μ) : Ca C (.ref ad.f_law_placed) [d, .int b] μ P X := by
  refine ca_def2 ["_law_place", "_law_length", "_law_many_here"] H.f_law_placed hA rfl rfl (by decide +kernel) (by decide +kernel) fun q L C' hB hA' K N hE => ?_
  rw [← hB] at H
  have G := H.g
  unfold gt bt ct at G
  simp only [List.map]
  repeat' (walk_at "m")
  refine ex_for hE ?_ (fun _ _ => rfl) (fun _ => rfl)
  repeat' (walk_at "m")
  refine forF (intsD (nI zs)) (fun i (v : Option D × Option D) => [some d, some (.int b), some (.int (placed b 0 (zs.take i) : Nat)), v.1, v.2]) (fun i _ => μ) (fun _ _ => True) (none, none) (itb_list hA'.handled ?_) trivial ?_ rfl ?_ ?_
  · rintro i μ' ⟨v, _, rfl⟩; exact hi.cons _
  · simp [placed]
  · rintro i x ⟨v1, v2⟩ hx -
    obtain ⟨k, hk, rfl⟩ := intsD_at hx
    have hil : i < zs.length := by
      have := (List.getElem?_eq_some_iff.mp hk).1
      rwa [nI_len] at this
    have hkz : k = ((zs.getD i 0 : Nat) : Int) := by
      rw [← nI_getD]; simp [List.getD, hk]
    have hzm : zs.getD i 0 ≤ b := hz _ (by simp [List.getD, hil])
    have hstep : zs.take (i + 1) = zs.take i ++ [zs.getD i 0] := by
      rw [List.take_add_one]; simp [List.getD, hil]
    have hpl : placed b 0 (zs.take (i + 1)) = (if placed b 0 (zs.take i) % 2 ^ (b - zs.getD i 0) > 0 then placed b 0 (zs.take i) + 2 ^ (b - zs.getD i 0) - placed b 0 (zs.take i) % 2 ^ (b - zs.getD i 0) else placed b 0 (zs.take i)) + 2 ^ (b - zs.getD i 0) := by
      rw [hstep, placed_app]; rfl
    subst hkz
    generalize zs.getD i 0 = z at hzm hpl ⊢
    generalize placed b 0 (zs.take i) = p at hpl ⊢
    repeat' (walk_at "m")
    have eb : (b : Int) - (z : Int) = ((b - z : Nat) : Int) := by omega
    rw [eb]
    refine doubled_ca H hA' (by omega) (by omega) ?_
    have e2 : (2 : Int) ^ ((b - z : Nat) : Int).toNat = ((2 ^ (b - z) : Nat) : Int) := by simp
    rw [e2]
    have hpos : 0 < 2 ^ (b - z) := Nat.pow_pos (by decide)
    generalize 2 ^ (b - z) = w at hpl hpos ⊢
    have em : ((p : Int).fmod (w : Int)) = ((p % w : Nat) : Int) := by rw [Int.fmod_eq_emod_of_nonneg _ (by omega)]; simp
    have hmod := Nat.mod_lt p hpos
    repeat' (walk_at "k")
    refine ex_cutF (fun u : Option D => [some d, some (.int b), some (.int ((if p % w > 0 then p + w - p % w else p : Nat) : Int)), some (.int z), some (.int w)]) (fun _ => True) ?_ ?_
    · repeat' (walk_at "m")
      rw [em]
      refine ⟨fun q => ?_, fun q => ?_⟩
      · rw [decide_eq_true_eq] at q
        repeat' (walk_at "m")
        rw [em]
        exact ⟨none, trivial, by rw [if_pos (by omega), show (p : Int) + (w : Int) - ((p % w : Nat) : Int) = ((p + w - p % w : Nat) : Int) by omega]⟩
      · rw [decide_eq_false_iff_not] at q
        repeat' (walk_at "m")
        exact ⟨none, trivial, by rw [if_neg (by omega)]⟩
    · rintro u -
      repeat' (walk_at "m")
      exact ⟨(_, _), trivial, by rw [hpl, Int.natCast_add]⟩
  · rintro ⟨v1, v2⟩ -
    rw [intsD_len, nI_len, List.take_of_length_le (Nat.le_refl _)]
    repeat' (walk_at "m")
    refine doubled_ca H hA' (by omega) (by omega) ?_
    have e2 : (2 : Int) ^ (b : Int).toNat = ((2 ^ b : Nat) : Int) := by simp
    rw [e2]
    repeat' (walk_at "m")
    have e : decide (((placed b 0 zs : Nat) : Int) ≤ ((2 ^ b : Nat) : Int)) = decide (placed b 0 zs ≤ 2 ^ b) := by
      congr 1; exact propext Int.ofNat_le
    rw [e]
    exact h
theorem law_ca {d : D} {sc : List Int} (H : Facts C.B ad) (hA : AOk C 17) (hi : Items μ d (intsD sc)) (hl : sc.length ≤ 63) (h : P (.bool true) μ) : Ca C (.ref ad.f_law) [d] μ P X := by
  refine ca_jk ?_
  refine ca_def1 ["_law_many_here", "_law_bound_here", "_law_weights_here", "_law_found", "_law_other", "_law_here"] H.f_law hA rfl rfl (by decide +kernel) (by decide +kernel) fun q L C' hB hA' K N hE => ?_
  rw [← hB] at H
  have G := H.g
  unfold gt bt ct at G
  have hu : C'.A.units + 64 < cLine := by have := hA'.units; omega
  simp only [List.map]
  repeat' (walk_at "m")
  refine many_ca H (hA'.mono (by decide)) (hi.cons _) hl fun n hn => ?_
  repeat' (walk_at "m")
  refine bound_ca H (hA'.mono (by decide)) (hi.cons _) hl hn fun b b1 b2 b3 => ?_
  repeat' (walk_at "m")
  refine cell_ca H (hA'.mono (by decide)) (hi.cons _) hl (by omega) (by omega) ?_
  repeat' (walk_at "m")
  refine weights_ca H (hA'.mono (by decide)) (hi.cons _) hl (by omega) (by omega) hn (fmod_lo _ (by decide)) (fmod_hi _ (by decide)) fun ws hwl hw => ?_
  subst hwl
  repeat' (walk_at "m")
  refine ca_list (.inl rfl) (by rw [intsD_len]; exact Nat.le_trans hn (by decide)) ?_
  repeat' (walk_at "m")
  refine ordered_lengths_ca H hA' (.inl rfl) hn hw b1 b2 b3 ?_
  have hol := ordN_len b3
  rw [ordL_eq b3]
  repeat' (walk_at "m")
  refine ca_isi (.lst _) (by decide) ⟨_, rfl, fun q => absurd q (by decide), fun _ => ?_⟩
  repeat' (walk_at "m")
  refine ca_len (.inl rfl) (by rw [intsD_len, nI_len]; omega) ?_
  rw [intsD_len, nI_len, hol]
  repeat' (walk_at "m")
  refine ⟨fun q => absurd q (by simp), fun _ => ?_⟩
  repeat' (walk_at "m")
  refine ⟨fun q => absurd q (by decide), fun _ => ?_⟩
  repeat' (walk_at "m")
  refine ev_cfilt ["_law_one"] K ?_ (by decide +kernel) (by decide +kernel) (by decide +kernel) (by decide +kernel) rfl (fun _ _ => rfl) (fun _ => rfl)
  repeat' (walk_at "m")
  refine ⟨intsD (nI (ordN ws b)), fun _ => false, fun i => .none, itb_list hA'.handled (fun _ _ _ => .inl rfl), by rw [intsD_len, nI_len, hol]; exact Nat.le_trans hn (by decide), ?_, ?_⟩
  · intro i x hx cl Lc K2 N2 hcl
    obtain ⟨k, hk, rfl⟩ := intsD_at hx
    have hk1 : 1 ≤ k ∧ k ≤ b := by
      obtain ⟨z, hz, rfl⟩ := List.mem_map.mp (List.mem_of_getElem? hk)
      have h1 : 1 ≤ ws.length := by rw [← hol]; exact List.length_pos_of_mem hz
      have := (ordN_leaf b1 h1 b3).2.1 z hz
      omega
    simp only [List.map]
    repeat' (walk_at "m")
    refine whole_ca H (hA'.mono (by decide)) (.int _) ?_
    refine ⟨_, rfl, fun q => absurd q (by decide), fun _ => ?_⟩
    repeat' (walk_at "m")
    refine ⟨fun q => absurd q (by simp; omega), fun _ => ?_⟩
    repeat' (walk_at "m")
    refine ⟨fun q => absurd q (by simp; omega), fun _ => ?_⟩
    repeat' (walk_at "m")
    exact ⟨fun q => absurd q (by decide), fun _ => ⟨trivial, _, rfl⟩⟩
  rw [show ((List.range (intsD (nI (ordN ws b))).length).filter fun _ => false) = [] by simp]
  simp only [List.map_nil]
  repeat' (walk_at "m")
  refine ev_ListF ?_ rfl
  repeat' (walk_at "m")
  refine ⟨by decide, ?_⟩
  repeat' (walk_at "m")
  have p0 : Pl 1 (.lst []) := .lst fun _ q => nomatch q
  refine cmp_neP (.inl rfl) (.inl rfl) p0 p0 (by decide) (by decide) hu fun c hc => ?_
  have hc : c = false := by simpa using hc
  subst hc
  refine ⟨fun q => absurd q (by decide), fun _ => ?_⟩
  repeat' (walk_at "m")
  refine ⟨fun q => ?_, fun q => ?_⟩
  · repeat' (walk_at "m")
    exact jkP .refl h
  have h1 : 1 ≤ ws.length := by
    rcases Nat.eq_zero_or_pos ws.length with e | e
    · rw [e] at q; exact absurd q (by decide)
    · exact e
  have hlo := ordN_leaf b1 h1 b3
  repeat' (walk_at "m")
  refine leaves_ca H (hA'.mono (by decide)) (hi.cons _) hl (by decide) (by decide) h1 hn b1 b3 fun a zs hzs => ?_
  have hzl := hzs.1
  repeat' (walk_at "m")
  refine ev_cmap ["_law_k"] K ?_ (by decide +kernel) (by decide +kernel) (by decide +kernel) (by decide +kernel) rfl (fun _ _ => rfl) (fun _ => rfl)
  repeat' (walk_at "m")
  refine ca_range1 ?_
  refine ⟨rngList 0 1 ((ws.length : Int) - 0).toNat, fun i => .int (ws.getD i 0 * (nI (ordN ws b)).getD i 0), itb_range hA'.handled (by decide) (by decide) (by omega) (by omega), by rw [rngList_length]; exact Nat.le_trans (show _ ≤ 1000 by omega) (by decide), ?_, ?_⟩
  · intro j y hy cl Lc K2 N2 hcl
    obtain ⟨hj, rfl⟩ := rngList_get hy
    have hjn : j < ws.length := by omega
    have ex : D.int (0 + (j : Int) * 1) = D.int (j : Int) := by congr 1; omega
    rw [ex]
    simp only [List.map]
    repeat' (walk_at "m")
    refine sub_list (.inl rfl) (by omega) (intsD_get (i := j) hjn) (by omega) rfl ?_
    repeat' (walk_at "m")
    refine sub_list (.inl rfl) (by omega) (intsD_get (i := j) (by rw [nI_len, hol]; exact hjn)) (by omega) rfl ?_
    have hwj := hw (ws.getD j 0) (by simp [List.getD, hjn])
    generalize ws.getD j 0 = wj at hwj ⊢
    repeat' (walk_at "m")
    exact ⟨rfl, _, rfl⟩
  rw [rngList_length, show ((ws.length : Int) - 0).toNat = ws.length by omega, range_ints]
  repeat' (walk_at "m")
  refine ca_sum hA'.handled (.inl rfl) ?_
  rw [wSum ws _ hol]
  repeat' (walk_at "m")
  refine placed_ca H (hA'.mono (by decide)) (.inl rfl) (fun z hz => (hlo.2.1 z hz).2) b2 ?_
  rw [decide_eq_true hlo.placed]
  refine ⟨_, rfl, fun _ => ?_, fun q => absurd q (by decide)⟩
  repeat' (walk_at "m")
  refine ev_cmap ["_law_k"] K ?_ (by decide +kernel) (by decide +kernel) (by decide +kernel) (by decide +kernel) rfl (fun _ _ => rfl) (fun _ => rfl)
  repeat' (walk_at "m")
  refine ca_range1 ?_
  refine ⟨rngList 0 1 ((ws.length : Int) - 0).toNat, fun i => .int (ws.getD i 0 * (nI zs).getD i 0), itb_range hA'.handled (by decide) (by decide) (by omega) (by omega), by rw [rngList_length]; exact Nat.le_trans (show _ ≤ 1000 by omega) (by decide), ?_, ?_⟩
  · intro j y hy cl Lc K2 N2 hcl
    obtain ⟨hj, rfl⟩ := rngList_get hy
    have hjn : j < ws.length := by omega
    have ex : D.int (0 + (j : Int) * 1) = D.int (j : Int) := by congr 1; omega
    rw [ex]
    simp only [List.map]
    repeat' (walk_at "m")
    refine sub_list (.inl rfl) (by omega) (intsD_get (i := j) hjn) (by omega) rfl ?_
    repeat' (walk_at "m")
    refine sub_list (.inr ⟨a, rfl, .tail _ (.tail _ (.head _))⟩) (by omega) (intsD_get (i := j) (by rw [nI_len, hzl]; exact hjn)) (by omega) rfl ?_
    have hwj := hw (ws.getD j 0) (by simp [List.getD, hjn])
    generalize ws.getD j 0 = wj at hwj ⊢
    repeat' (walk_at "m")
    exact ⟨rfl, _, rfl⟩
  rw [rngList_length, show ((ws.length : Int) - 0).toNat = ws.length by omega, range_ints]
  repeat' (walk_at "m")
  refine ca_sum hA'.handled (.inl rfl) ?_
  rw [wSum ws _ hzl]
  repeat' (walk_at "m")
  rw [decide_eq_true (ord_least b3 hzs)]
  exact jkP (.drop rfl .refl) h
end
end Mine

open PySem PySem.W PyProof.Rows
set_option maxRecDepth 100000
set_option maxHeartbeats 8000000
namespace Mine
theorem facts_of {loose : List Str} {mean : ExcName → Option Value} {mg mb : Str → Option Value} {B : Shared} {P : Params} (T : Top vw loose mean mg mb B.heap) (hl : loose = looseW vw []) (KX : (kx P).In B.heap) : ∃ ad, Facts B ad ∧ mg "law" = some (.ref ad.f_law) := by
  obtain ⟨a0, m0, f0⟩ := fnSt_of (st := stAt p11 10) (names := ["thing", "least", "most"]) T 0 (by rfl) rfl (by decide +kernel) (by decide +kernel) (by decide +kernel) rfl rfl rfl (fun _ _ _ vs h => match vs, h with | [_, _, _], _ => rfl)
  obtain ⟨a1, m1, f1⟩ := fnSt_of (st := stAt p11 11) (names := ["weights"]) T 1 (by rfl) rfl (by decide +kernel) (by decide +kernel) (by decide +kernel) rfl rfl rfl (fun _ _ _ vs h => match vs, h with | [_], _ => rfl)
  obtain ⟨a2, m2, f2⟩ := fnSt_of (st := stAt p11 12) (names := ["bound"]) T 2 (by rfl) rfl (by decide +kernel) (by decide +kernel) (by decide +kernel) rfl rfl rfl (fun _ _ _ vs h => match vs, h with | [_], _ => rfl)
  obtain ⟨a3, m3, f3⟩ := fnSt_of (st := stAt p11 13) (names := ["weights", "bound"]) T 3 (by rfl) rfl (by decide +kernel) (by decide +kernel) (by decide +kernel) rfl rfl rfl (fun _ _ _ vs h => match vs, h with | [_, _], _ => rfl)
  obtain ⟨a4, m4, f4⟩ := fnSt_of (st := stAt p11 15) (names := ["table", "first", "middle", "last", "depth"]) T 4 (by rfl) rfl (by decide +kernel) (by decide +kernel) (by decide +kernel) rfl rfl rfl (fun _ _ _ vs h => match vs, h with | [_, _, _, _, _], _ => rfl)
  obtain ⟨a5, m5, f5⟩ := fnSt_of (st := stAt p11 16) (names := ["table", "first", "last", "depth"]) T 5 (by rfl) rfl (by decide +kernel) (by decide +kernel) (by decide +kernel) rfl rfl rfl (fun _ _ _ vs h => match vs, h with | [_, _, _, _], _ => rfl)
  obtain ⟨a6, m6, f6⟩ := fnSt_of (st := stAt p11 17) (names := ["table", "weights", "first", "last", "depth"]) T 6 (by rfl) rfl (by decide +kernel) (by decide +kernel) (by decide +kernel) rfl rfl rfl (fun _ _ _ vs h => match vs, h with | [_, _, _, _, _], _ => rfl)
  obtain ⟨a7, m7, f7⟩ := fnSt_of (st := stAt p11 18) (names := ["weights", "bound"]) T 7 (by rfl) rfl (by decide +kernel) (by decide +kernel) (by decide +kernel) rfl rfl rfl (fun _ _ _ vs h => match vs, h with | [_, _], _ => rfl)
  obtain ⟨a8, m8, f8⟩ := fnSt_of (st := stAt p11 19) (names := ["table", "lengths", "first", "last", "depth"]) T 8 (by rfl) rfl (by decide +kernel) (by decide +kernel) (by decide +kernel) rfl rfl rfl (fun _ _ _ vs h => match vs, h with | [_, _, _, _, _], _ => rfl)
  obtain ⟨a9, m9, f9⟩ := fnSt_of (st := stAt p11 20) (names := ["weights", "bound"]) T 9 (by rfl) rfl (by decide +kernel) (by decide +kernel) (by decide +kernel) rfl rfl rfl (fun _ _ _ vs h => match vs, h with | [_, _], _ => rfl)
  obtain ⟨a10, m10, f10⟩ := fnSt_of (st := stAt p11 22) (names := ["_law_script", "_law_k"]) T 10 (by rfl) rfl (by decide +kernel) (by decide +kernel) (by decide +kernel) rfl rfl rfl (fun _ _ _ vs h => match vs, h with | [_, _], _ => rfl)
  obtain ⟨a11, m11, f11⟩ := fnSt_of (st := stAt p11 23) (names := ["_law_found"]) T 11 (by rfl) rfl (by decide +kernel) (by decide +kernel) (by decide +kernel) rfl rfl rfl (fun _ _ _ vs h => match vs, h with | [_], _ => rfl)
  obtain ⟨a12, m12, f12⟩ := fnSt_of (st := stAt p11 24) (names := ["_law_times"]) T 12 (by rfl) rfl (by decide +kernel) (by decide +kernel) (by decide +kernel) rfl rfl rfl (fun _ _ _ vs h => match vs, h with | [_], _ => rfl)
  obtain ⟨a13, m13, f13⟩ := fnSt_of (st := stAt p11 25) (names := ["_law_script", "_law_first", "_law_many_here", "_law_kind"]) T 13 (by rfl) rfl (by decide +kernel) (by decide +kernel) (by decide +kernel) rfl rfl rfl (fun _ _ _ vs h => match vs, h with | [_, _, _, _], _ => rfl)
  obtain ⟨a14, m14, f14⟩ := fnSt_of (st := stAt p11 26) (names := ["_law_many_here"]) T 14 (by rfl) rfl (by decide +kernel) (by decide +kernel) (by decide +kernel) rfl rfl rfl (fun _ _ _ vs h => match vs, h with | [_], _ => rfl)
  obtain ⟨a15, m15, f15⟩ := fnSt_of (st := stAt p11 27) (names := ["_law_script"]) T 15 (by rfl) rfl (by decide +kernel) (by decide +kernel) (by decide +kernel) rfl rfl rfl (fun _ _ _ vs h => match vs, h with | [_], _ => rfl)
  obtain ⟨a16, m16, f16⟩ := fnSt_of (st := stAt p11 28) (names := ["_law_script", "_law_many_here"]) T 16 (by rfl) rfl (by decide +kernel) (by decide +kernel) (by decide +kernel) rfl rfl rfl (fun _ _ _ vs h => match vs, h with | [_, _], _ => rfl)
  obtain ⟨a17, m17, f17⟩ := fnSt_of (st := stAt p11 29) (names := ["_law_script", "_law_first", "_law_many_here", "_law_bound_here"]) T 17 (by rfl) rfl (by decide +kernel) (by decide +kernel) (by decide +kernel) rfl rfl rfl (fun _ _ _ vs h => match vs, h with | [_, _, _, _], _ => rfl)
  obtain ⟨a18, m18, f18⟩ := fnSt_of (st := stAt p11 30) (names := ["_law_script", "_law_first", "_law_many_here"]) T 18 (by rfl) rfl (by decide +kernel) (by decide +kernel) (by decide +kernel) rfl rfl rfl (fun _ _ _ vs h => match vs, h with | [_, _, _], _ => rfl)
  obtain ⟨a19, m19, f19⟩ := fnSt_of (st := stAt p11 31) (names := ["_law_lengths", "_law_bound_here"]) T 19 (by rfl) rfl (by decide +kernel) (by decide +kernel) (by decide +kernel) rfl rfl rfl (fun _ _ _ vs h => match vs, h with | [_, _], _ => rfl)
  obtain ⟨a20, m20, f20⟩ := fnSt_of (st := stAt p11 32) (names := ["_law_script"]) T 20 (by rfl) rfl (by decide +kernel) (by decide +kernel) (by decide +kernel) rfl rfl rfl (fun _ _ _ vs h => match vs, h with | [_], _ => rfl)
  obtain ⟨t0, c0⟩ := const_int (x := "MOST_SIGNS") (i := 24) T (by rfl)
  obtain ⟨t1, c1⟩ := const_int (x := "MOST_WEIGHT") (i := 1000000000000) T (by rfl)
  obtain ⟨t2, c2⟩ := const_int (x := "MOST_BOUND") (i := 12) T (by rfl)
  refine ⟨⟨a0, a1, a2, a3, a4, a5, a6, a7, a8, a9, a10, a11, a12, a13, a14, a15, a16, a17, a18, a19, a20, t0, t1, t2⟩, ⟨gOk_of T ⟨m0, m1, m2, m3, m4, m5, m6, m7, m8, m9, m10, m11, m12, m13, m14, m15, m16, m17, m18, m19, m20, c0, c1, c2, trivial⟩ ?_ trivial ?_ ?_, f0, f1, f2, f3, f4, f5, f6, f7, f8, f9, f10, f11, f12, f13, f14, f15, f16, f17, f18, f19, f20⟩, m20⟩
  · exact ⟨fun f e => by cases e; exact f0.func, fun f e => by cases e; exact f1.func, fun f e => by cases e; exact f2.func, fun f e => by cases e; exact f3.func, fun f e => by cases e; exact f4.func, fun f e => by cases e; exact f5.func, fun f e => by cases e; exact f6.func, fun f e => by cases e; exact f7.func, fun f e => by cases e; exact f8.func, fun f e => by cases e; exact f9.func, fun f e => by cases e; exact f10.func, fun f e => by cases e; exact f11.func, fun f e => by cases e; exact f12.func, fun f e => by cases e; exact f13.func, fun f e => by cases e; exact f14.func, fun f e => by cases e; exact f15.func, fun f e => by cases e; exact f16.func, fun f e => by cases e; exact f17.func, fun f e => by cases e; exact f18.func, fun f e => by cases e; exact f19.func, fun f e => by cases e; exact f20.func, (fun f e => by cases e), (fun f e => by cases e), (fun f e => by cases e), trivial⟩
  · exact ⟨by boot_fast, by boot_fast, by boot_fast, by boot_fast, by boot_fast, by boot_fast, by boot_fast, by boot_fast, trivial⟩
  · subst hl; decide +kernel
theorem cw11 : PySem.Challenge.rw_uf040014_11.Holds := by
  refine sd fun said => ?_
  refine holds_open (q := vw) (loose := []) (Xt := XtL) (XP := XL vw []) (Yf := Hook.obs HK) (Ya := Hook.val HK) (YP := Hook.says HK) left_law (Hook.of HK) (Hook.keeps HK) (fun s e => xl_of s (Bool.and_eq_true_iff.mp e).1) XL.keeps (by rfl) (by rfl) (by rfl) (fun s e => recFacts_of (Bool.and_eq_true_iff.mp e).2) (by rfl) (by first | assumption | decide +kernel) (by decide +kernel) ⟨rfl, rfl, rfl, rfl, rfl, by decide +kernel⟩ ?hw ?hc
  (case hw => w_witness2)
  intro w s₀ s₁ mg mb G Y fa o pm cd doc dV kV ho hd hcd hD hmg hg args vals as hpre hlay hrd hwl hlo
  have KX := kIn_of Y
  refine Ground.open G ?_
  intro T B D TE TW
  obtain ⟨ad, H, hm'⟩ := facts_of T rfl KX
  have e : ad.f_law = fa := by
    have := hm'.symm.trans hmg
    cases this; rfl
  subst e
  wrow_args hpre hlay hrd hwl hlo
  rename_i hL _ _ _ hI _ hlen _
  refine law_done hg hL hI ?_ ?_
  · exact law_ca H (callerA_ok (by decide)) (.inl rfl) (by omega) rfl
  · intro s' h1 h2 h3
    exact GoodW.toG ⟨.inl ⟨_, _, _, rfl, raisesW_false (by wrow_none_raised), .bool true, by wrow_post, unshared_nil⟩, h1, h2, h3⟩
end Mine

set_option maxRecDepth 100000 in
set_option maxHeartbeats 8000000 in
theorem PySem.Challenge.cw_uf040014_11_holds : PySem.Challenge.rw_uf040014_11.Holds :=
  Mine.cw11
