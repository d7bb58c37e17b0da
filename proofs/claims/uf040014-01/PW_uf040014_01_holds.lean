import PyProof.Rows.All
import Wide.All
import OpenK.AllK
import Wide.FinOn
import PyProof.RulesRaise
import PyProof.Rules2
import PyProof.Claim2
import PyProof.Seq
import PyProof.TupleIter
import PyProof.NoPylong
import PyProof.Rules3
import PyProof.SliceList
import PyProof.CallType
import PyProof.Cells
import PyProof.CompMap
import PyProof.CompUse
import PyProof.CompFree
import PyProof.DefCall
import PyProof.ListOps
import PyProof.IsRules
import PyProof.EqLayable
import PyProof.RaisesMany
import PyProof.WalksMore
import PyProof.RangeFor
import PyProof.IsiHeapPairs
import PyProof.IsiNone
import PyProof.IsiPairs
import PyProof.ListCopy
import PyProof.ListIndexNeg
import PyProof.Rows.News
import PyProof.Rows.TupSub
import PyProof.Rows.IntRules
import PyProof.Rows.Exc
import PyProof.Rows.Chain
import PyProof.Rows.Nodes
import PyProof.Rows.RuleB_mul
import PyProof.Rows.RuleB_floordiv
import PyProof.Rows.RuleB_mod
import PyProof.Rows.RuleB_rshift
import PyProof.Rows.StrTemp
import PyProof.Rows.RuleB_small
import PyProof.Rows.RuleC_bool
import PyProof.Rows.RuleC_int
import PyProof.SameEqv
import PyProof.Rows.SeqMore
import PyProof.Rows.SumAny
import PySem.Challenge.RW_uf040014_01
set_option Elab.async false
open PySem PyProof.Rows
namespace Mine

abbrev FM := Addr → Option Obj

/-- plain data that a value stands for -/
inductive D where
  | none
  | bool (b : Bool)
  | int (i : Int)
  | str (x : Str)
  | tup (ds : List D)
  | lst (ds : List D)
  | rng (a b c : Int)
  | ref (a : Addr)
  | val (v : Value)


mutual
/-- the value v stands for the datum, by objects of φ alone -/
inductive Rep (φ : FM) : Value → D → Prop
  | none : Rep φ .none .none
  | bool (b : Bool) : Rep φ (.bool b) (.bool b)
  | int (i : Int) (t : Tok) : Rep φ (.int i t) (.int i)
  | str (x : Str) (t : Tok) : Rep φ (.str x t) (.str x)
  | tup {a : Addr} {o : Obj} {vs : List Value} {n : Nat} {ds : List D} : φ a = some o → o.cls = .type "tuple" → o.data = .seq vs.toArray n → Reps φ vs ds → Rep φ (.ref a) (.tup ds)
  | lst {a : Addr} {o : Obj} {vs : List Value} {n : Nat} {ds : List D} : φ a = some o → o.cls = .type "list" → o.data = .seq vs.toArray n → Reps φ vs ds → Rep φ (.ref a) (.lst ds)
  | rng {r : Addr} {a b c : Int} {t u v : Tok} : φ r = some { cls := .type "range", dict := none, data := .fields #[.int a t, .int b u, .int c v], slots := #[] } → Rep φ (.ref r) (.rng a b c)
  | ref (a : Addr) : Rep φ (.ref a) (.ref a)
  | val (v : Value) : Rep φ v (.val v)
inductive Reps (φ : FM) : List Value → List D → Prop
  | nil : Reps φ [] []
  | cons {v : Value} {d : D} {vs : List Value} {ds : List D} : Rep φ v d → Reps φ vs ds → Reps φ (v :: vs) (d :: ds)
end

def FM.le (φ ψ : FM) : Prop := ∀ a o, φ a = some o → ψ a = some o

mutual
theorem Rep.mono {φ ψ : FM} (k : FM.le φ ψ) : ∀ {v d}, Rep φ v d → Rep ψ v d
  | _, _, .none => .none
  | _, _, .bool b => .bool b
  | _, _, .int i t => .int i t
  | _, _, .str x t => .str x t
  | _, _, .tup h c e r => .tup (k _ _ h) c e (Reps.mono k r)
  | _, _, .lst h c e r => .lst (k _ _ h) c e (Reps.mono k r)
  | _, _, .rng h => .rng (k _ _ h)
  | _, _, .ref a => .ref a
  | _, _, .val v => .val v
theorem Reps.mono {φ ψ : FM} (k : FM.le φ ψ) : ∀ {vs ds}, Reps φ vs ds → Reps ψ vs ds
  | _, _, .nil => .nil
  | _, _, .cons h r => .cons (Rep.mono k h) (Reps.mono k r)
end
theorem Reps.length {φ : FM} : ∀ {vs ds}, Reps φ vs ds → vs.length = ds.length
  | _, _, .nil => rfl
  | _, _, .cons _ r => by simp [r.length]
theorem Reps.append {φ : FM} : ∀ {vs ds ws es}, Reps φ vs ds → Reps φ ws es → Reps φ (vs ++ ws) (ds ++ es)
  | _, _, _, _, .nil, r => r
  | _, _, _, _, .cons h q, r => .cons h (q.append r)
theorem Reps.get {φ : FM} : ∀ {vs ds} (_ : Reps φ vs ds) {i : Nat} {d : D}, ds[i]? = some d → ∃ v, vs[i]? = some v ∧ Rep φ v d
  | _, _, .cons h _, 0, _, e => by simp at e; subst e; exact ⟨_, rfl, h⟩
  | _, _, .cons _ q, i + 1, _, e => by
    obtain ⟨v, a, b⟩ := q.get (i := i) (by simpa using e)
    exact ⟨v, by simpa using a, b⟩
theorem Reps.get' {φ : FM} : ∀ {vs ds} (_ : Reps φ vs ds) {i : Nat} {v : Value}, vs[i]? = some v → ∃ d, ds[i]? = some d ∧ Rep φ v d
  | _, _, .cons h _, 0, _, e => by simp at e; subst e; exact ⟨_, rfl, h⟩
  | _, _, .cons _ q, i + 1, _, e => by
    obtain ⟨v, a, b⟩ := q.get' (i := i) (by simpa using e)
    exact ⟨v, by simpa using a, b⟩
theorem Reps.take {φ : FM} : ∀ {vs ds} (n : Nat), Reps φ vs ds → Reps φ (vs.take n) (ds.take n)
  | _, _, 0, _ => by simp; exact .nil
  | _, _, _ + 1, .nil => by simp; exact .nil
  | _, _, n + 1, .cons h r => by simp only [List.take_succ_cons]; exact .cons h (r.take n)
theorem Reps.drop {φ : FM} : ∀ {vs ds} (n : Nat), Reps φ vs ds → Reps φ (vs.drop n) (ds.drop n)
  | _, _, 0, r => by simpa using r
  | _, _, _ + 1, .nil => by simp; exact .nil
  | _, _, n + 1, .cons _ r => by simp only [List.drop_succ_cons]; exact r.drop n
theorem Reps.set {φ : FM} : ∀ {vs ds} (_ : Reps φ vs ds) {v d} (_ : Rep φ v d) (i : Nat), Reps φ (vs.set i v) (ds.set i d)
  | _, _, .nil, _, _, _, _ => by simp; exact .nil
  | _, _, .cons _ q, _, _, h, 0 => by simp only [List.set_cons_zero]; exact .cons h q
  | _, _, .cons h q, _, _, h', i + 1 => by simp only [List.set_cons_succ]; exact .cons h (q.set h' i)

/-- a name's datum among the names' data, place by place -/
inductive Look (x : Str) (d : D) : List Str → List (Option D) → Prop
  | here {ns : List Str} {vs : List (Option D)} : Look x d (x :: ns) (some d :: vs)
  | there {y : Str} {v : Option D} {ns : List Str} {vs : List (Option D)} : Look x d ns vs → Look x d (y :: ns) (v :: vs)
theorem Look.mem {x : Str} {d : D} {ns : List Str} {vs : List (Option D)} (h : Look x d ns vs) : x ∈ ns := by
  induction h with
  | here => exact .head _
  | there _ ih => exact .tail _ ih
theorem Look.one {x : Str} {d e : D} {ns : List Str} {vs : List (Option D)} (hn : ns.Nodup) (h : Look x d ns vs) : Look x e ns vs → e = d := by
  induction h with
  | here =>
    intro q
    cases q with
    | here => rfl
    | there q => exact absurd q.mem (List.nodup_cons.mp hn).1
  | there h ih =>
    intro q
    cases q with
    | here => exact absurd h.mem (List.nodup_cons.mp hn).1
    | there q => exact ih (List.nodup_cons.mp hn).2 q

/-- a frame's cells, by the kinds of its block's names -/
def cellsK (L : Addr) (kn : List (Str × NameKind)) : List (Str × Addr) := cellsFrom (L + 1) kn []

/-- what one call owns and may change -/
inductive MO where
  | frame (L : Addr) (kn : List (Str × NameKind)) (ns : List Str) (vs : List (Option D))
  | list (a : Addr) (ds : List D)
  | exc (e : Addr) (cls : Value) (tb : Option Addr)
  | raw (a : Addr) (R : Obj → Prop)

def MO.owned : MO → List Addr
  | .frame L kn _ _ => L :: (cellsK L kn).map (·.2)
  | .list a _ => [a]
  | .exc e _ tb => e :: tb.toList
  | .raw a _ => [a]

def heldAt (φ : FM) (h : Heap) (mv : Str → Option Value) (cs : List (Str × Addr)) (x : Str) (d : D) : Prop :=
  ∃ v, Rep φ v d ∧ match cs.lookup x with
    | some c => h.IsCell c (some v)
    | none => mv x = some v

def MO.holds (φ : FM) (h : Heap) : MO → Prop
  | .frame L kn ns vs => ∃ mv, h.Ns L mv ∧ (∀ x d, Look x d ns vs → heldAt φ h mv (cellsK L kn) x d) ∧ (∀ p ∈ cellsK L kn, ∃ v, h.IsCell p.2 v)
  | .list a ds => ∃ vs : List Value, h.IsList a vs.toArray ∧ Reps φ vs ds
  | .exc e cls tb => ∃ oe vs, h.get? e = some oe ∧ oe.cls = cls ∧ oe.data = .fields vs ∧ match tb with
      | none => vs[1]? = some .none
      | some T => vs[1]? = some (.ref T) ∧ ∃ oT ts, h.get? T = some oT ∧ oT.data = .fields ts ∧ ts[3]? = some .none
  | .raw a R => ∃ o, h.get? a = some o ∧ R o

/-- only objects at S have turned, and only new ones have come -/
def Turned (S : List Addr) (h h' : Heap) : Prop := ∀ b o, b ∉ S → h.get? b = some o → h'.get? b = some o
theorem Turned.of_sameBut {a : Addr} {h h' : Heap} (k : Heap.SameBut a h h') : Turned [a] h h' := fun b _ hb e => (k.2 b (by simpa using hb)).trans e
theorem Turned.of_extBut {a : Addr} {h h' : Heap} (k : Heap.ExtBut a h h') : Turned [a] h h' := fun b o hb e => k b o (by simpa using hb) e
theorem Turned.push (h : Heap) (o : Obj) : Turned [] h (h.push o) := fun _ _ _ e => Heap.get?_push_of_some o e
theorem Turned.mono {S S' : List Addr} {h h' : Heap} (k : Turned S h h') (hs : ∀ a, a ∈ S → a ∈ S') : Turned S' h h' := fun b o hb e => k b o (fun q => hb (hs b q)) e
theorem Turned.trans {S : List Addr} {h h' h'' : Heap} (k : Turned S h h') (k' : Turned S h' h'') : Turned S h h'' := fun b o hb e => k' b o hb (k b o hb e)

theorem MO.holds_turned {φ ψ : FM} {h h' : Heap} {S : List Addr} (kφ : FM.le φ ψ) (kh : Turned S h h') : ∀ {x : MO}, x.holds φ h → (∀ a ∈ x.owned, a ∉ S) → x.holds ψ h'
  | .frame L kn ns vs, ⟨mv, hn, hm, hc⟩, hd => by
    refine ⟨mv, ?_, fun x d e => ?_, fun p hp => ?_⟩
    · obtain ⟨o, es, ep, ho, r⟩ := hn
      exact ⟨o, es, ep, kh L o (hd L (by simp [MO.owned])) ho, r⟩
    · obtain ⟨v, r, q⟩ := hm x d e
      refine ⟨v, r.mono kφ, ?_⟩
      revert q
      cases hx : (cellsK L kn).lookup x with
      | none => exact id
      | some c =>
        rintro ⟨o, ho, hd'⟩
        exact ⟨o, kh c o (hd c (by simp only [MO.owned, List.mem_cons, List.mem_map]; exact .inr ⟨_, mem_of_lookup hx, rfl⟩)) ho, hd'⟩
    · obtain ⟨v, o, ho, hd'⟩ := hc p hp
      exact ⟨v, o, kh p.2 o (hd p.2 (by simp only [MO.owned, List.mem_cons, List.mem_map]; exact .inr ⟨_, hp, rfl⟩)) ho, hd'⟩
  | .list a ds, ⟨vs, ⟨o, ho, hc, hn⟩, r⟩, hd => ⟨vs, ⟨o, kh a o (hd a (by simp [MO.owned])) ho, hc, hn⟩, r.mono kφ⟩
  | .exc e cls tb, ⟨oe, vs, he, hc, hdat, hu⟩, hd => by
    refine ⟨oe, vs, kh e oe (hd e (by simp [MO.owned])) he, hc, hdat, ?_⟩
    cases tb with
    | none => exact hu
    | some T =>
      obtain ⟨h1, oT, ts, h4, h5, h6⟩ := hu
      exact ⟨h1, oT, ts, kh T oT (hd T (by simp [MO.owned])) h4, h5, h6⟩
  | .raw a R, ⟨o, ho, r⟩, hd => ⟨o, kh a o (hd a (by simp [MO.owned])) ho, r⟩

theorem MO.holds_there {φ : FM} {h : Heap} : ∀ {x : MO}, x.holds φ h → ∀ a ∈ x.owned, ∃ o, h.get? a = some o
  | .frame L kn ns vs, ⟨mv, ⟨o, _, _, e, _⟩, _, hc⟩, a, ha => by
    simp only [MO.owned, List.mem_cons, List.mem_map] at ha
    rcases ha with rfl | ⟨p, hp, rfl⟩
    · exact ⟨o, e⟩
    · obtain ⟨v, o', e', _⟩ := hc p hp; exact ⟨o', e'⟩
  | .list a' ds, ⟨vs, ⟨o, e, _⟩, _⟩, a, ha => by simp only [MO.owned, List.mem_singleton] at ha; subst ha; exact ⟨o, e⟩
  | .exc e cls tb, ⟨oe, vs, e', _, _, hu⟩, a, ha => by
    simp only [MO.owned, List.mem_cons] at ha
    rcases ha with rfl | ha
    · exact ⟨oe, e'⟩
    · cases tb with
      | none => cases ha
      | some T => simp at ha; subst ha; obtain ⟨_, oT, ts, h4, _⟩ := hu; exact ⟨oT, h4⟩
  | .raw a' R, ⟨o, e, _⟩, a, ha => by simp only [MO.owned, List.mem_singleton] at ha; subst ha; exact ⟨o, e⟩

/-- the state: φ is what will not change any more, μ is owned, T are the values at hand -/
structure St (B : Shared) (T : List (Value × D)) (μ : List MO) (s : Shared) : Prop where
  ex : ∃ φ : FM, (∀ a o, B.heap.get? a = some o → φ a = some o) ∧ (∀ a o, φ a = some o → s.heap.get? a = some o) ∧
    (∀ x ∈ μ, x.holds φ s.heap) ∧ (∀ x ∈ μ, ∀ a ∈ x.owned, φ a = none) ∧ (μ.flatMap MO.owned).Nodup ∧ ∀ p ∈ T, Rep φ p.1 p.2
  os : s.os = B.os
  gens : s.gens = #[]

theorem St.stays {B : Shared} {T μ s} (h : St B T μ s) : B.heap.StaysIn s.heap := by
  obtain ⟨⟨φ, h1, h2, _⟩, _, _⟩ := h
  exact fun b o e => h2 b o (h1 b o e)
theorem St.sub {B : Shared} {T T' μ s} (h : St B T μ s) (k : ∀ p ∈ T', p ∈ T) : St B T' μ s := by
  obtain ⟨⟨φ, h1, h2, h3, h4, h5, h6⟩, ho, hg⟩ := h
  exact ⟨⟨φ, h1, h2, h3, h4, h5, fun p hp => h6 p (k p hp)⟩, ho, hg⟩
theorem St.tail {B : Shared} {p T μ s} (h : St B (p :: T) μ s) : St B T μ s := h.sub fun _ => .tail _
theorem St.toks {B : Shared} {T μ s} (h : St B T μ s) (t : Nat) : St B T μ { s with toks := t } := ⟨h.ex, h.os, h.gens⟩
theorem St.add {B : Shared} {T μ s} {v : Value} {d : D} (h : St B T μ s) (r : ∀ φ, Rep φ v d) : St B ((v, d) :: T) μ s := by
  obtain ⟨⟨φ, h1, h2, h3, h4, h5, h6⟩, ho, hg⟩ := h
  exact ⟨⟨φ, h1, h2, h3, h4, h5, fun p hp => by rcases List.mem_cons.mp hp with rfl | hp; exact r φ; exact h6 p hp⟩, ho, hg⟩
/-- fewer owned things: the others are forgotten -/
theorem St.forget {B : Shared} {T μ μ' s} (h : St B T μ s) (k : List.Sublist μ' μ) : St B T μ' s := by
  obtain ⟨⟨φ, h1, h2, h3, h4, h5, h6⟩, ho, hg⟩ := h
  refine ⟨⟨φ, h1, h2, fun x hx => h3 x (k.subset hx), fun x hx => h4 x (k.subset hx), ?_, h6⟩, ho, hg⟩
  have q : List.Sublist (μ'.flatMap MO.owned) (μ.flatMap MO.owned) := by
    induction k with
    | slnil => simp
    | cons a _ ih => simp only [List.flatMap_cons]; exact (ih (fun x hx => h3 x (.tail _ hx)) (fun x hx => h4 x (.tail _ hx)) (by simp only [List.flatMap_cons] at h5; exact (List.nodup_append.mp h5).2.1)).trans (List.sublist_append_right _ _)
    | cons_cons a _ ih => simp only [List.flatMap_cons]; exact (List.Sublist.refl _).append (ih (fun x hx => h3 x (.tail _ hx)) (fun x hx => h4 x (.tail _ hx)) (by simp only [List.flatMap_cons] at h5; exact (List.nodup_append.mp h5).2.1))
  exact q.nodup h5

theorem St.perm {B : Shared} {T μ μ' s} (h : St B T μ s) (k : μ'.Perm μ) : St B T μ' s := by
  obtain ⟨⟨φ, h1, h2, h3, h4, h5, h6⟩, ho, hg⟩ := h
  exact ⟨⟨φ, h1, h2, fun x hx => h3 x (k.subset hx), fun x hx => h4 x (k.subset hx), (k.flatMap_right _).nodup_iff.mpr h5, h6⟩, ho, hg⟩
/-- the heap has but grown -/
theorem St.grown {B : Shared} {T μ s h'} (h : St B T μ s) (k : s.heap.StaysIn h') (t : Nat) : St B T μ { s with heap := h', toks := t } := by
  obtain ⟨⟨φ, h1, h2, h3, h4, h5, h6⟩, ho, hg⟩ := h
  refine ⟨⟨φ, h1, fun a o e => k a o (h2 a o e), fun x hx => MO.holds_turned (S := []) (fun _ _ e => e) (fun b o _ e => k b o e) (h3 x hx) (by simp), h4, h5, h6⟩, ho, hg⟩

/-- a new object that will not change: its value is at hand -/
theorem St.frozen {B : Shared} {T μ s d} {o : Obj} (h : St B T μ s) (hf : o.isFreed = false) (t : Nat)
    (r : ∀ φ : FM, (∀ p ∈ T, Rep φ p.1 p.2) → φ s.heap.objs.size = some o → Rep φ (.ref s.heap.objs.size) d) : St B ((.ref s.heap.objs.size, d) :: T) μ { s with heap := s.heap.push o, toks := t } := by
  obtain ⟨⟨φ, h1, h2, h3, h4, h5, h6⟩, ho, hg⟩ := h
  have new : φ s.heap.objs.size = none := by
    cases q : φ s.heap.objs.size with
    | none => rfl
    | some o' => exact absurd (Heap.lt_size (h2 _ _ q)) (Nat.lt_irrefl _)
  let ψ : FM := fun a => if a = s.heap.objs.size then some o else φ a
  have kψ : FM.le φ ψ := fun a o' e => by
    show (if a = s.heap.objs.size then some o else φ a) = some o'
    rw [if_neg (fun q => by rw [q, new] at e; cases e)]; exact e
  have kn : ∀ a, (s.heap.get? a).isSome → ψ a = φ a := fun a ha => by
    obtain ⟨oa, ha⟩ := Option.isSome_iff_exists.mp ha
    exact if_neg (fun q => by rw [q] at ha; exact absurd (Heap.lt_size ha) (Nat.lt_irrefl _))
  have lt : ∀ x ∈ μ, ∀ a ∈ x.owned, (s.heap.get? a).isSome := fun x hx a ha => by
    obtain ⟨o, e⟩ := MO.holds_there (h3 x hx) a ha; rw [e]; rfl
  refine ⟨⟨ψ, fun a o' e => kψ a o' (h1 a o' e), fun a o' e => ?_, fun x hx => ?_, fun x hx a ha => (kn a (lt x hx a ha)).trans (h4 x hx a ha), h5, fun p hp => ?_⟩, ho, hg⟩
  · by_cases q : a = s.heap.objs.size
    · subst q
      have : some o = some o' := by rw [← e]; exact (if_pos rfl).symm
      cases this; exact Heap.get?_push_size _ hf
    · have e' : φ a = some o' := by rw [← e]; exact (if_neg q).symm
      exact Heap.get?_push_of_some _ (h2 a o' e')
  · exact MO.holds_turned (S := []) kψ (Turned.push _ _) (h3 x hx) (by simp)
  · rcases List.mem_cons.mp hp with rfl | hp
    · exact r ψ (fun p hp => (h6 p hp).mono kψ) (if_pos rfl)
    · exact (h6 p hp).mono kψ

end Mine

open PySem PyProof.Rows
set_option linter.unusedVariables false
namespace Mine

structure Cx where
  prog : Program
  w : World
  A : Around
  B : Shared
abbrev Cx.M (C : Cx) : Model := model C.prog C.w
abbrev Post := D → List MO → Prop

def TrT (C : Cx) (T : List (Value × D)) (μ : List MO) (t : Sem Value) (P X : Post) : Prop :=
  ∀ ρ s (Q E : Value → Shared → Prop), St C.B T (μ ++ ρ) s → (∀ v d μ' s', P d μ' → St C.B ((v, d) :: T) (μ' ++ ρ) s' → Q v s') → (∀ v d μ' s', X d μ' → St C.B ((v, d) :: T) (μ' ++ ρ) s' → E v s') → wpAny C.M C.A t Q E s
def TrV (C : Cx) (μ : List MO) (t : Sem Value) (P X : Post) : Prop := ∀ T, TrT C T μ t P X
def TrB (C : Cx) (μ : List MO) (t : Sem Bool) (P : Bool → List MO → Prop) (X : Post) : Prop :=
  ∀ T ρ s (Q : Bool → Shared → Prop) (E : Value → Shared → Prop), St C.B T (μ ++ ρ) s → (∀ b μ' s', P b μ' → St C.B T (μ' ++ ρ) s' → Q b s') → (∀ v d μ' s', X d μ' → St C.B ((v, d) :: T) (μ' ++ ρ) s' → E v s') → wpAny C.M C.A t Q E s
def TrU (C : Cx) (T : List (Value × D)) (μ : List MO) (t : Sem Unit) (P : List MO → Prop) (X : Post) : Prop :=
  ∀ ρ s (Q : Unit → Shared → Prop) (E : Value → Shared → Prop), St C.B T (μ ++ ρ) s → (∀ μ' s', P μ' → St C.B T (μ' ++ ρ) s' → Q () s') → (∀ v d μ' s', X d μ' → St C.B ((v, d) :: T) (μ' ++ ρ) s' → E v s') → wpAny C.M C.A t Q E s
inductive Fw where
  | next | brk | cont
  | ret (d : D)
def FwSt (B : Shared) (T : List (Value × D)) (μ : List MO) (s : Shared) : Flow → Fw → Prop
  | .next, .next => St B T μ s
  | .brk, .brk => St B T μ s
  | .cont, .cont => St B T μ s
  | .ret v, .ret d => St B ((v, d) :: T) μ s
  | _, _ => False
def TrF (C : Cx) (μ : List MO) (t : Sem Flow) (P : Fw → List MO → Prop) (X : Post) : Prop :=
  ∀ T ρ s (Q : Flow → Shared → Prop) (E : Value → Shared → Prop), St C.B T (μ ++ ρ) s → (∀ f fl μ' s', P fl μ' → FwSt C.B T (μ' ++ ρ) s' f fl → Q f s') → (∀ v d μ' s', X d μ' → St C.B ((v, d) :: T) (μ' ++ ρ) s' → E v s') → wpAny C.M C.A t Q E s

def Ev (C : Cx) (env : Env) (μ : List MO) (e : Expr) (P X : Post) : Prop := TrV C μ (eval e env) P X
def Te (C : Cx) (env : Env) (μ : List MO) (e : Expr) (P : Bool → List MO → Prop) (X : Post) : Prop := TrB C μ (isTrue e env (eval e env)) P X
def Ex (C : Cx) (env : Env) (μ : List MO) (ss : List Stmt) (P : Fw → List MO → Prop) (X : Post) : Prop := TrF C μ (execs ss env) P X
def Ex1 (C : Cx) (env : Env) (μ : List MO) (st : Stmt) (P : Fw → List MO → Prop) (X : Post) : Prop := TrF C μ (exec st env) P X
def Bin (C : Cx) (op : Operator) (d1 d2 : D) (μ : List MO) (P X : Post) : Prop := ∀ T a b, (a, d1) ∈ T → (b, d2) ∈ T → TrT C T μ (binaryOp op a b) P X
def Cmp (C : Cx) (op : CmpOp) (d1 d2 : D) (μ : List MO) (P : Bool → List MO → Prop) (X : Post) : Prop := ∀ T a b, (a, d1) ∈ T → (b, d2) ∈ T → TrT C T μ (compareOp op a b) (fun d μ' => ∃ c, d = .bool c ∧ P c μ') X
def Ca (C : Cx) (f : Value) (ds : List D) (μ : List MO) (P X : Post) : Prop := ∀ T vs, vs.length = ds.length → (∀ p ∈ vs.zip ds, p ∈ T) → TrT C T μ (call f vs) P X
/-- expressions in turn -/
def EvL (C : Cx) (env : Env) : List MO → List Expr → (List D → List MO → Prop) → Post → Prop
  | μ, [], P, _ => P [] μ
  | μ, e :: es, P, X => Ev C env μ e (fun d μ1 => EvL C env μ1 es (fun ds μ2 => P (d :: ds) μ2) X) X

theorem Rep.val_inv {φ : FM} {v x : Value} (h : Rep φ v (.val x)) : v = x := by
  have aux : ∀ {v d}, Rep φ v d → ∀ x, d = .val x → v = x := by
    intro v d h x e
    cases h <;> first | (injection e) | cases e
  exact aux h x rfl
section
variable {C : Cx} {env : Env} {μ : List MO} {P X : Post}

theorem TrT.mono {T t} {P' X' : Post} (h : TrT C T μ t P X) (hP : ∀ d μ', P d μ' → P' d μ') (hX : ∀ d μ', X d μ' → X' d μ') : TrT C T μ t P' X' :=
  fun ρ s Q E st hQ hE => h ρ s Q E st (fun v d μ' s' p => hQ v d μ' s' (hP d μ' p)) fun v d μ' s' x => hE v d μ' s' (hX d μ' x)
theorem TrV.mono {t} {P' X' : Post} (h : TrV C μ t P X) (hP : ∀ d μ', P d μ' → P' d μ') (hX : ∀ d μ', X d μ' → X' d μ') : TrV C μ t P' X' := fun T => (h T).mono hP hX
theorem TrB.mono {t} {P P' : Bool → List MO → Prop} {X' : Post} (h : TrB C μ t P X) (hP : ∀ d μ', P d μ' → P' d μ') (hX : ∀ d μ', X d μ' → X' d μ') : TrB C μ t P' X' :=
  fun T ρ s Q E st hQ hE => h T ρ s Q E st (fun v μ' s' p => hQ v μ' s' (hP v μ' p)) fun v d μ' s' x => hE v d μ' s' (hX d μ' x)
theorem TrF.mono {t} {P P' : Fw → List MO → Prop} {X' : Post} (h : TrF C μ t P X) (hP : ∀ d μ', P d μ' → P' d μ') (hX : ∀ d μ', X d μ' → X' d μ') : TrF C μ t P' X' :=
  fun T ρ s Q E st hQ hE => h T ρ s Q E st (fun f v μ' s' p => hQ f v μ' s' (hP v μ' p)) fun v d μ' s' x => hE v d μ' s' (hX d μ' x)
theorem Ca.mono {f ds} {P' X' : Post} (h : Ca C f ds μ P X) (hP : ∀ d μ', P d μ' → P' d μ') (hX : ∀ d μ', X d μ' → X' d μ') : Ca C f ds μ P' X' := fun T vs hl hv => (h T vs hl hv).mono hP hX

/-- drops what lies between -/
theorem St.drop2 {B : Shared} {p q : Value × D} {T s} (h : St B (p :: q :: T) μ s) : St B (p :: T) μ s :=
  h.sub fun x hx => by rcases List.mem_cons.mp hx with rfl | hx; exact .head _; exact .tail _ (.tail _ hx)
theorem St.keepHead {B : Shared} {p : Value × D} {T T' : List (Value × D)} {s} (h : St B (p :: T) μ s) (k : ∀ q ∈ T', q ∈ T) : St B (p :: T') μ s :=
  h.sub fun x hx => by rcases List.mem_cons.mp hx with rfl | hx; exact .head _; exact .tail _ (k x hx)

theorem St.isInt {B : Shared} {T s a i} (h : St B T μ s) (m : (a, D.int i) ∈ T) : ∃ t, a = .int i t := by
  obtain ⟨⟨φ, _, _, _, _, _, h6⟩, _, _⟩ := h
  have := h6 _ m; cases this; exact ⟨_, rfl⟩
theorem St.isBool {B : Shared} {T s a i} (h : St B T μ s) (m : (a, D.bool i) ∈ T) : a = .bool i := by
  obtain ⟨⟨φ, _, _, _, _, _, h6⟩, _, _⟩ := h
  have := h6 _ m; cases this; rfl
theorem St.isNone {B : Shared} {T s a} (h : St B T μ s) (m : (a, D.none) ∈ T) : a = .none := by
  obtain ⟨⟨φ, _, _, _, _, _, h6⟩, _, _⟩ := h
  have := h6 _ m; cases this; rfl
theorem St.isStr {B : Shared} {T s a x} (h : St B T μ s) (m : (a, D.str x) ∈ T) : ∃ t, a = .str x t := by
  obtain ⟨⟨φ, _, _, _, _, _, h6⟩, _, _⟩ := h
  have := h6 _ m; cases this; exact ⟨_, rfl⟩
theorem St.isVal {B : Shared} {T s a x} (h : St B T μ s) (m : (a, D.val x) ∈ T) : a = x := by
  obtain ⟨⟨φ, _, _, _, _, _, h6⟩, _, _⟩ := h
  exact Rep.val_inv (h6 _ m)
theorem St.isRef {B : Shared} {T s a x} (h : St B T μ s) (m : (a, D.ref x) ∈ T) : a = .ref x := by
  obtain ⟨⟨φ, _, _, _, _, _, h6⟩, _, _⟩ := h
  have := h6 _ m; cases this; rfl

theorem rInt (i : Int) (t : Tok) : ∀ φ, Rep φ (.int i t) (.int i) := fun _ => .int i t
theorem rBool (b : Bool) : ∀ φ, Rep φ (.bool b) (.bool b) := fun _ => .bool b
theorem rStr (x : Str) (t : Tok) : ∀ φ, Rep φ (.str x t) (.str x) := fun _ => .str x t
theorem rNone : ∀ φ, Rep φ .none .none := fun _ => .none

/-! constants -/
theorem ev_int {i : Int} {k : Nat} {pos : Pos} (h : P (.int i) μ) : Ev C env μ (.Constant (.int i) k pos) P X :=
  fun _ _ _ _ _ st hQ _ => wpAny_Constant_int (hQ _ _ _ _ h ((st.toks _).add (rInt _ _)))
theorem ev_bool {b : Bool} {k : Nat} {pos : Pos} (h : P (.bool b) μ) : Ev C env μ (.Constant (.bool b) k pos) P X :=
  fun _ _ _ _ _ st hQ _ => wpAny_Constant_bool (hQ _ _ _ _ h (st.add (rBool _)))
theorem ev_none {k : Nat} {pos : Pos} (h : P .none μ) : Ev C env μ (.Constant .none k pos) P X :=
  fun _ _ _ _ _ st hQ _ => wpAny_Constant_none (hQ _ _ _ _ h (st.add rNone))
theorem ev_str {x : Str} {k : Nat} {pos : Pos} (h : P (.str x) μ) : Ev C env μ (.Constant (.str x) k pos) P X :=
  fun _ _ _ _ _ st hQ _ => Calls.Constant_str (hQ _ _ _ _ h ((st.toks _).add (rStr _ _)))

/-! names -/
theorem ev_local {x : Str} {pos : Pos} {d : D} {L : Addr} {kn : List (Str × NameKind)} {ns : List Str} {vs : List (Option D)} {μ' : List MO} (hk : env.scope.kind = .function) (hl : env.kindOf x = some .local) (hL : env.locals = L) (hc : (cellsK L kn).lookup x = none) (hm : Look x d ns vs)
    (h : P d (.frame L kn ns vs :: μ')) (hd : (x == ("__debug__" : Str)) = false) : Ev C env (.frame L kn ns vs :: μ') (.Name x pos) P X := by
  intro T ρ s Q E st hQ hE
  have st' := st
  obtain ⟨⟨φ, h1, h2, h3, h4, h5, h6⟩, ho, hg⟩ := st'
  obtain ⟨mv, hn, hmv, hcs⟩ := h3 _ (.head _)
  obtain ⟨v, r, hv⟩ := hmv x d hm
  rw [hc] at hv
  refine wpAny_Name (wpAny_loadName_local hk hl (hL ▸ hn) hv (hQ v d _ s h ⟨⟨φ, h1, h2, h3, h4, h5, fun p hp => ?_⟩, ho, hg⟩)) hd
  rcases List.mem_cons.mp hp with rfl | hp
  · exact r
  · exact h6 p hp
theorem ev_cell {x : Str} {pos : Pos} {d : D} {L c : Addr} {kn : List (Str × NameKind)} {ns : List Str} {vs : List (Option D)} (hk : env.scope.kind = .function) (hl : env.kindOf x = some .cell) (hc : env.cells.lookup x = some c) (hf : MO.frame L kn ns vs ∈ μ) (hcs : (cellsK L kn).lookup x = some c) (hm : Look x d ns vs)
    (h : P d μ) (hd : (x == ("__debug__" : Str)) = false) : Ev C env μ (.Name x pos) P X := by
  intro T ρ s Q E st hQ hE
  have st' := st
  obtain ⟨⟨φ, h1, h2, h3, h4, h5, h6⟩, ho, hg⟩ := st'
  obtain ⟨mv, hn, hmv, _⟩ := h3 _ (List.mem_append_left _ hf)
  obtain ⟨v, r, hv⟩ := hmv x d hm
  rw [hcs] at hv
  refine wpAny_Name (wpAny_loadName_cell hk hl hc hv (hQ v d _ s h ⟨⟨φ, h1, h2, h3, h4, h5, fun p hp => ?_⟩, ho, hg⟩)) hd
  rcases List.mem_cons.mp hp with rfl | hp
  · exact r
  · exact h6 p hp
theorem ev_global {x : Str} {pos : Pos} {d : D} {v : Value} {mg : Str → Option Value} (hk : env.scope.kind = .function) (hl : env.kindOf x = some .globalImplicit) (hg : C.B.heap.Ns env.globals mg) (hv : mg x = some v) (hr : ∀ φ, Rep φ v d)
    (h : P d μ) (hd : (x == ("__debug__" : Str)) = false := by decide) : Ev C env μ (.Name x pos) P X :=
  fun _ _ _ _ _ st hQ _ => Calls.Name_function_global hk hl (Calls.loadGlobal_global (hg.keeps st.stays) hv (hQ _ _ _ _ h (st.add hr))) hd
theorem ev_builtin {x : Str} {pos : Pos} {v : Value} {mg mb : Str → Option Value} (hk : env.scope.kind = .function) (hl : env.kindOf x = some .globalImplicit) (hg : C.B.heap.Ns env.globals mg) (hmiss : mg x = none) (hb : C.B.heap.Ns env.builtins mb) (hv : mb x = some v)
    (h : P (.val v) μ) (hd : (x == ("__debug__" : Str)) = false := by decide) : Ev C env μ (.Name x pos) P X :=
  fun _ _ _ _ _ st hQ _ => Calls.Name_function_global hk hl (Calls.loadGlobal_builtin (hg.keeps st.stays) hmiss (hb.keeps st.stays) hv (hQ _ _ _ _ h (st.add fun _ => .val v))) hd

/-! operators -/
theorem ev_BinOp {l r : Expr} {op : Operator} {pos : Pos} (h : Ev C env μ l (fun d1 μ1 => Ev C env μ1 r (fun d2 μ2 => Bin C op d1 d2 μ2 P X) X) X) : Ev C env μ (.BinOp l op r pos) P X :=
  fun T ρ _ _ _ st hQ hE => wpAny_BinOp (h T ρ _ _ _ st (fun a d1 μ1 s1 h1 st1 => h1 ((a, d1) :: T) ρ s1 _ _ st1
    (fun b d2 μ2 s2 h2 st2 => h2 _ a b (.tail _ (.head _)) (.head _) ρ s2 _ _ st2 (fun v d μ' s' p st' => hQ v d μ' s' p (st'.keepHead fun _ hq => .tail _ (.tail _ hq))) fun v d μ' s' x st' => hE v d μ' s' x (st'.keepHead fun _ hq => .tail _ (.tail _ hq)))
    fun v d μ' s' x st' => hE v d μ' s' x st'.drop2) hE)

theorem bin_add {a b : Int} (h : P (.int (a + b)) μ) : Bin C .Add (.int a) (.int b) μ P X := fun _ _ _ ha hb _ _ _ _ st hQ _ => by
  obtain ⟨t, rfl⟩ := st.isInt ha; obtain ⟨u, rfl⟩ := st.isInt hb
  exact add_int (hQ _ _ _ _ h ((st.toks _).add (rInt _ _)))
theorem bin_sub {a b : Int} (h : P (.int (a - b)) μ) : Bin C .Sub (.int a) (.int b) μ P X := fun _ _ _ ha hb _ _ _ _ st hQ _ => by
  obtain ⟨t, rfl⟩ := st.isInt ha; obtain ⟨u, rfl⟩ := st.isInt hb
  exact sub_int (hQ _ _ _ _ h ((st.toks _).add (rInt _ _)))
theorem bin_mul {a b : Int} (hm : IntMulOk a b) (h : P (.int (a * b)) μ) : Bin C .Mult (.int a) (.int b) μ P X := fun _ _ _ ha hb _ _ _ _ st hQ _ => by
  obtain ⟨t, rfl⟩ := st.isInt ha; obtain ⟨u, rfl⟩ := st.isInt hb
  exact mul_int (hQ _ _ _ _ h ((st.toks _).add (rInt _ _))) hm
theorem bin_mod {a b : Int} (hb0 : b ≠ 0) (h : P (.int (a.fmod b)) μ) : Bin C .Mod (.int a) (.int b) μ P X := fun _ _ _ ha hb _ _ _ _ st hQ _ => by
  obtain ⟨t, rfl⟩ := st.isInt ha; obtain ⟨u, rfl⟩ := st.isInt hb
  exact mod_int hb0 (hQ _ _ _ _ h ((st.toks _).add (rInt _ _)))
theorem bin_div {a b : Int} (hb0 : b ≠ 0) (hbs : b.natAbs < 1073741824) (h : P (.int (a.fdiv b)) μ) : Bin C .FloorDiv (.int a) (.int b) μ P X := fun _ _ _ ha hb _ _ _ _ st hQ _ => by
  obtain ⟨t, rfl⟩ := st.isInt ha; obtain ⟨u, rfl⟩ := st.isInt hb
  exact floordiv_int hb0 (hQ _ _ _ _ h ((st.toks _).add (rInt _ _))) (.inl (PyProof.noPylong_small hbs))
theorem bin_shl {a b : Int} (hn : 0 ≤ b) (hn2 : b ≤ 1000000) (hs : a.natAbs < 2 ^ 64) (h : P (.int (a * 2 ^ b.toNat)) μ) : Bin C .LShift (.int a) (.int b) μ P X := fun _ _ _ ha hb _ _ _ _ st hQ _ => by
  obtain ⟨t, rfl⟩ := st.isInt ha; obtain ⟨u, rfl⟩ := st.isInt hb
  exact lshift_int_small hn hn2 hs (hQ _ _ _ _ h ((st.toks _).add (rInt _ _)))
theorem bin_shr {a b : Int} (hn : 0 ≤ b) (h : P (.int (a.fdiv (2 ^ b.toNat))) μ) : Bin C .RShift (.int a) (.int b) μ P X := fun _ _ _ ha hb _ _ _ _ st hQ _ => by
  obtain ⟨t, rfl⟩ := st.isInt ha; obtain ⟨u, rfl⟩ := st.isInt hb
  exact rshift_int hn (hQ _ _ _ _ h ((st.toks _).add (rInt _ _)))

/-! comparisons -/
theorem cmp_lt {a b : Int} {P : Bool → List MO → Prop} (h : P (decide (a < b)) μ) : Cmp C .Lt (.int a) (.int b) μ P X := fun _ _ _ ha hb _ _ _ _ st hQ _ => by
  obtain ⟨t, rfl⟩ := st.isInt ha; obtain ⟨u, rfl⟩ := st.isInt hb
  exact lt_int (hQ _ _ _ _ ⟨_, rfl, h⟩ (st.add (rBool _)))
theorem cmp_gt {a b : Int} {P : Bool → List MO → Prop} (h : P (decide (b < a)) μ) : Cmp C .Gt (.int a) (.int b) μ P X := fun _ _ _ ha hb _ _ _ _ st hQ _ => by
  obtain ⟨t, rfl⟩ := st.isInt ha; obtain ⟨u, rfl⟩ := st.isInt hb
  exact gt_int (hQ _ _ _ _ ⟨_, rfl, h⟩ (st.add (rBool _)))
theorem cmp_le {a b : Int} {P : Bool → List MO → Prop} (h : P (decide (a ≤ b)) μ) : Cmp C .LtE (.int a) (.int b) μ P X := fun _ _ _ ha hb _ _ _ _ st hQ _ => by
  obtain ⟨t, rfl⟩ := st.isInt ha; obtain ⟨u, rfl⟩ := st.isInt hb
  exact le_int (hQ _ _ _ _ ⟨_, rfl, h⟩ (st.add (rBool _)))
theorem cmp_ge {a b : Int} {P : Bool → List MO → Prop} (h : P (decide (b ≤ a)) μ) : Cmp C .GtE (.int a) (.int b) μ P X := fun _ _ _ ha hb _ _ _ _ st hQ _ => by
  obtain ⟨t, rfl⟩ := st.isInt ha; obtain ⟨u, rfl⟩ := st.isInt hb
  exact ge_int (hQ _ _ _ _ ⟨_, rfl, h⟩ (st.add (rBool _)))
theorem cmp_eq {a b : Int} {P : Bool → List MO → Prop} (h : P (a == b) μ) : Cmp C .Eq (.int a) (.int b) μ P X := fun _ _ _ ha hb _ _ _ _ st hQ _ => by
  obtain ⟨t, rfl⟩ := st.isInt ha; obtain ⟨u, rfl⟩ := st.isInt hb
  exact eq_int (hQ _ _ _ _ ⟨_, rfl, h⟩ (st.add (rBool _)))
theorem cmp_ne {a b : Int} {P : Bool → List MO → Prop} (h : P (a != b) μ) : Cmp C .NotEq (.int a) (.int b) μ P X := fun _ _ _ ha hb _ _ _ _ st hQ _ => by
  obtain ⟨t, rfl⟩ := st.isInt ha; obtain ⟨u, rfl⟩ := st.isInt hb
  exact ne_int (hQ _ _ _ _ ⟨_, rfl, h⟩ (st.add (rBool _)))

theorem ev_Compare {l r : Expr} {op : CmpOp} {pos : Pos} (h : Ev C env μ l (fun d1 μ1 => Ev C env μ1 r (fun d2 μ2 => Cmp C op d1 d2 μ2 (fun c => P (.bool c)) X) X) X) (hm : behindInMarks op r = false) : Ev C env μ (.Compare l [op] [r] pos) P X :=
  fun T ρ _ _ _ st hQ hE => wpAny_Compare1 (h T ρ _ _ _ st (fun a d1 μ1 s1 h1 st1 => h1 ((a, d1) :: T) ρ s1 _ _ st1
    (fun b d2 μ2 s2 h2 st2 => h2 _ a b (.tail _ (.head _)) (.head _) ρ s2 _ _ st2 (fun v d μ' s' ⟨c, hc, p⟩ st' => hQ v d μ' s' (hc ▸ p) (st'.keepHead fun _ hq => .tail _ (.tail _ hq))) fun v d μ' s' x st' => hE v d μ' s' x (st'.keepHead fun _ hq => .tail _ (.tail _ hq)))
    fun v d μ' s' x st' => hE v d μ' s' x st'.drop2) hE) hm
theorem te_Compare {l r : Expr} {op : CmpOp} {pos : Pos} {P : Bool → List MO → Prop} (h : Ev C env μ l (fun d1 μ1 => Ev C env μ1 r (fun d2 μ2 => Cmp C op d1 d2 μ2 P X) X) X) (hm : behindInMarks op r = false) : Te C env μ (.Compare l [op] [r] pos) P X :=
  fun T ρ _ _ _ st hQ hE => wpAny_isTrue_Compare1 (h T ρ _ _ _ st (fun a d1 μ1 s1 h1 st1 => h1 ((a, d1) :: T) ρ s1 _ _ st1
    (fun b d2 μ2 s2 h2 st2 => h2 _ a b (.tail _ (.head _)) (.head _) ρ s2 _ _ st2 (fun v d μ' s' ⟨c, hc, p⟩ st' => by
      subst hc
      have e := st'.isBool (.head _); subst e
      exact wpAny_truthy_bool (hQ c μ' s' p (st'.sub fun _ hq => .tail _ (.tail _ (.tail _ hq)))))
      fun v d μ' s' x st' => hE v d μ' s' x (st'.keepHead fun _ hq => .tail _ (.tail _ hq)))
    fun v d μ' s' x st' => hE v d μ' s' x st'.drop2) hE) hm

/-! a test -/
theorem te_Not {x : Expr} {pos : Pos} {P : Bool → List MO → Prop} (h : Te C env μ x (fun b μ1 => P (!b) μ1) X) : Te C env μ (.UnaryOp .Not x pos) P X :=
  fun T ρ _ _ _ st hQ hE => wpAny_isTrue_Not (h T ρ _ _ _ st (fun b μ' s' p st' => hQ _ μ' s' p st') hE)
theorem te_value {e : Expr} {P : Bool → List MO → Prop} (h : Ev C env μ e (fun d μ1 => ∃ b, d = .bool b ∧ P b μ1) X)
    (he : isTrue e env (eval e env) = (do let v ← eval e env; standAt e.pos; holding [v] (truthy v))) : Te C env μ e P X :=
  fun T ρ _ _ _ st hQ hE => wpAny_isTrue_value (h T ρ _ _ _ st (fun v d μ' s' ⟨b, hb, p⟩ st' => by
    subst hb
    have e := st'.isBool (.head _); subst e
    exact wpAny_truthy_bool (hQ b μ' s' p st'.tail)) hE) he
def TeL (C : Cx) (env : Env) (op : BoolOp) (μ : List MO) (es : List Expr) (P : Bool → List MO → Prop) (X : Post) : Prop := TrB C μ (allTrue op es env) P X
theorem te_BoolOp {op : BoolOp} {es : List Expr} {pos : Pos} {P : Bool → List MO → Prop} (h : TeL C env op μ es P X) : Te C env μ (.BoolOp op es pos) P X :=
  fun T ρ _ _ _ st hQ hE => wpAny_isTrue_BoolOp (h T ρ _ _ _ st hQ hE)
theorem tel_and_nil {P : Bool → List MO → Prop} (h : P true μ) : TeL C env .And μ [] P X := fun _ _ _ _ _ st hQ _ => wpAny_allTrue_And_nil (hQ _ _ _ h st)
theorem tel_or_nil {P : Bool → List MO → Prop} (h : P false μ) : TeL C env .Or μ [] P X := fun _ _ _ _ _ st hQ _ => wpAny_allTrue_Or_nil (hQ _ _ _ h st)
theorem tel_and {e : Expr} {es : List Expr} {P : Bool → List MO → Prop} (h : Te C env μ e (fun b μ1 => (b = true → TeL C env .And μ1 es P X) ∧ (b = false → P false μ1)) X) : TeL C env .And μ (e :: es) P X :=
  fun T ρ _ _ _ st hQ hE => wpAny_allTrue_And_cons (h T ρ _ _ _ st (fun b μ' s' p st' => by
    cases b with
    | true => exact p.1 rfl T ρ s' _ _ st' hQ hE
    | false => exact hQ _ _ _ (p.2 rfl) st') hE)
theorem tel_or {e : Expr} {es : List Expr} {P : Bool → List MO → Prop} (h : Te C env μ e (fun b μ1 => (b = true → P true μ1) ∧ (b = false → TeL C env .Or μ1 es P X)) X) : TeL C env .Or μ (e :: es) P X :=
  fun T ρ _ _ _ st hQ hE => wpAny_allTrue_Or_cons (h T ρ _ _ _ st (fun b μ' s' p st' => by
    cases b with
    | true => exact hQ _ _ _ (p.1 rfl) st'
    | false => exact p.2 rfl T ρ s' _ _ st' hQ hE) hE)

/-! and, or, not as values (of truths) -/
def EvB (C : Cx) (env : Env) (op : BoolOp) (pos : Pos) (μ : List MO) (es : List Expr) (P X : Post) : Prop := TrV C μ (boolOp pos op (evalEach es env)) P X
theorem ev_BoolOp {op : BoolOp} {es : List Expr} {pos : Pos} (h : EvB C env op pos μ es P X) : Ev C env μ (.BoolOp op es pos) P X := h
theorem evb_one {op : BoolOp} {e : Expr} {pos : Pos} (h : Ev C env μ e P X) : EvB C env op pos μ [e] P X := h
theorem evb_and {e e' : Expr} {es : List Expr} {pos : Pos} (h : Ev C env μ e (fun d μ1 => ∃ b, d = .bool b ∧ (b = true → EvB C env .And pos μ1 (e' :: es) P X) ∧ (b = false → P (.bool false) μ1)) X) : EvB C env .And pos μ (e :: e' :: es) P X := by
  intro T ρ s Q E st hQ hE
  show wpAny C.M C.A (do let v ← eval e env; standAt pos; let t ← holding [v] (truthy v); match BoolOp.And, t with | .And, false | .Or, true => pure v | _, _ => boolOp pos .And (evalEach (e' :: es) env)) Q E s
  refine wpAny_bind (h T ρ _ _ _ st (fun v d μ' s' ⟨b, hb, p⟩ st' => ?_) hE)
  subst hb
  have e := st'.isBool (.head _); subst e
  refine wpAny_bind (wpAny_standAt (wpAny_bind (wpAny_holding (wpAny_truthy_bool ?_))))
  cases b with
  | true => exact p.1 rfl T ρ s' _ _ st'.tail hQ hE
  | false => exact wpAny_pure (hQ _ _ _ _ (p.2 rfl) st')
theorem evb_or {e e' : Expr} {es : List Expr} {pos : Pos} (h : Ev C env μ e (fun d μ1 => ∃ b, d = .bool b ∧ (b = true → P (.bool true) μ1) ∧ (b = false → EvB C env .Or pos μ1 (e' :: es) P X)) X) : EvB C env .Or pos μ (e :: e' :: es) P X := by
  intro T ρ s Q E st hQ hE
  show wpAny C.M C.A (do let v ← eval e env; standAt pos; let t ← holding [v] (truthy v); match BoolOp.Or, t with | .And, false | .Or, true => pure v | _, _ => boolOp pos .Or (evalEach (e' :: es) env)) Q E s
  refine wpAny_bind (h T ρ _ _ _ st (fun v d μ' s' ⟨b, hb, p⟩ st' => ?_) hE)
  subst hb
  have e := st'.isBool (.head _); subst e
  refine wpAny_bind (wpAny_standAt (wpAny_bind (wpAny_holding (wpAny_truthy_bool ?_))))
  cases b with
  | false => exact p.2 rfl T ρ s' _ _ st'.tail hQ hE
  | true => exact wpAny_pure (hQ _ _ _ _ (p.1 rfl) st')
theorem ev_Not {x : Expr} {pos : Pos} (h : Ev C env μ x (fun d μ1 => ∃ b, d = .bool b ∧ P (.bool (!b)) μ1) X) : Ev C env μ (.UnaryOp .Not x pos) P X :=
  fun T ρ _ _ _ st hQ hE => wpAny_UnaryOp (h T ρ _ _ _ st (fun v d μ' s' ⟨b, hb, p⟩ st' => by
    subst hb
    have e := st'.isBool (.head _); subst e
    exact not_of (wpAny_truthy_bool (hQ _ _ _ _ p (st'.tail.add (rBool _))))) hE)

/-! statements -/
theorem ex_nil {P : Fw → List MO → Prop} (h : P .next μ) : Ex C env μ [] P X := fun _ _ _ _ _ st hQ _ => wpAny_execs_nil (hQ .next .next _ _ h st)
theorem ex_cons {st : Stmt} {ss : List Stmt} {P : Fw → List MO → Prop} (h : Ex1 C env μ st (fun fl μ1 => match fl with | .next => Ex C env μ1 ss P X | fl => P fl μ1) X) : Ex C env μ (st :: ss) P X :=
  fun T ρ _ _ _ st hQ hE => wpAny_execs_cons (h T ρ _ _ _ st (fun f fl μ' s' p st' => by
    cases f <;> cases fl <;> first | exact False.elim st' | exact p T ρ s' _ _ st' hQ hE | exact hQ _ _ _ _ p st') hE)
theorem ex_Return {e : Expr} {pos : Pos} {P : Fw → List MO → Prop} (h : Ev C env μ e (fun d μ1 => P (.ret d) μ1) X) : Ex1 C env μ (.Return (some e) pos) P X :=
  fun T ρ _ _ _ st hQ hE => wpAny_Return_some (h T ρ _ _ _ st (fun v d μ' s' p st' => hQ (.ret v) (.ret d) μ' s' p st') hE)
theorem ex_Return0 {pos : Pos} {P : Fw → List MO → Prop} (h : P (.ret .none) μ) : Ex1 C env μ (.Return none pos) P X :=
  fun _ _ _ _ _ st hQ _ => wpAny_Return_none (hQ (.ret .none) (.ret .none) _ _ h (st.add rNone))
theorem ex_If {test : Expr} {body orelse : List Stmt} {pos : Pos} {P : Fw → List MO → Prop} (h : Te C env μ test (fun b μ1 => (b = true → Ex C env μ1 body P X) ∧ (b = false → Ex C env μ1 orelse P X)) X) : Ex1 C env μ (.If test body orelse pos) P X :=
  fun T ρ _ _ _ st hQ hE => wpAny_If (h T ρ _ _ _ st (fun b μ' s' p st' => by
    cases b with
    | true => exact p.1 rfl T ρ s' _ _ st' hQ hE
    | false => exact p.2 rfl T ρ s' _ _ st' hQ hE) hE)
end

end Mine

open PySem PyProof.Rows
set_option linter.unusedVariables false
namespace Mine

theorem cellsFrom_some' {x : Str} : ∀ (names : List (Str × NameKind)) (n : Nat) (acc : List (Str × Addr)), names.lookup x = some .cell ∨ (acc.lookup x).isSome = true → ((cellsFrom n names acc).lookup x).isSome = true
  | [], _, _, h => h.elim (fun e => by cases e) id
  | (y, k) :: r, n, acc, h => by
    unfold cellsFrom
    by_cases hk : (k == .cell) = true
    · rw [if_pos hk]
      refine cellsFrom_some' r (n + 1) ((y, n) :: acc) ?_
      by_cases hy : (x == y) = true
      · exact .inr (by rw [List.lookup_cons, hy]; rfl)
      · have hy' : (x == y) = false := by simpa using hy
        refine h.imp (fun e => ?_) fun e => ?_
        · rw [List.lookup_cons, hy'] at e; exact e
        · rw [List.lookup_cons, hy']; exact e
    · rw [if_neg hk]
      refine cellsFrom_some' r n acc ?_
      by_cases hy : (x == y) = true
      · refine .inr (h.elim (fun e => ?_) id)
        rw [List.lookup_cons, hy] at e
        exact absurd (by rw [Option.some.inj e]; rfl) hk
      · have hy' : (x == y) = false := by simpa using hy
        refine h.imp (fun e => ?_) id
        rw [List.lookup_cons, hy'] at e; exact e
theorem cellsFrom_none {x : Str} : ∀ (names : List (Str × NameKind)) (n : Nat) (acc : List (Str × Addr)), (names.all fun p => p.1 != x || p.2 != .cell) = true → acc.lookup x = none → (cellsFrom n names acc).lookup x = none
  | [], _, _, _, h => h
  | (y, k) :: r, n, acc, ha, h => by
    unfold cellsFrom
    rw [List.all_cons, Bool.and_eq_true] at ha
    by_cases hk : (k == .cell) = true
    · rw [if_pos hk]
      have hk' : k = .cell := by simpa using hk
      refine cellsFrom_none r (n + 1) _ ha.2 ?_
      have hy : (x == y) = false := by
        have := ha.1
        simp only [hk', bne_self_eq_false, Bool.or_false, bne_iff_ne, ne_eq] at this
        simpa using fun e => this e.symm
      rw [List.lookup_cons, hy]; exact h
    · rw [if_neg hk]; exact cellsFrom_none r n acc ha.2 h
theorem cellsFrom_mem {p : Str × Addr} : ∀ (names : List (Str × NameKind)) (n : Nat) (acc : List (Str × Addr)), p ∈ cellsFrom n names acc → p ∈ acc ∨ n ≤ p.2
  | [], _, _, h => .inl h
  | (y, k) :: r, n, acc, h => by
    unfold cellsFrom at h
    split at h
    · rcases cellsFrom_mem r (n + 1) _ h with h | h
      · rcases List.mem_cons.mp h with rfl | h
        · exact .inr (Nat.le_refl _)
        · exact .inl h
      · exact .inr (by omega)
    · exact cellsFrom_mem r n acc h

theorem lookup_of_nodup {α : Type} : ∀ {l : List (Str × α)} {p : Str × α}, (l.map (·.1)).Nodup → p ∈ l → l.lookup p.1 = some p.2
  | (y, v) :: r, p, hn, hp => by
    rw [List.lookup_cons]
    rcases List.mem_cons.mp hp with rfl | hp
    · rw [beq_self_eq_true]
    · simp only [List.map_cons, List.nodup_cons] at hn
      have : (p.1 == y) = false := by
        simpa using fun e => hn.1 (by rw [← e]; exact List.mem_map_of_mem hp)
      rw [this]; exact lookup_of_nodup hn.2 hp
theorem cellsFrom_names' : ∀ (names : List (Str × NameKind)) (n k : Nat) (acc bcc : List (Str × Addr)), acc.map (·.1) = bcc.map (·.1) → (cellsFrom n names acc).map (·.1) = (cellsFrom k names bcc).map (·.1)
  | [], _, _, _, _, h => h
  | (y, kd) :: r, n, k, acc, bcc, h => by
    unfold cellsFrom
    split
    · exact cellsFrom_names' r _ _ _ _ (by simp [h])
    · exact cellsFrom_names' r _ _ _ _ h

def paramsOk (sc : List (Str × NameKind)) (names : List Str) : Bool := decide ((cellsFrom 0 sc []).map (·.1)).Nodup && names.all fun x => (sc.lookup x == some .local && sc.all fun p => p.1 != x || p.2 != .cell) || sc.lookup x == some .cell

theorem lookup_zip_mem {α : Type} : ∀ {ns : List Str} {vs : List α} {x : Str} {v : α}, (ns.zip vs).lookup x = some v → x ∈ ns
  | n :: ns, v' :: vs, x, v, h => by
    rw [List.zip_cons_cons, List.lookup_cons] at h
    cases hb : x == n with
    | true => rw [beq_iff_eq.mp hb]; exact List.mem_cons_self
    | false => rw [hb] at h; exact .tail _ (lookup_zip_mem h)
  | [], _, _, _, h => by simp at h
  | _ :: _, [], _, _, h => by simp at h

theorem bindL_lookup (k : Str → Option NameKind) : ∀ {ns : List Str} {vs : List Value} (m : Str → Option Value) (x : Str), ns.Nodup → k x = some .local →
    bindL k (ns.zip vs) m x = ((ns.zip vs).lookup x).or (m x)
  | [], _, _, _, _, _ => by simp [bindL]
  | _ :: _, [], _, _, _, _ => by simp [bindL]
  | n :: ns, v :: vs, m, x, hnd, hk => by
    obtain ⟨h1, h2⟩ := List.nodup_cons.mp hnd
    rw [List.zip_cons_cons, bindL, bindL_lookup k _ x h2 hk, List.lookup_cons]
    by_cases hx : x = n
    · subst hx
      rw [beq_self_eq_true, if_pos hk, if_pos rfl]
      cases q : (ns.zip vs).lookup x with
      | none => rfl
      | some v' => exact absurd (lookup_zip_mem q) h1
    · have : (x == n) = false := by simpa using hx
      rw [this]
      split <;> simp [hx]
theorem bindC_lookup (k : Str → Option NameKind) : ∀ {ns : List Str} {vs : List Value} (m : Str → Option Value) (x : Str), ns.Nodup → k x = some .cell →
    bindC k (ns.zip vs) m x = ((ns.zip vs).lookup x).or (m x)
  | [], _, _, _, _, _ => by simp [bindC]
  | _ :: _, [], _, _, _, _ => by simp [bindC]
  | n :: ns, v :: vs, m, x, hnd, hk => by
    obtain ⟨h1, h2⟩ := List.nodup_cons.mp hnd
    rw [List.zip_cons_cons, bindC, bindC_lookup k _ x h2 hk, List.lookup_cons]
    by_cases hx : x = n
    · subst hx
      rw [beq_self_eq_true, if_neg (by rw [hk]; decide), if_pos rfl]
      cases q : (ns.zip vs).lookup x with
      | none => rfl
      | some v' => exact absurd (lookup_zip_mem q) h1
    · have : (x == n) = false := by simpa using hx
      rw [this]
      split <;> simp [hx]

theorem reps_lookup {φ : FM} : ∀ {ns : List Str} {vs : List Value} {ds : List D} {x : Str} {d : D}, vs.length = ds.length → (∀ p ∈ vs.zip ds, Rep φ p.1 p.2) → (ns.zip ds).lookup x = some d → ∃ v, (ns.zip vs).lookup x = some v ∧ Rep φ v d
  | [], _, _, _, _, _, _, h => by simp at h
  | _ :: _, [], [], _, _, _, _, h => by simp at h
  | n :: ns, v :: vs, d' :: ds, x, d, hl, hr, h => by
    rw [List.zip_cons_cons, List.lookup_cons] at h
    rw [List.zip_cons_cons, List.lookup_cons]
    cases hb : x == n with
    | true => rw [hb] at h; cases h; exact ⟨v, rfl, hr _ (.head _)⟩
    | false => rw [hb] at h; exact reps_lookup (by simpa using hl) (fun p hp => hr p (.tail _ hp)) h
  | _ :: _, _ :: _, [], _, _, hl, _, _ => by simp at hl
  | _ :: _, [], _ :: _, _, _, hl, _, _ => by simp at hl

theorem look_nones {x : Str} {d : D} : ∀ {rest : List Str}, ¬ Look x d rest (rest.map fun _ => none)
  | [], h => by cases h
  | _ :: _, h => by cases h with | there h => exact look_nones h
theorem look_params {x : Str} {d : D} : ∀ {names : List Str} {ds : List D} {rest : List Str}, names.length = ds.length → names.Nodup → Look x d (names ++ rest) (ds.map some ++ rest.map fun _ => none) → (names.zip ds).lookup x = some d
  | [], [], _, _, _, h => (look_nones h).elim
  | n :: ns, e :: ds, rest, hl, hn, h => by
    rw [List.zip_cons_cons, List.lookup_cons]
    have aux : ∀ {q : List Str} {w : List (Option D)}, Look x d (n :: q) (some e :: w) → (x = n ∧ d = e) ∨ Look x d q w := by
      intro q w h
      cases h with
      | here => exact .inl ⟨rfl, rfl⟩
      | there h => exact .inr h
    rcases aux (by simpa using h) with ⟨rfl, rfl⟩ | h'
    · simp
    · have r := look_params (by simpa using hl) (List.nodup_cons.mp hn).2 h'
      have : (x == n) = false := by
        refine beq_eq_false_iff_ne.mpr fun e' => (List.nodup_cons.mp hn).1 ?_
        rw [← e']; exact lookup_zip_mem r
      rw [this]; exact r

def Cx.deeper (C : Cx) (env : Env) : Cx := { C with A := C.A.deeper env }

/-- a def's facts at the base -/
structure FnAt (B : Shared) (f : Addr) (fd : FuncData) (body : List Stmt) (names : List Str) : Prop where
  obj : ∃ fo, B.heap.get? f = some fo ∧ fo.data = .func fd
  lim : B.heap.NoLimit
  code : B.heap.CodeRec fd.code fd.qualname
  body : fd.body = .stmts body
  clo : fd.closure = []
  bind : ∀ vs : List Value, vs.length = names.length → bindArgs fd ⟨vs, []⟩ = pure (names.zip vs)
  nodup : names.Nodup
  ok : paramsOk fd.scope.names names = true
  co : fd.scope.isCoroutine = false
  gen : fd.scope.isGenerator = false
  kind : fd.scope.kind = .function

section
variable {C : Cx} {env : Env} {μ : List MO} {P X : Post}

theorem kind_of_ok {sc : List (Str × NameKind)} {names : List Str} (ok : paramsOk sc names = true) {x : Str} (hx : x ∈ names) :
    (sc.lookup x = some .local ∧ ∀ n, (cellsFrom n sc []).lookup x = none) ∨ (sc.lookup x = some .cell ∧ ∀ n, ((cellsFrom n sc []).lookup x).isSome = true) := by
  have := List.all_eq_true.mp (Bool.and_eq_true_iff.mp ok).2 x hx
  rcases Bool.or_eq_true_iff.mp this with q | q
  · obtain ⟨a, b⟩ := Bool.and_eq_true_iff.mp q
    exact .inl ⟨beq_iff_eq.mp a, fun n => cellsFrom_none _ _ _ b rfl⟩
  · exact .inr ⟨beq_iff_eq.mp q, fun n => cellsFrom_some' _ _ _ (.inl (beq_iff_eq.mp q))⟩

/-- the state in a call's own frame -/
theorem St.enter {B : Shared} {T : List (Value × D)} {s s₁ : Shared} {fd : FuncData} {f : Addr} {names rest : List Str} {vs : List Value} {ds : List D} (st : St B T μ s) (ok : paramsOk fd.scope.names names = true) (hnd : names.Nodup) (hln : names.length = ds.length) (hl : vs.length = ds.length) (hv : ∀ p ∈ vs.zip ds, p ∈ T)
    (x : InCallC s (callEnvC fd s.heap.objs.size f).locals (bindL (callEnvC fd s.heap.objs.size f).kindOf (names.zip vs) fun _ => none) (callEnvC fd s.heap.objs.size f).cells (bindC (callEnvC fd s.heap.objs.size f).kindOf (names.zip vs) fun _ => none) s₁) :
    St B T (.frame s.heap.objs.size fd.scope.names (names ++ rest) (ds.map some ++ rest.map fun _ => none) :: μ) s₁ := by
  obtain ⟨⟨φ, h1, h2, h3, h4, h5, h6⟩, ho, hg⟩ := st
  obtain ⟨h', tk, rfl, keep⟩ := x.done
  have small : ∀ a o, s.heap.get? a = some o → a < s.heap.objs.size := fun a o e => Heap.lt_size e
  have ownLt : ∀ y ∈ μ, ∀ a ∈ y.owned, a < s.heap.objs.size := fun y hy a ha => by
    obtain ⟨o, e⟩ := MO.holds_there (h3 y hy) a ha; exact Heap.lt_size e
  have newGe : ∀ a ∈ (MO.frame s.heap.objs.size fd.scope.names (names ++ rest) (ds.map some ++ rest.map fun _ => none)).owned, s.heap.objs.size ≤ a := fun a ha => by
    simp only [MO.owned, List.mem_cons, List.mem_map] at ha
    rcases ha with rfl | ⟨p, hp, rfl⟩
    · exact Nat.le_refl _
    · rcases cellsFrom_mem _ _ _ hp with q | q
      · cases q
      · omega
  refine ⟨⟨φ, h1, fun a o e => keep a o (h2 a o e), fun y hy => ?_, fun y hy => ?_, ?_, h6⟩, ho, hg⟩
  · rcases List.mem_cons.mp hy with rfl | hy
    · refine ⟨_, x.toInCall.ns, fun n d hn => ?_, fun p hp => ?_⟩
      · replace hn := look_params hln hnd hn
        obtain ⟨v, hv', r⟩ := reps_lookup hl (fun p hp => h6 p (hv p hp)) hn
        refine ⟨v, r, ?_⟩
        unfold cellsK
        rcases kind_of_ok ok (lookup_zip_mem hn) with ⟨a, b⟩ | ⟨a, b⟩
        · rw [b]
          show bindL _ _ _ n = some v
          rw [bindL_lookup _ _ n hnd (show Env.kindOf (callEnvC fd s.heap.objs.size f) n = _ from a), hv']; rfl
        · obtain ⟨c, hc⟩ := Option.isSome_iff_exists.mp (b (s.heap.objs.size + 1))
          rw [hc]
          have := x.cell n c hc
          rw [bindC_lookup _ _ n hnd (show Env.kindOf (callEnvC fd s.heap.objs.size f) n = _ from a), hv'] at this
          exact this
      · refine ⟨_, x.cell p.1 p.2 (lookup_of_nodup ?_ hp)⟩
        have q := of_decide_eq_true (Bool.and_eq_true_iff.mp ok).1
        show ((cellsFrom (s.heap.objs.size + 1) fd.scope.names []).map (·.1)).Nodup
        rw [← cellsFrom_names' fd.scope.names 0 (s.heap.objs.size + 1) [] [] rfl]; exact q
    · exact MO.holds_turned (S := []) (fun _ _ e => e) (fun b o _ e => keep b o e) (h3 y hy) (by simp)
  · rcases List.mem_cons.mp hy with rfl | hy
    · intro a ha
      cases q : φ a with
      | none => rfl
      | some o => exact absurd (small a o (h2 a o q)) (Nat.not_lt.mpr (newGe a ha))
    · exact h4 y hy
  · rw [List.flatMap_cons]
    refine List.nodup_append.mpr ⟨?_, h5, fun a ha b hb e => ?_⟩
    · show (s.heap.objs.size :: (cellsFrom (s.heap.objs.size + 1) fd.scope.names []).map (·.2)).Nodup
      refine List.nodup_cons.mpr ⟨fun q => ?_, ?_⟩
      · obtain ⟨p, hp, e⟩ := List.mem_map.mp q
        have := x.above p.1 p.2 hp
        exact absurd e (Nat.ne_of_gt this)
      · exact List.pairwise_map.mpr x.apart
    · subst e
      obtain ⟨y, hy, ha'⟩ := List.mem_flatMap.mp hb
      exact absurd (ownLt y hy a ha') (Nat.not_lt.mpr (newGe a ha))

theorem ca_fn {f : Addr} {fd : FuncData} {body : List Stmt} {names : List Str} {ds : List D} (rest : List Str) (F : FnAt C.B f fd body names) (hroom : C.A.depth < recursionLimit) (hlen : ds.length = names.length)
    (h : ∀ L, Ex (C.deeper (callEnvC fd L f)) (callEnvC fd L f) (.frame L fd.scope.names (names ++ rest) (ds.map some ++ rest.map fun _ => none) :: μ) body
      (fun fl μ' => ∃ ns' vs' μ'', μ' = .frame L fd.scope.names ns' vs' :: μ'' ∧ P (match fl with | .ret d => d | _ => .none) μ'') (fun _ _ => False)) : Ca C (.ref f) ds μ P X := by
  intro T vs hl hv ρ s Q E st hQ hE
  obtain ⟨fo, ho, hd⟩ := F.obj
  refine wpAny_call (codeAny_call_cells hroom (st.stays _ _ ho) hd (F.lim.keeps st.stays) (F.code.keeps st.stays) F.body (F.bind vs (hl.trans hlen)) F.clo (fun x hx => ?_) (fun s₁ x => ?_) F.co F.gen F.kind)
  · have := (List.of_mem_zip (show (x.1, x.2) ∈ _ from hx)).1
    rcases kind_of_ok F.ok this with ⟨a, _⟩ | ⟨a, b⟩
    · exact .inl a
    · exact .inr ⟨a, b _⟩
  · refine h s.heap.objs.size T ρ s₁ _ _ (st.enter F.ok F.nodup hlen.symm hl hv x) (fun f' fl μ' s' p st' => ?_) fun _ _ _ _ q => q.elim
    obtain ⟨ns', vs', μ'', rfl, p⟩ := p
    cases f' <;> cases fl <;> first
      | exact False.elim st'
      | exact hQ _ _ _ _ p ((St.forget st' (List.sublist_cons_self _ _)).add rNone)
      | exact hQ _ _ _ _ p (St.forget st' (List.sublist_cons_self _ _))
end
end Mine

open PySem PyProof.Rows
set_option linter.unusedVariables false
namespace Mine

def starred : Expr → Bool
  | .Starred .. => true
  | _ => false
def noStars : List Expr → Bool
  | [] => true
  | e :: es => !starred e && noStars es
theorem starEach_plain (env : Env) : ∀ {es : List Expr}, noStars es = true → starEach es env = es.map fun e => (false, eval e env)
  | [], _ => rfl
  | e :: es, h => by
    obtain ⟨h1, h2⟩ := Bool.and_eq_true_iff.mp h
    have : starEach (e :: es) env = (false, eval e env) :: starEach es env := by
      cases e <;> first | rfl | (simp [starred] at h1)
    rw [this, starEach_plain env h2]; rfl
theorem backTo_plain (pos : Pos) (env : Env) : ∀ (es : List Expr), backTo pos (es.map fun e => (false, eval e env)) = es.map fun e => (false, eval e env)
  | [] => rfl
  | e :: es => by
    have := backTo_plain pos env es
    unfold backTo at this ⊢
    simp only [List.map_cons, this]; rfl

section
variable {C : Cx} {env : Env} {P X : Post}

theorem evl_spliced : ∀ {es : List Expr} {μ : List MO} {P : List D → List MO → Prop}, EvL C env μ es P X → ∀ T ρ s (Q : List Value → Shared → Prop) (E : Value → Shared → Prop), St C.B T (μ ++ ρ) s →
    (∀ vs ds μ' s' T', P ds μ' → vs.length = ds.length → (∀ p ∈ vs.zip ds, p ∈ T') → (∀ p ∈ T, p ∈ T') → St C.B T' (μ' ++ ρ) s' → Q vs s') → (∀ v d μ' s', X d μ' → St C.B ((v, d) :: T) (μ' ++ ρ) s' → E v s') → wpAny C.M C.A (spliced (es.map fun e => (false, eval e env))) Q E s
  | [], μ, P, h, T, ρ, s, Q, E, st, hQ, hE => Calls.spliced_nil (hQ [] [] μ s T h rfl (fun _ q => nomatch q) (fun _ q => q) st)
  | e :: es, μ, P, h, T, ρ, s, Q, E, st, hQ, hE => by
    refine Calls.spliced_cons (h T ρ s _ _ st (fun v d μ1 s1 h1 st1 => ?_) hE)
    refine evl_spliced h1 ((v, d) :: T) ρ s1 _ _ st1 (fun vs ds μ' s' T' p hl hz hT st' => ?_) fun v' d' μ' s' x st' => hE v' d' μ' s' x st'.drop2
    refine hQ (v :: vs) (d :: ds) μ' s' T' p (by simp [hl]) (fun q hq => ?_) (fun q hq => hT q (.tail _ hq)) st'
    rw [List.zip_cons_cons] at hq
    rcases List.mem_cons.mp hq with rfl | hq
    · exact hT _ (.head _)
    · exact hz q hq

theorem evl_evalArgs {es : List Expr} {μ : List MO} {f : Value} {P : List D → List MO → Prop} (h : EvL C env μ es P X) (T : List (Value × D)) (ρ : List MO) (s : Shared) (Q : Args → Shared → Prop) (E : Value → Shared → Prop) (st : St C.B T (μ ++ ρ) s)
    (hQ : ∀ vs ds μ' s' T', P ds μ' → vs.length = ds.length → (∀ p ∈ vs.zip ds, p ∈ T') → (∀ p ∈ T, p ∈ T') → St C.B T' (μ' ++ ρ) s' → Q ⟨vs, []⟩ s') (hE : ∀ v d μ' s', X d μ' → St C.B ((v, d) :: T) (μ' ++ ρ) s' → E v s') :
    wpAny C.M C.A (evalArgs f true (es.map fun e => (false, eval e env)) []) Q E s := by
  cases es with
  | nil => exact PyProof.Rows.evalArgs_nil3 (hQ [] [] μ s T h rfl (fun _ q => nomatch q) (fun _ q => q) st)
  | cons e es => exact Calls.evalArgs_plain (evl_spliced h T ρ s _ _ st hQ hE)

theorem TrT.from {T T' : List (Value × D)} {μ : List MO} {t : Sem Value} (h : TrT C T' μ t P X) (k : ∀ p ∈ T, p ∈ T') (ρ : List MO) (s : Shared) (Q E : Value → Shared → Prop) (st : St C.B T' (μ ++ ρ) s)
    (hQ : ∀ v d μ' s', P d μ' → St C.B ((v, d) :: T) (μ' ++ ρ) s' → Q v s') (hE : ∀ v d μ' s', X d μ' → St C.B ((v, d) :: T) (μ' ++ ρ) s' → E v s') : wpAny C.M C.A t Q E s :=
  h ρ s Q E st (fun v d μ' s' p st' => hQ v d μ' s' p (st'.keepHead k)) fun v d μ' s' x st' => hE v d μ' s' x (st'.keepHead k)

/-- a call of a def by its global name -/
theorem ev_call {μ : List MO} {x : Str} {np pos : Pos} {args : List Expr} {f : Addr} {fo : Obj} {fd : FuncData} (hn : ∀ P', P' (.ref f) μ → Ev C env μ (.Name x np) P' X) (hf : C.B.heap.get? f = some fo) (hd : fo.data = .func fd) (hs : noStars args = true)
    (h : EvL C env μ args (fun ds μ1 => Ca C (.ref f) ds μ1 P X) X) : Ev C env μ (.Call (.Name x np) args [] pos) P X := by
  intro T ρ s Q E st hQ hE
  refine wpAny_Call_ofName (hn (fun d μ1 => d = .ref f ∧ μ1 = μ) ⟨rfl, rfl⟩ T ρ s _ _ st (fun v d μ1 s1 ⟨hd1, hμ⟩ st1 => ?_) hE)
  subst hd1 hμ
  have e := st1.isRef (.head _); subst e
  rw [starEach_plain env hs, backTo_plain]
  refine Calls.callWith_function (o := fo) (fd := fd) (evl_evalArgs h T ρ s1 _ _ st1.tail (fun vs ds μ' s' T' p hl hz hT st' => ?_) hE)
  exact ⟨⟨st'.stays _ _ hf, hd⟩, (p T' vs hl hz).from hT ρ s' Q E st' hQ hE⟩

/-- a call of a built-in function -/
theorem ev_callB {μ : List MO} {x : Str} {np pos : Pos} {args : List Expr} {id : String} (hn : ∀ P', P' (.val (.builtin id)) μ → Ev C env μ (.Name x np) P' X) (hs : noStars args = true)
    (h : EvL C env μ args (fun ds μ1 => Ca C (.builtin id) ds μ1 P X) X) : Ev C env μ (.Call (.Name x np) args [] pos) P X := by
  intro T ρ s Q E st hQ hE
  refine wpAny_Call_ofName (hn (fun d μ1 => d = .val (.builtin id) ∧ μ1 = μ) ⟨rfl, rfl⟩ T ρ s _ _ st (fun v d μ1 s1 ⟨hd1, hμ⟩ st1 => ?_) hE)
  subst hd1 hμ
  have e := st1.isVal (.head _); subst e
  rw [starEach_plain env hs, backTo_plain]
  refine Calls.callWith_builtin (by simp) (evl_evalArgs h T ρ s1 _ _ st1.tail (fun vs ds μ' s' T' p hl hz hT st' => ?_) hE)
  exact (p T' vs hl hz).from hT ρ s' Q E st' hQ hE
end
end Mine

open PySem PyProof.Rows
set_option linter.unusedVariables false
namespace Mine

/-- a name's datum turned -/
inductive Upd (x : Str) (d : D) : List Str → List (Option D) → List (Option D) → Prop
  | here {ns : List Str} {v : Option D} {vs : List (Option D)} : Upd x d (x :: ns) (v :: vs) (some d :: vs)
  | there {y : Str} {v : Option D} {ns : List Str} {vs vs' : List (Option D)} : Upd x d ns vs vs' → Upd x d (y :: ns) (v :: vs) (v :: vs')
theorem Upd.mem {x : Str} {d : D} {ns : List Str} {vs vs' : List (Option D)} (h : Upd x d ns vs vs') : x ∈ ns := by
  induction h with
  | here => exact .head _
  | there _ ih => exact .tail _ ih
theorem Upd.look {x : Str} {d : D} {ns : List Str} {vs vs' : List (Option D)} (hn : ns.Nodup) (h : Upd x d ns vs vs') {y : Str} {e : D} (l : Look y e ns vs') : (y = x ∧ e = d) ∨ (y ≠ x ∧ Look y e ns vs) := by
  induction h with
  | here =>
    cases l with
    | here => exact .inl ⟨rfl, rfl⟩
    | there l => exact .inr ⟨fun q => (List.nodup_cons.mp hn).1 (q ▸ l.mem), .there l⟩
  | there h ih =>
    cases l with
    | here => exact .inr ⟨fun q => (List.nodup_cons.mp hn).1 (q ▸ h.mem), .here⟩
    | there l => exact (ih (List.nodup_cons.mp hn).2 l).imp id fun ⟨a, b⟩ => ⟨a, .there b⟩

section
variable {C : Cx} {env : Env} {μ : List MO} {X : Post}
def Sto (C : Cx) (env : Env) (μ : List MO) (x : Str) (d : D) (P : List MO → Prop) (X : Post) : Prop := ∀ T v, (v, d) ∈ T → TrU C T μ (storeName env x v) P X

/-- one owned thing turned, the others as they were -/
theorem St.turn {B : Shared} {T T' : List (Value × D)} {s : Shared} {x x' : MO} {pre post : List MO} {h' : Heap} (st : St B T (pre ++ x :: post) s) (ho : x'.owned = x.owned) (k : Turned x.owned s.heap h')
    (hx : ∀ φ : FM, (∀ a o, φ a = some o → s.heap.get? a = some o) → (∀ p ∈ T, Rep φ p.1 p.2) → x.holds φ s.heap → x'.holds φ h') (hT : ∀ p ∈ T', p ∈ T) (t : Nat) : St B T' (pre ++ x' :: post) { s with heap := h', toks := t } := by
  obtain ⟨⟨φ, h1, h2, h3, h4, h5, h6⟩, hos, hg⟩ := st
  have mem : ∀ y, y ∈ pre ∨ y ∈ post → y ∈ pre ++ x :: post := fun y hy => hy.elim (fun q => List.mem_append_left _ q) fun q => List.mem_append_right _ (.tail _ q)
  have hxm : x ∈ pre ++ x :: post := List.mem_append_right _ (.head _)
  have apart : ∀ y, y ∈ pre ∨ y ∈ post → ∀ a ∈ y.owned, a ∉ x.owned := by
    rw [List.flatMap_append, List.flatMap_cons] at h5
    obtain ⟨_, hb, hc⟩ := List.nodup_append.mp h5
    obtain ⟨_, _, he⟩ := List.nodup_append.mp hb
    intro y hy a ha hax
    rcases hy with hy | hy
    · exact hc a (List.mem_flatMap.mpr ⟨y, hy, ha⟩) a (List.mem_append_left _ hax) rfl
    · exact he a hax a (List.mem_flatMap.mpr ⟨y, hy, ha⟩) rfl
  refine ⟨⟨φ, h1, fun a o e => k a o (fun q => by rw [h4 x hxm a q] at e; cases e) (h2 a o e), fun y hy => ?_, fun y hy => ?_, ?_, fun p hp => h6 p (hT p hp)⟩, hos, hg⟩
  · have keepO : ∀ y, y ∈ pre ∨ y ∈ post → y.holds φ h' := fun y hy => MO.holds_turned (fun _ _ e => e) k (h3 y (mem y hy)) (apart y hy)
    rcases List.mem_append.mp hy with hy | hy
    · exact keepO y (.inl hy)
    · rcases List.mem_cons.mp hy with rfl | hy
      · exact hx φ h2 h6 (h3 x hxm)
      · exact keepO y (.inr hy)
  · rcases List.mem_append.mp hy with hy | hy
    · exact h4 y (mem y (.inl hy))
    · rcases List.mem_cons.mp hy with rfl | hy
      · rw [ho]; exact h4 x hxm
      · exact h4 y (mem y (.inr hy))
  · rw [List.flatMap_append, List.flatMap_cons, ho]
    rw [List.flatMap_append, List.flatMap_cons] at h5
    exact h5

theorem sto_local {x : Str} {d : D} {L : Addr} {kn : List (Str × NameKind)} {ns : List Str} {vs vs' : List (Option D)} {P : List MO → Prop} (hk : env.scope.kind = .function) (hl : env.kindOf x = some .local) (hL : env.locals = L) (hc : (cellsK L kn).lookup x = none) (hnd : ns.Nodup) (hu : Upd x d ns vs vs')
    (h : P (.frame L kn ns vs' :: μ)) : Sto C env (.frame L kn ns vs :: μ) x d P X := by
  intro T v hv ρ s Q E st hQ hE
  have st' := st
  obtain ⟨⟨φ, h1, h2, h3, h4, h5, h6⟩, ho, hg⟩ := st'
  have hfr := h3 _ (.head _)
  obtain ⟨mv, hn, hmv, hcs⟩ := hfr
  refine wpAny_storeName_local hl (hL ▸ hn) (fun h' hn' hs' => hQ _ _ h (St.turn (pre := []) (T := T) (x := .frame L kn ns vs) (x' := .frame L kn ns vs') st rfl ?_ ?_ (fun _ q => q) _)) (by rw [hk]; rfl)
  · exact (Turned.of_sameBut hs').mono fun a ha => by rw [List.mem_singleton] at ha; rw [ha, hL]; exact List.mem_cons_self
  · intro φ' _ h6' ⟨mv', hn2, hmv2, hcs2⟩
    rw [hL] at hn' hs'
    rw [List.cons_append, List.flatMap_cons] at h5
    obtain ⟨ha, _, _⟩ := List.nodup_append.mp h5
    have apart : ∀ p ∈ cellsK L kn, p.2 ≠ L := fun p hp ec => (List.nodup_cons.mp ha).1 (List.mem_map.mpr ⟨p, hp, ec⟩)
    refine ⟨_, hn', fun y d' hy => ?_, fun p hp => ?_⟩
    · rcases hu.look hnd hy with ⟨rfl, rfl⟩ | ⟨e, hy⟩
      · refine ⟨v, h6' _ hv, ?_⟩
        rw [hc]; exact if_pos rfl
      · obtain ⟨v', r, q⟩ := hmv2 y d' hy
        refine ⟨v', r, ?_⟩
        revert q
        cases hcy : (cellsK L kn).lookup y with
        | none => intro q; show (if y = x then some v else mv y) = some v'; rw [if_neg e, ← q]; exact hn.agree hn2 y
        | some c => intro q; exact q.sameBut hs' (apart _ (mem_of_lookup hcy))
    · obtain ⟨v', q⟩ := hcs2 p hp
      exact ⟨v', q.sameBut hs' (apart p hp)⟩

theorem sto_cell {x : Str} {d : D} {L c : Addr} {kn : List (Str × NameKind)} {ns : List Str} {vs vs' : List (Option D)} {P : List MO → Prop} (hk : env.scope.kind = .function) (hl : env.kindOf x = some .cell) (hce : env.cells.lookup x = some c) (hc : (cellsK L kn).lookup x = some c) (hnd' : ns.Nodup) (hu : Upd x d ns vs vs')
    (h : P (.frame L kn ns vs' :: μ)) : Sto C env (.frame L kn ns vs :: μ) x d P X := by
  intro T v hv ρ s Q E st hQ hE
  have st' := st
  obtain ⟨⟨φ, h1, h2, h3, h4, h5, h6⟩, ho, hg⟩ := st'
  have hfr := h3 _ (.head _)
  obtain ⟨mv, hn, hmv, hcs⟩ := hfr
  obtain ⟨v₀, hcell⟩ := hcs _ (mem_of_lookup hc)
  rw [List.cons_append, List.flatMap_cons] at h5
  obtain ⟨hnd, _, _⟩ := List.nodup_append.mp h5
  obtain ⟨hL1, hnd⟩ := List.nodup_cons.mp hnd
  have hcL : c ≠ L := fun e => hL1 (List.mem_map.mpr ⟨_, mem_of_lookup hc, e⟩)
  refine wpAny_storeName_cell hk hl hce hcell fun h' hc' hs' => hQ _ _ h (St.turn (pre := []) (T := T) (x := .frame L kn ns vs) (x' := .frame L kn ns vs') st rfl ?_ ?_ (fun _ q => q) _)
  · exact (Turned.of_sameBut hs').mono fun a ha => by rw [List.mem_singleton] at ha; rw [ha]; exact List.mem_cons_of_mem _ (List.mem_map_of_mem (f := (·.2)) (mem_of_lookup hc))
  · intro φ' _ h6' ⟨mv', hn2, hmv2, hcs2⟩
    refine ⟨mv', hn2.sameBut hs' (Ne.symm hcL), fun y d' hy => ?_, fun p hp => ?_⟩
    · rcases hu.look hnd' hy with ⟨rfl, rfl⟩ | ⟨e, hy⟩
      · refine ⟨v, h6' _ hv, ?_⟩
        rw [hc]; exact hc'
      · obtain ⟨v', r, q⟩ := hmv2 y d' hy
        refine ⟨v', r, ?_⟩
        revert q
        cases hcy : (cellsK L kn).lookup y with
        | none => exact id
        | some c' =>
          intro q
          refine q.sameBut hs' fun ec => e ?_
          exact name_of_addr (List.pairwise_map.mp hnd) (mem_of_lookup hcy) (ec ▸ mem_of_lookup hc)
    · by_cases e : p.2 = c
      · exact ⟨_, e ▸ hc'⟩
      · obtain ⟨v', q⟩ := hcs2 p hp
        exact ⟨v', q.sameBut hs' e⟩

theorem ex_assign {x : Str} {p pos : Pos} {value : Expr} {P : Fw → List MO → Prop} (h : Ev C env μ value (fun d μ1 => Sto C env μ1 x d (P .next) X) X) (hs : swapsWith value (some (.Name x p)) pos.line env = pure false) :
    Ex1 C env μ (.Assign [.Name x p] value pos) P X :=
  fun T ρ _ _ _ st hQ hE => wpAny_Assign_Name (h T ρ _ _ _ st (fun v d μ1 s1 h1 st1 => h1 _ v (.head _) ρ s1 _ _ st1 (fun μ' s' p' st' => hQ .next .next μ' s' p' st'.tail) fun v' d' μ' s' x' st' => hE v' d' μ' s' x' st'.drop2) hE) hs
end
end Mine

open PySem PyProof.Rows
set_option linter.unusedVariables false
namespace Mine

/-- a list's items, frozen or owned -/
def Items (μ : List MO) (d : D) (ds : List D) : Prop := d = .lst ds ∨ ∃ a, d = .ref a ∧ MO.list a ds ∈ μ
theorem Items.app {μ : List MO} {d : D} {ds : List D} (h : Items μ d ds) (ρ : List MO) : Items (μ ++ ρ) d ds := h.imp id fun ⟨a, e, m⟩ => ⟨a, e, List.mem_append_left _ m⟩
theorem Items.cons {μ : List MO} {d : D} {ds : List D} (h : Items μ d ds) (x : MO) : Items (x :: μ) d ds := h.imp id fun ⟨a, e, m⟩ => ⟨a, e, .tail _ m⟩

section
variable {C : Cx} {env : Env} {μ : List MO} {X : Post}

theorem zip_reps {φ : FM} {vs : List Value} {ds : List D} (h : Reps φ vs ds) : ∀ p ∈ vs.zip ds, Rep φ p.1 p.2 := by
  have aux : ∀ {vs ds}, Reps φ vs ds → ∀ p ∈ vs.zip ds, Rep φ p.1 p.2 := by
    intro vs
    induction vs with
    | nil => intro ds h p hp; simp at hp
    | cons v vs ih =>
      intro ds h p hp
      cases h with
      | cons h1 h2 =>
        rw [List.zip_cons_cons] at hp
        rcases List.mem_cons.mp hp with rfl | hp
        · exact h1
        · exact ih h2 p hp
  exact aux h
theorem reps_zip {φ : FM} : ∀ {vs : List Value} {ds : List D}, vs.length = ds.length → (∀ p ∈ vs.zip ds, Rep φ p.1 p.2) → Reps φ vs ds
  | [], [], _, _ => .nil
  | v :: vs, d :: ds, hl, h => .cons (h _ (.head _)) (reps_zip (by simpa using hl) fun p hp => h p (.tail _ hp))

/-- a list at hand: its items are at hand -/
theorem St.items {B : Shared} {T : List (Value × D)} {s : Shared} {v : Value} {d : D} {ds : List D} (st : St B T μ s) (hv : (v, d) ∈ T) (hi : Items μ d ds) :
    ∃ a vs, v = .ref a ∧ s.heap.IsList a (List.toArray vs) ∧ vs.length = ds.length ∧ St B (vs.zip ds ++ T) μ s := by
  obtain ⟨⟨φ, h1, h2, h3, h4, h5, h6⟩, ho, hg⟩ := st
  have fin : ∀ {a : Addr} {vs : List Value}, v = .ref a → s.heap.IsList a vs.toArray → Reps φ vs ds → ∃ a vs, v = .ref a ∧ s.heap.IsList a (List.toArray vs) ∧ vs.length = ds.length ∧ St B (vs.zip ds ++ T) μ s := fun {a vs} e hl r =>
    ⟨a, vs, e, hl, r.length, ⟨⟨φ, h1, h2, h3, h4, h5, fun p hp => (List.mem_append.mp hp).elim (zip_reps r p) (h6 p)⟩, ho, hg⟩⟩
  have hr := h6 _ hv
  rcases hi with rfl | ⟨a, rfl, hm⟩
  · cases hr with
    | lst ha hc hd r => exact fin rfl ⟨_, h2 _ _ ha, hc, _, hd⟩ r
  · cases hr
    obtain ⟨vs, hl, r⟩ := h3 _ hm
    exact fin rfl hl r

theorem St.perm' {B : Shared} {T μ μ' s} (h : St B T μ s) (k : μ.Perm μ') : St B T μ' s := h.perm k.symm

/-- a new owned object -/
theorem St.alloc {B : Shared} {T : List (Value × D)} {s : Shared} {o : Obj} {x : MO} {μ ρ : List MO} (st : St B T (μ ++ ρ) s) (hx : x.owned = [s.heap.objs.size]) (t : Nat)
    (hh : ∀ φ : FM, (∀ p ∈ T, Rep φ p.1 p.2) → x.holds φ (s.heap.push o)) : St B T (μ ++ x :: ρ) { s with heap := s.heap.push o, toks := t } := by
  obtain ⟨⟨φ, h1, h2, h3, h4, h5, h6⟩, ho, hg⟩ := st
  have new : φ s.heap.objs.size = none := by
    cases q : φ s.heap.objs.size with
    | none => rfl
    | some o' => exact absurd (Heap.lt_size (h2 _ _ q)) (Nat.lt_irrefl _)
  refine St.perm' (μ := x :: (μ ++ ρ)) ⟨⟨φ, h1, fun a o' e => Heap.get?_push_of_some _ (h2 a o' e), fun y hy => ?_, fun y hy => ?_, ?_, h6⟩, ho, hg⟩ List.perm_middle.symm
  · rcases List.mem_cons.mp hy with rfl | hy
    · exact hh φ h6
    · exact MO.holds_turned (S := []) (fun _ _ e => e) (Turned.push _ _) (h3 y hy) (by simp)
  · rcases List.mem_cons.mp hy with rfl | hy
    · intro a ha; rw [hx, List.mem_singleton] at ha; rw [ha]; exact new
    · exact h4 y hy
  · rw [List.flatMap_cons, hx]
    refine List.nodup_append.mpr ⟨by simp, h5, fun a ha b hb e => ?_⟩
    subst e
    rw [List.mem_singleton] at ha
    obtain ⟨y, hy, ha'⟩ := List.mem_flatMap.mp hb
    obtain ⟨o', e'⟩ := MO.holds_there (h3 y hy) a ha'
    exact absurd (ha ▸ Heap.lt_size e') (Nat.lt_irrefl _)

theorem St.turnAt {B : Shared} {T : List (Value × D)} {s : Shared} {x x' : MO} {μ ρ : List MO} {h' : Heap} (st : St B T (μ ++ x :: ρ) s) (ho : x'.owned = x.owned) (k : Turned x.owned s.heap h')
    (hx : ∀ φ : FM, (∀ a o, φ a = some o → s.heap.get? a = some o) → (∀ p ∈ T, Rep φ p.1 p.2) → x.holds φ s.heap → x'.holds φ h') (t : Nat) : St B T (μ ++ x' :: ρ) { s with heap := h', toks := t } :=
  St.turn st ho k hx (fun _ q => q) t
theorem St.forgetAt {B : Shared} {T : List (Value × D)} {s : Shared} {x : MO} {μ ρ : List MO} (st : St B T (μ ++ x :: ρ) s) : St B T (μ ++ ρ) s :=
  st.forget ((List.Sublist.refl μ).append (List.sublist_cons_self _ _))

/-- one owned thing turned and forgotten -/
theorem St.gone {B : Shared} {T : List (Value × D)} {s : Shared} {x : MO} {μ ρ : List MO} {h' : Heap} (st : St B T (μ ++ x :: ρ) s) (k : Turned x.owned s.heap h') (t : Nat) : St B T (μ ++ ρ) { s with heap := h', toks := t } := by
  obtain ⟨⟨φ, h1, h2, h3, h4, h5, h6⟩, hos, hg⟩ := st
  have hxm : x ∈ μ ++ x :: ρ := List.mem_append_right _ (.head _)
  have sub : List.Sublist (μ ++ ρ) (μ ++ x :: ρ) := (List.Sublist.refl μ).append (List.sublist_cons_self _ _)
  have apart : ∀ y ∈ μ ++ ρ, ∀ a ∈ y.owned, a ∉ x.owned := by
    rw [List.flatMap_append, List.flatMap_cons] at h5
    obtain ⟨_, hb, hc⟩ := List.nodup_append.mp h5
    obtain ⟨_, _, he⟩ := List.nodup_append.mp hb
    intro y hy a ha hax
    rcases List.mem_append.mp hy with hy | hy
    · exact hc a (List.mem_flatMap.mpr ⟨y, hy, ha⟩) a (List.mem_append_left _ hax) rfl
    · exact he a hax a (List.mem_flatMap.mpr ⟨y, hy, ha⟩) rfl
  refine ⟨⟨φ, h1, fun a o e => k a o (fun q => by rw [h4 x hxm a q] at e; cases e) (h2 a o e), fun y hy => ?_, fun y hy => h4 y (sub.subset hy), ?_, h6⟩, hos, hg⟩
  · exact MO.holds_turned (fun _ _ e => e) k (h3 y (sub.subset hy)) (apart y hy)
  · rw [List.flatMap_append]
    rw [List.flatMap_append, List.flatMap_cons] at h5
    exact ((List.Sublist.refl _).append (List.sublist_append_right _ _)).nodup h5

/-- where the items come from: next, and the end -/
structure Src (C : Cx) (T₀ : List (Value × D)) (it : Addr) (R : Nat → Obj → Prop) (ds : List D) (I : Nat → List MO → Prop) : Prop where
  next : ∀ {i d T μ ρ s} {Q : Option Value → Shared → Prop} {E : Value → Shared → Prop}, (∀ p ∈ T₀, p ∈ T) → I i μ → ds[i]? = some d → St C.B T (μ ++ MO.raw it (R i) :: ρ) s →
    (∀ v s', St C.B ((v, d) :: T) (μ ++ MO.raw it (R (i + 1)) :: ρ) s' → Q (some v) s') → wpAny C.M C.A (pyNext (.ref it)) Q E s
  fin : ∀ {T μ ρ s} {Q : Option Value → Shared → Prop} {E : Value → Shared → Prop}, (∀ p ∈ T₀, p ∈ T) → I ds.length μ → St C.B T (μ ++ MO.raw it (R ds.length) :: ρ) s →
    (∀ s', St C.B T (μ ++ ρ) s' → Q none s') → wpAny C.M C.A (pyNext (.ref it)) Q E s
  self : ∀ {T μ ρ s} {Q : Value → Shared → Prop} {E : Value → Shared → Prop}, St C.B T (μ ++ MO.raw it (R 0) :: ρ) s → Q (.ref it) s → wpAny C.M C.A (pyIter (.ref it)) Q E s

/-- what can be gone through: its items -/
def Itb (C : Cx) (d : D) (ds : List D) (I : Nat → List MO → Prop) : Prop := ∀ v T μ ρ s (Q : Value → Shared → Prop) (E : Value → Shared → Prop), (v, d) ∈ T → I 0 μ → St C.B T (μ ++ ρ) s →
  (∀ it R s', Src C [(v, d)] it R ds I → St C.B T (μ ++ MO.raw it (R 0) :: ρ) s' → Q (.ref it) s') → wpAny C.M C.A (pyIter v) Q E s

def Asg (C : Cx) (env : Env) (μ : List MO) (target : Expr) (d : D) (P : List MO → Prop) (X : Post) : Prop := ∀ T v, (v, d) ∈ T → TrU C T μ (assign target env v) P X
theorem asg_name {x : Str} {p : Pos} {d : D} {P : List MO → Prop} (h : Sto C env μ x d P X) : Asg C env μ (.Name x p) d P X :=
  fun T v hv ρ s Q E st hQ hE => wpAny_assign_Name (h T v hv ρ s Q E st hQ hE)

/-- what a turn's end asks -/
def Turn (I : List MO → Prop) (P : Fw → List MO → Prop) : Fw → List MO → Prop
  | .next, μ => I μ
  | .cont, μ => I μ
  | .brk, μ => P .next μ
  | .ret d, μ => P (.ret d) μ
def noX : Post := fun _ _ => False

theorem for_core {T₀ : List (Value × D)} {target : Expr} {body : List Stmt} {it : Addr} {R : Nat → Obj → Prop} {ds : List D} {I : Nat → List MO → Prop} {P : Fw → List MO → Prop} (S : Src C T₀ it R ds I) (ht : ∀ v, letOwnedTupleGo target (.ref it) v = pure ())
    (turn : ∀ i d μ, ds[i]? = some d → I i μ → Asg C env μ target d (fun μ1 => Ex C env μ1 body (Turn (I (i + 1)) P) noX) noX) (fin : ∀ μ, I ds.length μ → P .next μ)
    (T : List (Value × D)) (ρ : List MO) (s : Shared) (Q : Flow → Shared → Prop) (E : Value → Shared → Prop) (hT : ∀ p ∈ T₀, p ∈ T) (h0 : I 0 μ) (st : St C.B T (μ ++ MO.raw it (R 0) :: ρ) s) (hQ : ∀ f fl μ' s', P fl μ' → FwSt C.B T (μ' ++ ρ) s' f fl → Q f s') :
    codeAny C.M C.A (.forLoop target (.ref it) body [] env) (fun r s' => match r with | .ok f => Q f s' | .error e => E e s') s := by
  refine codeAny_forLoop (fun k s => ∃ i μ, k + i = ds.length ∧ I i μ ∧ St C.B T (μ ++ MO.raw it (R i) :: ρ) s) (fun k s ⟨i, μ, hk, hI, st⟩ => ?_) ds.length ⟨0, μ, rfl, h0, st⟩ ht
  by_cases hi : i < ds.length
  · obtain ⟨d, hd⟩ : ∃ d, ds[i]? = some d := ⟨_, List.getElem?_eq_getElem hi⟩
    refine S.next hT hI hd st fun v s1 st1 => ?_
    refine turn i d μ hd hI ((v, d) :: T) v (.head _) (MO.raw it (R (i + 1)) :: ρ) s1 _ _ st1 (fun μ1 s2 h2 st2 => ?_) fun _ _ _ _ q => q.elim
    refine h2 T (MO.raw it (R (i + 1)) :: ρ) s2 _ _ st2.tail (fun f fl μ' s' p st' => ?_) fun _ _ _ _ q => q.elim
    cases f <;> cases fl <;> first
      | exact False.elim st'
      | exact ⟨k - 1, by omega, i + 1, μ', by omega, p, st'⟩
      | exact hQ .next .next μ' s' p (St.forgetAt st')
      | exact hQ (.ret _) (.ret _) μ' s' p (St.forgetAt st')
  · have hi' : i = ds.length := by omega
    subst hi'
    refine S.fin hT hI st fun s1 st1 => ?_
    exact wpAny_execs_nil (hQ .next .next μ s1 (fin μ hI) st1)

def listIt (a : Addr) (i : Nat) (o : Obj) : Prop := o.cls = .type "list_iterator" ∧ o.data = .fields #[.ref a, .int i 0]
theorem FwSt.drop {B : Shared} {p : Value × D} {T : List (Value × D)} {s : Shared} {f : Flow} {fl : Fw} (h : FwSt B (p :: T) μ s f fl) : FwSt B T μ s f fl := by
  cases f <;> cases fl <;> first | exact h | exact St.tail h | exact St.drop2 h

theorem src_list {a it : Addr} {d : D} {ds : List D} {I : Nat → List MO → Prop} (hA : C.A.handled = none) (hit : ∀ i μ, I i μ → Items μ d ds) : Src C [(.ref a, d)] it (listIt a) ds I where
  next := by
    intro i x T μ ρ s Q E hT hI hx st hQ
    obtain ⟨a', vs, e, hl, hlen, st2⟩ := st.items (hT _ (.head _)) ((hit i μ hI).app _)
    cases e
    obtain ⟨⟨φ, _, _, h3, _⟩, _, _⟩ := id st
    obtain ⟨o, ho, hc, hd⟩ := h3 _ (List.mem_append_right _ (.head _))
    obtain ⟨v, hv⟩ : ∃ v, vs[i]? = some v := ⟨_, List.getElem?_eq_getElem (by rw [hlen]; exact (List.getElem?_eq_some_iff.mp hx).1)⟩
    refine wpAny_pyNext_list_item ⟨o, ho, hc, hd⟩ hl (by simpa using hv) fun h' hi hs => hQ v _ ?_
    have hz : (v, x) ∈ vs.zip ds := by
      refine List.mem_of_getElem? (i := i) ?_
      rw [List.getElem?_zip_eq_some]; exact ⟨hv, hx⟩
    have := St.turnAt (x' := .raw it (listIt a (i + 1))) (st2.sub (T' := (v, x) :: T) fun p hp => by
      rcases List.mem_cons.mp hp with rfl | hp
      · exact List.mem_append_left _ hz
      · exact List.mem_append_right _ hp) rfl (Turned.of_sameBut hs) (fun φ _ _ _ => by
        obtain ⟨o', ho', hc', hd'⟩ := hi; exact ⟨o', ho', hc', hd'⟩) s.toks
    exact this
  fin := by
    intro T μ ρ s Q E hT hI st hQ
    obtain ⟨a', vs, e, hl, hlen, st2⟩ := st.items (hT _ (.head _)) ((hit _ μ hI).app _)
    cases e
    obtain ⟨⟨φ, h1, h2, h3, h4, h5, h6⟩, ho', hg⟩ := id st
    obtain ⟨o, ho, hc, hd⟩ := h3 _ (List.mem_append_right _ (.head _))
    refine wpAny_pyNext_list_end hA ⟨o, ho, hc, hd⟩ hl (by simp [hlen]) fun h' hs => hQ _ ?_
    exact st.gone (Turned.of_extBut hs) s.toks
  self := by
    intro T μ ρ s Q E st hQ
    obtain ⟨⟨φ, _, _, h3, _⟩, _, _⟩ := st
    obtain ⟨o, ho, hc, hd⟩ := h3 _ (List.mem_append_right _ (.head _))
    exact wpAny_pyIter_listiter ⟨o, ho, hc, hd⟩ hQ

theorem itb_list {d : D} {ds : List D} {I : Nat → List MO → Prop} (hA : C.A.handled = none) (hit : ∀ i μ, I i μ → Items μ d ds) : Itb C d ds I := by
  intro v T μ ρ s Q E hv h0 st hQ
  obtain ⟨a, vs, rfl, hl, hlen, st2⟩ := st.items hv ((hit 0 μ h0).app ρ)
  exact wpAny_pyIter_list hl (hQ _ _ _ (src_list hA hit) (st.alloc rfl s.toks fun _ _ => ⟨_, Heap.get?_push_size _ rfl, rfl, rfl⟩))

/-! tuples -/
theorem St.titems {B : Shared} {T : List (Value × D)} {s : Shared} {v : Value} {ds : List D} (st : St B T μ s) (hv : (v, .tup ds) ∈ T) :
    ∃ a vs, v = .ref a ∧ s.heap.IsTuple a (List.toArray vs) ∧ vs.length = ds.length ∧ St B (vs.zip ds ++ T) μ s := by
  obtain ⟨⟨φ, h1, h2, h3, h4, h5, h6⟩, ho, hg⟩ := st
  have hr := h6 _ hv
  cases hr with
  | tup ha hc hd r => exact ⟨_, _, rfl, ⟨_, h2 _ _ ha, hc, _, hd⟩, r.length, ⟨⟨φ, h1, h2, h3, h4, h5, fun p hp => (List.mem_append.mp hp).elim (zip_reps r p) (h6 p)⟩, ho, hg⟩⟩
def tupIt (a : Addr) (i : Nat) (o : Obj) : Prop := o.cls = .type "tuple_iterator" ∧ o.data = .fields #[.ref a, .int i 0]
theorem src_tup {a it : Addr} {ds : List D} {I : Nat → List MO → Prop} (hA : C.A.handled = none) : Src C [(.ref a, .tup ds)] it (tupIt a) ds I where
  next := by
    intro i x T μ ρ s Q E hT hI hx st hQ
    obtain ⟨a', vs, e, hl, hlen, st2⟩ := st.titems (hT _ (.head _))
    cases e
    obtain ⟨⟨φ, _, _, h3, _⟩, _, _⟩ := id st
    obtain ⟨o, ho, hc, hd⟩ := h3 _ (List.mem_append_right _ (.head _))
    obtain ⟨v, hv⟩ : ∃ v, vs[i]? = some v := ⟨_, List.getElem?_eq_getElem (by rw [hlen]; exact (List.getElem?_eq_some_iff.mp hx).1)⟩
    refine wpAny_pyNext_tuple_item ⟨o, ho, hc, hd⟩ hl (by simpa using hv) fun h' hi hs => hQ v _ ?_
    have hz : (v, x) ∈ vs.zip ds := by
      refine List.mem_of_getElem? (i := i) ?_
      rw [List.getElem?_zip_eq_some]; exact ⟨hv, hx⟩
    exact St.turnAt (x' := .raw it (tupIt a (i + 1))) (st2.sub (T' := (v, x) :: T) fun p hp => by
      rcases List.mem_cons.mp hp with rfl | hp
      · exact List.mem_append_left _ hz
      · exact List.mem_append_right _ hp) rfl (Turned.of_sameBut hs) (fun φ _ _ _ => by
        obtain ⟨o', ho', hc', hd'⟩ := hi; exact ⟨o', ho', hc', hd'⟩) s.toks
  fin := by
    intro T μ ρ s Q E hT hI st hQ
    obtain ⟨a', vs, e, hl, hlen, st2⟩ := st.titems (hT _ (.head _))
    cases e
    obtain ⟨⟨φ, h1, h2, h3, h4, h5, h6⟩, ho', hg⟩ := id st
    obtain ⟨o, ho, hc, hd⟩ := h3 _ (List.mem_append_right _ (.head _))
    exact wpAny_pyNext_tuple_end hA ⟨o, ho, hc, hd⟩ hl (by simp [hlen]) fun h' hs => hQ _ (st.gone (Turned.of_extBut hs) s.toks)
  self := by
    intro T μ ρ s Q E st hQ
    obtain ⟨⟨φ, _, _, h3, _⟩, _, _⟩ := st
    obtain ⟨o, ho, hc, hd⟩ := h3 _ (List.mem_append_right _ (.head _))
    exact wpAny_pyIter_tupleiter ⟨o, ho, hc, hd⟩ hQ
theorem itb_tup {ds : List D} {I : Nat → List MO → Prop} (hA : C.A.handled = none) : Itb C (.tup ds) ds I := by
  intro v T μ ρ s Q E hv h0 st hQ
  obtain ⟨a, vs, rfl, hl, hlen, st2⟩ := st.titems hv
  exact wpAny_pyIter_tuple hl (hQ _ _ _ (src_tup hA) (st.alloc rfl s.toks fun _ _ => ⟨_, Heap.get?_push_size _ rfl, rfl, rfl⟩))

/-! ranges -/
theorem St.isRng {B : Shared} {T : List (Value × D)} {s : Shared} {v : Value} {a b c : Int} (st : St B T μ s) (hv : (v, .rng a b c) ∈ T) : ∃ r t u w, v = .ref r ∧ IsRange s.heap r a b c t u w := by
  obtain ⟨⟨φ, h1, h2, h3, h4, h5, h6⟩, ho, hg⟩ := st
  have hr := h6 _ hv
  cases hr with
  | rng h => exact ⟨_, _, _, _, rfl, h2 _ _ h⟩
def rngList (a c : Int) (n : Nat) : List D := (List.range n).map fun (i : Nat) => D.int (a + i * c)
theorem rngList_get {a c : Int} {n i : Nat} {d : D} (h : (rngList a c n)[i]? = some d) : i < n ∧ d = .int (a + i * c) := by
  unfold rngList at h
  rw [List.getElem?_map] at h
  by_cases hi : i < n
  · rw [List.getElem?_range hi] at h; cases h; exact ⟨hi, rfl⟩
  · rw [List.getElem?_eq_none (by simpa using hi)] at h; cases h
theorem rngList_length (a c : Int) (n : Nat) : (rngList a c n).length = n := by simp [rngList]
def rngIt (a c : Int) (n i : Nat) (o : Obj) : Prop := o = { cls := .type "range_iterator", dict := none, data := .fields #[rawInt (a + i * c), rawInt ((n : Int) - i), rawInt c], slots := #[] }
theorem src_rng {T₀ : List (Value × D)} {a c : Int} {n : Nat} {it : Addr} {I : Nat → List MO → Prop} (hA : C.A.handled = none) : Src C T₀ it (rngIt a c n) (rngList a c n) I where
  next := by
    intro i x T μ ρ s Q E hT hI hx st hQ
    obtain ⟨hi, rfl⟩ := rngList_get hx
    obtain ⟨⟨φ, _, _, h3, _⟩, _, _⟩ := id st
    obtain ⟨o, ho, hc⟩ := h3 _ (List.mem_append_right _ (.head _))
    rw [hc] at ho
    refine wpAny_pyNext_range_item ho (by omega) fun h' hi' hs => hQ _ _ ?_
    refine St.add (St.turnAt (x' := .raw it (rngIt a c n (i + 1))) st rfl (Turned.of_sameBut hs) (fun φ _ _ _ => ⟨_, hi', ?_⟩) _) (rInt _ _)
    show _ = _
    have e1 : a + (i : Int) * c + c = a + ((i + 1 : Nat) : Int) * c := by rw [Int.natCast_add, Int.add_mul]; simp; omega
    have e2 : (n : Int) - i - 1 = (n : Int) - ((i + 1 : Nat) : Int) := by omega
    rw [e1, e2]
  fin := by
    intro T μ ρ s Q E hT hI st hQ
    rw [rngList_length] at st
    obtain ⟨⟨φ, _, _, h3, _⟩, _, _⟩ := id st
    obtain ⟨o, ho, hc⟩ := h3 _ (List.mem_append_right _ (.head _))
    rw [hc] at ho
    exact wpAny_pyNext_range_end hA ho (by omega) fun h' hs => hQ _ (st.gone (Turned.of_extBut hs) s.toks)
  self := by
    intro T μ ρ s Q E st hQ
    obtain ⟨⟨φ, _, _, h3, _⟩, _, _⟩ := st
    obtain ⟨o, ho, hc⟩ := h3 _ (List.mem_append_right _ (.head _))
    rw [hc] at ho
    exact wpAny_pyIter_rangeiter ho hQ
theorem itb_rng {a b c : Int} {n : Nat} {I : Nat → List MO → Prop} (hA : C.A.handled = none) (hs : Builtin.Range.small a b c = true) (hn : Builtin.Range.rangeSize a b c = n) : Itb C (.rng a b c) (rngList a c n) I := by
  intro v T μ ρ s Q E hv h0 st hQ
  obtain ⟨r, t, u, w, rfl, hr⟩ := st.isRng hv
  refine wpAny_pyIter_range hr hs (hQ _ (rngIt a c n) _ (src_rng hA) (st.alloc rfl s.toks fun _ _ => ⟨_, Heap.get?_push_size _ rfl, ?_⟩))
  show _ = _
  rw [hn]; simp
theorem itb_range {a b : Int} {I : Nat → List MO → Prop} (hA : C.A.handled = none) (ha : -(2 ^ 62) ≤ a) (ha' : a < 2 ^ 62) (hb : -(2 ^ 62) ≤ b) (hb' : b < 2 ^ 62) : Itb C (.rng a b 1) (rngList a 1 (b - a).toNat) I :=
  itb_rng hA (small_one ha ha' hb hb') (by rw [rangeSize_one]; split <;> omega)

theorem ex_for {target iter : Expr} {body : List Stmt} {pos : Pos} {P : Fw → List MO → Prop}
    (h : Ev C env μ iter (fun d μ1 => ∃ ds, ∃ I : Nat → List MO → Prop, Itb C d ds I ∧ I 0 μ1 ∧ (∀ i d μ, ds[i]? = some d → I i μ → Asg C env μ target d (fun μ1 => Ex C env μ1 body (Turn (I (i + 1)) P) noX) noX) ∧ ∀ μ, I ds.length μ → P .next μ) X)
    (ht : ∀ it v, letOwnedTupleGo target it v = pure ()) (hs : ∀ x, foldedSetIterable iter env x = pure x) : Ex1 C env μ (.For target iter body [] pos) P X := by
  intro T ρ s Q E st hQ hE
  refine wpAny_For (h T ρ s _ _ st (fun v d μ1 s1 ⟨ds, I, hit, h0, turn, fin⟩ st1 => ?_) hE) hs
  refine hit v _ μ1 ρ s1 _ _ (.head _) h0 st1 fun it R s2 S st2 => ?_
  exact codeAny_mono (for_core S (ht _) turn fin ((v, d) :: T) ρ _ Q (cameBackBy C.M C.A env E) (fun _ q => by rw [List.mem_singleton] at q; rw [q]; exact .head _) h0 st2 (fun f fl μ' s' p st' => hQ f fl μ' s' p (FwSt.drop st'))) fun r s' q => q
end
end Mine

open PySem PyProof.Rows
set_option linter.unusedVariables false
namespace Mine

section
variable {C : Cx} {env : Env} {μ : List MO} {X : Post}

def Ifs (C : Cx) (env : Env) (μ : List MO) (ifs : List Expr) (P : Bool → List MO → Prop) (X : Post) : Prop :=
  TrB C μ (forIn ifs true fun c r => if r = true then do let ok ← isTrue c env (eval c env); pure (ForInStep.yield ok) else pure (ForInStep.yield r)) P X
theorem ifs_nil {P : Bool → List MO → Prop} (h : P true μ) : Ifs C env μ [] P X := fun T ρ s Q E st hQ hE => wpAny_tests_nil (hQ _ _ _ h st)
theorem ifs_one {c : Expr} {P : Bool → List MO → Prop} (h : Te C env μ c P X) : Ifs C env μ [c] P X := fun T ρ s Q E st hQ hE => wpAny_tests_one (h T ρ s Q E st hQ hE)

/-- less is known of a thing -/
theorem St.weaken {B : Shared} {T : List (Value × D)} {s : Shared} {x x' : MO} {pre post : List MO} (st : St B T (pre ++ x :: post) s) (ho : x'.owned = x.owned) (hx : ∀ φ : FM, x.holds φ s.heap → x'.holds φ s.heap) : St B T (pre ++ x' :: post) s :=
  St.turn st ho (fun _ _ _ e => e) (fun φ _ _ h => hx φ h) (fun _ q => q) s.toks
theorem St.forgetLocals {B : Shared} {T : List (Value × D)} {s : Shared} {L : Addr} {kn : List (Str × NameKind)} {ns ns' : List Str} {vs : List (Option D)} {post : List MO} (st : St B T (.frame L kn ns vs :: post) s) : St B T (.frame L kn ns' (ns'.map fun _ => none) :: post) s :=
  St.weaken (pre := []) st rfl fun φ ⟨mv, hn, _, hc⟩ => ⟨mv, hn, fun x d e => (look_nones e).elim, hc⟩

/-- an owned list is frozen -/
theorem St.freeze {B : Shared} {T : List (Value × D)} {s : Shared} {a : Addr} {ds : List D} {μ ρ : List MO} (st : St B T (μ ++ .list a ds :: ρ) s) : St B ((.ref a, .lst ds) :: T) (μ ++ ρ) s := by
  obtain ⟨⟨φ, h1, h2, h3, h4, h5, h6⟩, ho, hg⟩ := st
  have hxm : MO.list a ds ∈ μ ++ .list a ds :: ρ := List.mem_append_right _ (.head _)
  have sub : List.Sublist (μ ++ ρ) (μ ++ .list a ds :: ρ) := (List.Sublist.refl μ).append (List.sublist_cons_self _ _)
  have ha : φ a = none := h4 _ hxm a (by simp [MO.owned])
  obtain ⟨vs, ⟨o, hoa, hc, n, hd⟩, r⟩ := h3 _ hxm
  let ψ : FM := fun b => if b = a then some o else φ b
  have kψ : FM.le φ ψ := fun b o' e => by
    show (if b = a then some o else φ b) = some o'
    rw [if_neg (fun q => by rw [q, ha] at e; cases e)]; exact e
  have apart : ∀ y ∈ μ ++ ρ, ∀ b ∈ y.owned, b ≠ a := by
    rw [List.flatMap_append, List.flatMap_cons] at h5
    obtain ⟨_, hb, hc⟩ := List.nodup_append.mp h5
    obtain ⟨_, _, he⟩ := List.nodup_append.mp hb
    intro y hy b hb' e
    subst e
    rcases List.mem_append.mp hy with hy | hy
    · exact hc b (List.mem_flatMap.mpr ⟨y, hy, hb'⟩) b (List.mem_append_left _ (by simp [MO.owned])) rfl
    · exact he b (by simp [MO.owned]) b (List.mem_flatMap.mpr ⟨y, hy, hb'⟩) rfl
  refine ⟨⟨ψ, fun b o' e => kψ b o' (h1 b o' e), fun b o' e => ?_, fun y hy => ?_, fun y hy b hb => ?_, ?_, fun p hp => ?_⟩, ho, hg⟩
  · by_cases q : b = a
    · subst q
      have : some o = some o' := by rw [← e]; exact (if_pos rfl).symm
      cases this; exact hoa
    · exact h2 b o' (by rw [← e]; exact (if_neg q).symm)
  · exact MO.holds_turned (S := []) kψ (fun _ _ _ e => e) (h3 y (sub.subset hy)) (by simp)
  · exact (if_neg (apart y hy b hb)).trans (h4 y (sub.subset hy) b hb)
  · rw [List.flatMap_append]
    rw [List.flatMap_append, List.flatMap_cons] at h5
    exact ((List.Sublist.refl _).append (List.sublist_append_right _ _)).nodup h5
  · rcases List.mem_cons.mp hp with rfl | hp
    · exact .lst (if_pos rfl) hc hd (r.mono kψ)
    · exact (h6 p hp).mono kψ

/-- the closure of a comprehension's block -/
def ClOk (scope : Scope) (env : Env) (cl : List (Str × Addr)) : Prop := ∀ x, (x, NameKind.free) ∈ scope.names → cl.lookup x = env.cells.lookup x
theorem closureFor_ok {scope : Scope} (h : ∀ x, (x, NameKind.free) ∈ scope.names → ∃ c, env.cells.lookup x = some c) : ∃ cl, closureFor scope env = pure cl ∧ ClOk scope env cl := by
  have aux : ∀ (names : List (Str × NameKind)) (acc : List (Str × Addr)), (∀ x, (x, NameKind.free) ∈ names → ∃ c, env.cells.lookup x = some c) → (∀ p ∈ acc, env.cells.lookup p.1 = some p.2) →
      ∃ cl : List (Str × Addr), (forIn names acc fun (x : Str × NameKind) (cs : List (Str × Addr)) => (match x with | (name, kind) => if (kind == .free) = true then (do let a ← cellOf env name; pure (ForInStep.yield ((name, a) :: cs))) else pure (ForInStep.yield cs) : Sem (ForInStep (List (Str × Addr))))) = pure cl ∧
        (∀ p ∈ cl, env.cells.lookup p.1 = some p.2) ∧ (∀ p ∈ acc, p ∈ cl) ∧ ∀ x, (x, NameKind.free) ∈ names → ∃ c, (x, c) ∈ cl := by
    intro names
    induction names with
    | nil => intro acc _ ha; exact ⟨acc, by rw [List.forIn_nil], ha, fun _ q => q, fun _ q => nomatch q⟩
    | cons y names ih =>
      obtain ⟨n, k⟩ := y
      intro acc hx ha
      by_cases hk : k = .free
      · subst hk
        obtain ⟨c, hc⟩ := hx n (.head _)
        obtain ⟨cl, e, h1, h2, h3⟩ := ih ((n, c) :: acc) (fun x q => hx x (.tail _ q)) fun p hp => by
          rcases List.mem_cons.mp hp with rfl | hp
          · exact hc
          · exact ha p hp
        refine ⟨cl, ?_, h1, fun p hp => h2 p (.tail _ hp), fun x q => ?_⟩
        · rw [List.forIn_cons]
          have : cellOf env n = pure c := by unfold cellOf; rw [hc]
          simp only [beq_self_eq_true, if_true, this, pure_bind]
          exact e
        · rcases List.mem_cons.mp q with q | q
          · cases q; exact ⟨c, h2 _ (.head _)⟩
          · exact h3 x q
      · obtain ⟨cl, e, h1, h2, h3⟩ := ih acc (fun x q => hx x (.tail _ q)) ha
        refine ⟨cl, ?_, h1, h2, fun x q => ?_⟩
        · rw [List.forIn_cons]
          have : (k == NameKind.free) = false := by simpa using hk
          simp only [this, Bool.false_eq_true, if_false, pure_bind]
          exact e
        · rcases List.mem_cons.mp q with q | q
          · cases q; exact absurd rfl hk
          · exact h3 x q
  obtain ⟨cl, e, h1, _, h3⟩ := aux scope.names [] h (fun _ q => nomatch q)
  refine ⟨cl, ?_, fun x hx => ?_⟩
  · unfold closureFor
    simp only [] at e ⊢
    rw [show (forIn scope.names ([] : List (Str × Addr)) fun x r => (match x with | (name, kind) => if (kind == .free) = true then (do let a ← cellOf env name; pure (ForInStep.yield ((name, a) :: r))) else pure (ForInStep.yield r) : Sem (ForInStep (List (Str × Addr))))) = pure cl from e]
    rfl
  · obtain ⟨c, hc⟩ := h3 x hx
    obtain ⟨c', hc'⟩ : ∃ c', cl.lookup x = some c' := by
      cases q : cl.lookup x with
      | some c' => exact ⟨c', rfl⟩
      | none => exact absurd (List.lookup_eq_none_iff.mp q _ hc) (by simp)
    rw [hc', h1 _ (mem_of_lookup hc')]

/-- one turn of a comprehension: the list so far, and behind it -/
def CompTurn (C : Cx) (env : Env) (scope : Scope) (tn : List Str) (μ1 : List MO) (target elt : Expr) (ifs : List Expr) (d : D) (g g' : List D) : Prop :=
  ∀ cl Lc, ClOk scope env cl → Asg C (compEnvC scope cl Lc env) (.frame Lc [] tn (tn.map fun _ => none) :: μ1) target d (fun μ2 => Ifs C (compEnvC scope cl Lc env) μ2 ifs (fun b μ3 =>
    (b = true → Ev C (compEnvC scope cl Lc env) μ3 elt (fun y μ4 => g' = g ++ [y] ∧ ∃ vs, μ4 = .frame Lc [] tn vs :: μ1) noX) ∧ (b = false → g' = g ∧ ∃ vs, μ3 = .frame Lc [] tn vs :: μ1)) noX) noX

theorem comp_core {T₀ : List (Value × D)} {target iter elt : Expr} {ifs : List Expr} {scope : Scope} {cl : List (Str × Addr)} {tn : List Str} {pos : Pos} {it : Addr} {R : Nat → Obj → Prop} {ds : List D} {G : Nat → List D} {I : Nat → List MO → Prop} {RR : Value → Addr → Result → Shared → Prop}
    (S : Src C T₀ it R ds I) (hI : ∀ i x, I i (x :: μ)) (hcl : ClOk scope env cl) (ht : ∀ v, letOwnedTupleGo target (.ref it) v = pure ()) (hcell : ∀ y ∈ scope.names, y.2 ≠ .cell) (hkind : scope.kind = .function) (hG0 : G 0 = []) (hlen : ∀ i, (G i).length ≤ sizeLine)
    (turn : ∀ i d, ds[i]? = some d → CompTurn C env scope tn μ target elt ifs d (G i) (G (i + 1)))
    (T : List (Value × D)) (ρ : List MO) (s : Shared) (E : Value → Shared → Prop) (hT : ∀ p ∈ T₀, p ∈ T) (st : St C.B T (μ ++ MO.raw it (R 0) :: ρ) s)
    (hRR : ∀ Dl Cl s' vs, St C.B T (.frame Cl [] tn vs :: (μ ++ .list Dl (G ds.length) :: ρ)) s' → RR (.ref Dl) Cl (.ok .next) s') :
    wpAny C.M C.A (newList []) (fun acc s₃ => wpAny C.M C.A (newFunctionEnv scope env.globals cl [] env.qual none .none (some env)) (fun cenv s₄ =>
      codeAny C.M C.A (.compStart (.ListComp elt [⟨target, iter, ifs, 0⟩] scope pos) 0 (.ref it) acc { cenv with scope := relabel scope env }) (RR acc cenv.locals) s₄) E s₃) E s := by
  refine wpAny_newObj_type (wpAny_newFunctionEnv hcell (by intro y hy; simp at hy) (fun h₁ hns₁ hsb₁ => ?_) hkind)
  dsimp only at hns₁ hsb₁ ⊢
  have st1 : St C.B T (μ ++ (.list s.heap.objs.size (G 0)) :: MO.raw it (R 0) :: ρ) { s with heap := s.heap.push { cls := .type "list", dict := none, data := .seq ([] : List Value).toArray } } :=
    st.alloc rfl s.toks fun φ _ => ⟨[], ⟨_, Heap.get?_push_size _ rfl, rfl, _, rfl⟩, by rw [hG0]; exact .nil⟩
  generalize hH : s.heap.push { cls := .type "list", dict := none, data := .seq ([] : List Value).toArray } = H at hns₁ hsb₁ st1 ⊢
  have st2 : St C.B T (.frame H.objs.size [] tn (tn.map fun _ => none) :: (μ ++ (.list s.heap.objs.size (G 0)) :: MO.raw it (R 0) :: ρ)) { s with heap := h₁ } := by
    have a1 := St.alloc (μ := []) (x := .frame H.objs.size [] tn (tn.map fun _ => none)) (o := { cls := .type "dict", data := .dict #[] }) st1 rfl s.toks fun φ _ => ⟨_, Heap.Ns.new _ _, fun _ _ e => (look_nones e).elim, fun _ q => nomatch q⟩
    exact St.turnAt (μ := []) (x' := .frame H.objs.size [] tn (tn.map fun _ => none)) a1 rfl (Turned.of_sameBut hsb₁) (fun φ _ _ _ => ⟨_, hns₁, fun _ _ e => (look_nones e).elim, fun _ q => nomatch q⟩) s.toks
  have loop : ∀ t : Nat, codeAny C.M C.A (.compLoop (.ListComp elt [⟨target, iter, ifs, 0⟩] scope pos) 0 (.ref it) (.ref s.heap.objs.size) (compEnvC scope cl H.objs.size env)) (RR (.ref s.heap.objs.size) H.objs.size) { s with heap := h₁, toks := t } := by
    intro t
    refine codeAny_compLoop_tests (fun k s' => ∃ i vs, k + i = ds.length ∧ St C.B T (.frame H.objs.size [] tn vs :: (μ ++ (.list s.heap.objs.size (G i)) :: MO.raw it (R i) :: ρ)) s') (fun k s' ⟨i, vs, hk, st⟩ => ?_) ds.length ⟨0, _, rfl, st2.toks t⟩ ht
    by_cases hi : i < ds.length
    · obtain ⟨d, hd⟩ : ∃ d, ds[i]? = some d := ⟨_, List.getElem?_eq_getElem hi⟩
      have st' : St C.B T ((.frame H.objs.size [] tn (tn.map fun _ => none) :: μ) ++ MO.raw it (R i) :: .list s.heap.objs.size (G i) :: ρ) s' :=
        (st.forgetLocals (ns' := tn)).perm' (.cons _ ((List.Perm.refl μ).append (.swap _ _ _)))
      refine S.next hT (hI _ _) hd st' fun v s1 st1 => ?_
      refine turn i d hd cl H.objs.size hcl ((v, d) :: T) v (.head _) (MO.raw it (R (i + 1)) :: .list s.heap.objs.size (G i) :: ρ) s1 _ _ st1 (fun μ2 s2 h2 st2 => ?_) fun _ _ _ _ q => q.elim
      refine h2 T _ s2 _ _ st2.tail (fun b μ3 s3 h3 st3 => ?_) fun _ _ _ _ q => q.elim
      cases b with
      | false =>
        obtain ⟨hg, vs', rfl⟩ := h3.2 rfl
        refine ⟨k - 1, by omega, i + 1, vs', by omega, ?_⟩
        rw [hg]
        exact st3.perm' (.cons _ ((List.Perm.refl μ).append (.swap _ _ _)))
      | true =>
        refine h3.1 rfl T _ s3 _ _ st3 (fun y d' μ4 s4 h4 st4 => ?_) fun _ _ _ _ q => q.elim
        obtain ⟨hg, vs', rfl⟩ := h4
        have st5 : St C.B ((y, d') :: T) ((.frame H.objs.size [] tn vs' :: μ) ++ .list s.heap.objs.size (G i) :: MO.raw it (R (i + 1)) :: ρ) s4 := st4.perm' (.cons _ ((List.Perm.refl μ).append (.swap _ _ _)))
        obtain ⟨⟨φ, _, _, hh, _⟩, _, _⟩ := id st5
        obtain ⟨us, hl, r⟩ := hh _ (List.mem_append_right _ (.head _))
        refine wpAny_list_append hl (fun h' hl' hs' => ⟨k - 1, by omega, i + 1, vs', by omega, ?_⟩) (by rw [List.size_toArray, r.length]; exact hlen i)
        rw [hg]
        refine St.tail (p := (y, d')) (St.turnAt (x' := .list s.heap.objs.size (G i ++ [d'])) st5 rfl (Turned.of_sameBut hs') (fun φ' q6 q7 ⟨us', hl2, r2⟩ => ⟨us' ++ [y], ?_, r2.append (.cons (q7 _ (.head _)) .nil)⟩) s4.toks)
        have : us' = us := by
          obtain ⟨o, e, _, n, e2⟩ := hl; obtain ⟨o', e', _, n', e2'⟩ := hl2
          rw [e] at e'; cases e'; rw [e2] at e2'; cases e2'; rfl
        subst this
        simpa using hl'
    · have hi' : i = ds.length := by omega
      subst hi'
      have st' : St C.B T ((.frame H.objs.size [] tn vs :: μ) ++ MO.raw it (R ds.length) :: .list s.heap.objs.size (G ds.length) :: ρ) s' :=
        st.perm' (.cons _ ((List.Perm.refl μ).append (.swap _ _ _)))
      exact S.fin hT (hI _ _) st' fun s1 st1 => hRR _ _ _ _ st1
  refine codeAny_compStart_list (loop _) ?_
  have st3 : St C.B T ((.frame H.objs.size [] tn (tn.map fun _ => none) :: μ) ++ MO.raw it (R 0) :: .list s.heap.objs.size (G 0) :: ρ) { s with heap := h₁, toks := s.toks + ([] : List (Str × Value)).length } :=
    (st2.toks _).perm' (.cons _ ((List.Perm.refl μ).append (.swap _ _ _)))
  exact S.self st3 (loop _)

def CompI (μ : List MO) : Nat → List MO → Prop := fun _ μ' => μ' = μ ∨ ∃ x, μ' = x :: μ
theorem compI_items {d : D} {ds : List D} (h : Items μ d ds) : ∀ i μ', CompI μ i μ' → Items μ' d ds
  | _, _, .inl e => by rw [e]; exact h
  | _, _, .inr ⟨x, e⟩ => by rw [e]; exact h.cons x

/-- names of a comprehension's own block -/
def compScope (scope : Scope) : Bool := scope.names.all (fun y => y.2 != .cell) && scope.names.all (fun y => y.2 != .local || scope.names.lookup y.1 == some .local)
theorem compScope_ok {scope : Scope} (h : compScope scope = true) : (∀ y ∈ scope.names, y.2 ≠ .cell) ∧ ∀ y ∈ scope.names, y.2 = .local → scope.names.lookup y.1 = some .local := by
  obtain ⟨a, b⟩ := Bool.and_eq_true_iff.mp h
  refine ⟨fun y hy e => ?_, fun y hy e => ?_⟩
  · have := List.all_eq_true.mp a y hy; rw [e] at this; simp at this
  · have := List.all_eq_true.mp b y hy; rw [e] at this; simpa using this

/-- a list comprehension; the new list is frozen -/
theorem ev_comp {target iter elt : Expr} {ifs : List Expr} {scope : Scope} {pos : Pos} {P X : Post} (tn : List Str)
    (h : Ev C env μ iter (fun d μ1 => ∃ ds, ∃ G : Nat → List D, Itb C d ds (CompI μ1) ∧ G 0 = [] ∧ (∀ i, (G i).length ≤ sizeLine) ∧ (∀ i d, ds[i]? = some d → CompTurn C env scope tn μ1 target elt ifs d (G i) (G (i + 1))) ∧ P (.lst (G ds.length)) μ1) X)
    (hfr : ∀ x, (x, NameKind.free) ∈ scope.names → ∃ c, env.cells.lookup x = some c) (hsc : compScope scope = true) (hkind : scope.kind = .function) (ht : ∀ it v, letOwnedTupleGo target it v = pure ()) (hs : ∀ x, foldedSetIterable iter env x = pure x) :
    Ev C env μ (.ListComp elt [⟨target, iter, ifs, 0⟩] scope pos) P X := by
  intro T ρ s Q E st hQ hE
  obtain ⟨hcell, hnames⟩ := compScope_ok hsc
  obtain ⟨cl, hclos, hclok⟩ := closureFor_ok hfr
  show wpAny C.M C.A (eval (.ListComp elt [⟨target, iter, ifs, 0⟩] scope pos) env) Q E s
  rw [eval_ListComp]
  refine wpAny_comprehension_free (use := none) rfl hs hclos hkind hnames (h T ρ s _ _ st (fun v d μ1 s1 ⟨ds, G, hit, hG0, hlen, turn, p⟩ st1 => ?_) hE)
  refine hit v _ μ1 ρ s1 _ _ (.head _) (.inl rfl) st1 fun it R s2 S st2 => ?_
  refine comp_core (RR := fun acc Cl => compPost C.M C.A E none Q acc Cl) S (fun _ x => .inr ⟨x, rfl⟩) hclok (ht _) hcell hkind hG0 hlen turn ((v, d) :: T) ρ s2 E (fun _ q => by rw [List.mem_singleton] at q; rw [q]; exact .head _) st2 fun Dl Cl s' vs' st' => ?_
  obtain ⟨⟨φ, _, _, h3, _⟩, _, _⟩ := id st'
  obtain ⟨mv, hn, _⟩ := h3 _ (.head _)
  refine ⟨mv, hn, fun h' hs' => hQ _ _ _ _ p ?_⟩
  have := St.gone (μ := []) st' ((Turned.of_sameBut hs').mono fun a ha => by rw [List.mem_singleton] at ha; rw [ha]; exact List.mem_cons_self) s'.toks
  exact (St.freeze this).drop2

/-- x = [comprehension], the store ahead of the names' end; the new list is frozen -/
theorem ex_assign_comp {x : Str} {p pos : Pos} {target iter elt : Expr} {ifs : List Expr} {scope : Scope} {cpos : Pos} {P : Fw → List MO → Prop} {X : Post} (tn : List Str)
    (h : Ev C env μ iter (fun d μ1 => ∃ ds, ∃ G : Nat → List D, Itb C d ds (CompI μ1) ∧ G 0 = [] ∧ (∀ i, (G i).length ≤ sizeLine) ∧ (∀ i d, ds[i]? = some d → CompTurn C env scope tn μ1 target elt ifs d (G i) (G (i + 1))) ∧ Sto C env μ1 x (.lst (G ds.length)) (P .next) X) X)
    (hsw : swapsWith (.ListComp elt [⟨target, iter, ifs, 0⟩] scope cpos) (some (.Name x p)) pos.line env = pure true)
    (hfr : ∀ x, (x, NameKind.free) ∈ scope.names → ∃ c, env.cells.lookup x = some c) (hsc : compScope scope = true) (hkind : scope.kind = .function) (ht : ∀ it v, letOwnedTupleGo target it v = pure ()) (hs : ∀ x, foldedSetIterable iter env x = pure x) :
    Ex1 C env μ (.Assign [.Name x p] (.ListComp elt [⟨target, iter, ifs, 0⟩] scope cpos) pos) P X := by
  intro T ρ s Q E st hQ hE
  obtain ⟨hcell, hnames⟩ := compScope_ok hsc
  obtain ⟨cl, hclos, hclok⟩ := closureFor_ok hfr
  show wpAny C.M C.A (exec (.Assign [.Name x p] (.ListComp elt [⟨target, iter, ifs, 0⟩] scope cpos) pos) env) Q E s
  rw [exec_Assign_Name_used _ _ _ _ hsw]
  refine wpAny_bind (wpAny_standAt (wpAny_bind ?_))
  show wpAny _ C.A (do let _ ← comprehension (.ListComp elt [⟨target, iter, ifs, 0⟩] scope cpos) scope env _ (newList []) false (eval iter env) (some (assign (.Name x p) env))) _ _ s
  refine wpAny_bind (wpAny_mono (wpAny_comprehension_free (use := some (assign (.Name x p) env)) (Q := fun _ s' => Q .next s') rfl hs hclos hkind hnames
    (h T ρ s _ _ st (fun v d μ1 s1 ⟨ds, G, hit, hG0, hlen, turn, q⟩ st1 => ?_) hE)) (fun _ s' hq => wpAny_pure (wpAny_pure hq)) fun _ _ e => e)
  refine hit v _ μ1 ρ s1 _ _ (.head _) (.inl rfl) st1 fun it R s2 S st2 => ?_
  refine comp_core (RR := fun acc Cl => compPost C.M C.A E (some (assign (.Name x p) env)) (fun _ s' => Q .next s') acc Cl) S (fun _ x => .inr ⟨x, rfl⟩) hclok (ht _) hcell hkind hG0 hlen turn ((v, d) :: T) ρ s2 E (fun _ q => by rw [List.mem_singleton] at q; rw [q]; exact .head _) st2 fun Dl Cl s' vs' st' => ?_
  have stf : St C.B ((.ref Dl, .lst (G ds.length)) :: T) (μ1 ++ .frame Cl [] tn vs' :: ρ) s' :=
    ((St.freeze (μ := .frame Cl [] tn vs' :: μ1) st').drop2).perm' List.perm_middle.symm
  show wpAny C.M C.A (assign (.Name x p) env (.ref Dl)) _ _ _
  refine wpAny_assign_Name (q _ (.ref Dl) (.head _) (.frame Cl [] tn vs' :: ρ) s' _ _ stf (fun μ' s'' pp st'' => ?_) fun v' d' μ' s'' xx st'' => hE v' d' μ' s'' xx (St.forgetAt st'').drop2)
  obtain ⟨⟨φ, _, _, h3, _⟩, _, _⟩ := id st''
  obtain ⟨mv, hn, _⟩ := h3 (.frame Cl [] tn vs') (List.mem_append_right _ (.head _))
  refine ⟨mv, hn, fun h' hs' => hQ .next .next _ _ pp ?_⟩
  exact (St.gone st'' ((Turned.of_sameBut hs').mono fun a ha => by rw [List.mem_singleton] at ha; rw [ha]; exact List.mem_cons_self) s''.toks).tail
end
end Mine

open PySem PyProof.Rows
set_option linter.unusedVariables false
namespace Mine
section
variable {C : Cx} {env : Env} {μ : List MO} {P X : Post}

/-! calls of a class by its name -/
theorem ev_callT {x : Str} {np pos : Pos} {args : List Expr} {T : String} (hn : ∀ P', P' (.val (.type T)) μ → Ev C env μ (.Name x np) P' X) (hs : noStars args = true)
    (h : EvL C env μ args (fun ds μ1 => Ca C (.type T) ds μ1 P X) X) : Ev C env μ (.Call (.Name x np) args [] pos) P X := by
  intro Ts ρ s Q E st hQ hE
  refine wpAny_Call_ofName (hn (fun d μ1 => d = .val (.type T) ∧ μ1 = μ) ⟨rfl, rfl⟩ Ts ρ s _ _ st (fun v d μ1 s1 ⟨hd1, hμ⟩ st1 => ?_) hE)
  subst hd1 hμ
  have e := st1.isVal (.head _); subst e
  rw [starEach_plain env hs, backTo_plain]
  refine PyProof.Rows.callWith_type (by simp) (evl_evalArgs h Ts ρ s1 _ _ st1.tail (fun vs ds μ' s' T' p hl hz hT st' => ?_) hE)
  exact (p T' vs hl hz).from hT ρ s' Q E st' hQ hE

theorem ca1 {f : Value} {d : D} (h : ∀ T v, (v, d) ∈ T → TrT C T μ (call f [v]) P X) : Ca C f [d] μ P X := fun T vs hl hz => by
  match vs, hl, hz with
  | [v], _, hz => exact h T v (hz _ (.head _))
theorem ca2 {f : Value} {d e : D} (h : ∀ T v w, (v, d) ∈ T → (w, e) ∈ T → TrT C T μ (call f [v, w]) P X) : Ca C f [d, e] μ P X := fun T vs hl hz => by
  match vs, hl, hz with
  | [v, w], _, hz => exact h T v w (hz _ (.head _)) (hz _ (.tail _ (.head _)))
theorem ca3 {f : Value} {d e g : D} (h : ∀ T v w u, (v, d) ∈ T → (w, e) ∈ T → (u, g) ∈ T → TrT C T μ (call f [v, w, u]) P X) : Ca C f [d, e, g] μ P X := fun T vs hl hz => by
  match vs, hl, hz with
  | [v, w, u], _, hz => exact h T v w u (hz _ (.head _)) (hz _ (.tail _ (.head _))) (hz _ (.tail _ (.tail _ (.head _))))

/-! what a datum is -/
inductive Kd (μ : List MO) : D → String → Prop
  | none : Kd μ .none "NoneType"
  | bool (b : Bool) : Kd μ (.bool b) "bool"
  | int (i : Int) : Kd μ (.int i) "int"
  | str (x : Str) : Kd μ (.str x) "str"
  | tup (ds : List D) : Kd μ (.tup ds) "tuple"
  | lst (ds : List D) : Kd μ (.lst ds) "list"
  | own {a : Addr} {ds : List D} : MO.list a ds ∈ μ → Kd μ (.ref a) "list"
def isT (T K : String) : Bool := T == K || (T == "int" && K == "bool")
theorem St.isTup {B : Shared} {T : List (Value × D)} {s : Shared} {v : Value} {ds : List D} (st : St B T μ s) (hv : (v, .tup ds) ∈ T) : ∃ a o, v = .ref a ∧ s.heap.get? a = some o ∧ o.cls = .type "tuple" := by
  obtain ⟨a, vs, e, ⟨o, ho, hc, _⟩, _⟩ := st.titems hv; exact ⟨a, o, e, ho, hc⟩
theorem St.isLst {B : Shared} {T : List (Value × D)} {s : Shared} {v : Value} {d : D} {ds : List D} (st : St B T μ s) (hv : (v, d) ∈ T) (hi : Items μ d ds) : ∃ a o, v = .ref a ∧ s.heap.get? a = some o ∧ o.cls = .type "list" := by
  obtain ⟨a, vs, e, ⟨o, ho, hc, _⟩, _⟩ := st.items hv hi; exact ⟨a, o, e, ho, hc⟩

theorem ca_isi {d : D} {K T : String} (k : Kd μ d K) (hT : T ∈ ["int", "bool", "str", "list", "tuple"]) (h : P (.bool (isT T K)) μ) : Ca C (.builtin "isinstance") [d, .val (.type T)] μ P X := by
  refine ca2 fun Ts v w hv hw ρ s Q E st hQ hE => ?_
  have e := st.isVal hw; subst e
  have q0 : ∀ b, isT T K = b → Q (.bool b) s := fun b e => hQ _ _ _ _ h (by rw [e]; exact st.add (rBool _))
  have q1 : ∀ b, isT T K = b → Q (.bool b) { s with toks := s.toks + 1 } := fun b e => hQ _ _ _ _ h (by rw [e]; exact (st.toks _).add (rBool _))
  simp only [List.mem_cons, List.not_mem_nil, or_false] at hT
  cases k with
  | none =>
    have e := st.isNone hv; subst e
    rcases hT with rfl | rfl | rfl | rfl | rfl
    · exact IsiPair.NoneType_int (q1 _ rfl)
    · exact IsiPair.NoneType_bool (q1 _ rfl)
    · exact IsiPair.NoneType_str (q1 _ rfl)
    · exact IsiPair.NoneType_list (q1 _ rfl)
    · exact IsiPair.NoneType_tuple (q1 _ rfl)
  | bool b =>
    have e := st.isBool hv; subst e
    rcases hT with rfl | rfl | rfl | rfl | rfl
    · exact IsiPair.bool_int (q0 _ rfl)
    · exact IsiPair.bool_bool (q0 _ rfl)
    · exact IsiPair.bool_str (q1 _ rfl)
    · exact IsiPair.bool_list (q1 _ rfl)
    · exact IsiPair.bool_tuple (q1 _ rfl)
  | int i =>
    obtain ⟨t, rfl⟩ := st.isInt hv
    rcases hT with rfl | rfl | rfl | rfl | rfl
    · exact IsiPair.int_int (q0 _ rfl)
    · exact IsiPair.int_bool (q1 _ rfl)
    · exact IsiPair.int_str (q1 _ rfl)
    · exact IsiPair.int_list (q1 _ rfl)
    · exact IsiPair.int_tuple (q1 _ rfl)
  | str x =>
    obtain ⟨t, rfl⟩ := st.isStr hv
    rcases hT with rfl | rfl | rfl | rfl | rfl
    · exact IsiPair.str_int (q1 _ rfl)
    · exact IsiPair.str_bool (q1 _ rfl)
    · exact IsiPair.str_str (q0 _ rfl)
    · exact IsiPair.str_list (q1 _ rfl)
    · exact IsiPair.str_tuple (q1 _ rfl)
  | tup ds =>
    obtain ⟨a, o, rfl, ho, hc⟩ := st.isTup hv
    rcases hT with rfl | rfl | rfl | rfl | rfl
    · exact IsiPair.tuple_int ho hc (q1 _ rfl)
    · exact IsiPair.tuple_bool ho hc (q1 _ rfl)
    · exact IsiPair.tuple_str ho hc (q1 _ rfl)
    · exact IsiPair.tuple_list ho hc (q1 _ rfl)
    · exact IsiPair.tuple_tuple ho hc (q0 _ rfl)
  | lst ds =>
    obtain ⟨a, o, rfl, ho, hc⟩ := st.isLst hv (.inl rfl)
    rcases hT with rfl | rfl | rfl | rfl | rfl
    · exact IsiPair.list_int ho hc (q1 _ rfl)
    · exact IsiPair.list_bool ho hc (q1 _ rfl)
    · exact IsiPair.list_str ho hc (q1 _ rfl)
    · exact IsiPair.list_list ho hc (q0 _ rfl)
    · exact IsiPair.list_tuple ho hc (q1 _ rfl)
  | own hm =>
    obtain ⟨a, o, rfl, ho, hc⟩ := st.isLst hv (.inr ⟨_, rfl, List.mem_append_left _ hm⟩)
    rcases hT with rfl | rfl | rfl | rfl | rfl
    · exact IsiPair.list_int ho hc (q1 _ rfl)
    · exact IsiPair.list_bool ho hc (q1 _ rfl)
    · exact IsiPair.list_str ho hc (q1 _ rfl)
    · exact IsiPair.list_list ho hc (q0 _ rfl)
    · exact IsiPair.list_tuple ho hc (q1 _ rfl)

/-! len -/
theorem ca_len {d : D} {ds : List D} (hi : Items μ d ds) (hl : ds.length < 2 ^ 62) (h : P (.int ds.length) μ) : Ca C (.builtin "len") [d] μ P X := by
  refine ca1 fun T v hv ρ s Q E st hQ hE => ?_
  obtain ⟨a, vs, rfl, hL, hlen, st2⟩ := st.items hv (hi.app ρ)
  refine Calls.call_len_list hL (by simp only [List.size_toArray]; omega) (hQ _ _ _ _ h ?_)
  rw [List.size_toArray, hlen]
  exact (st.toks _).add (rInt _ _)

/-! list(x) of a list; the copy is frozen or owned -/
theorem ca_list {d : D} {ds : List D} (hi : Items μ d ds) (hl : ds.length ≤ sizeLine) (h : P (.lst ds) μ) : Ca C (.type "list") [d] μ P X := by
  refine ca1 fun T v hv ρ s Q E st hQ hE => ?_
  obtain ⟨a, vs, rfl, ⟨o, ho, hc, n, hd⟩, hlen, st2⟩ := st.items hv (hi.app ρ)
  refine call_list_seq a (.inl rfl) ho hc hd (fun h' c' hk hD => hQ _ _ _ _ h ?_) (by simpa [hlen] using hl)
  have a1 : St C.B (vs.zip ds ++ T) (μ ++ ρ) { s with heap := h' } := st2.grown hk s.toks
  obtain ⟨⟨φ, h1, h2, h3, h4, h5, h6⟩, hos, hg⟩ := st2
  have new : φ s.heap.objs.size = none := by
    cases q : φ s.heap.objs.size with
    | none => rfl
    | some o' => exact absurd (Heap.lt_size (h2 _ _ q)) (Nat.lt_irrefl _)
  let ψ : FM := fun b => if b = s.heap.objs.size then some { cls := .type "list", dict := none, data := .seq vs.toArray c', slots := #[] } else φ b
  have kψ : FM.le φ ψ := fun b o' e => by
    show (if b = s.heap.objs.size then some _ else φ b) = some o'
    rw [if_neg (fun q => by rw [q, new] at e; cases e)]; exact e
  refine ⟨⟨ψ, fun b o' e => kψ b o' (h1 b o' e), fun b o' e => ?_, fun y hy => MO.holds_turned (S := []) kψ (fun b o _ e => hk b o e) (h3 y hy) (by simp), fun y hy b hb => ?_, h5, fun p hp => ?_⟩, hos, hg⟩
  · by_cases q : b = s.heap.objs.size
    · subst q
      have : some ({ cls := .type "list", dict := none, data := .seq vs.toArray c', slots := #[] } : Obj) = some o' := by rw [← e]; exact (if_pos rfl).symm
      cases this; exact hD
    · exact hk b o' (h2 b o' (by rw [← e]; exact (if_neg q).symm))
  · obtain ⟨o', e'⟩ := MO.holds_there (h3 y hy) b hb
    exact (if_neg (Nat.ne_of_lt (Heap.lt_size e'))).trans (h4 y hy b hb)
  · rcases List.mem_cons.mp hp with rfl | hp
    · exact .lst (if_pos rfl) rfl rfl ((reps_zip hlen fun p hp => h6 p (List.mem_append_left _ hp)).mono kψ)
    · exact (h6 p (List.mem_append_right _ hp)).mono kψ

/-! range -/
theorem ca_range1 {n : Int} (h : P (.rng 0 n 1) μ) : Ca C (.type "range") [.int n] μ P X := by
  refine ca1 fun T v hv ρ s Q E st hQ hE => ?_
  obtain ⟨t, rfl⟩ := st.isInt hv
  exact call_range_1 (hQ _ _ _ _ h (st.frozen rfl _ fun φ _ e => .rng e))
theorem ca_range2 {a b : Int} (h : P (.rng a b 1) μ) : Ca C (.type "range") [.int a, .int b] μ P X := by
  refine ca2 fun T v w hv hw ρ s Q E st hQ hE => ?_
  obtain ⟨t, rfl⟩ := st.isInt hv; obtain ⟨u, rfl⟩ := st.isInt hw
  exact call_range_2 (hQ _ _ _ _ h (st.frozen rfl _ fun φ _ e => .rng e))

/-! sum of ints -/
def intsD (ns : List Int) : List D := ns.map D.int
theorem ints_of {φ : FM} : ∀ {vs : List Value} {ns : List Int}, Reps φ vs (intsD ns) → ∃ xs : Array (Int × Tok), vs.toArray = intItems xs ∧ xs.toList.map (·.1) = ns
  | [], [], _ => ⟨#[], by simp [intItems], rfl⟩
  | [], _ :: _, h => by simp [intsD] at h; cases h
  | _ :: _, [], h => by simp [intsD] at h; cases h
  | v :: vs, n :: ns, h => by
    simp only [intsD, List.map_cons] at h
    cases h with
    | cons h1 h2 =>
      cases h1 with
      | int i t =>
        obtain ⟨xs, e1, e2⟩ := ints_of (ns := ns) h2
        refine ⟨((n, t) :: xs.toList).toArray, ?_, by simp [e2]⟩
        have : vs = (intItems xs).toList := by rw [← e1]
        rw [this]
        simp [intItems]
theorem ca_sum {d : D} {ns : List Int} (hA : C.A.handled = none) (hi : Items μ d (intsD ns)) (h : P (.int ns.sum) μ) : Ca C (.builtin "sum") [d] μ P X := by
  refine ca1 fun T v hv ρ s Q E st hQ hE => ?_
  obtain ⟨a, vs, rfl, hL, hlen, st2⟩ := st.items hv (hi.app ρ)
  obtain ⟨⟨φ, _, _, _, _, _, h6⟩, _, _⟩ := id st2
  obtain ⟨xs, e1, e2⟩ := ints_of (reps_zip hlen fun p hp => h6 p (List.mem_append_left _ hp))
  rw [e1] at hL
  refine sum_intListG hA hL fun h' tk t' hk => hQ _ _ _ _ h ?_
  rw [preSum_eq, List.take_of_length_le (by simp), e2]
  exact (st.grown hk tk).add (rInt _ _)
end
end Mine

open PySem PyProof.Rows
set_option linter.unusedVariables false
namespace Mine
section
variable {C : Cx} {env : Env} {μ : List MO} {P X : Post}

theorem bin_add_list {d e : D} {ds es : List D} (hd : Items μ d ds) (he : Items μ e es) (hl : ds.length + es.length ≤ sizeLine) (h : P (.lst (ds ++ es)) μ) : Bin C .Add d e μ P X := by
  intro T a b ha hb ρ s Q E st hQ hE
  obtain ⟨a', vs, rfl, hL, hlen, st2⟩ := st.items ha (hd.app ρ)
  obtain ⟨b', ws, rfl, hL2, hlen2, st3⟩ := st2.items (List.mem_append_right _ hb) (he.app ρ)
  obtain ⟨⟨cls, dd, data, sl⟩, ho, hc, n, hdat⟩ := hL
  obtain ⟨⟨cls2, dd2, data2, sl2⟩, ho2, hc2, n2, hdat2⟩ := hL2
  simp only at hc hdat hc2 hdat2
  subst hc hdat hc2 hdat2
  have e : vs.toArray ++ ws.toArray = (vs ++ ws).toArray := by simp
  refine concat_meets ⟨_, ho, rfl⟩ ⟨_, ho2, rfl⟩ noFill_list_add seq_list_add PySem.F.slot_list_add PySem.F.entry_list_add (PySem.F.args_list_add_2 _ _) (list_addW a' b' vs.toArray ws.toArray n n2 dd dd2 sl sl2 (by simp only [List.size_toArray]; omega)) ⟨ho, ho2, ?_⟩
  rw [e]
  refine hQ _ _ _ _ h ((st3.frozen (d := .lst (ds ++ es)) rfl _ fun φ hT hφ => ?_).keepHead fun p hp => List.mem_append_right _ (List.mem_append_right _ hp))
  exact .lst hφ rfl rfl ((reps_zip hlen fun p hp => hT p (List.mem_append_right _ (List.mem_append_left _ hp))).append (reps_zip hlen2 fun p hp => hT p (List.mem_append_left _ hp)))

/-- an item or a part -/
def Sub (C : Cx) (value slice : Expr) (d i : D) (μ : List MO) (P X : Post) : Prop := ∀ T o iv, (o, d) ∈ T → (iv, i) ∈ T → TrT C T μ (subscriptTail value slice o iv) P X
theorem ev_Subscript {value slice : Expr} {pos : Pos} (h : Ev C env μ value (fun d μ1 => Ev C env μ1 slice (fun i μ2 => Sub C value slice d i μ2 P X) X) X) : Ev C env μ (.Subscript value slice pos) P X :=
  fun T ρ _ _ _ st hQ hE => Subscript_ (h T ρ _ _ _ st (fun a d1 μ1 s1 h1 st1 => h1 ((a, d1) :: T) ρ s1 _ _ st1
    (fun b d2 μ2 s2 h2 st2 => h2 _ a b (.tail _ (.head _)) (.head _) ρ s2 _ _ st2 (fun v d μ' s' p st' => hQ v d μ' s' p (st'.keepHead fun _ hq => .tail _ (.tail _ hq))) fun v d μ' s' x st' => hE v d μ' s' x (st'.keepHead fun _ hq => .tail _ (.tail _ hq)))
    fun v d μ' s' x st' => hE v d μ' s' x st'.drop2) hE)
def noSlice : Expr → Bool
  | .Slice .. => false
  | _ => true
theorem sub_plain {slice : Expr} (h : noSlice slice = true) (o i : Value) : subscripted slice false o i = operate [o, i] (getItem o i) := by
  cases slice <;> first | rfl | (simp [noSlice] at h)
theorem zip_at {vs : List Value} {ds : List D} {k : Nat} {v : Value} {x : D} (h1 : vs[k]? = some v) (h2 : ds[k]? = some x) : (v, x) ∈ vs.zip ds :=
  List.mem_of_getElem? (i := k) (by rw [List.getElem?_zip_eq_some]; exact ⟨h1, h2⟩)
theorem at_of_len {vs : List Value} {ds : List D} {k : Nat} {x : D} (hl : vs.length = ds.length) (h : ds[k]? = some x) : ∃ v, vs[k]? = some v :=
  ⟨_, List.getElem?_eq_getElem (by rw [hl]; exact (List.getElem?_eq_some_iff.mp h).1)⟩

theorem sub_list {value slice : Expr} {d : D} {ds : List D} {k : Int} {x : D} (hi : Items μ d ds) (h0 : 0 ≤ k) (hx : ds[k.toNat]? = some x) (hk : k < 2 ^ 63) (hs : noSlice slice = true) (h : P x μ) : Sub C value slice d (.int k) μ P X := by
  intro T o iv ho hiv ρ s Q E st hQ hE
  obtain ⟨t, rfl⟩ := st.isInt hiv
  obtain ⟨a, vs, rfl, hL, hlen, st2⟩ := st.items ho (hi.app ρ)
  obtain ⟨v, hv⟩ := at_of_len hlen hx
  refine tail_any hL.typeIs slot_list_getitem.lookup (wpAny_getItem_list hL h0 hk (by simpa using hv) (hQ v x _ _ h ?_)) (sub_plain hs _ _)
  exact st2.sub fun p hp => by
    rcases List.mem_cons.mp hp with rfl | hp
    · exact List.mem_append_left _ (zip_at hv hx)
    · exact List.mem_append_right _ hp
theorem sub_list_neg {value slice : Expr} {d : D} {ds : List D} {k : Int} {x : D} (hi : Items μ d ds) (h0 : k < 0) (h1 : -(ds.length : Int) ≤ k) (hx : ds[(k + ds.length).toNat]? = some x) (hk : -(2 ^ 63) ≤ k) (hs : noSlice slice = true) (h : P x μ) : Sub C value slice d (.int k) μ P X := by
  intro T o iv ho hiv ρ s Q E st hQ hE
  obtain ⟨t, rfl⟩ := st.isInt hiv
  obtain ⟨a, vs, rfl, hL, hlen, st2⟩ := st.items ho (hi.app ρ)
  obtain ⟨v, hv⟩ := at_of_len hlen hx
  refine tail_any hL.typeIs slot_list_getitem.lookup (wpAny_getItem_list_neg hL h0 (by simpa [hlen] using h1) hk (by simpa [hlen] using hv) (hQ v x _ _ h ?_)) (sub_plain hs _ _)
  exact st2.sub fun p hp => by
    rcases List.mem_cons.mp hp with rfl | hp
    · exact List.mem_append_left _ (zip_at hv hx)
    · exact List.mem_append_right _ hp
theorem sub_tup {value slice : Expr} {ds : List D} {k : Int} {j : Nat} {x : D} (hj : seqIndex? k ds.length = some j) (hx : ds[j]? = some x) (hlo : -(2 ^ 63) ≤ k) (hk : k < 2 ^ 63) (hs : noSlice slice = true) (h : P x μ) : Sub C value slice (.tup ds) (.int k) μ P X := by
  intro T o iv ho hiv ρ s Q E st hQ hE
  obtain ⟨t, rfl⟩ := st.isInt hiv
  obtain ⟨a, vs, rfl, hL, hlen, st2⟩ := st.titems ho
  obtain ⟨v, hv⟩ := at_of_len hlen hx
  refine item_tupleT (show IsTup s.heap a vs.toArray from hL) hlo hk (by rw [hlen]; exact hj) hv (hQ v x _ _ h ?_) (sub_plain hs _ _)
  exact st2.sub fun p hp => by
    rcases List.mem_cons.mp hp with rfl | hp
    · exact List.mem_append_left _ (zip_at hv hx)
    · exact List.mem_append_right _ hp

/-! parts of a list -/
theorem slice_upto (vs : List Value) (b : Int) (hb : 0 ≤ b) : slicePick vs.toArray none (some b) none = (vs.take b.toNat).toArray := by
  unfold slicePick
  have e : sliceBounds none (some b) none vs.toArray.size = (((0 : Nat) : Int), ((min b.toNat vs.length : Nat) : Int), 1) := by
    simp only [sliceBounds, Option.getD_none]
    have h2 : ¬ (b < 0) := by omega
    simp only [h2, if_false, show (1 : Int) > 0 by decide, if_true, List.size_toArray]
    congr 1
    congr 1; omega
  rw [e]
  simp only [sliceRange_one, pick_run]
  simp [List.take_eq_take_iff]
theorem slice_from (vs : List Value) (a : Int) (ha : 0 ≤ a) : slicePick vs.toArray (some a) none none = (vs.drop a.toNat).toArray := by
  unfold slicePick
  have e : sliceBounds (some a) none none vs.toArray.size = (((min a.toNat vs.length : Nat) : Int), ((vs.length : Nat) : Int), 1) := by
    simp only [sliceBounds, Option.getD_none]
    have h1 : ¬ (a < 0) := by omega
    simp only [h1, if_false, show (1 : Int) > 0 by decide, if_true, List.size_toArray]
    congr 1
    omega
  rw [e]
  simp only [sliceRange_one, pick_run]
  by_cases h : a.toNat ≤ vs.length
  · rw [Nat.min_eq_left h, List.take_of_length_le (by simp)]
  · rw [Nat.min_eq_right (by omega)]; simp; omega
theorem slice_both (vs : List Value) (a b : Int) (ha : 0 ≤ a) (hb : 0 ≤ b) : slicePick vs.toArray (some a) (some b) none = ((vs.drop a.toNat).take (b.toNat - a.toNat)).toArray := by
  unfold slicePick
  have e : sliceBounds (some a) (some b) none vs.toArray.size = (((min a.toNat vs.length : Nat) : Int), ((min b.toNat vs.length : Nat) : Int), 1) := by
    simp only [sliceBounds, Option.getD_none]
    have h1 : ¬ (a < 0) := by omega
    have h2 : ¬ (b < 0) := by omega
    simp only [h1, h2, if_false, show (1 : Int) > 0 by decide, if_true, List.size_toArray]
    congr 1
    · omega
    · congr 1; omega
  rw [e]
  simp only [sliceRange_one, pick_run]
  by_cases h : a.toNat ≤ vs.length
  · rw [Nat.min_eq_left h]
    congr 1
    rw [List.take_eq_take_iff]; simp; omega
  · have hm : min a.toNat vs.length = vs.length := by omega
    have h2 : vs.drop a.toNat = [] := by simp; omega
    rw [hm, h2]; simp

/-- a bound of a part: none, or an expression -/
def EvO (C : Cx) (env : Env) (μ : List MO) (e : Option Expr) (P X : Post) : Prop := TrV C μ (evalPart e env) P X
theorem evo_none (h : P .none μ) : EvO C env μ none P X := fun T ρ s Q E st hQ hE => wpAny_pure (hQ _ _ _ _ h (st.add rNone))
theorem evo_some {e : Expr} (h : Ev C env μ e P X) : EvO C env μ (some e) P X := h
def partD : D → Option Int → Prop
  | .none, none => True
  | .int i, some j => i = j
  | _, _ => False
def cutD (lo hi : Option Int) (ds : List D) : List D := match lo, hi with
  | none, none => ds
  | none, some b => ds.take b.toNat
  | some a, none => ds.drop a.toNat
  | some a, some b => (ds.drop a.toNat).take (b.toNat - a.toNat)
theorem cut_vals {φ : FM} {vs : List Value} {ds : List D} (r : Reps φ vs ds) (lo hi : Option Int) (hlo : ∀ a, lo = some a → 0 ≤ a) (hhi : ∀ a, hi = some a → 0 ≤ a) (hb : lo.isSome ∨ hi.isSome) : ∃ ws : List Value, slicePick vs.toArray lo hi none = ws.toArray ∧ Reps φ ws (cutD lo hi ds) := by
  match lo, hi with
  | none, none => simp at hb
  | none, some b => exact ⟨_, slice_upto vs b (hhi b rfl), r.take _⟩
  | some a, none => exact ⟨_, slice_from vs a (hlo a rfl), r.drop _⟩
  | some a, some b => exact ⟨_, slice_both vs a b (hlo a rfl) (hhi b rfl), (r.drop _).take _⟩
theorem ev_slice {value : Expr} {lower upper : Option Expr} {p pos : Pos}
    (h : Ev C env μ value (fun d μ1 => EvO C env μ1 lower (fun l μ2 => EvO C env μ2 upper (fun u μ3 => ∃ ds lo hi, Items μ3 d ds ∧ ds.length ≤ sizeLine ∧ partD l lo ∧ partD u hi ∧ (∀ a, lo = some a → 0 ≤ a) ∧ (∀ a, hi = some a → 0 ≤ a) ∧ (lo.isSome ∨ hi.isSome) ∧ P (.lst (cutD lo hi ds)) μ3) X) X) X) :
    Ev C env μ (.Subscript value (.Slice lower upper none p) pos) P X := by
  intro T ρ s Q E st hQ hE
  refine Subscript_ (h T ρ _ _ _ st (fun o d μ1 s1 h1 st1 => ?_) hE)
  refine wpAny_Slice (h1 ((o, d) :: T) ρ s1 _ _ st1 (fun l dl μ2 s2 h2 st2 => ?_) fun v d μ' s' x st' => hE v d μ' s' x st'.drop2)
  refine h2 ((l, dl) :: (o, d) :: T) ρ s2 _ _ st2 (fun u du μ3 s3 h3 st3 => ?_) fun v d μ' s' x st' => hE v d μ' s' x (st'.keepHead fun _ hq => .tail _ (.tail _ hq))
  obtain ⟨ds, lo, hi, hit, hlen, pl, pu, hlo, hhi, hb, hp⟩ := h3
  rw [evalPart_none]
  refine wpAny_pure ?_
  obtain ⟨a, vs, rfl, hL, hl2, st4⟩ := st3.items (.tail _ (.tail _ (.head _))) (hit.app ρ)
  have hpl : IsPart l lo := by
    match dl, lo, pl with
    | .none, none, _ => have := st3.isNone (a := l) (.tail _ (.head _)); subst this; exact .none
    | .int i, some j, e => have e : i = j := e; subst e; obtain ⟨t, rfl⟩ := st3.isInt (a := l) (.tail _ (.head _)); exact .int _ _
  have hpu : IsPart u hi := by
    match du, hi, pu with
    | .none, none, _ => have := st3.isNone (a := u) (.head _); subst this; exact .none
    | .int i, some j, e => have e : i = j := e; subst e; obtain ⟨t, rfl⟩ := st3.isInt (a := u) (.head _); exact .int _ _
  have hL' := hL.push { cls := .type "slice", data := .fields #[l, u, .none] }
  refine tail_any (ops := _) (T := "list") (s := { s3 with heap := s3.heap.push { cls := .type "slice", data := .fields #[l, u, .none] } }) hL'.typeIs slot_list_getitem.lookup (wpAny_getItem_list_slice hL' (Heap.IsSliceOf.new ..) hpl hpu .none (by simp) ?_ (by rw [List.size_toArray, hl2]; exact hlen)) rfl
  have st5 : St C.B (vs.zip ds ++ (u, du) :: (l, dl) :: (Value.ref a, d) :: T) (μ3 ++ ρ) { s3 with heap := s3.heap.push { cls := .type "slice", data := .fields #[l, u, .none] } } := st4.grown (fun _ _ e => Heap.get?_push_of_some _ e) s3.toks
  obtain ⟨⟨φ0, _, _, _, _, _, h60⟩, _, _⟩ := id st4
  obtain ⟨ws, hws, _⟩ := cut_vals (reps_zip hl2 fun p hp => h60 p (List.mem_append_left _ hp)) lo hi hlo hhi hb
  rw [hws]
  refine hQ _ _ _ _ hp ((st5.frozen (d := .lst (cutD lo hi ds)) rfl s3.toks fun φ hT hφ => ?_).keepHead fun p hp => List.mem_append_right _ (.tail _ (.tail _ (.tail _ hp))))
  obtain ⟨ws', hws', r'⟩ := cut_vals (reps_zip hl2 fun p hp => hT p (List.mem_append_left _ hp)) lo hi hlo hhi hb
  have : ws' = ws := by
    have := hws'.symm.trans hws
    simpa using this
  subst this
  exact .lst hφ rfl rfl r'

/-! == and != of data, by their worth -/
mutual
def toP : D → PyData
  | .none => .none
  | .bool b => .bool b
  | .int i => .int i
  | .str x => .str x
  | .tup ds => .tuple (toPs ds)
  | .lst ds => .list (toPs ds)
  | _ => .none
def toPs : List D → List PyData
  | [] => []
  | d :: ds => toP d :: toPs ds
end
mutual
def plainD : D → Bool
  | .none | .bool _ | .int _ | .str _ => true
  | .tup ds => plainDs ds
  | .lst ds => plainDs ds
  | _ => false
def plainDs : List D → Bool
  | [] => true
  | d :: ds => plainD d && plainDs ds
end
mutual
theorem Rep.reads {φ : FM} {h : Heap} (k : ∀ a o, φ a = some o → h.get? a = some o) : ∀ {v d}, Rep φ v d → plainD d = true → ∃ as, Reads h v (toP d) as
  | _, _, .none, _ => ⟨_, by simp only [toP]; exact .none⟩
  | _, _, .bool b, _ => ⟨_, by simp only [toP]; exact .bool b⟩
  | _, _, .int i t, _ => ⟨_, by simp only [toP]; exact .int i t⟩
  | _, _, .str x t, _ => ⟨_, by simp only [toP]; exact .str x t⟩
  | _, _, .tup ha hc hd r, hp => by
    obtain ⟨as, q⟩ := Reps.reads k r (by simpa [plainD] using hp)
    exact ⟨as, by simp only [toP]; exact .tuple (k _ _ ha) hc hd q⟩
  | _, _, .lst ha hc hd r, hp => by
    obtain ⟨as, q⟩ := Reps.reads k r (by simpa [plainD] using hp)
    exact ⟨_ :: as, by simp only [toP]; exact .list (k _ _ ha) hc hd q⟩
  | _, _, .rng _, hp => by simp [plainD] at hp
  | _, _, .ref _, hp => by simp [plainD] at hp
  | _, _, .val _, hp => by simp [plainD] at hp
theorem Reps.reads {φ : FM} {h : Heap} (k : ∀ a o, φ a = some o → h.get? a = some o) : ∀ {vs ds}, Reps φ vs ds → plainDs ds = true → ∃ as, ReadsAll h vs (toPs ds) as
  | _, _, .nil, _ => ⟨[], by simp only [toPs]; exact .nil⟩
  | _, _, .cons h1 h2, hp => by
    simp only [plainDs, Bool.and_eq_true] at hp
    obtain ⟨a, q⟩ := Rep.reads k h1 hp.1
    obtain ⟨b, r⟩ := Reps.reads k h2 hp.2
    exact ⟨a ++ b, by simp only [toPs]; exact .cons q r⟩
end
/-- what a datum reads as -/
def Seen (μ : List MO) (d : D) (e : D) : Prop := d = e ∨ ∃ a ds, d = .ref a ∧ MO.list a ds ∈ μ ∧ e = .lst ds
theorem Seen.app {d e : D} (h : Seen μ d e) (ρ : List MO) : Seen (μ ++ ρ) d e := h.imp id fun ⟨a, ds, h1, h2, h3⟩ => ⟨a, ds, h1, List.mem_append_left _ h2, h3⟩
theorem Seen.of_items {d : D} {ds : List D} (h : Items μ d ds) : Seen μ d (.lst ds) := h.imp id fun ⟨a, h1, h2⟩ => ⟨a, ds, h1, h2, rfl⟩
theorem St.reads {B : Shared} {T : List (Value × D)} {s : Shared} {v : Value} {d e : D} (st : St B T μ s) (hv : (v, d) ∈ T) (hs : Seen μ d e) (hp : plainD e = true) : ∃ as, Reads s.heap v (toP e) as := by
  obtain ⟨⟨φ, h1, h2, h3, h4, h5, h6⟩, ho, hg⟩ := st
  rcases hs with rfl | ⟨a, ds, rfl, hm, rfl⟩
  · exact (h6 _ hv).reads h2 hp
  · have := h6 _ hv
    cases this
    obtain ⟨vs, ⟨o, hoo, hc, n, hd⟩, r⟩ := h3 _ hm
    obtain ⟨as, q⟩ := r.reads h2 (by simpa [plainD] using hp)
    exact ⟨_ :: as, by simp only [toP]; exact .list hoo hc hd q⟩
theorem cmp_eqD {d e d' e' : D} {P : Bool → List MO → Prop} (hd : Seen μ d d') (he : Seen μ e e') (pd : plainD d' = true) (pe : plainD e' = true) (sd : SeqAt.shaped (toP d') = true) (se : SeqAt.shaped (toP e') = true) (hu : C.A.units + 64 < cLine)
    (h : P (PyData.eqv (toP d') (toP e')) μ) : Cmp C .Eq d e μ P X := by
  intro T a b ha hb ρ s Q E st hQ hE
  obtain ⟨as, ra⟩ := st.reads ha (hd.app ρ) pd
  obtain ⟨bs, rb⟩ := st.reads hb (he.app ρ) pe
  exact SeqAt.compareEq_shaped ra rb sd se hu (hQ _ _ _ _ ⟨_, rfl, h⟩ (st.add (rBool _)))
theorem cmp_neD {d e d' e' : D} {P : Bool → List MO → Prop} (hd : Seen μ d d') (he : Seen μ e e') (pd : plainD d' = true) (pe : plainD e' = true) (sd : SeqAt.shaped (toP d') = true) (se : SeqAt.shaped (toP e') = true) (hu : C.A.units + 64 < cLine)
    (h : P (!PyData.eqv (toP d') (toP e')) μ) : Cmp C .NotEq d e μ P X := by
  intro T a b ha hb ρ s Q E st hQ hE
  obtain ⟨as, ra⟩ := st.reads ha (hd.app ρ) pd
  obtain ⟨bs, rb⟩ := st.reads hb (he.app ρ) pe
  exact SeqAt.compareNe_shaped ra rb sd se hu (hQ _ _ _ _ ⟨_, rfl, h⟩ (st.add (rBool _)))
end
end Mine

open PySem PyProof.Rows
set_option linter.unusedVariables false
namespace Mine
theorem mHead {α : Type} {a : α} {l : List α} : a ∈ a :: l := .head _
theorem mTail {α : Type} {a b : α} {l : List α} (h : a ∈ l) : a ∈ b :: l := .tail _ h

def stAt (p : Program) (n : Nat) : Stmt := p.main.body.getD n (.Pass ⟨0, 0, 0, 0⟩)
def fBody : Stmt → List Stmt
  | .FunctionDef _ _ b _ _ _ _ _ _ _ => b
  | _ => []
def fScope : Stmt → Scope
  | .FunctionDef _ _ _ _ _ _ sc _ _ _ => sc
  | _ => ⟨.function, [], false, false, []⟩
def fParams : Stmt → Arguments
  | .FunctionDef _ a _ _ _ _ _ _ _ _ => a
  | _ => ⟨[], [], none, [], [], none, []⟩
structure Fq where
  name : Str
  qual : Str
  dV : Value
  kV : Value
  doc : Value
  pm : Value
  an : Option Addr
  cd : Value
  ct : Value
def mkFd (st : Stmt) (q : Fq) : FuncData :=
  { name := q.name, qualname := q.qual, params := fParams st, body := .stmts (fBody st), scope := fScope st, globals := mainGlobals, closure := [], defaults := q.dV, kwdefaults := q.kV, doc := q.doc, pyModule := q.pm, annotations := q.an, code := q.cd, closureTuple := q.ct, builtins := builtinsNs }
def FnSt (B : Shared) (f : Addr) (st : Stmt) (names : List Str) : Prop := ∃ q, FnAt B f (mkFd st q) (fBody st) names
/-- a call's block -/
def envK (kn : List (Str × NameKind)) (more : List (Str × Const)) (q : Fq) (L f : Addr) : Env :=
  { scope := ⟨.function, kn, false, false, more⟩, locals := L, globals := mainGlobals, cells := cellsK L kn, qual := q.qual ++ ".<locals>.", func := some f, code := q.cd, frame := some L, builtins := builtinsNs }
/-- the names of a block, each told once -/
structure KN (kn : List (Str × NameKind)) : Prop where
  nd : (kn.map (·.1)).Nodup
  dbg : ∀ p ∈ kn, (p.1 == ("__debug__" : Str)) = false
def knOk (kn : List (Str × NameKind)) : Bool := decide (kn.map (·.1)).Nodup && kn.all fun p => !(p.1 == ("__debug__" : Str))
theorem KN.of {kn : List (Str × NameKind)} (h : knOk kn = true) : KN kn := by
  obtain ⟨a, b⟩ := Bool.and_eq_true_iff.mp h
  exact ⟨of_decide_eq_true a, fun p hp => by simpa using List.all_eq_true.mp b p hp⟩
structure LN (ns : List Str) : Prop where
  nd : ns.Nodup
theorem KN.look {kn : List (Str × NameKind)} (K : KN kn) {x : Str} {k : NameKind} (h : (x, k) ∈ kn) : kn.lookup x = some k := lookup_of_nodup K.nd h
theorem KN.noCell {kn : List (Str × NameKind)} (K : KN kn) {x : Str} {k : NameKind} (h : (x, k) ∈ kn) (hk : k ≠ .cell) (L : Addr) : (cellsK L kn).lookup x = none := by
  refine cellsFrom_none _ _ _ (List.all_eq_true.mpr fun p hp => ?_) rfl
  by_cases e : p.1 = x
  · have h1 := lookup_of_nodup K.nd hp
    have h2 := K.look h
    rw [e, h2] at h1
    cases h1
    simp [hk]
  · simp [e]
theorem KN.cell {kn : List (Str × NameKind)} (K : KN kn) {x : Str} (h : (x, NameKind.cell) ∈ kn) (L : Addr) : ∃ c, (cellsK L kn).lookup x = some c :=
  Option.isSome_iff_exists.mp (cellsFrom_some' _ _ _ (.inl (K.look h)))
/-- a name's kind in a block -/
structure KindE (env : Env) (x : Str) (k : NameKind) : Prop where
  fn : env.scope.kind = .function
  kind : env.kindOf x = some k
  dbg : (x == ("__debug__" : Str)) = false
theorem kindK {kn : List (Str × NameKind)} {more : List (Str × Const)} {q : Fq} {L f : Addr} {x : Str} {k : NameKind} (K : KN kn) (h : (x, k) ∈ kn) : KindE (envK kn more q L f) x k := ⟨rfl, K.look h, K.dbg _ h⟩
theorem lookup_relabel {env : Env} {names : List (Str × NameKind)} {x : Str} {k : NameKind} (hk : k ≠ .free) : names.lookup x = some k →
    (names.map fun (n, k) => if (k == NameKind.free && env.scope.kind == .function && env.kindOf n == some .cell) then (n, NameKind.cell) else (n, k)).lookup x = some k := by
  induction names with
  | nil => intro h; simp at h
  | cons y r ih =>
    obtain ⟨n, k'⟩ := y
    intro h
    rw [List.lookup_cons] at h
    show List.lookup x ((if (k' == NameKind.free && env.scope.kind == .function && env.kindOf n == some .cell) = true then (n, NameKind.cell) else (n, k')) :: _) = _
    cases hx : x == n with
    | true =>
      rw [hx] at h; cases h
      have : (k == NameKind.free) = false := by simpa using hk
      simp [this, List.lookup_cons, hx]
    | false =>
      rw [hx] at h
      split <;> (rw [List.lookup_cons, hx]; exact ih h)
theorem lookup_relabel_free {env : Env} {names : List (Str × NameKind)} {x : Str} (hc : (env.scope.kind == .function && env.kindOf x == some .cell) = true) : names.lookup x = some .free →
    (names.map fun (n, k) => if (k == NameKind.free && env.scope.kind == .function && env.kindOf n == some .cell) then (n, NameKind.cell) else (n, k)).lookup x = some .cell := by
  induction names with
  | nil => intro h; simp at h
  | cons y r ih =>
    obtain ⟨n, k'⟩ := y
    intro h
    rw [List.lookup_cons] at h
    show List.lookup x ((if (k' == NameKind.free && env.scope.kind == .function && env.kindOf n == some .cell) = true then (n, NameKind.cell) else (n, k')) :: _) = _
    cases hx : x == n with
    | true =>
      rw [hx] at h; cases h
      have e := beq_iff_eq.mp hx; subst e
      rw [Bool.and_assoc, hc]
      simp [List.lookup_cons]
    | false =>
      rw [hx] at h
      split <;> (rw [List.lookup_cons, hx]; exact ih h)
theorem kindC {scope : Scope} {cl : List (Str × Addr)} {Lc : Addr} {env : Env} {x : Str} {k : NameKind} (hf : scope.kind = .function) (K : KN scope.names) (h : (x, k) ∈ scope.names) (hk : k ≠ .free) : KindE (compEnvC scope cl Lc env) x k :=
  ⟨hf, lookup_relabel hk (K.look h), K.dbg _ h⟩
theorem kindCap {scope : Scope} {cl : List (Str × Addr)} {Lc : Addr} {env : Env} {x : Str} (hf : scope.kind = .function) (K : KN scope.names) (h : (x, NameKind.free) ∈ scope.names) (ho : KindE env x .cell) : KindE (compEnvC scope cl Lc env) x .cell :=
  ⟨hf, lookup_relabel_free (by rw [ho.fn, ho.kind]; rfl) (K.look h), K.dbg _ h⟩

structure AOk (A : Around) (n : Nat) : Prop where
  handled : A.handled = none
  depth : A.depth + n < recursionLimit
  units : A.units + 64 + 4 * n < cLine
theorem AOk.deeper {A : Around} {n : Nat} {env : Env} (h : AOk A (n + 1)) : AOk (A.deeper env) n :=
  ⟨h.handled, by have := h.depth; show A.depth + 1 + n < recursionLimit; omega, by have := h.units; show A.units + 3 + 64 + 4 * n < cLine; omega⟩
theorem AOk.mono {A : Around} {n m : Nat} (h : AOk A n) (hm : m ≤ n) : AOk A m := ⟨h.handled, by have := h.depth; omega, by have := h.units; omega⟩
theorem AOk.room {A : Around} {n : Nat} (h : AOk A n) : A.depth < recursionLimit := by have := h.depth; omega
theorem AOk.eqs {A : Around} {n : Nat} (h : AOk A n) : A.units + 64 < cLine := by have := h.units; omega

/-- the text's names, and the built-in ones -/
structure GOk (B : Shared) (gt bt : List (Str × Value)) : Prop where
  ex : ∃ mg mb, B.heap.Ns mainGlobals mg ∧ B.heap.Ns builtinsNs mb ∧ (∀ n v, (n, v) ∈ gt → mg n = some v) ∧ (∀ n v, (n, v) ∈ bt → mg n = none ∧ mb n = some v)
  fn : ∀ n f, (n, Value.ref f) ∈ gt → ∃ fo fd, B.heap.get? f = some fo ∧ fo.data = .func fd

section
variable {C : Cx} {env : Env} {μ : List MO} {P X : Post}
theorem ev_g {gt bt : List (Str × Value)} {x : Str} {pos : Pos} {v : Value} {d : D} (G : GOk C.B gt bt) (hk : KindE env x .globalImplicit) (hgl : env.globals = mainGlobals) (hv : (x, v) ∈ gt) (hr : ∀ φ, Rep φ v d) (h : P d μ) : Ev C env μ (.Name x pos) P X := by
  obtain ⟨mg, mb, h1, h2, h3, h4⟩ := G.ex
  exact ev_global hk.fn hk.kind (hgl ▸ h1) (h3 x v hv) hr h hk.dbg
theorem ev_b {gt bt : List (Str × Value)} {x : Str} {pos : Pos} {v : Value} (G : GOk C.B gt bt) (hk : KindE env x .globalImplicit) (hgl : env.globals = mainGlobals) (hbl : env.builtins = builtinsNs) (hv : (x, v) ∈ bt) (h : P (.val v) μ) : Ev C env μ (.Name x pos) P X := by
  obtain ⟨mg, mb, h1, h2, h3, h4⟩ := G.ex
  exact ev_builtin hk.fn hk.kind (hgl ▸ h1) (h4 x v hv).1 (hbl ▸ h2) (h4 x v hv).2 h hk.dbg
theorem nm_local {kn : List (Str × NameKind)} {more : List (Str × Const)} {q : Fq} {L f : Addr} {x : Str} {pos : Pos} {d : D} {ns : List Str} {vs : List (Option D)} (K : KN kn) (hx : (x, NameKind.local) ∈ kn) (hm : Look x d ns vs) (h : P d (.frame L kn ns vs :: μ)) : Ev C (envK kn more q L f) (.frame L kn ns vs :: μ) (.Name x pos) P X :=
  ev_local rfl (K.look hx) rfl (K.noCell hx (by decide) L) hm h (K.dbg _ hx)
theorem nm_cell {kn : List (Str × NameKind)} {more : List (Str × Const)} {q : Fq} {L f : Addr} {x : Str} {pos : Pos} {d : D} {ns : List Str} {vs : List (Option D)} (K : KN kn) (hx : (x, NameKind.cell) ∈ kn) (hm : Look x d ns vs) (h : P d (.frame L kn ns vs :: μ)) : Ev C (envK kn more q L f) (.frame L kn ns vs :: μ) (.Name x pos) P X := by
  obtain ⟨c, hc⟩ := K.cell hx L
  exact ev_cell rfl (K.look hx) hc (.head _) hc hm h (K.dbg _ hx)
theorem nc_local {scope : Scope} {cl : List (Str × Addr)} {Lc : Addr} {env : Env} {x : Str} {pos : Pos} {d : D} {ns : List Str} {vs : List (Option D)} (hf : scope.kind = .function) (K : KN scope.names) (hx : (x, NameKind.local) ∈ scope.names) (hm : Look x d ns vs) (h : P d (.frame Lc [] ns vs :: μ)) : Ev C (compEnvC scope cl Lc env) (.frame Lc [] ns vs :: μ) (.Name x pos) P X :=
  ev_local hf (kindC hf K hx (by decide)).kind rfl rfl hm h (K.dbg _ hx)
theorem nc_cap {scope : Scope} {cl : List (Str × Addr)} {Lc : Addr} {kn : List (Str × NameKind)} {more : List (Str × Const)} {q : Fq} {L f : Addr} {x : Str} {pos : Pos} {d : D} {ns tn : List Str} {vs ts : List (Option D)} (hf : scope.kind = .function) (K : KN scope.names) (Ko : KN kn) (hcl : ClOk scope (envK kn more q L f) cl) (hx : (x, NameKind.free) ∈ scope.names) (hxo : (x, NameKind.cell) ∈ kn)
    (hm : Look x d ns vs) (h : P d (.frame Lc [] tn ts :: .frame L kn ns vs :: μ)) : Ev C (compEnvC scope cl Lc (envK kn more q L f)) (.frame Lc [] tn ts :: .frame L kn ns vs :: μ) (.Name x pos) P X := by
  obtain ⟨c, hc⟩ := Ko.cell hxo L
  exact ev_cell hf (kindCap hf K hx (kindK Ko hxo)).kind ((hcl x hx).trans hc) (.tail _ (.head _)) hc hm h (K.dbg _ hx)
theorem st_local {kn : List (Str × NameKind)} {more : List (Str × Const)} {q : Fq} {L f : Addr} {x : Str} {d : D} {ns : List Str} {vs vs' : List (Option D)} {P : List MO → Prop} (K : KN kn) (hN : LN ns) (hx : (x, NameKind.local) ∈ kn) (hu : Upd x d ns vs vs') (h : P (.frame L kn ns vs' :: μ)) : Sto C (envK kn more q L f) (.frame L kn ns vs :: μ) x d P X :=
  sto_local rfl (K.look hx) rfl (K.noCell hx (by decide) L) hN.nd hu h
theorem st_cell {kn : List (Str × NameKind)} {more : List (Str × Const)} {q : Fq} {L f : Addr} {x : Str} {d : D} {ns : List Str} {vs vs' : List (Option D)} {P : List MO → Prop} (K : KN kn) (hN : LN ns) (hx : (x, NameKind.cell) ∈ kn) (hu : Upd x d ns vs vs') (h : P (.frame L kn ns vs' :: μ)) : Sto C (envK kn more q L f) (.frame L kn ns vs :: μ) x d P X := by
  obtain ⟨c, hc⟩ := K.cell hx L
  exact sto_cell rfl (K.look hx) hc hc hN.nd hu h
theorem st_comp {scope : Scope} {cl : List (Str × Addr)} {Lc : Addr} {env : Env} {x : Str} {d : D} {ns : List Str} {vs vs' : List (Option D)} {P : List MO → Prop} (hf : scope.kind = .function) (K : KN scope.names) (hN : LN ns) (hx : (x, NameKind.local) ∈ scope.names) (hu : Upd x d ns vs vs') (h : P (.frame Lc [] ns vs' :: μ)) : Sto C (compEnvC scope cl Lc env) (.frame Lc [] ns vs :: μ) x d P X :=
  sto_local hf (kindC hf K hx (by decide)).kind rfl rfl hN.nd hu h

theorem call_g {gt bt : List (Str × Value)} {x : Str} {np pos : Pos} {args : List Expr} {f : Addr} (G : GOk C.B gt bt) (hk : KindE env x .globalImplicit) (hgl : env.globals = mainGlobals) (hv : (x, Value.ref f) ∈ gt) (hs : noStars args = true)
    (h : EvL C env μ args (fun ds μ1 => Ca C (.ref f) ds μ1 P X) X) : Ev C env μ (.Call (.Name x np) args [] pos) P X := by
  obtain ⟨fo, fd, ho, hdat⟩ := G.fn x f hv
  exact ev_call (fun P' h' => ev_g G hk hgl hv (fun _ => .ref f) h') ho hdat hs h
theorem call_b {gt bt : List (Str × Value)} {x : Str} {np pos : Pos} {args : List Expr} {id : String} (G : GOk C.B gt bt) (hk : KindE env x .globalImplicit) (hgl : env.globals = mainGlobals) (hbl : env.builtins = builtinsNs) (hv : (x, Value.builtin id) ∈ bt) (hs : noStars args = true)
    (h : EvL C env μ args (fun ds μ1 => Ca C (.builtin id) ds μ1 P X) X) : Ev C env μ (.Call (.Name x np) args [] pos) P X :=
  ev_callB (fun P' h' => ev_b G hk hgl hbl hv h') hs h
theorem call_t {gt bt : List (Str × Value)} {x : Str} {np pos : Pos} {args : List Expr} {T : String} (G : GOk C.B gt bt) (hk : KindE env x .globalImplicit) (hgl : env.globals = mainGlobals) (hbl : env.builtins = builtinsNs) (hv : (x, Value.type T) ∈ bt) (hs : noStars args = true)
    (h : EvL C env μ args (fun ds μ1 => Ca C (.type T) ds μ1 P X) X) : Ev C env μ (.Call (.Name x np) args [] pos) P X :=
  ev_callT (fun P' h' => ev_b G hk hgl hbl hv h') hs h
theorem ev_Chain2 {l r1 r2 : Expr} {op1 op2 : CmpOp} {pos : Pos} (h : Ev C env μ l (fun d1 μ1 => Ev C env μ1 r1 (fun d2 μ2 => Cmp C op1 d1 d2 μ2 (fun c μ3 => (c = true → Ev C env μ3 r2 (fun d3 μ4 => Cmp C op2 d2 d3 μ4 (fun c => P (.bool c)) X) X) ∧ (c = false → P (.bool false) μ3)) X) X) X)
    (hm : lastMarks [op1, op2] [r1, r2] = false) : Ev C env μ (.Compare l [op1, op2] [r1, r2] pos) P X := by
  intro T ρ s Q E st hQ hE
  refine Compare_chain (rs := []) (ops := []) (h T ρ _ _ _ st (fun a d1 μ1 s1 h1 st1 => chain_link (h1 ((a, d1) :: T) ρ s1 _ _ st1 (fun b d2 μ2 s2 h2 st2 => ?_) fun v d μ' s' x st' => hE v d μ' s' x st'.drop2)) hE) hm
  refine h2 _ a b (.tail _ (.head _)) (.head _) ρ s2 _ _ st2 (fun v d μ' s' ⟨c, hc, p⟩ st' => ?_) fun v d μ' s' x st' => hE v d μ' s' x (st'.keepHead fun _ hq => .tail _ (.tail _ hq))
  subst hc
  have e := st'.isBool (.head _); subst e
  refine wpAny_truthy_bool ?_
  cases c with
  | false => exact hQ _ _ _ _ (p.2 rfl) (st'.keepHead fun _ hq => .tail _ (.tail _ hq))
  | true =>
    refine chain_last (p.1 rfl _ ρ s' _ _ st'.tail (fun e d3 μ4 s4 h4 st4 => ?_) fun v d μ' s' x st' => hE v d μ' s' x (st'.keepHead fun _ hq => .tail _ (.tail _ hq)))
    refine h4 _ b e (.tail _ (.head _)) (.head _) ρ s4 _ _ st4 (fun v d μ' s' ⟨c, hc, p⟩ st' => hQ v d μ' s' (hc ▸ p) (st'.keepHead fun _ hq => .tail _ (.tail _ (.tail _ hq)))) fun v d μ' s' x st' => hE v d μ' s' x (st'.keepHead fun _ hq => .tail _ (.tail _ (.tail _ hq)))
theorem te_Chain2 {l r1 r2 : Expr} {op1 op2 : CmpOp} {pos : Pos} {P : Bool → List MO → Prop} (h : Ev C env μ l (fun d1 μ1 => Ev C env μ1 r1 (fun d2 μ2 => Cmp C op1 d1 d2 μ2 (fun c μ3 => (c = true → Ev C env μ3 r2 (fun d3 μ4 => Cmp C op2 d2 d3 μ4 P X) X) ∧ (c = false → P false μ3)) X) X) X)
    (hm : lastMarks [op1, op2] [r1, r2] = false) : Te C env μ (.Compare l [op1, op2] [r1, r2] pos) P X := by
  intro T ρ s Q E st hQ hE
  refine isTrue_chain (rs := []) (ops := []) (h T ρ _ _ _ st (fun a d1 μ1 s1 h1 st1 => test_link (h1 ((a, d1) :: T) ρ s1 _ _ st1 (fun b d2 μ2 s2 h2 st2 => ?_) fun v d μ' s' x st' => hE v d μ' s' x st'.drop2)) hE) hm
  refine h2 _ a b (.tail _ (.head _)) (.head _) ρ s2 _ _ st2 (fun v d μ' s' ⟨c, hc, p⟩ st' => ?_) fun v d μ' s' x st' => hE v d μ' s' x (st'.keepHead fun _ hq => .tail _ (.tail _ hq))
  subst hc
  have e := st'.isBool (.head _); subst e
  refine wpAny_truthy_bool ?_
  cases c with
  | false => exact hQ _ _ _ (p.2 rfl) (st'.sub fun _ hq => .tail _ (.tail _ (.tail _ hq)))
  | true =>
    refine test_last (p.1 rfl _ ρ s' _ _ st'.tail (fun e d3 μ4 s4 h4 st4 => ?_) fun v d μ' s' x st' => hE v d μ' s' x (st'.keepHead fun _ hq => .tail _ (.tail _ hq)))
    refine h4 _ b e (.tail _ (.head _)) (.head _) ρ s4 _ _ st4 (fun v d μ' s' ⟨c, hc, p⟩ st' => ?_) fun v d μ' s' x st' => hE v d μ' s' x (st'.keepHead fun _ hq => .tail _ (.tail _ (.tail _ hq)))
    subst hc
    have e := st'.isBool (.head _); subst e
    exact wpAny_truthy_bool (hQ _ _ _ p (st'.sub fun _ hq => .tail _ (.tail _ (.tail _ (.tail _ hq)))))
/-- a call as a statement -/
theorem ex_Expr {e : Expr} {pos : Pos} {P : Fw → List MO → Prop} (h : Ev C env μ e (fun _ μ1 => P .next μ1) X) (hi : interactive env = false) (hs : swapsWith e none pos.line env = pure false) : Ex1 C env μ (.Expr e pos) P X := by
  intro T ρ s Q E st hQ hE
  show wpAny C.M C.A (exec (.Expr e pos) env) Q E s
  rw [exec_Expr env e pos hi hs]
  exact wpAny_bind (wpAny_standAt (wpAny_bind (h T ρ _ _ _ st (fun v d μ' s' p st' => wpAny_dropValue (hQ .next .next μ' s' p st'.tail)) hE)))
theorem gEv {e : Expr} (h : Ev C env μ e P X) : Ev C env μ e P X := h
theorem gTe {e : Expr} {P : Bool → List MO → Prop} (h : Te C env μ e P X) : Te C env μ e P X := h
theorem gEx1 {e : Stmt} {P : Fw → List MO → Prop} (h : Ex1 C env μ e P X) : Ex1 C env μ e P X := h
theorem gBin {op : Operator} {a b : D} (h : Bin C op a b μ P X) : Bin C op a b μ P X := h
theorem gCmp {op : CmpOp} {a b : D} {P : Bool → List MO → Prop} (h : Cmp C op a b μ P X) : Cmp C op a b μ P X := h
theorem gSto {x : Str} {d : D} {P : List MO → Prop} (h : Sto C env μ x d P X) : Sto C env μ x d P X := h
theorem evl_nil {P : List D → List MO → Prop} (h : P [] μ) : EvL C env μ [] P X := h
theorem evl_cons {e : Expr} {es : List Expr} {P : List D → List MO → Prop} (h : Ev C env μ e (fun d μ1 => EvL C env μ1 es (fun ds μ2 => P (d :: ds) μ2) X) X) : EvL C env μ (e :: es) P X := h

/-- what stands behind a statement -/
def Seq (C : Cx) (env : Env) (ss : List Stmt) (P : Fw → List MO → Prop) (X : Post) : Fw → List MO → Prop
  | .next, μ => Ex C env μ ss P X
  | fl, μ => P fl μ
theorem ex_seq {st : Stmt} {ss : List Stmt} {P : Fw → List MO → Prop} (h : Ex1 C env μ st (Seq C env ss P X) X) : Ex C env μ (st :: ss) P X :=
  ex_cons (TrF.mono h (fun fl μ' p => by cases fl <;> exact p) fun _ _ x => x)
/-- behind a statement only so much is kept -/
def Cut (R : List MO → Prop) (P : Fw → List MO → Prop) : Fw → List MO → Prop
  | .next, μ => R μ
  | fl, μ => P fl μ
theorem ex_cut {st : Stmt} {ss : List Stmt} {P : Fw → List MO → Prop} (R : List MO → Prop) (h : Ex1 C env μ st (Cut R P) X) (h2 : ∀ μ', R μ' → Ex C env μ' ss P X) : Ex C env μ (st :: ss) P X :=
  ex_cons (TrF.mono h (fun fl μ' p => by cases fl <;> first | exact p | exact h2 _ p) fun _ _ x => x)
theorem ex_cutF {α : Type} {L : Addr} {kn : List (Str × NameKind)} {ns : List Str} {vs0 : List (Option D)} {st : Stmt} {ss : List Stmt} {P : Fw → List MO → Prop} (vs : α → List (Option D)) (R : α → Prop) (h : Ex1 C env (.frame L kn ns vs0 :: μ) st (Cut (fun μ' => ∃ a, R a ∧ μ' = .frame L kn ns (vs a) :: μ) P) X) (h2 : ∀ a, R a → Ex C env (.frame L kn ns (vs a) :: μ) ss P X) : Ex C env (.frame L kn ns vs0 :: μ) (st :: ss) P X :=
  ex_cut _ h fun μ' ⟨a, ha, e⟩ => e ▸ h2 a ha
theorem cut_next {R : List MO → Prop} {P : Fw → List MO → Prop} (h : R μ) : Cut R P .next μ := h
theorem cut_ret {R : List MO → Prop} {P : Fw → List MO → Prop} {d : D} (h : P (.ret d) μ) : Cut R P (.ret d) μ := h
theorem cut_brk {R : List MO → Prop} {P : Fw → List MO → Prop} (h : P .brk μ) : Cut R P .brk μ := h
theorem cut_cont {R : List MO → Prop} {P : Fw → List MO → Prop} (h : P .cont μ) : Cut R P .cont μ := h
theorem gIf {t : Expr} {b o ss : List Stmt} {p : Pos} {P : Fw → List MO → Prop} (h : Ex C env μ (.If t b o p :: ss) P X) : Ex C env μ (.If t b o p :: ss) P X := h
theorem seq_next {ss : List Stmt} {P : Fw → List MO → Prop} (h : Ex C env μ ss P X) : Seq C env ss P X .next μ := h
theorem seq_ret {ss : List Stmt} {P : Fw → List MO → Prop} {d : D} (h : P (.ret d) μ) : Seq C env ss P X (.ret d) μ := h
theorem seq_brk {ss : List Stmt} {P : Fw → List MO → Prop} (h : P .brk μ) : Seq C env ss P X .brk μ := h
theorem seq_cont {ss : List Stmt} {P : Fw → List MO → Prop} (h : P .cont μ) : Seq C env ss P X .cont μ := h
theorem turn_next {I : List MO → Prop} {P : Fw → List MO → Prop} (h : I μ) : Turn I P .next μ := h
theorem turn_ret {I : List MO → Prop} {P : Fw → List MO → Prop} {d : D} (h : P (.ret d) μ) : Turn I P (.ret d) μ := h
theorem turn_cont {I : List MO → Prop} {P : Fw → List MO → Prop} (h : I μ) : Turn I P .cont μ := h
theorem turn_brk {I : List MO → Prop} {P : Fw → List MO → Prop} (h : P .next μ) : Turn I P .brk μ := h
/-- a def's end -/
def Leave (L : Addr) (kn : List (Str × NameKind)) (P : Post) : Fw → List MO → Prop := fun fl μ' => ∃ ns' vs' μ'', μ' = .frame L kn ns' vs' :: μ'' ∧ P (match fl with | .ret d => d | _ => .none) μ''
theorem leave_ret {L : Addr} {kn : List (Str × NameKind)} {ns : List Str} {vs : List (Option D)} {d : D} (h : P d μ) : Leave L kn P (.ret d) (.frame L kn ns vs :: μ) := ⟨ns, vs, μ, rfl, h⟩
theorem leave_next {L : Addr} {kn : List (Str × NameKind)} {ns : List Str} {vs : List (Option D)} (h : P .none μ) : Leave L kn P .next (.frame L kn ns vs :: μ) := ⟨ns, vs, μ, rfl, h⟩

/-- a def's call, its body walked in its own frame -/
theorem ca_def {f : Addr} {st : Stmt} {names : List Str} {ds : List D} {n : Nat} {kn : List (Str × NameKind)} {more : List (Str × Const)} {b1 : Stmt} {bs : List Stmt} (rest : List Str) (F : FnSt C.B f st names) (hA : AOk C.A (n + 1)) (hlen : ds.length = names.length) (hsc : fScope st = ⟨.function, kn, false, false, more⟩) (hb : fBody st = b1 :: bs) (hk : knOk kn = true) (hn : decide (names ++ rest).Nodup = true)
    (h : ∀ q L C', C'.B = C.B → AOk C'.A n → KN kn → LN (names ++ rest) → Ex C' (envK kn more q L f) (.frame L kn (names ++ rest) (ds.map some ++ rest.map fun _ => none) :: μ) (b1 :: bs) (Leave L kn P) noX) : Ca C (.ref f) ds μ P X := by
  obtain ⟨q, F⟩ := F
  have e : ∀ L, callEnvC (mkFd st q) L f = envK kn more q L f := fun L => by
    unfold callEnvC mkFd
    simp only [hsc]; rfl
  have en : (mkFd st q).scope.names = kn := by show (fScope st).names = kn; rw [hsc]
  refine ca_fn rest F hA.room hlen fun L => ?_
  rw [e L, en, hb]
  exact h q L (C.deeper (envK kn more q L f)) rfl hA.deeper (KN.of hk) ⟨of_decide_eq_true hn⟩
theorem ca_def0 {f : Addr} {st : Stmt} {n : Nat} {kn : List (Str × NameKind)} {more : List (Str × Const)} {b1 : Stmt} {bs : List Stmt} (rest : List Str) (F : FnSt C.B f st []) (hA : AOk C.A (n + 1)) (hsc : fScope st = ⟨.function, kn, false, false, more⟩) (hb : fBody st = b1 :: bs) (hk : knOk kn = true) (hn : decide (rest).Nodup = true)
    (h : ∀ q L C', C'.B = C.B → AOk C'.A n → KN kn → LN (rest) → Ex C' (envK kn more q L f) (.frame L kn (rest) (rest.map fun _ => none) :: μ) (b1 :: bs) (Leave L kn P) noX) : Ca C (.ref f) [] μ P X := ca_def rest F hA rfl hsc hb hk hn h
theorem ca_def1 {f : Addr} {st : Stmt} {n1 : Str} {d1 : D} {n : Nat} {kn : List (Str × NameKind)} {more : List (Str × Const)} {b1 : Stmt} {bs : List Stmt} (rest : List Str) (F : FnSt C.B f st [n1]) (hA : AOk C.A (n + 1)) (hsc : fScope st = ⟨.function, kn, false, false, more⟩) (hb : fBody st = b1 :: bs) (hk : knOk kn = true) (hn : decide (n1 :: rest).Nodup = true)
    (h : ∀ q L C', C'.B = C.B → AOk C'.A n → KN kn → LN (n1 :: rest) → Ex C' (envK kn more q L f) (.frame L kn (n1 :: rest) (some d1 :: rest.map fun _ => none) :: μ) (b1 :: bs) (Leave L kn P) noX) : Ca C (.ref f) [d1] μ P X := ca_def rest F hA rfl hsc hb hk hn h
theorem ca_def2 {f : Addr} {st : Stmt} {n1 n2 : Str} {d1 d2 : D} {n : Nat} {kn : List (Str × NameKind)} {more : List (Str × Const)} {b1 : Stmt} {bs : List Stmt} (rest : List Str) (F : FnSt C.B f st [n1, n2]) (hA : AOk C.A (n + 1)) (hsc : fScope st = ⟨.function, kn, false, false, more⟩) (hb : fBody st = b1 :: bs) (hk : knOk kn = true) (hn : decide (n1 :: n2 :: rest).Nodup = true)
    (h : ∀ q L C', C'.B = C.B → AOk C'.A n → KN kn → LN (n1 :: n2 :: rest) → Ex C' (envK kn more q L f) (.frame L kn (n1 :: n2 :: rest) (some d1 :: some d2 :: rest.map fun _ => none) :: μ) (b1 :: bs) (Leave L kn P) noX) : Ca C (.ref f) [d1, d2] μ P X := ca_def rest F hA rfl hsc hb hk hn h
theorem ca_def3 {f : Addr} {st : Stmt} {n1 n2 n3 : Str} {d1 d2 d3 : D} {n : Nat} {kn : List (Str × NameKind)} {more : List (Str × Const)} {b1 : Stmt} {bs : List Stmt} (rest : List Str) (F : FnSt C.B f st [n1, n2, n3]) (hA : AOk C.A (n + 1)) (hsc : fScope st = ⟨.function, kn, false, false, more⟩) (hb : fBody st = b1 :: bs) (hk : knOk kn = true) (hn : decide (n1 :: n2 :: n3 :: rest).Nodup = true)
    (h : ∀ q L C', C'.B = C.B → AOk C'.A n → KN kn → LN (n1 :: n2 :: n3 :: rest) → Ex C' (envK kn more q L f) (.frame L kn (n1 :: n2 :: n3 :: rest) (some d1 :: some d2 :: some d3 :: rest.map fun _ => none) :: μ) (b1 :: bs) (Leave L kn P) noX) : Ca C (.ref f) [d1, d2, d3] μ P X := ca_def rest F hA rfl hsc hb hk hn h
theorem ca_def4 {f : Addr} {st : Stmt} {n1 n2 n3 n4 : Str} {d1 d2 d3 d4 : D} {n : Nat} {kn : List (Str × NameKind)} {more : List (Str × Const)} {b1 : Stmt} {bs : List Stmt} (rest : List Str) (F : FnSt C.B f st [n1, n2, n3, n4]) (hA : AOk C.A (n + 1)) (hsc : fScope st = ⟨.function, kn, false, false, more⟩) (hb : fBody st = b1 :: bs) (hk : knOk kn = true) (hn : decide (n1 :: n2 :: n3 :: n4 :: rest).Nodup = true)
    (h : ∀ q L C', C'.B = C.B → AOk C'.A n → KN kn → LN (n1 :: n2 :: n3 :: n4 :: rest) → Ex C' (envK kn more q L f) (.frame L kn (n1 :: n2 :: n3 :: n4 :: rest) (some d1 :: some d2 :: some d3 :: some d4 :: rest.map fun _ => none) :: μ) (b1 :: bs) (Leave L kn P) noX) : Ca C (.ref f) [d1, d2, d3, d4] μ P X := ca_def rest F hA rfl hsc hb hk hn h
theorem ca_def5 {f : Addr} {st : Stmt} {n1 n2 n3 n4 n5 : Str} {d1 d2 d3 d4 d5 : D} {n : Nat} {kn : List (Str × NameKind)} {more : List (Str × Const)} {b1 : Stmt} {bs : List Stmt} (rest : List Str) (F : FnSt C.B f st [n1, n2, n3, n4, n5]) (hA : AOk C.A (n + 1)) (hsc : fScope st = ⟨.function, kn, false, false, more⟩) (hb : fBody st = b1 :: bs) (hk : knOk kn = true) (hn : decide (n1 :: n2 :: n3 :: n4 :: n5 :: rest).Nodup = true)
    (h : ∀ q L C', C'.B = C.B → AOk C'.A n → KN kn → LN (n1 :: n2 :: n3 :: n4 :: n5 :: rest) → Ex C' (envK kn more q L f) (.frame L kn (n1 :: n2 :: n3 :: n4 :: n5 :: rest) (some d1 :: some d2 :: some d3 :: some d4 :: some d5 :: rest.map fun _ => none) :: μ) (b1 :: bs) (Leave L kn P) noX) : Ca C (.ref f) [d1, d2, d3, d4, d5] μ P X := ca_def rest F hA rfl hsc hb hk hn h
end
end Mine

open PySem PyProof.Rows
set_option linter.unusedVariables false
namespace Mine

/-- plain data of at most such depth, truths aside -/
inductive Pl : Nat → D → Prop
  | none {n : Nat} : Pl n .none
  | int {n : Nat} (i : Int) : Pl n (.int i)
  | str {n : Nat} {x : Str} : PyData.strOk x = true → Pl n (.str x)
  | tup {n : Nat} {ds : List D} : (∀ d ∈ ds, Pl n d) → Pl (n + 1) (.tup ds)
  | lst {n : Nat} {ds : List D} : (∀ d ∈ ds, Pl n d) → Pl (n + 1) (.lst ds)
theorem plainDs_of : ∀ {ds : List D}, (∀ d ∈ ds, plainD d = true) → plainDs ds = true
  | [], _ => rfl
  | d :: ds, h => by simp only [plainDs, Bool.and_eq_true]; exact ⟨h d (.head _), plainDs_of fun x hx => h x (.tail _ hx)⟩
theorem toPs_map : ∀ (ds : List D), toPs ds = ds.map toP
  | [] => rfl
  | d :: ds => by simp only [toPs, toPs_map ds, List.map_cons]
theorem canLayAll_of : ∀ {ds : List D}, (∀ d ∈ ds, (toP d).canLay0 = true) → PyData.canLayAll0 (toPs ds) = true
  | [], _ => rfl
  | d :: ds, h => by simp only [toPs, PyData.canLayAll0, Bool.and_eq_true]; exact ⟨h d (.head _), canLayAll_of fun x hx => h x (.tail _ hx)⟩
theorem depthAll_of {n : Nat} : ∀ {ds : List D}, (∀ d ∈ ds, (toP d).depth ≤ n) → PyData.depthAll (toPs ds) ≤ n
  | [], _ => Nat.zero_le _
  | d :: ds, h => by simp only [toPs, PyData.depthAll]; exact Nat.max_le.mpr ⟨h d (.head _), depthAll_of fun x hx => h x (.tail _ hx)⟩
theorem Pl.plain {n : Nat} {d : D} (h : Pl n d) : plainD d = true ∧ (toP d).canLay0 = true ∧ (toP d).depth ≤ n := by
  induction h with
  | none => simp [plainD, toP, PyData.canLay0, PyData.depth]
  | int i => simp [plainD, toP, PyData.canLay0, PyData.depth]
  | str hx => simp [plainD, toP, PyData.canLay0, PyData.depth, hx]
  | tup _ ih => simp only [plainD, toP, PyData.canLay0, PyData.depth]; exact ⟨plainDs_of fun x hx => (ih x hx).1, canLayAll_of fun x hx => (ih x hx).2.1, Nat.succ_le_succ (depthAll_of fun x hx => (ih x hx).2.2)⟩
  | lst _ ih => simp only [plainD, toP, PyData.canLay0, PyData.depth]; exact ⟨plainDs_of fun x hx => (ih x hx).1, canLayAll_of fun x hx => (ih x hx).2.1, Nat.succ_le_succ (depthAll_of fun x hx => (ih x hx).2.2)⟩
theorem Pl.shaped {n : Nat} {d : D} (h : Pl n d) (hn : n ≤ 64) : SeqAt.shaped (toP d) = true := by
  unfold SeqAt.shaped
  rw [h.plain.2.1, decide_eq_true (Nat.le_trans h.plain.2.2 hn)]; rfl
theorem eqvAll_iff : ∀ {ds es : List D}, (∀ d ∈ ds, ∀ e ∈ es, PyData.eqv (toP d) (toP e) = true ↔ d = e) → (PyData.eqvAll (toPs ds) (toPs es) = true ↔ ds = es)
  | [], [], _ => by simp [toPs, PyData.eqvAll]
  | [], _ :: _, _ => by simp [toPs, PyData.eqvAll]
  | _ :: _, [], _ => by simp [toPs, PyData.eqvAll]
  | d :: ds, e :: es, h => by
    simp only [toPs, PyData.eqvAll, Bool.and_eq_true, List.cons.injEq]
    rw [h d (.head _) e (.head _), eqvAll_iff fun x hx y hy => h x (.tail _ hx) y (.tail _ hy)]
theorem Pl.eqv_iff {n : Nat} {d : D} (h : Pl n d) : ∀ {m : Nat} {e : D}, Pl m e → (PyData.eqv (toP d) (toP e) = true ↔ d = e) := by
  induction h with
  | none => intro m e he; cases he <;> simp [toP, PyData.eqv]
  | int i => intro m e he; cases he <;> simp [toP, PyData.eqv]
  | str hx => intro m e he; cases he <;> simp [toP, PyData.eqv]
  | tup _ ih =>
    intro m e he
    cases he with
    | tup he => simp only [toP, PyData.eqv, D.tup.injEq]; exact eqvAll_iff fun x hx y hy => ih x hx (he y hy)
    | _ => simp [toP, PyData.eqv]
  | lst _ ih =>
    intro m e he
    cases he with
    | lst he => simp only [toP, PyData.eqv, D.lst.injEq]; exact eqvAll_iff fun x hx y hy => ih x hx (he y hy)
    | _ => simp [toP, PyData.eqv]
theorem Pl.ints {n : Nat} (ns : List Int) : Pl (n + 1) (.lst (intsD ns)) := .lst fun d hd => by
  obtain ⟨i, _, rfl⟩ := List.mem_map.mp hd; exact .int i

section
variable {C : Cx} {env : Env} {μ : List MO} {P X : Post}
theorem cmp_eqP {d e d' e' : D} {n m : Nat} {P : Bool → List MO → Prop} (hd : Seen μ d d') (he : Seen μ e e') (pd : Pl n d') (pe : Pl m e') (hn : n ≤ 64) (hm : m ≤ 64) (hu : C.A.units + 64 < cLine)
    (h : ∀ c, (c = true ↔ d' = e') → P c μ) : Cmp C .Eq d e μ P X :=
  cmp_eqD hd he pd.plain.1 pe.plain.1 (pd.shaped hn) (pe.shaped hm) hu (h _ (pd.eqv_iff pe))
theorem cmp_neP {d e d' e' : D} {n m : Nat} {P : Bool → List MO → Prop} (hd : Seen μ d d') (he : Seen μ e e') (pd : Pl n d') (pe : Pl m e') (hn : n ≤ 64) (hm : m ≤ 64) (hu : C.A.units + 64 < cLine)
    (h : ∀ c, (c = true ↔ ¬ d' = e') → P c μ) : Cmp C .NotEq d e μ P X := by
  refine cmp_neD hd he pd.plain.1 pe.plain.1 (pd.shaped hn) (pe.shaped hm) hu (h _ ?_)
  rw [← pd.eqv_iff pe]; simp

def freeOk (sn kn : List (Str × NameKind)) : Bool := sn.all fun p => p.2 != .free || kn.contains (p.1, .cell)
theorem free_ok {kn : List (Str × NameKind)} {more : List (Str × Const)} {q : Fq} {L f : Addr} {scope : Scope} (K : KN kn) (h : freeOk scope.names kn = true) : ∀ x, (x, NameKind.free) ∈ scope.names → ∃ c, (envK kn more q L f).cells.lookup x = some c := fun x hx => by
  have := List.all_eq_true.mp h _ hx
  simp at this
  exact K.cell this L
theorem KN.ofS {scope : Scope} (h : knOk scope.names = true) : KN scope.names := KN.of h
/-- a comprehension with no test -/
theorem cmap {d : D} {ds : List D} {scope : Scope} {tn : List Str} {target elt : Expr} {Q : List D → List MO → Prop} (g : Nat → D) (hit : Itb C d ds (CompI μ)) (hl : ds.length ≤ sizeLine)
    (turn : ∀ i x, ds[i]? = some x → ∀ cl Lc, ClOk scope env cl → Asg C (compEnvC scope cl Lc env) (.frame Lc [] tn (tn.map fun _ => none) :: μ) target x (fun μ2 => Ev C (compEnvC scope cl Lc env) μ2 elt (fun y μ4 => y = g i ∧ ∃ vs, μ4 = .frame Lc [] tn vs :: μ) noX) noX)
    (h : Q ((List.range ds.length).map g) μ) :
    ∃ ds, ∃ G : Nat → List D, Itb C d ds (CompI μ) ∧ G 0 = [] ∧ (∀ i, (G i).length ≤ sizeLine) ∧ (∀ i d, ds[i]? = some d → CompTurn C env scope tn μ target elt [] d (G i) (G (i + 1))) ∧ Q (G ds.length) μ := by
  refine ⟨ds, fun n => (List.range (min n ds.length)).map g, hit, rfl, fun i => ?_, fun i x hx cl Lc hcl => ?_, ?_⟩
  · simp only [List.length_map, List.length_range]; omega
  · have hi := (List.getElem?_eq_some_iff.mp hx).1
    intro T v hv ρ s Q E st hQ hE
    refine turn i x hx cl Lc hcl T v hv ρ s Q E st (fun μ' s' h' st' => hQ μ' s' (ifs_nil ⟨fun _ => ?_, fun q => nomatch q⟩) st') hE
    refine TrV.mono h' (fun y μ'' ⟨e, r⟩ => ⟨?_, r⟩) fun _ _ q => q
    subst e
    dsimp only
    rw [Nat.min_eq_left (show i + 1 ≤ ds.length from hi), Nat.min_eq_left (Nat.le_of_lt hi), List.range_succ, List.map_append]; rfl
  · simp only [Nat.min_self]; exact h

/-- the turns of a comprehension with no test -/
def CTurns (C : Cx) (env : Env) (scope : Scope) (tn : List Str) (target elt : Expr) (μ : List MO) (ds : List D) (g : Nat → D) : Prop :=
  ∀ i x, ds[i]? = some x → ∀ cl Lc, KN scope.names → LN tn → ClOk scope env cl → Asg C (compEnvC scope cl Lc env) (.frame Lc [] tn (tn.map fun _ => none) :: μ) target x (fun μ2 => Ev C (compEnvC scope cl Lc env) μ2 elt (fun y μ4 => y = g i ∧ ∃ vs, μ4 = .frame Lc [] tn vs :: μ) noX) noX
theorem ev_cmap {target iter elt : Expr} {kn : List (Str × NameKind)} {more : List (Str × Const)} {q : Fq} {L f : Addr} {scope : Scope} {pos : Pos} (tn : List Str) (K : KN kn)
    (h : Ev C (envK kn more q L f) μ iter (fun d μ1 => ∃ ds g, Itb C d ds (CompI μ1) ∧ ds.length ≤ sizeLine ∧ CTurns C (envK kn more q L f) scope tn target elt μ1 ds g ∧ P (.lst ((List.range ds.length).map g)) μ1) X)
    (hfr : freeOk scope.names kn = true) (hsc : compScope scope = true) (hk : knOk scope.names = true) (hn : decide tn.Nodup = true) (hkind : scope.kind = .function) (ht : ∀ it v, letOwnedTupleGo target it v = pure ()) (hs : ∀ x, foldedSetIterable iter (envK kn more q L f) x = pure x) :
    Ev C (envK kn more q L f) μ (.ListComp elt [⟨target, iter, [], 0⟩] scope pos) P X :=
  ev_comp tn (TrV.mono h (fun d μ1 ⟨ds, g, h1, h2, h3, h4⟩ => cmap (Q := fun ds μ => P (.lst ds) μ) g h1 h2 (fun i x hx cl Lc hcl => h3 i x hx cl Lc (KN.of hk) ⟨of_decide_eq_true hn⟩ hcl) h4) fun _ _ x => x) (free_ok K hfr) hsc hkind ht hs
theorem ex_assign_cmap {x : Str} {p : Pos} {target iter elt : Expr} {kn : List (Str × NameKind)} {more : List (Str × Const)} {q : Fq} {L f : Addr} {scope : Scope} {pos cpos : Pos} {P : Fw → List MO → Prop} (tn : List Str) (K : KN kn)
    (h : Ev C (envK kn more q L f) μ iter (fun d μ1 => ∃ ds g, Itb C d ds (CompI μ1) ∧ ds.length ≤ sizeLine ∧ CTurns C (envK kn more q L f) scope tn target elt μ1 ds g ∧ Sto C (envK kn more q L f) μ1 x (.lst ((List.range ds.length).map g)) (P .next) X) X)
    (hsw : swapsWith (.ListComp elt [⟨target, iter, [], 0⟩] scope cpos) (some (.Name x p)) pos.line (envK kn more q L f) = pure true)
    (hfr : freeOk scope.names kn = true) (hsc : compScope scope = true) (hk : knOk scope.names = true) (hn : decide tn.Nodup = true) (hkind : scope.kind = .function) (ht : ∀ it v, letOwnedTupleGo target it v = pure ()) (hs : ∀ x, foldedSetIterable iter (envK kn more q L f) x = pure x) :
    Ex1 C (envK kn more q L f) μ (.Assign [.Name x p] (.ListComp elt [⟨target, iter, [], 0⟩] scope cpos) pos) P X :=
  ex_assign_comp tn (TrV.mono h (fun d μ1 ⟨ds, g, h1, h2, h3, h4⟩ => cmap (Q := fun ds μ => Sto C (envK kn more q L f) μ x (.lst ds) (P .next) X) g h1 h2 (fun i x hx cl Lc hcl => h3 i x hx cl Lc (KN.of hk) ⟨of_decide_eq_true hn⟩ hcl) h4) fun _ _ x => x) hsw (free_ok K hfr) hsc hkind ht hs
theorem range_ints (n : Nat) (g : Nat → Int) : (List.range n).map (fun i => D.int (g i)) = intsD ((List.range n).map g) := by simp [intsD]
theorem range_getD (ns : List Int) (g : Int → Int) : (List.range ns.length).map (fun i => g (ns.getD i 0)) = ns.map g := by
  refine List.ext_getElem (by simp) fun i h1 h2 => ?_
  simp at h1 h2 ⊢
  simp [h1]
end
end Mine

open PySem PySem.W PyProof.Rows
set_option linter.unusedVariables false
namespace Mine

def recOf : Stmt → DefRec
  | .FunctionDef name a b _ _ _ sc _ _ pos => ⟨name, a, b, sc, pos⟩
  | _ => ⟨Str.empty, ⟨[], [], none, [], [], none, []⟩, [], ⟨.function, [], false, false, []⟩, ⟨0, 0, 0, 0⟩⟩
def scOk (sc : Scope) : Bool := !sc.isCoroutine && !sc.isGenerator && (match sc.kind with | .function => true | _ => false)
theorem fnSt_of {p : Program} {loose : List Str} {mean : ExcName → Option Value} {mg mb : Str → Option Value} {B : Shared} (T : Top p loose mean mg mb B.heap) {d : DefRec} {st : Stmt} {names : List Str} (i : Nat) (h : (recsOf p)[i]? = some d) (hd : d = recOf st) (hn : decide names.Nodup = true) (hok : paramsOk (recOf st).scope.names names = true) (hsc : scOk (recOf st).scope = true)
    (hpar : fParams st = (recOf st).params) (hbody : fBody st = (recOf st).body) (hscope : fScope st = (recOf st).scope)
    (hb : ∀ pm cd doc (vs : List Value), vs.length = names.length → bindArgs (Calls.docDef (recOf st).name (recOf st).params (recOf st).body (recOf st).scope pm cd doc) ⟨vs, []⟩ = pure (names.zip vs)) :
    ∃ a, mg d.name = some (.ref a) ∧ FnSt B a st names := by
  obtain ⟨a, o, pm, code, doc, h1, h2, h3, h4⟩ := T.fn d (List.mem_of_getElem? h)
  subst hd
  obtain ⟨hs1, hs2⟩ := Bool.and_eq_true_iff.mp hsc
  obtain ⟨hs3, hs4⟩ := Bool.and_eq_true_iff.mp hs1
  refine ⟨a, h1, ⟨(recOf st).name, (recOf st).name, .none, .none, doc, pm, none, code, .none⟩, ?_⟩
  have e : mkFd st ⟨(recOf st).name, (recOf st).name, .none, .none, doc, pm, none, code, .none⟩ = Calls.docDef (recOf st).name (recOf st).params (recOf st).body (recOf st).scope pm code doc := by
    unfold mkFd Calls.docDef
    rw [hpar, hbody, hscope]
  rw [e]
  refine ⟨⟨o, h2, h3⟩, T.nolimit, h4, by rw [hbody]; rfl, rfl, hb pm code doc, of_decide_eq_true hn, hok, by simpa [Calls.docDef] using hs3, by simpa [Calls.docDef] using hs4, ?_⟩
  show (recOf st).scope.kind = .function
  revert hs2; cases (recOf st).scope.kind <;> simp
theorem FnSt.func {B : Shared} {a : Addr} {st : Stmt} {names : List Str} (h : FnSt B a st names) : ∃ fo fd, B.heap.get? a = some fo ∧ fo.data = .func fd := by
  obtain ⟨q, F⟩ := h
  obtain ⟨fo, h1, h2⟩ := F.obj
  exact ⟨fo, _, h1, h2⟩

theorem reps_ints {φ : FM} : ∀ {vs : List Value} {ns : List Int}, IntsAre vs ns → Reps φ vs (intsD ns)
  | _, _, .nil => .nil
  | _, _, .cons n t h => .cons (.int n t) (reps_ints h)
def gsOk (mg : Str → Option Value) : List (Str × Value) → Prop
  | [] => True
  | (n, v) :: r => mg n = some v ∧ gsOk mg r
theorem gsOk.at {mg : Str → Option Value} : ∀ {l : List (Str × Value)}, gsOk mg l → ∀ n v, (n, v) ∈ l → mg n = some v
  | _ :: _, ⟨h1, h2⟩, n, v, hm => by
    rcases List.mem_cons.mp hm with e | hm
    · cases e; exact h1
    · exact gsOk.at h2 n v hm
def fnsOk (B : Shared) : List (Str × Value) → Prop
  | [] => True
  | (n, v) :: r => (∀ f, v = .ref f → ∃ fo fd, B.heap.get? f = some fo ∧ fo.data = .func fd) ∧ fnsOk B r
theorem fnsOk.at {B : Shared} : ∀ {l : List (Str × Value)}, fnsOk B l → ∀ n f, (n, Value.ref f) ∈ l → ∃ fo fd, B.heap.get? f = some fo ∧ fo.data = .func fd
  | _ :: _, ⟨h1, h2⟩, n, f, hm => by
    rcases List.mem_cons.mp hm with e | hm
    · cases e; exact h1 f rfl
    · exact fnsOk.at h2 n f hm
def boots : List (Str × Value) → Prop
  | [] => True
  | (n, v) :: r => bootBuiltins n = some v ∧ boots r
def freeNames (p : Program) (loose : List Str) (l : List Str) : Bool := l.all fun x => !startupNames.contains x && !loose.contains x && !((recsOf p).map (·.name)).contains x && !((litsOf p).map (·.1)).contains x && !((clssOf p loose).map (·.name)).contains x
theorem gOk_of {p : Program} {loose : List Str} {mean : ExcName → Option Value} {mg mb : Str → Option Value} {B : Shared} (T : Top p loose mean mg mb B.heap) {gt bt : List (Str × Value)} (h1 : gsOk mg gt) (h2 : fnsOk B gt) (h3 : boots bt) (h4 : freeNames p loose (bt.map (·.1)) = true) : GOk B gt bt := by
  refine ⟨⟨mg, mb, T.g, T.b, h1.at, ?_⟩, h2.at⟩
  have aux : ∀ {l : List (Str × Value)}, boots l → freeNames p loose (l.map (·.1)) = true → ∀ n v, (n, v) ∈ l → mg n = none ∧ mb n = some v := by
    intro l
    induction l with
    | nil => intro _ _ _ _ q; cases q
    | cons y r ih =>
      obtain ⟨m, u⟩ := y
      intro hb hf n v hm
      obtain ⟨hf1, hf2⟩ := (show _ ∧ _ by simpa only [freeNames, List.map_cons, List.all_cons, Bool.and_eq_true] using hf)
      rcases List.mem_cons.mp hm with e | hm
      · cases e
        simp only [Bool.not_eq_true', List.contains_eq_mem, decide_eq_false_iff_not] at hf1
        obtain ⟨⟨⟨⟨a1, a2⟩, a3⟩, a4⟩, a5⟩ := hf1
        refine ⟨T.free _ a1 a2 a3 a4 a5, (T.builtins _ fun e => a1 ?_).trans hb.1⟩
        rw [e]; exact .head _
      · exact ih hb.2 (by simpa only [freeNames] using List.all_eq_true.mpr (by simpa using hf2)) n v hm
  exact aux h3 h4
theorem const_int {p : Program} {loose : List Str} {mean : ExcName → Option Value} {mg mb : Str → Option Value} {h : Heap} (T : Top p loose mean mg mb h) {x : Str} {i : Int} (hv : valOf p x = some (.int i)) : ∃ t, mg x = some (.int i t) := by
  obtain ⟨v, h1, h2⟩ := T.const x _ hv
  have := h2 h
  cases this
  exact ⟨_, h1⟩
/-- the start -/
theorem St.start {B : Shared} (hg : B.gens = #[]) {a : Addr} {vs : List Value} {ns : List Int} (hL : B.heap.IsList a vs.toArray) (hI : IntsAre vs ns) : St B [(.ref a, .lst (intsD ns))] [] B := by
  obtain ⟨o, h1, h2, n, h3⟩ := hL
  refine ⟨⟨B.heap.get?, fun _ _ e => e, fun _ _ e => e, fun _ q => (nomatch q), fun _ q => (nomatch q), .nil, fun p hp => ?_⟩, rfl, hg⟩
  rw [List.mem_singleton] at hp; subst hp
  exact .lst h1 h2 h3 (reps_ints hI)
theorem callerA_ok {n : Nat} (h : n ≤ 100) : AOk callerA n :=
  ⟨rfl, Nat.lt_of_le_of_lt (Nat.add_le_add_left h _) (by decide), Nat.lt_of_le_of_lt (Nat.add_le_add_left (Nat.mul_le_mul_left 4 h) _) (by decide)⟩
theorem law_done {prog : Program} {w : World} {s₁ : Shared} {fa a : Addr} {vs : List Value} {ns : List Int} {Q E : Value → Shared → Prop} (hg : s₁.gens = #[]) (hL : s₁.heap.IsList a vs.toArray) (hI : IntsAre vs ns) (h : Ca ⟨prog, w, callerA, s₁⟩ (.ref fa) [.lst (intsD ns)] [] (fun d _ => d = .bool true) noX)
    (hQ : ∀ s' : Shared, (∀ b o, s₁.heap.get? b = some o → s'.heap.get? b = some o) → s'.os = s₁.os → s'.gens = #[] → Q (.bool true) s') : wpAny (model prog w) callerA (call (.ref fa) [.ref a]) Q E s₁ := by
  refine h [(.ref a, .lst (intsD ns))] [.ref a] rfl (fun p hp => by simpa using hp) [] s₁ Q E (St.start hg hL hI) ?_ fun _ _ _ _ h => h.elim
  intro v d μ' s' hd st
  subst hd
  have e := st.isBool (.head _); subst e
  exact hQ s' (fun b o e => st.stays b o e) st.os st.gens
end Mine

open PySem PyProof.Rows
set_option linter.unusedVariables false
set_option maxRecDepth 100000
namespace Mine
local macro_rules | `(tactic| walk_at "m_arith") => `(tactic| first | decide | omega)
local macro_rules | `(tactic| walk_at "m_mem") => `(tactic| first
  | (with_reducible exact mHead)
  | ((with_reducible refine' mTail ?kx); (case kx => walk_at "m_mem")))
local macro_rules | `(tactic| walk_at "m_look") => `(tactic| first
  | (with_reducible exact Look.here)
  | ((with_reducible refine' Look.there ?kx); (case kx => walk_at "m_look")))
local macro_rules | `(tactic| walk_at "m_upd") => `(tactic| first
  | (with_reducible exact Upd.here)
  | ((with_reducible refine' Upd.there ?kx); (case kx => walk_at "m_upd")))
local macro_rules | `(tactic| walk_at "m_kind") => `(tactic| first
  | ((with_reducible refine' kindK ?k1 ?k2); (case k1 => with_reducible assumption); (case k2 => walk_at "m_mem"))
  | ((with_reducible refine' kindC ?k0 ?k1 ?k2 ?k3); (case k0 => exact rfl); (case k1 => with_reducible assumption); (case k2 => walk_at "m_mem"); (case k3 => decide)))
local macro_rules | `(tactic| walk_at "m_name") => `(tactic| first
  | ((with_reducible refine' nm_local ?k1 ?k2 ?k3 ?_); (case k1 => with_reducible assumption); (case k2 => walk_at "m_mem"); (case k3 => walk_at "m_look"))
  | ((with_reducible refine' nm_cell ?k1 ?k2 ?k3 ?_); (case k1 => with_reducible assumption); (case k2 => walk_at "m_mem"); (case k3 => walk_at "m_look"))
  | ((with_reducible refine' nc_local ?k0 ?k1 ?k2 ?k3 ?_); (case k0 => exact rfl); (case k1 => with_reducible assumption); (case k2 => walk_at "m_mem"); (case k3 => walk_at "m_look"))
  | ((with_reducible refine' nc_cap ?k0 ?k1 ?k2 ?k3 ?k4 ?k5 ?k6 ?_); (case k0 => exact rfl); (case k1 => with_reducible assumption); (case k2 => with_reducible assumption); (case k3 => with_reducible assumption); (case k4 => walk_at "m_mem"); (case k5 => walk_at "m_mem"); (case k6 => walk_at "m_look"))
  | ((with_reducible refine' ev_g ?k0 ?k1 ?k2 ?k3 ?k4 ?_); (case k0 => with_reducible assumption); (case k1 => walk_at "m_kind"); (case k2 => exact rfl); (case k3 => walk_at "m_mem"); (case k4 => exact fun _ => Rep.int _ _))
  | ((with_reducible refine' ev_b ?k0 ?k1 ?k2 ?k3 ?k4 ?_); (case k0 => with_reducible assumption); (case k1 => walk_at "m_kind"); (case k2 => exact rfl); (case k3 => exact rfl); (case k4 => walk_at "m_mem")))
local macro_rules | `(tactic| walk_at "m_sto") => `(tactic| first
  | ((with_reducible refine' st_local ?k1 ?k2 ?k3 ?k4 ?_); (case k1 => with_reducible assumption); (case k2 => with_reducible assumption); (case k3 => walk_at "m_mem"); (case k4 => walk_at "m_upd"))
  | ((with_reducible refine' st_cell ?k1 ?k2 ?k3 ?k4 ?_); (case k1 => with_reducible assumption); (case k2 => with_reducible assumption); (case k3 => walk_at "m_mem"); (case k4 => walk_at "m_upd"))
  | ((with_reducible refine' st_comp ?k0 ?k1 ?k2 ?k3 ?k4 ?_); (case k0 => exact rfl); (case k1 => with_reducible assumption); (case k2 => with_reducible assumption); (case k3 => walk_at "m_mem"); (case k4 => walk_at "m_upd")))
local macro_rules | `(tactic| walk_at "m_mul") => `(tactic| first
  | exact IntMulOk.of_left (intBits_le_64 (by walk_at "m_arith") (by walk_at "m_arith"))
  | exact IntMulOk.of_right (intBits_le_64 (by walk_at "m_arith") (by walk_at "m_arith")))
local macro_rules | `(tactic| walk_at "m_call") => `(tactic| first
  | ((with_reducible refine' call_g ?k0 ?k1 ?k2 ?k3 ?k4 ?_); (case k0 => with_reducible assumption); (case k3 => walk_at "m_mem"); (case k1 => walk_at "m_kind"); (case k2 => exact rfl); (case k4 => exact rfl))
  | ((with_reducible refine' call_b ?k0 ?k1 ?k2 ?k3 ?k4 ?k5 ?_); (case k0 => with_reducible assumption); (case k4 => walk_at "m_mem"); (case k1 => walk_at "m_kind"); (case k2 => exact rfl); (case k3 => exact rfl); (case k5 => exact rfl))
  | ((with_reducible refine' call_t ?k0 ?k1 ?k2 ?k3 ?k4 ?k5 ?_); (case k0 => with_reducible assumption); (case k4 => walk_at "m_mem"); (case k1 => walk_at "m_kind"); (case k2 => exact rfl); (case k3 => exact rfl); (case k5 => exact rfl)))
local macro_rules | `(tactic| walk_at "m_bin") => `(tactic| first
  | (with_reducible refine bin_add ?_)
  | (with_reducible refine bin_sub ?_)
  | (with_reducible refine bin_mod (by walk_at "m_arith") ?_)
  | (with_reducible refine bin_div (by walk_at "m_arith") (by walk_at "m_arith") ?_)
  | (with_reducible refine bin_mul (by walk_at "m_mul") ?_)
  | (with_reducible refine bin_shl (by walk_at "m_arith") (by walk_at "m_arith") (by decide) ?_)
  | (with_reducible refine bin_shr (by walk_at "m_arith") ?_))
local macro_rules | `(tactic| walk_at "m_cmp") => `(tactic| first
  | (with_reducible refine cmp_lt ?_)
  | (with_reducible refine cmp_le ?_)
  | (with_reducible refine cmp_gt ?_)
  | (with_reducible refine cmp_ge ?_)
  | (with_reducible refine cmp_eq ?_)
  | (with_reducible refine cmp_ne ?_))
local macro_rules | `(tactic| walk_at "m_ev") => `(tactic| first
  | walk_at "m_name"
  | (with_reducible refine ev_int ?_)
  | walk_at "m_call"
  | (with_reducible refine ev_BinOp ?_)
  | (with_reducible refine ev_Compare ?_ rfl)
  | (with_reducible refine ev_BoolOp ?_)
  | (with_reducible refine ev_Not ?_)
  | (with_reducible refine ev_str ?_)
  | (with_reducible refine ev_none ?_)
  | (with_reducible refine ev_bool ?_)
  | (with_reducible refine ev_Chain2 ?_ rfl)
  | (with_reducible refine ev_slice ?_)
  | (with_reducible refine ev_Subscript ?_))
local macro_rules | `(tactic| walk_at "m_st") => `(tactic| first
  | (with_reducible refine ex_assign ?_ rfl)
  | (with_reducible refine ex_If ?_)
  | (with_reducible refine ex_Return ?_)
  | (with_reducible refine ex_Return0 ?_)
  | (with_reducible refine ex_Expr ?_ rfl rfl))
local macro_rules | `(tactic| walk_at "m_te") => `(tactic| first
  | (with_reducible refine te_Not ?_)
  | (with_reducible refine te_BoolOp ?_)
  | (with_reducible refine te_Compare ?_ rfl)
  | (with_reducible refine te_Chain2 ?_ rfl)
  | (with_reducible refine te_value ?_ rfl))
local macro_rules | `(tactic| walk_at "m_log") => `(tactic| first
  | (with_reducible refine evb_and ?_)
  | (with_reducible refine evb_or ?_)
  | (with_reducible refine evb_one ?_)
  | (with_reducible refine tel_and ?_)
  | (with_reducible refine tel_or ?_)
  | (with_reducible refine tel_and_nil ?_)
  | (with_reducible refine tel_or_nil ?_))
local macro_rules | `(tactic| walk_at "m_end") => `(tactic| first
  | (with_reducible refine seq_next ?_)
  | (with_reducible refine seq_ret ?_)
  | (with_reducible refine turn_next ?_)
  | (with_reducible refine turn_ret ?_)
  | (with_reducible refine leave_ret ?_)
  | (with_reducible refine leave_next ?_)
  | (with_reducible refine cut_next ?_)
  | (with_reducible refine cut_ret ?_)
  | (with_reducible refine seq_brk ?_)
  | (with_reducible refine seq_cont ?_)
  | (with_reducible refine turn_brk ?_)
  | (with_reducible refine turn_cont ?_)
  | (with_reducible refine cut_brk ?_)
  | (with_reducible refine cut_cont ?_))
local macro_rules | `(tactic| walk_at "m") => `(tactic| first
  | ((with_reducible refine gEv ?_); walk_at "m_ev")
  | ((with_reducible refine gEx1 ?_); walk_at "m_st")
  | (with_reducible refine ex_seq ?_)
  | (with_reducible refine ex_nil ?_)
  | ((with_reducible refine gTe ?_); walk_at "m_te")
  | (with_reducible refine evl_cons ?_)
  | (with_reducible refine evl_nil ?_)
  | ((with_reducible refine gBin ?_); walk_at "m_bin")
  | ((with_reducible refine gCmp ?_); walk_at "m_cmp")
  | ((with_reducible refine gSto ?_); walk_at "m_sto")
  | (with_reducible refine asg_name ?_)
  | (with_reducible refine evo_none ?_)
  | (with_reducible refine evo_some ?_)
  | walk_at "m_log"
  | walk_at "m_end")
local macro_rules | `(tactic| walk_at "k") => `(tactic| ((fail_if_success (with_reducible refine gIf ?_)); walk_at "m"))

abbrev p01 : Program := PySem.Challenge.pw_uf040014_01

structure Ad where
  is_within : Addr
  need_bound : Addr
  need_lengths : Addr
  room : Addr
  counted : Addr
  cell : Addr
  whole : Addr
  doubled : Addr
  tb : Tok
  ts : Tok
abbrev gt (ad : Ad) : List (Str × Value) := [("is_within", .ref ad.is_within), ("need_bound", .ref ad.need_bound), ("need_lengths", .ref ad.need_lengths), ("room", .ref ad.room), ("counted", .ref ad.counted), ("_law_cell", .ref ad.cell), ("_law_whole", .ref ad.whole), ("_law_doubled", .ref ad.doubled), ("MOST_BOUND", .int 12 ad.tb), ("MOST_SIGNS", .int 24 ad.ts)]
abbrev bt : List (Str × Value) := [("len", .builtin "len"), ("isinstance", .builtin "isinstance"), ("int", .type "int"), ("bool", .type "bool"), ("list", .type "list"), ("sum", .builtin "sum"), ("range", .type "range")]
structure P01 (B : Shared) (ad : Ad) : Prop where
  g : GOk B (gt ad) bt
  is_within : FnSt B ad.is_within (stAt p01 7) ["thing", "least", "most"]
  need_bound : FnSt B ad.need_bound (stAt p01 8) ["bound"]
  need_lengths : FnSt B ad.need_lengths (stAt p01 9) ["lengths", "bound"]
  room : FnSt B ad.room (stAt p01 11) ["bound"]
  counted : FnSt B ad.counted (stAt p01 12) ["lengths", "bound"]
  cell : FnSt B ad.cell (stAt p01 14) ["_law_script", "_law_k"]
  whole : FnSt B ad.whole (stAt p01 15) ["_law_found"]
  doubled : FnSt B ad.doubled (stAt p01 16) ["_law_times"]

section
variable {C : Cx} {ad : Ad} {μ : List MO} {P X : Post} {n : Nat}

def withinD (d : D) (a b : Int) : Bool := match d with
  | .int i => decide (a ≤ i) && decide (i ≤ b)
  | _ => false

theorem Kd.cons {d : D} {K : String} (k : Kd μ d K) (x : MO) : Kd (x :: μ) d K := by
  cases k with
  | own h => exact .own (.tail _ h)
  | _ => constructor
theorem is_within_ca {d : D} {K : String} {a b : Int} (H : P01 C.B ad) (hA : AOk C.A 1) (k : Kd μ d K) (h : P (.bool (withinD d a b)) μ) : Ca C (.ref ad.is_within) [d, .int a, .int b] μ P X := by
  refine ca_def3 [] H.is_within hA rfl rfl (by decide +kernel) (by decide +kernel) fun q L C' hB hA' K N => ?_
  rw [← hB] at H
  have G := H.g
  unfold gt bt at G
  simp only [List.map]
  repeat' (walk_at "m")
  refine ca_isi (k.cons _) (by decide) ⟨_, rfl, fun h1 => ?_, fun h1 => ?_⟩
  · repeat' (walk_at "m")
    refine ca_isi (k.cons _) (by decide) ⟨_, rfl, ⟨_, rfl, fun h2 => ?_, fun h2 => ?_⟩⟩
    · cases k <;> simp [isT] at h1 h2
      repeat' (walk_at "m")
      refine ⟨fun h3 => ?_, fun h3 => ?_⟩
      · repeat' (walk_at "m")
        have : withinD (.int ‹Int›) a b = decide (‹Int› ≤ b) := by simp at h3; simp [withinD, h3]
        rw [← this]; exact h
      · repeat' (walk_at "m")
        have : withinD (.int ‹Int›) a b = false := by simp at h3; simp [withinD]; omega
        rw [← this]; exact h
    · cases k <;> simp [isT] at h1 h2
      repeat' (walk_at "m")
      exact h
  · repeat' (walk_at "m")
    cases k <;> simp [isT] at h1 <;> exact h

theorem withinD_int {i a b : Int} (h1 : a ≤ i) (h2 : i ≤ b) : withinD (.int i) a b = true := by simp [withinD, h1, h2]
theorem need_bound_ca {b : Int} (H : P01 C.B ad) (hA : AOk C.A 2) (h1 : 1 ≤ b) (h2 : b ≤ 12) (h : P .none μ) : Ca C (.ref ad.need_bound) [.int b] μ P X := by
  refine ca_def1 [] H.need_bound hA rfl rfl (by decide +kernel) (by decide +kernel) fun q L C' hB hA' K N => ?_
  rw [← hB] at H
  have G := H.g
  unfold gt bt at G
  simp only [List.map]
  repeat' (walk_at "m")
  refine is_within_ca H hA' (.int _) ?_
  rw [withinD_int h1 h2]
  refine ⟨_, rfl, fun h3 => absurd h3 (by decide), fun h3 => ?_⟩
  repeat' (walk_at "m")
  exact h
theorem intsD_get {ns : List Int} {i : Nat} (h : i < ns.length) : (intsD ns)[i]? = some (.int (ns.getD i 0)) := by
  simp [intsD, List.getD, h]
theorem intsD_at {ns : List Int} {i : Nat} {d : D} (h : (intsD ns)[i]? = some d) : ∃ k, ns[i]? = some k ∧ d = .int k := by
  simp only [intsD, List.getElem?_map, Option.map_eq_some_iff] at h
  obtain ⟨k, h1, h2⟩ := h
  exact ⟨k, h1, h2.symm⟩
theorem intsD_len {ns : List Int} : (intsD ns).length = ns.length := by simp [intsD]
theorem Items.kd {d : D} {ds : List D} (h : Items μ d ds) : Kd μ d "list" := by
  rcases h with rfl | ⟨a, rfl, hm⟩
  · exact .lst _
  · exact .own hm
theorem need_lengths_ca {b : Int} {d : D} {ns : List Int} (H : P01 C.B ad) (hA : AOk C.A 2) (hi : Items μ d (intsD ns)) (hl : ns.length ≤ 24) (hb : ∀ x ∈ ns, 1 ≤ x ∧ x ≤ b) (h : P .none μ) : Ca C (.ref ad.need_lengths) [d, .int b] μ P X := by
  refine ca_def2 ["length"] H.need_lengths hA rfl rfl (by decide +kernel) (by decide +kernel) fun q L C' hB hA' K N => ?_
  rw [← hB] at H
  have G := H.g
  unfold gt bt at G
  simp only [List.map]
  repeat' (walk_at "m")
  refine ca_isi (hi.cons _).kd (by decide) ⟨_, rfl, fun h3 => absurd h3 (by decide), fun h3 => ?_⟩
  repeat' (walk_at "m")
  refine ca_len (hi.cons _) (by rw [intsD_len]; omega) ?_
  repeat' (walk_at "m")
  refine ⟨fun h4 => ?_, fun h4 => ?_⟩
  · rw [intsD_len] at h4; simp at h4; omega
  repeat' (walk_at "m")
  refine ⟨fun h4 => absurd h4 (by decide), fun h4 => ?_⟩
  repeat' (walk_at "m")
  refine ex_for ?_ (fun _ _ => rfl) (fun _ => rfl)
  repeat' (walk_at "m")
  refine ⟨intsD ns, fun i μ' => ∃ v, μ' = .frame L _ _ [some d, some (.int b), v] :: μ, itb_list hA'.handled ?_, ⟨_, rfl⟩, ?_, ?_⟩
  · rintro i μ' ⟨v, rfl⟩; exact hi.cons _
  · rintro i x μ' hx ⟨v, rfl⟩
    obtain ⟨k, hk, rfl⟩ := intsD_at hx
    have hk2 := hb k (List.mem_of_getElem? hk)
    repeat' (walk_at "m")
    refine is_within_ca H hA' (.int _) ?_
    rw [withinD_int hk2.1 hk2.2]
    refine ⟨_, rfl, fun h3 => absurd h3 (by decide), fun h3 => ?_⟩
    repeat' (walk_at "m")
    exact ⟨_, rfl⟩
  · rintro μ' ⟨v, rfl⟩
    repeat' (walk_at "m")
    exact h
theorem room_ca {b : Int} (H : P01 C.B ad) (hA : AOk C.A 3) (h1 : 1 ≤ b) (h2 : b ≤ 12) (h : P (.int (1 * 2 ^ b.toNat)) μ) : Ca C (.ref ad.room) [.int b] μ P X := by
  refine ca_def1 [] H.room hA rfl rfl (by decide +kernel) (by decide +kernel) fun q L C' hB hA' K N => ?_
  rw [← hB] at H
  have G := H.g
  unfold gt bt at G
  simp only [List.map]
  repeat' (walk_at "m")
  refine need_bound_ca H hA' h1 h2 ?_
  repeat' (walk_at "m")
  exact h

theorem counted_ca {b : Int} {d : D} {ns : List Int} (H : P01 C.B ad) (hA : AOk C.A 3) (h1 : 1 ≤ b) (h2 : b ≤ 12) (hi : Items μ d (intsD ns)) (hl : ns.length ≤ 24) (hb : ∀ x ∈ ns, 1 ≤ x ∧ x ≤ b) (h : P (.int (ns.map fun x => 1 * 2 ^ (b - x).toNat).sum) μ) : Ca C (.ref ad.counted) [d, .int b] μ P X := by
  refine ca_def2 [] H.counted hA rfl rfl (by decide +kernel) (by decide +kernel) fun q L C' hB hA' K N => ?_
  rw [← hB] at H
  have G := H.g
  unfold gt bt at G
  simp only [List.map]
  repeat' (walk_at "m")
  refine need_bound_ca H hA' h1 h2 ?_
  repeat' (walk_at "m")
  refine need_lengths_ca H hA' (hi.cons _) hl hb ?_
  repeat' (walk_at "m")
  refine ev_cmap ["length"] K ?_ (by decide +kernel) (by decide +kernel) (by decide +kernel) (by decide +kernel) rfl (fun _ _ => rfl) (fun _ => rfl)
  repeat' (walk_at "m")
  refine ⟨_, fun i => .int (1 * 2 ^ (b - ns.getD i 0).toNat), itb_list hA'.handled (compI_items (hi.cons _)), by rw [intsD_len]; exact Nat.le_trans hl (by decide), ?_, ?_⟩
  · intro i x hx cl Lc K2 N2 hcl
    obtain ⟨k, hk, rfl⟩ := intsD_at hx
    have hk2 := hb k (List.mem_of_getElem? hk)
    simp only [List.map]
    repeat' (walk_at "m")
    refine ⟨?_, _, rfl⟩
    simp [List.getD, hk]
  · rw [intsD_len, range_ints, range_getD ns (fun x => 1 * 2 ^ (b - x).toNat)]
    repeat' (walk_at "m")
    refine ca_sum hA'.handled (.inl rfl) ?_
    repeat' (walk_at "m")
    exact h
def cellV (ns : List Int) (k : Int) : Int :=
  if k < ns.length then ns.getD k.toNat 0
  else if 0 < ns.length then ((ns.getD (k * 7 % ns.length).toNat 0 * 48271 + k * 7919).fmod 2147483647 * (ns.getD (k * 7 % ns.length).toNat 0 * 48271 + k * 7919).fmod 2147483647).fmod 2147483629
  else ((k * 7919 + 5) * (k * 7919 + 5)).fmod 2147483629
theorem cell_ca {k : Int} {d : D} {ns : List Int} (H : P01 C.B ad) (hA : AOk C.A 1) (hi : Items μ d (intsD ns)) (hl : ns.length ≤ 63) (h0 : 0 ≤ k) (h1 : k < 1000000) (h : P (.int (cellV ns k)) μ) : Ca C (.ref ad.cell) [d, .int k] μ P X := by
  refine ca_def2 ["_law_number"] H.cell hA rfl rfl (by decide +kernel) (by decide +kernel) fun q L C' hB hA' K N => ?_
  rw [← hB] at H
  have G := H.g
  unfold gt bt at G
  simp only [List.map]
  repeat' (walk_at "m")
  refine ca_len (hi.cons _) (by rw [intsD_len]; omega) ?_
  rw [intsD_len]
  repeat' (walk_at "m")
  refine ⟨fun h2 => ?_, fun h2 => ?_⟩
  · simp only [decide_eq_true_eq] at h2
    repeat' (walk_at "m")
    refine sub_list (hi.cons _) h0 (intsD_get (i := k.toNat) (by omega)) (by omega) rfl ?_
    repeat' (walk_at "m")
    rw [cellV, if_pos h2] at h
    exact h
  · simp only [decide_eq_false_iff_not] at h2
    rw [cellV, if_neg h2] at h
    repeat' (walk_at "m")
    refine ca_len (hi.cons _) (by rw [intsD_len]; omega) ?_
    rw [intsD_len]
    repeat' (walk_at "m")
    refine ⟨fun h3 => ?_, fun h3 => ?_⟩
    · simp only [decide_eq_true_eq] at h3
      rw [if_pos (by omega)] at h
      repeat' (walk_at "m")
      refine ca_len (hi.cons _) (by rw [intsD_len]; omega) ?_
      rw [intsD_len]
      repeat' (walk_at "m")
      rw [Int.fmod_eq_emod_of_nonneg _ (by omega)]
      have h5 : 0 ≤ k * 7 % (ns.length : Int) := Int.emod_nonneg _ (by omega)
      have h6 : k * 7 % (ns.length : Int) < ns.length := Int.emod_lt_of_pos _ (by omega)
      refine sub_list (hi.cons _) h5 (intsD_get (i := (k * 7 % (ns.length : Int)).toNat) (by omega)) (by omega) rfl ?_
      generalize ns.getD (k * 7 % (ns.length : Int)).toNat 0 = z at h ⊢
      repeat' (walk_at "m")
      have h7 : 0 ≤ (z * 48271 + k * 7919).fmod 2147483647 := Int.fmod_nonneg_of_pos _ (by decide)
      have h8 : (z * 48271 + k * 7919).fmod 2147483647 < 2147483647 := Int.fmod_lt_of_pos _ (by decide)
      generalize (z * 48271 + k * 7919).fmod 2147483647 = y at h h7 h8 ⊢
      repeat' (walk_at "m")
      exact h
    · simp only [decide_eq_false_iff_not] at h3
      rw [if_neg (by omega)] at h
      repeat' (walk_at "m")
      exact h
theorem whole_ca {d : D} {K : String} (H : P01 C.B ad) (hA : AOk C.A 1) (k : Kd μ d K) (h : P (.bool (K == "int")) μ) : Ca C (.ref ad.whole) [d] μ P X := by
  refine ca_def1 [] H.whole hA rfl rfl (by decide +kernel) (by decide +kernel) fun q L C' hB hA' K N => ?_
  rw [← hB] at H
  have G := H.g
  unfold gt bt at G
  simp only [List.map]
  repeat' (walk_at "m")
  refine ca_isi (k.cons _) (by decide) ⟨_, rfl, fun h1 => ?_, fun h1 => ?_⟩
  · repeat' (walk_at "m")
    refine ca_isi (k.cons _) (by decide) ⟨_, rfl, ?_⟩
    repeat' (walk_at "m")
    cases k <;> simp [isT] at h1 <;> exact h
  · repeat' (walk_at "m")
    cases k <;> simp [isT] at h1 <;> exact h
theorem doubled_ca {n : Int} (H : P01 C.B ad) (hA : AOk C.A 1) (h0 : 0 ≤ n) (h1 : n ≤ 100) (h : P (.int (2 ^ n.toNat)) μ) : Ca C (.ref ad.doubled) [.int n] μ P X := by
  refine ca_def1 ["_law_found", "_law_turn"] H.doubled hA rfl rfl (by decide +kernel) (by decide +kernel) fun q L C' hB hA' K N => ?_
  rw [← hB] at H
  have G := H.g
  unfold gt bt at G
  simp only [List.map]
  repeat' (walk_at "m")
  refine ex_for ?_ (fun _ _ => rfl) (fun _ => rfl)
  repeat' (walk_at "m")
  refine ca_range1 ?_
  refine ⟨_, fun i μ' => ∃ v, μ' = .frame L _ _ [some (.int n), some (.int (2 ^ i)), v] :: μ, itb_range hA'.handled (by decide) (by decide) (by omega) (by omega), ⟨_, rfl⟩, ?_, ?_⟩
  · rintro i x μ' hx ⟨v, rfl⟩
    obtain ⟨hi, rfl⟩ := rngList_get hx
    repeat' (walk_at "m")
    exact ⟨_, by rw [Int.pow_succ]⟩
  · rintro μ' ⟨v, rfl⟩
    rw [rngList_length, Int.sub_zero]
    repeat' (walk_at "m")
    exact h

theorem sum_append_one (l : List Int) (x : Int) : (l ++ [x]).sum = l.sum + x := by simp
theorem law_ca {d : D} {fa : Addr} {ns : List Int} (H : P01 C.B ad) (F : FnSt C.B fa (stAt p01 17) ["_law_script"]) (hA : AOk C.A 4) (hi : Items μ d (intsD ns)) (hl : ns.length ≤ 63) (h : P (.bool true) μ) : Ca C (.ref fa) [d] μ P X := by
  refine ca_def1 ["_law_bound", "_law_lengths", "_law_due", "_law_length", "_law_handed", "_law_found", "_law_many"] F hA rfl rfl (by decide +kernel) (by decide +kernel) fun q L C' hB hA' K N => ?_
  rw [← hB] at H
  have G := H.g
  unfold gt bt at G
  simp only [List.map]
  repeat' (walk_at "m")
  refine cell_ca H (hA'.mono (by decide)) (hi.cons _) hl (by decide) (by decide) ?_
  repeat' (walk_at "m")
  have hc0 : 0 ≤ (cellV ns 0).fmod 12 := Int.fmod_nonneg_of_pos _ (by decide)
  have hc1 : (cellV ns 0).fmod 12 < 12 := Int.fmod_lt_of_pos _ (by decide)
  generalize hb : 1 + (cellV ns 0).fmod 12 = b
  have hb1 : 1 ≤ b := by omega
  have hb2 : b ≤ 12 := by omega
  refine ex_assign_cmap ["_law_k"] K ?_ rfl (by decide +kernel) (by decide +kernel) (by decide +kernel) (by decide +kernel) rfl (fun _ _ => rfl) (fun _ => rfl)
  repeat' (walk_at "m")
  refine cell_ca H (hA'.mono (by decide)) (hi.cons _) hl (by decide) (by decide) ?_
  repeat' (walk_at "m")
  have hn0 : 0 ≤ (cellV ns 1).fmod 25 := Int.fmod_nonneg_of_pos _ (by decide)
  have hn1 : (cellV ns 1).fmod 25 < 25 := Int.fmod_lt_of_pos _ (by decide)
  generalize hm : (cellV ns 1).fmod 25 = m at hn0 hn1
  refine ca_range1 ?_
  refine ⟨_, fun i => .int (1 + (cellV ns (3 + i)).fmod b), itb_range hA'.handled (by decide) (by decide) (by omega) (by omega), by rw [rngList_length]; exact Nat.le_trans (m := 25) (by omega) (by decide), ?_, ?_⟩
  · intro i x hx cl Lc K2 N2 hcl
    obtain ⟨hi', rfl⟩ := rngList_get hx
    simp only [List.map]
    repeat' (walk_at "m")
    refine cell_ca H (hA'.mono (by decide)) ((hi.cons _).cons _) hl (by omega) (by omega) ?_
    repeat' (walk_at "m")
    refine ⟨?_, _, rfl⟩
    simp
  rw [rngList_length, range_ints]
  have hls : ∀ x ∈ (List.range (m - 0).toNat).map (fun (i : Nat) => 1 + (cellV ns (3 + (i : Int))).fmod b), 1 ≤ x ∧ x ≤ b := fun x hx => by
    obtain ⟨i, _, rfl⟩ := List.mem_map.mp hx
    have := Int.fmod_nonneg_of_pos (cellV ns (3 + (i : Int))) (show 0 < b by omega)
    have := Int.fmod_lt_of_pos (cellV ns (3 + (i : Int))) (show 0 < b by omega)
    omega
  have hll : ((List.range (m - 0).toNat).map (fun (i : Nat) => 1 + (cellV ns (3 + (i : Int))).fmod b)).length ≤ 24 := by simp; omega
  generalize (List.range (m - 0).toNat).map (fun (i : Nat) => 1 + (cellV ns (3 + (i : Int))).fmod b) = ls at hls hll
  repeat' (walk_at "k")
  refine ex_cutF (fun ls : List Int => [some d, some (.int b), some (.lst (intsD ls)), none, none, none, none, none]) (fun ls : List Int => (∀ x ∈ ls, 1 ≤ x ∧ x ≤ b) ∧ ls.length ≤ 24) ?_ ?_
  · repeat' (walk_at "m")
    refine cell_ca H (hA'.mono (by decide)) (hi.cons _) hl (by decide) (by decide) ?_
    repeat' (walk_at "m")
    refine ⟨fun h1 => ?_, fun h1 => ?_⟩
    · repeat' (walk_at "m")
      refine ⟨intsD ls, none, some 1, .inl rfl, by rw [intsD_len]; exact Nat.le_trans hll (by decide), trivial, rfl, by simp, by simp, .inr rfl, ?_⟩
      refine ev_cmap ["_law_k"] K ?_ (by decide +kernel) (by decide +kernel) (by decide +kernel) (by decide +kernel) rfl (fun _ _ => rfl) (fun _ => rfl)
      repeat' (walk_at "m")
      refine ⟨intsD ls, some 1, none, .inl rfl, by rw [intsD_len]; exact Nat.le_trans hll (by decide), rfl, trivial, by simp, by simp, .inl rfl, ?_⟩
      have e1 : cutD (some 1) none (intsD ls) = intsD (ls.drop 1) := by simp [cutD, intsD]
      have e2 : cutD none (some 1) (intsD ls) = intsD (ls.take 1) := by simp [cutD, intsD]
      rw [e1, e2]
      have hd1 : (ls.drop 1).length ≤ 24 := by simp; omega
      refine ⟨_, fun _ => .int (1 + ((cellV ns 2).fdiv 3).fmod b), itb_list hA'.handled (fun _ _ _ => .inl rfl), by rw [intsD_len]; exact Nat.le_trans hd1 (by decide), ?_, ?_⟩
      · intro i x hx cl Lc K2 N2 hcl
        simp only [List.map]
        repeat' (walk_at "m")
        refine cell_ca H (hA'.mono (by decide)) ((hi.cons _).cons _) hl (by omega) (by omega) ?_
        repeat' (walk_at "m")
        exact ⟨rfl, _, rfl⟩
      rw [range_ints]
      refine bin_add_list (.inl rfl) (.inl rfl) ?_ ?_
      · simp only [intsD_len, List.length_map, List.length_range, List.length_take, List.length_drop]
        exact Nat.le_trans (m := 50) (by omega) (by decide)
      have e3 : ∀ a b : List Int, intsD a ++ intsD b = intsD (a ++ b) := fun a b => by simp [intsD]
      rw [e3]
      repeat' (walk_at "m")
      refine ⟨_, ⟨fun x hx => ?_, ?_⟩, rfl⟩
      · rcases List.mem_append.mp hx with hx | hx
        · exact hls x (List.mem_of_mem_take hx)
        · obtain ⟨i, _, rfl⟩ := List.mem_map.mp hx
          have := Int.fmod_nonneg_of_pos ((cellV ns 2).fdiv 3) (show 0 < b by omega)
          have := Int.fmod_lt_of_pos ((cellV ns 2).fdiv 3) (show 0 < b by omega)
          omega
      · simp only [intsD_len, List.length_append, List.length_map, List.length_range, List.length_take, List.length_drop]; omega
    · repeat' (walk_at "m")
      exact ⟨ls, ⟨hls, hll⟩, rfl⟩
  rintro ls ⟨hls, hll⟩
  repeat' (walk_at "m")
  refine ex_for ?_ (fun _ _ => rfl) (fun _ => rfl)
  repeat' (walk_at "m")
  refine ⟨intsD ls, fun i μ' => ∃ v, μ' = .frame L _ _ [some d, some (.int b), some (.lst (intsD ls)), some (.int ((ls.take i).map fun x => (2 : Int) ^ (b - x).toNat).sum), v, none, none, none] :: μ, itb_list hA'.handled (fun _ _ _ => .inl rfl), ⟨_, rfl⟩, ?_, ?_⟩
  · rintro i x μ' hx ⟨v, rfl⟩
    obtain ⟨k, hk, rfl⟩ := intsD_at hx
    have hk2 := hls k (List.mem_of_getElem? hk)
    repeat' (walk_at "m")
    refine doubled_ca H (hA'.mono (by decide)) (by omega) (by omega) ?_
    repeat' (walk_at "m")
    refine ⟨some (.int k), ?_⟩
    rw [List.take_add_one, hk, Option.toList_some, List.map_append, List.sum_append]
    simp
  rintro μ' ⟨v, rfl⟩
  rw [intsD_len, List.take_length]
  repeat' (walk_at "m")
  refine ca_list (.inl rfl) (by rw [intsD_len]; exact Nat.le_trans hll (by decide)) ?_
  repeat' (walk_at "m")
  refine counted_ca H (hA'.mono (by decide)) hb1 hb2 (.inl rfl) hll hls ?_
  repeat' (walk_at "m")
  refine room_ca H (hA'.mono (by decide)) hb1 hb2 ?_
  repeat' (walk_at "m")
  refine cmp_neP (.inl rfl) (.inl rfl) (Pl.ints (n := 0) ls) (Pl.ints (n := 0) ls) (by decide) (by decide) hA'.eqs fun c hc => ⟨fun h1 => absurd rfl (hc.mp h1), fun _ => ?_⟩
  repeat' (walk_at "m")
  refine whole_ca H (hA'.mono (by decide)) (.int _) ⟨_, rfl, fun h1 => absurd h1 (by decide), fun _ => ?_⟩
  repeat' (walk_at "m")
  refine whole_ca H (hA'.mono (by decide)) (.int _) ⟨_, rfl, fun h1 => absurd h1 (by decide), fun _ => ?_⟩
  repeat' (walk_at "m")
  refine ⟨fun h1 => absurd h1 (by decide), fun _ => ?_⟩
  repeat' (walk_at "m")
  simp only [Int.one_mul, beq_self_eq_true]
  refine ⟨_, rfl, fun _ => ?_, fun h1 => absurd h1 (by decide)⟩
  repeat' (walk_at "m")
  refine doubled_ca H (hA'.mono (by decide)) (by omega) (by omega) ?_
  repeat' (walk_at "m")
  simp only [beq_self_eq_true]
  exact h
end
end Mine

open PySem PySem.W PyProof.Rows
set_option maxRecDepth 100000
set_option maxHeartbeats 8000000
namespace Mine
open_top hd for PySem.Challenge.rw_uf040014_01
end Mine

open PySem PySem.W PyProof.Rows
set_option maxRecDepth 100000
set_option maxHeartbeats 8000000
namespace Mine
theorem p01_of {loose : List Str} {mean : ExcName → Option Value} {mg mb : Str → Option Value} {B : Shared} (T : Top hd.view_39 loose mean mg mb B.heap) (hl : loose = looseW hd.view_39 []) : ∃ ad fa, P01 B ad ∧ mg "law" = some (.ref fa) ∧ FnSt B fa (stAt p01 17) ["_law_script"] := by
  obtain ⟨a0, m0, f0⟩ := fnSt_of (st := stAt p01 7) (names := ["thing", "least", "most"]) T 0 (by rfl) rfl (by decide +kernel) (by decide +kernel) (by decide +kernel) rfl rfl rfl (fun _ _ _ vs h => match vs, h with | [_, _, _], _ => rfl)
  obtain ⟨a1, m1, f1⟩ := fnSt_of (st := stAt p01 8) (names := ["bound"]) T 1 (by rfl) rfl (by decide +kernel) (by decide +kernel) (by decide +kernel) rfl rfl rfl (fun _ _ _ vs h => match vs, h with | [_], _ => rfl)
  obtain ⟨a2, m2, f2⟩ := fnSt_of (st := stAt p01 9) (names := ["lengths", "bound"]) T 2 (by rfl) rfl (by decide +kernel) (by decide +kernel) (by decide +kernel) rfl rfl rfl (fun _ _ _ vs h => match vs, h with | [_, _], _ => rfl)
  obtain ⟨a3, m3, f3⟩ := fnSt_of (st := stAt p01 11) (names := ["bound"]) T 3 (by rfl) rfl (by decide +kernel) (by decide +kernel) (by decide +kernel) rfl rfl rfl (fun _ _ _ vs h => match vs, h with | [_], _ => rfl)
  obtain ⟨a4, m4, f4⟩ := fnSt_of (st := stAt p01 12) (names := ["lengths", "bound"]) T 4 (by rfl) rfl (by decide +kernel) (by decide +kernel) (by decide +kernel) rfl rfl rfl (fun _ _ _ vs h => match vs, h with | [_, _], _ => rfl)
  obtain ⟨a5, m5, f5⟩ := fnSt_of (st := stAt p01 14) (names := ["_law_script", "_law_k"]) T 5 (by rfl) rfl (by decide +kernel) (by decide +kernel) (by decide +kernel) rfl rfl rfl (fun _ _ _ vs h => match vs, h with | [_, _], _ => rfl)
  obtain ⟨a6, m6, f6⟩ := fnSt_of (st := stAt p01 15) (names := ["_law_found"]) T 6 (by rfl) rfl (by decide +kernel) (by decide +kernel) (by decide +kernel) rfl rfl rfl (fun _ _ _ vs h => match vs, h with | [_], _ => rfl)
  obtain ⟨a7, m7, f7⟩ := fnSt_of (st := stAt p01 16) (names := ["_law_times"]) T 7 (by rfl) rfl (by decide +kernel) (by decide +kernel) (by decide +kernel) rfl rfl rfl (fun _ _ _ vs h => match vs, h with | [_], _ => rfl)
  obtain ⟨a8, m8, f8⟩ := fnSt_of (st := stAt p01 17) (names := ["_law_script"]) T 8 (by rfl) rfl (by decide +kernel) (by decide +kernel) (by decide +kernel) rfl rfl rfl (fun _ _ _ vs h => match vs, h with | [_], _ => rfl)
  obtain ⟨tb, c0⟩ := const_int (x := "MOST_BOUND") (i := 12) T (by rfl)
  obtain ⟨ts, c1⟩ := const_int (x := "MOST_SIGNS") (i := 24) T (by rfl)
  refine ⟨⟨a0, a1, a2, a3, a4, a5, a6, a7, tb, ts⟩, a8, ⟨gOk_of T ⟨m0, m1, m2, m3, m4, m5, m6, m7, c0, c1, trivial⟩ ?_ ?_ ?_, f0, f1, f2, f3, f4, f5, f6, f7⟩, m8, f8⟩
  · exact ⟨fun f e => by cases e; exact f0.func, fun f e => by cases e; exact f1.func, fun f e => by cases e; exact f2.func, fun f e => by cases e; exact f3.func, fun f e => by cases e; exact f4.func, fun f e => by cases e; exact f5.func, fun f e => by cases e; exact f6.func, fun f e => by cases e; exact f7.func, (fun f e => by cases e), (fun f e => by cases e), trivial⟩
  · exact ⟨by boot_fast, by boot_fast, by boot_fast, by boot_fast, by boot_fast, by boot_fast, by boot_fast, trivial⟩
  · subst hl; decide +kernel
theorem cw01 : PySem.Challenge.rw_uf040014_01.Holds := hd (by
  k_fill
  intro w s₀ s₁ mg mb G Y fa o pm cd doc dV kV ho hd hcd hD hmg hg args vals as hpre hlay hrd hwl hlo
  refine Ground.open G ?_
  intro T B D TE TW
  obtain ⟨ad, fa', H, hm', F⟩ := p01_of T rfl
  have e : fa' = fa := by
    have := hm'.symm.trans hmg
    cases this; rfl
  subst e
  wrow_args hpre hlay hrd hwl hlo
  rename_i hL _ _ _ hI _ hlen _
  refine law_done hg hL hI ?_ ?_
  · exact law_ca H F (callerA_ok (by decide)) (.inl rfl) (by omega) rfl
  · intro s' h1 h2 h3
    exact GoodW.toG ⟨.inl ⟨_, _, _, rfl, raisesW_false (by wrow_none_raised), .bool true, by wrow_post, unshared_nil⟩, h1, h2, h3⟩)
end Mine

set_option maxRecDepth 100000 in
set_option maxHeartbeats 8000000 in
theorem PySem.Challenge.cw_uf040014_01_holds : PySem.Challenge.rw_uf040014_01.Holds :=
  Mine.cw01
