import PyProof.Rows.All
import Wide.All
import OpenK.AllK
import Wide.FinOn
import HandS.ForMost
import HandS.ForExc
import HandS.ForSpec
import HandS.Style
import HandS.Dict
import HandS.Iter
import HandS.Flt
import HandS.TupAny
import KE.GoesEnum
import PyProof.EqKinds
import HandS.CallSlots
import KE.KMinKey
import PyProof.WalkInts
import PyProof.Rows.CallKwBuiltin
import HandS.IsInst
import HandS.StrMore
import HandS.StrSplit
import HandS.Flow
import HandS.ReplaceLit
import HandS.More
import HandS.WrittenGet
import HandS.WideBits
import HandS.SortInts
import HandS.ExcInit
import HandS.ExcField
import HandS.ExcIs
import HandS.Translate
import HandS.FStr
import HandS.NoneIn
import HandS.Nested
import KE.KExcSuper
import KE.RegKSuper
import KE.KExcIs
import HandS.ReplaceDef
import HandS.ReplaceList
import PySem.Challenge.RW_sensekept_k12_rules_wrong_texts
set_option Elab.async false
set_option linter.all false
set_option maxRecDepth 100000
set_option maxHeartbeats 4000000
/-! A1: data values D, the small heap Mu, how they stand in the abstract heap. -/
namespace PyI
open PySem L2

inductive D where
  | non | bl (b : Bool) | int (i : Int) | str (s : Str)
  | tup (l : List D) | lst (l : List D) | ref (n : Nat) | kl (l : List D) | kt (l : List D)
  deriving Inhabited

/-- an object that may change -/
inductive MO where
  | lst (l : List D)
  | dead
  | ins (c : Nat) (fs : List (Str × D))
  | dk (kvs : List (Key × D))
  | dt (kvs : List (List Key × D))
  deriving Inhabited

abbrev Mu := List MO
abbrev Rho := List (Option D)

/-- the part of SqT, SqL that no heap changes -/
def TK (K : PySem.W.Frag) (a : Addr) (xs : List V) : Prop := SqT K (fun _ => none) a xs
def LK (K : PySem.W.Frag) (a : Addr) (xs : List V) : Prop := SqL K (fun _ => none) a xs
theorem TK.sq {K : PySem.W.Frag} {H : Hp} {a : Addr} {xs : List V} (h : TK K a xs) : SqT K H a xs := by
  rcases h with h | h
  · rcases h with h | ⟨o, h⟩ <;> cases h
  · exact .inr h
theorem LK.sq {K : PySem.W.Frag} {H : Hp} {a : Addr} {xs : List V} (h : LK K a xs) : SqL K H a xs := by
  rcases h with h | h
  · rcases h with h | ⟨o, h⟩ <;> cases h
  · exact .inr h
/-- our addresses: of the small heap's objects, by number; and what else is kept out of the data -/
structure AM where
  ix : List Addr
  ex : List Addr
def AM.out (M : AM) (a : Addr) : Prop := a ∉ M.ix ∧ a ∉ M.ex
abbrev AM.hide (M : AM) (p : Addr) : AM := { M with ex := p :: M.ex }
abbrev AM.add (M : AM) (p : Addr) : AM := { M with ix := M.ix ++ [p] }
abbrev AM.cut (M : AM) (n : Nat) : AM := { M with ix := M.ix.take n }

def TA' (_ : PySem.W.Frag) (H : Hp) (M : AM) (a : Addr) (xs : List V) : Prop := H a = some (.tup xs) ∧ M.out a
/-- a list of the written part, or one of ours -/
def KA' (K : PySem.W.Frag) (H : Hp) (M : AM) (a : Addr) (xs : List V) : Prop := (Rd H a (.lst xs) ∧ M.out a) ∨ LK K a xs
def LA' (_ : PySem.W.Frag) (H : Hp) (M : AM) (a : Addr) (xs : List V) : Prop := Rd H a (.lst xs) ∧ M.out a
section
variable {K : PySem.W.Frag} {H H' H1 H2 : Hp} {M M' M1 M2 : AM} {a p : Addr} {xs : List V}
theorem TA'.sq (h : TA' K H M a xs) : SqT K H a xs := .inl (.inl h.1)
theorem KA'.sq (h : KA' K H M a xs) : SqL K H a xs := by
  rcases h with h | h
  · exact .inl h.1
  · exact h.sq
theorem LA'.sq (h : LA' K H M a xs) : SqL K H a xs := .inl h.1
end

mutual
inductive Rep (K : PySem.W.Frag) (H : Hp) (M : AM) : V → D → Prop
  | non : Rep K H M .non .non
  | bl (b : Bool) : Rep K H M (.bl b) (.bl b)
  | int (i : Int) : Rep K H M (.int i) (.int i)
  | str (x : Str) : Rep K H M (.str x) (.str x)
  | tup {a : Addr} {xs : List V} {ds : List D} : TA' K H M a xs → Reps K H M xs ds → Rep K H M (.ref a) (.tup ds)
  | lst {a : Addr} {xs : List V} {ds : List D} : LA' K H M a xs → Reps K H M xs ds → Rep K H M (.ref a) (.lst ds)
  | ref {a : Addr} {n : Nat} : M.ix[n]? = some a → Rep K H M (.ref a) (.ref n)
  | kl {a : Addr} {xs : List V} {ds : List D} : KA' K H M a xs → Reps K H M xs ds → Rep K H M (.ref a) (.kl ds)
  | kt {a : Addr} {xs : List V} {ds : List D} : TK K a xs → Reps K H M xs ds → Rep K H M (.ref a) (.kt ds)
inductive Reps (K : PySem.W.Frag) (H : Hp) (M : AM) : List V → List D → Prop
  | nil : Reps K H M [] []
  | cons {v : V} {vs : List V} {d : D} {ds : List D} : Rep K H M v d → Reps K H M vs ds → Reps K H M (v :: vs) (d :: ds)
end

/-- how heaps go on: what is tracked and no object of ours stays; our objects keep their places -/
structure Evo (M : AM) (H : Hp) (M' : AM) (H' : Hp) : Prop where
  pre : ∀ (n : Nat) (a : Addr), M.ix[n]? = some a → M'.ix[n]? = some a
  len : M.ix.length ≤ M'.ix.length
  ex : M'.ex = M.ex
  keep : ∀ (a : Addr) (o : HO), H a = some o → a ∉ M.ix → H' a = some o ∧ a ∉ M'.ix

/-- what lets a datum stand: the same for the data alone (addresses may leave ex, and new ones come in) -/
structure Stay (M : AM) (H : Hp) (M' : AM) (H' : Hp) : Prop where
  pre : ∀ (n : Nat) (a : Addr), M.ix[n]? = some a → M'.ix[n]? = some a
  keep : ∀ (a : Addr) (o : HO), H a = some o → M.out a → H' a = some o ∧ M'.out a

section
variable {K : PySem.W.Frag} {H H' H1 H2 : Hp} {M M' M1 M2 : AM} {a p : Addr} {xs : List V} {u o : HO}
theorem Evo.refl (M : AM) (H : Hp) : Evo M H M H := ⟨fun _ _ h => h, Nat.le_refl _, rfl, fun _ _ h n => ⟨h, n⟩⟩
theorem Evo.trans (a : Evo M H M1 H1) (b : Evo M1 H1 M2 H2) : Evo M H M2 H2 :=
  ⟨fun n x h => b.pre n x (a.pre n x h), Nat.le_trans a.len b.len, b.ex.trans a.ex, fun x o h n => b.keep x o (a.keep x o h n).1 (a.keep x o h n).2⟩
theorem Evo.stay (e : Evo M H M' H') : Stay M H M' H' := ⟨e.pre, fun a o h n => ⟨(e.keep a o h n.1).1, (e.keep a o h n.1).2, by rw [e.ex]; exact n.2⟩⟩
theorem Stay.trans (a : Stay M H M1 H1) (b : Stay M1 H1 M2 H2) : Stay M H M2 H2 :=
  ⟨fun n x h => b.pre n x (a.pre n x h), fun x o h n => b.keep x o (a.keep x o h n).1 (a.keep x o h n).2⟩
/-- a new address is kept out -/
theorem Stay.hide (h : H p = none) : Stay M H (M.hide p) H := ⟨fun _ _ q => q, fun a o e n => ⟨e, n.1, by
  show a ∉ p :: M.ex
  rw [List.mem_cons]
  rintro (q | q)
  · exact ne_of_none e h q
  · exact n.2 q⟩⟩
theorem Stay.unhide : Stay (M.hide p) H M H := ⟨fun _ _ q => q, fun a o e n => ⟨e, n.1, fun q => n.2 (List.mem_cons_of_mem _ q)⟩⟩
/-- what is kept out becomes ours -/
theorem Stay.take : Stay (M.hide p) H (M.add p) H := ⟨fun n a q => by
    show (M.ix ++ [p])[n]? = some a
    have z : n < M.ix.length := by
      rcases Nat.lt_or_ge n M.ix.length with z | z
      · exact z
      · rw [List.getElem?_eq_none z] at q; cases q
    rw [List.getElem?_append_left z]; exact q, fun a o e n => ⟨e, by
    show a ∉ M.ix ++ [p]
    rw [List.mem_append, List.mem_singleton]
    rintro (q | q)
    · exact n.1 q
    · exact n.2 (by rw [q]; exact List.mem_cons_self ..), fun q => n.2 (List.mem_cons_of_mem _ q)⟩⟩
/-- what is kept out changes -/
theorem Stay.mutEx (h : p ∈ M.ex) : Stay M H M (upd H p o) := ⟨fun _ _ q => q, fun a u e n => ⟨by rw [upd_ne (fun (q : a = p) => n.2 (by rw [q]; exact h))]; exact e, n⟩⟩
theorem Rd.stay (e : Stay M H M' H') (h : Rd H a u) (n : M.out a) : Rd H' a u ∧ M'.out a := by
  rcases h with h | ⟨o, h⟩
  · exact ⟨.inl (e.keep a _ h n).1, (e.keep a _ h n).2⟩
  · exact ⟨.inr ⟨o, (e.keep a _ h n).1⟩, (e.keep a _ h n).2⟩
theorem TA'.stay (e : Stay M H M' H') (h : TA' K H M a xs) : TA' K H' M' a xs := e.keep a _ h.1 h.2
theorem KA'.stay (e : Stay M H M' H') (h : KA' K H M a xs) : KA' K H' M' a xs := by
  rcases h with h | h
  · exact .inl (Rd.stay e h.1 h.2)
  · exact .inr h
theorem LA'.stay (e : Stay M H M' H') (h : LA' K H M a xs) : LA' K H' M' a xs := Rd.stay e h.1 h.2
end
mutual
theorem Rep.stay {K : PySem.W.Frag} {M M' : AM} {H H' : Hp} (e : Stay M H M' H') : ∀ {v : V} {d : D}, Rep K H M v d → Rep K H' M' v d
  | _, _, .non => .non
  | _, _, .bl b => .bl b
  | _, _, .int i => .int i
  | _, _, .str x => .str x
  | _, _, .tup h r => .tup (h.stay e) (Reps.stay e r)
  | _, _, .lst h r => .lst (h.stay e) (Reps.stay e r)
  | _, _, .kl h r => .kl (h.stay e) (Reps.stay e r)
  | _, _, .kt h r => .kt h (Reps.stay e r)
  | _, _, .ref h => .ref (e.pre _ _ h)
theorem Reps.stay {K : PySem.W.Frag} {M M' : AM} {H H' : Hp} (e : Stay M H M' H') : ∀ {vs : List V} {ds : List D}, Reps K H M vs ds → Reps K H' M' vs ds
  | _, _, .nil => .nil
  | _, _, .cons h r => .cons (Rep.stay e h) (Reps.stay e r)
end
theorem Rep.evo {K : PySem.W.Frag} {M M' : AM} {H H' : Hp} {v : V} {d : D} (e : Evo M H M' H') (h : Rep K H M v d) : Rep K H' M' v d := h.stay e.stay
theorem Reps.evo {K : PySem.W.Frag} {M M' : AM} {H H' : Hp} {vs : List V} {ds : List D} (e : Evo M H M' H') (h : Reps K H M vs ds) : Reps K H' M' vs ds := h.stay e.stay

/-! ### no reference from n on -/
mutual
def below (n : Nat) : D → Bool
  | .ref k => decide (k < n)
  | .tup l => belows n l
  | .lst l => belows n l
  | .kl l => belows n l
  | .kt l => belows n l
  | _ => true
def belows (n : Nat) : List D → Bool
  | [] => true
  | d :: ds => below n d && belows n ds
end
def belowMO (n : Nat) : MO → Bool
  | .lst l => belows n l
  | .dead => true
  | .ins _ fs => fs.all fun p => below n p.2
  | .dk kvs => kvs.all fun p => below n p.2
  | .dt kvs => kvs.all fun p => below n p.2

theorem AM.out.cut {M : AM} {a : Addr} (n : Nat) (h : M.out a) : (M.cut n).out a := ⟨fun q => h.1 (List.mem_of_mem_take q), h.2⟩
mutual
theorem Rep.cut {K : PySem.W.Frag} {M : AM} {H : Hp} (n : Nat) : ∀ {v : V} {d : D}, Rep K H M v d → below n d = true → Rep K H (M.cut n) v d
  | _, _, .non, _ => .non
  | _, _, .bl b, _ => .bl b
  | _, _, .int i, _ => .int i
  | _, _, .str x, _ => .str x
  | _, _, .tup h r, q => .tup ⟨h.1, h.2.cut n⟩ (Reps.cut n r (by simpa only [below] using q))
  | _, _, .kt h r, q => .kt h (Reps.cut n r (by simpa only [below] using q))
  | _, _, .lst h r, q => .lst ⟨h.1, h.2.cut n⟩ (Reps.cut n r (by simpa only [below] using q))
  | _, _, .kl (.inl h) r, q => .kl (.inl ⟨h.1, h.2.cut n⟩) (Reps.cut n r (by simpa only [below] using q))
  | _, _, .kl (.inr h) r, q => .kl (.inr h) (Reps.cut n r (by simpa only [below] using q))
  | _, _, .ref (n := k) h, q => .ref (by
      have q' : k < n := by simpa only [below, decide_eq_true_eq] using q
      show (M.ix.take n)[k]? = _
      rw [List.getElem?_take_of_lt q']; exact h)
theorem Reps.cut {K : PySem.W.Frag} {M : AM} {H : Hp} (n : Nat) : ∀ {vs : List V} {ds : List D}, Reps K H M vs ds → belows n ds = true → Reps K H (M.cut n) vs ds
  | _, _, .nil, _ => .nil
  | _, _, .cons h r, q => by
    simp only [belows, Bool.and_eq_true] at q
    exact .cons (Rep.cut n h q.1) (Reps.cut n r q.2)
end

section
variable {K : PySem.W.Frag} {H H' : Hp} {M : AM}
theorem Reps.length : ∀ {vs : List V} {ds : List D}, Reps K H M vs ds → vs.length = ds.length
  | _, _, .nil => rfl
  | _, _, .cons _ r => congrArg (· + 1) (Reps.length r)
theorem Reps.get : ∀ {vs : List V} {ds : List D} {i : Nat} {d : D}, Reps K H M vs ds → ds[i]? = some d → ∃ v, vs[i]? = some v ∧ Rep K H M v d
  | _, _, 0, _, .cons h _, e => by simp at e; subst e; exact ⟨_, rfl, h⟩
  | _, _, i + 1, d, .cons _ r, e => by
    obtain ⟨v, h1, h2⟩ := Reps.get (i := i) (d := d) r (by simpa using e)
    exact ⟨v, by simpa using h1, h2⟩
theorem Reps.append : ∀ {vs ws : List V} {ds es : List D}, Reps K H M vs ds → Reps K H M ws es → Reps K H M (vs ++ ws) (ds ++ es)
  | _, _, _, _, .nil, s => s
  | _, _, _, _, .cons h r, s => .cons h (Reps.append r s)
theorem Reps.takeL : ∀ {vs : List V} {ds : List D} (n : Nat), Reps K H M vs ds → Reps K H M (vs.take n) (ds.take n)
  | _, _, 0, _ => .nil
  | _, _, _ + 1, .nil => .nil
  | _, _, n + 1, .cons h r => .cons h (Reps.takeL n r)
theorem Reps.dropL : ∀ {vs : List V} {ds : List D} (n : Nat), Reps K H M vs ds → Reps K H M (vs.drop n) (ds.drop n)
  | _, _, 0, r => r
  | _, _, _ + 1, .nil => .nil
  | _, _, n + 1, .cons _ r => Reps.dropL n r
theorem Reps.set {v : V} {d : D} (q : Rep K H M v d) : ∀ {vs : List V} {ds : List D} (n : Nat), Reps K H M vs ds → Reps K H M (vs.set n v) (ds.set n d)
  | _, _, _, .nil => .nil
  | _, _, 0, .cons _ r => .cons q r
  | _, _, n + 1, .cons h r => .cons h (Reps.set q n r)
theorem Reps.rev : ∀ {vs : List V} {ds : List D}, Reps K H M vs ds → Reps K H M vs.reverse ds.reverse
  | _, _, .nil => .nil
  | _, _, .cons h r => by rw [List.reverse_cons, List.reverse_cons]; exact (Reps.rev r).append (.cons h .nil)
theorem Reps.one {v : V} {d : D} (h : Rep K H M v d) : Reps K H M [v] [d] := .cons h .nil
theorem Reps.one_inv {vs : List V} {d : D} (h : Reps K H M vs [d]) : ∃ v, vs = [v] ∧ Rep K H M v d := by
  cases h with
  | cons h r => cases r; exact ⟨_, rfl, h⟩
end

/-! ### the small heap in the abstract one -/
def FRep (K : PySem.W.Frag) (H : Hp) (M : AM) : List (Str × V) → List (Str × D) → Prop := Paired fun p q => p.1 = q.1 ∧ Rep K H M p.2 q.2
def KRep (K : PySem.W.Frag) (H : Hp) (M : AM) : List (Key × V) → List (Key × D) → Prop := Paired fun p q => p.1 = q.1 ∧ Rep K H M p.2 q.2
def TRep (K : PySem.W.Frag) (H : Hp) (M : AM) : List (List Key × V) → List (List Key × D) → Prop := Paired fun p q => p.1 = q.1 ∧ Rep K H M p.2 q.2
theorem paired_imp {α β : Type} {R S : α → β → Prop} (h : ∀ x y, R x y → S x y) : ∀ {xs : List α} {ys : List β}, Paired R xs ys → Paired S xs ys
  | _, _, .nil => .nil
  | _, _, .cons a r => .cons (h _ _ a) (paired_imp h r)

/-- the addresses of the classes, by number -/
structure CTab where
  cls : Nat → Addr
  flds : Nat → List Str

def MRep (K : PySem.W.Frag) (ct : CTab) (H : Hp) (M : AM) (a : Addr) : MO → Prop
  | .lst ds => ∃ xs, H a = some (.lst xs) ∧ Reps K H M xs ds
  | .dead => ∃ o, H a = some o
  | .ins c fs => ∃ dx fvs, H a = some (.ins (ct.cls c) dx fvs) ∧ FRep K H M fvs fs
  | .dk kvs => ∃ ks, H a = some (.dK ks) ∧ KRep K H M ks kvs
  | .dt kvs => ∃ ks, H a = some (.dT ks) ∧ TRep K H M ks kvs

structure RelH (K : PySem.W.Frag) (ct : CTab) (H : Hp) (μ : Mu) (M : AM) : Prop where
  len : M.ix.length = μ.length
  nd : M.ix.Nodup
  at_ : ∀ (n : Nat) (mo : MO), μ[n]? = some mo → ∃ a, M.ix[n]? = some a ∧ MRep K ct H M a mo
  exs : ∀ a ∈ M.ex, (∃ o, H a = some o) ∧ a ∉ M.ix

section
variable {K : PySem.W.Frag} {ct : CTab} {H H' : Hp} {M M' : AM} {a p : Addr} {mo : MO} {μ : Mu} {o : HO}
theorem MRep.is (h : MRep K ct H M a mo) : ∃ o, H a = some o := by
  cases mo with
  | lst ds => obtain ⟨xs, h, _⟩ := h; exact ⟨_, h⟩
  | dead => exact h
  | ins c fs => obtain ⟨dx, fvs, h, _⟩ := h; exact ⟨_, h⟩
  | dk kvs => obtain ⟨ks, h, _⟩ := h; exact ⟨_, h⟩
  | dt kvs => obtain ⟨ks, h, _⟩ := h; exact ⟨_, h⟩
theorem RelH.mem (R : RelH K ct H μ M) {a : Addr} (h : a ∈ M.ix) : ∃ o, H a = some o := by
  obtain ⟨n, hn, e⟩ := List.getElem_of_mem h
  have h1 : n < μ.length := R.len ▸ hn
  obtain ⟨a', e', r⟩ := R.at_ n μ[n] (List.getElem?_eq_getElem h1)
  rw [List.getElem?_eq_getElem hn, e] at e'
  cases e'
  exact r.is
theorem RelH.fresh (R : RelH K ct H μ M) {a : Addr} (h : H a = none) : M.out a := by
  refine ⟨fun q => ?_, fun q => ?_⟩
  · obtain ⟨o, e⟩ := R.mem q
    rw [h] at e; cases e
  · obtain ⟨⟨o, e⟩, _⟩ := R.exs a q
    rw [h] at e; cases e

/-- an object is made that is none of ours -/
theorem Evo.new (h : H p = none) : Evo M H M (upd H p o) :=
  ⟨fun _ _ q => q, Nat.le_refl _, rfl, fun a u e n => ⟨by rw [upd_ne (ne_of_none e h)]; exact e, n⟩⟩
theorem ix_add {l : List Addr} {n : Nat} {a p : Addr} (q : l[n]? = some a) : (l ++ [p])[n]? = some a := by
  have z : n < l.length := by
    rcases Nat.lt_or_ge n l.length with z | z
    · exact z
    · rw [List.getElem?_eq_none z] at q; cases q
  rw [List.getElem?_append_left z]; exact q
/-- an object is made that is ours -/
theorem Evo.own (h : H p = none) : Evo M H (M.add p) (upd H p o) :=
  ⟨fun n a q => ix_add q,
    by show _ ≤ (M.ix ++ [p]).length; simp, rfl, fun a u e n => ⟨by rw [upd_ne (ne_of_none e h)]; exact e, by
      show a ∉ M.ix ++ [p]
      rw [List.mem_append, List.mem_singleton]
      rintro (q | q)
      · exact n q
      · exact ne_of_none e h q⟩⟩
/-- one of ours changes -/
theorem Evo.mut (h : p ∈ M.ix) : Evo M H M (upd H p o) :=
  ⟨fun _ _ q => q, Nat.le_refl _, rfl, fun a u e n => ⟨by rw [upd_ne (fun (q : a = p) => n (by rw [q]; exact h))]; exact e, n⟩⟩

theorem MRep.stay (e : Stay M H M' H') (ha : ∀ o, H a = some o → H' a = some o) (h : MRep K ct H M a mo) : MRep K ct H' M' a mo := by
  cases mo with
  | lst ds => obtain ⟨xs, h, r⟩ := h; exact ⟨xs, ha _ h, r.stay e⟩
  | dead => obtain ⟨o, h⟩ := h; exact ⟨o, ha _ h⟩
  | ins c fs => obtain ⟨dx, fvs, h, r⟩ := h; exact ⟨dx, fvs, ha _ h, paired_imp (fun _ _ q => ⟨q.1, q.2.stay e⟩) r⟩
  | dk kvs => obtain ⟨ks, h, r⟩ := h; exact ⟨ks, ha _ h, paired_imp (fun _ _ q => ⟨q.1, q.2.stay e⟩) r⟩
  | dt kvs => obtain ⟨ks, h, r⟩ := h; exact ⟨ks, ha _ h, paired_imp (fun _ _ q => ⟨q.1, q.2.stay e⟩) r⟩

theorem RelH.new (R : RelH K ct H μ M) (h : H p = none) : RelH K ct (upd H p o) μ M :=
  ⟨R.len, R.nd, fun n mo q => by
    obtain ⟨a, e, r⟩ := R.at_ n mo q
    exact ⟨a, e, r.stay (Evo.new h).stay fun u z => by rw [upd_ne (ne_of_none z h)]; exact z⟩, fun a q => by
    obtain ⟨⟨u, z⟩, y⟩ := R.exs a q
    exact ⟨⟨u, by rw [upd_ne (ne_of_none z h)]; exact z⟩, y⟩⟩
/-- a new object is kept out of the data -/
theorem RelH.hide (R : RelH K ct H μ M) (h : H p = none) : RelH K ct (upd H p o) μ (M.hide p) :=
  ⟨R.len, R.nd, fun n mo q => by
    obtain ⟨a, e, r⟩ := R.at_ n mo q
    exact ⟨a, e, r.stay ((Stay.hide h).trans (Evo.new h).stay) fun u z => by rw [upd_ne (ne_of_none z h)]; exact z⟩, fun a q => by
    rcases List.mem_cons.mp q with z | q
    · subst z; exact ⟨⟨o, upd_same⟩, (R.fresh h).1⟩
    · obtain ⟨⟨u, z⟩, y⟩ := R.exs a q
      exact ⟨⟨u, by rw [upd_ne (ne_of_none z h)]; exact z⟩, y⟩⟩
theorem RelH.unhide (R : RelH K ct H μ (M.hide p)) : RelH K ct H μ M :=
  ⟨R.len, R.nd, fun n mo q => by
    obtain ⟨a, e, r⟩ := R.at_ n mo q
    exact ⟨a, e, r.stay Stay.unhide fun _ z => z⟩, fun a q => R.exs a (List.mem_cons_of_mem _ q)⟩
/-- what is kept out changes -/
theorem RelH.mutEx (R : RelH K ct H μ M) (h : p ∈ M.ex) : RelH K ct (upd H p o) μ M :=
  ⟨R.len, R.nd, fun n mo q => by
    obtain ⟨a, e, r⟩ := R.at_ n mo q
    refine ⟨a, e, r.stay (Stay.mutEx h) fun u z => ?_⟩
    rw [upd_ne (fun (x : a = p) => (R.exs p h).2 (by rw [← x]; exact List.mem_of_getElem? e))]; exact z, fun a q => by
    obtain ⟨⟨u, z⟩, y⟩ := R.exs a q
    by_cases x : a = p
    · subst x; exact ⟨⟨o, upd_same⟩, y⟩
    · exact ⟨⟨u, by rw [upd_ne x]; exact z⟩, y⟩⟩
/-- what was kept out becomes ours -/
theorem RelH.takeIn (R : RelH K ct H μ (M.hide p)) (hn : p ∉ M.ex) (hm : MRep K ct H (M.add p) p mo) : RelH K ct H (μ ++ [mo]) (M.add p) := by
  have hp := (R.exs p (List.mem_cons_self ..)).2
  refine ⟨?_, ?_, fun n mo' q => ?_, fun a q => ?_⟩
  · show (M.ix ++ [p]).length = _
    have := R.len
    simp only [List.length_append, List.length_singleton]
    exact congrArg (· + 1) this
  · show (M.ix ++ [p]).Nodup
    rw [List.nodup_append]
    refine ⟨R.nd, by simp, fun a ha b hb => ?_⟩
    rw [List.mem_singleton] at hb
    rintro rfl
    exact hp (hb ▸ ha)
  · rcases Nat.lt_or_ge n μ.length with z | z
    · rw [List.getElem?_append_left z] at q
      obtain ⟨a, e, r⟩ := R.at_ n mo' q
      exact ⟨a, ix_add e, r.stay Stay.take fun _ z => z⟩
    · rw [List.getElem?_append_right z] at q
      have z1 : n - μ.length = 0 := by
        rcases Nat.eq_zero_or_pos (n - μ.length) with y | y
        · exact y
        · rw [List.getElem?_eq_none (by rw [List.length_singleton]; exact y)] at q; cases q
      rw [z1] at q
      simp at q
      subst q
      refine ⟨p, ?_, hm⟩
      show (M.ix ++ [p])[n]? = some p
      have hl : M.ix.length = μ.length := R.len
      rw [List.getElem?_append_right (by rw [hl]; exact z), hl, z1]
      rfl
  · obtain ⟨x, y⟩ := R.exs a (List.mem_cons_of_mem _ q)
    refine ⟨x, ?_⟩
    show a ∉ M.ix ++ [p]
    rw [List.mem_append, List.mem_singleton]
    rintro (z | z)
    · exact y z
    · exact hn (z ▸ q)
theorem RelH.mut (R : RelH K ct H μ M) {n : Nat} (hp : M.ix[n]? = some p) (hm : MRep K ct (upd H p o) M p mo) : RelH K ct (upd H p o) (μ.set n mo) M := by
  have hpm : p ∈ M.ix := List.mem_of_getElem? hp
  refine ⟨by rw [List.length_set]; exact R.len, R.nd, fun k mo' q => ?_, fun a q => ?_⟩
  · rw [List.getElem?_set] at q
    by_cases e : n = k
    · subst e
      rw [if_pos rfl] at q
      split at q
      · cases q; exact ⟨p, hp, hm⟩
      · cases q
    · rw [if_neg e] at q
      obtain ⟨a, e', r⟩ := R.at_ k mo' q
      refine ⟨a, e', r.stay (Evo.mut hpm).stay fun u z => ?_⟩
      have ne : a ≠ p := fun x => e ((List.getElem?_inj (by
        rcases Nat.lt_or_ge n M.ix.length with y | y
        · exact y
        · rw [List.getElem?_eq_none y] at hp; cases hp) R.nd).mp (by rw [hp, e', x]))
      rw [upd_ne ne]; exact z
  · obtain ⟨⟨u, z⟩, y⟩ := R.exs a q
    exact ⟨⟨u, by rw [upd_ne (fun (x : a = p) => y (by rw [x]; exact hpm))]; exact z⟩, y⟩
theorem RelH.cut (R : RelH K ct H μ M) (n : Nat) (hb : (μ.take n).all (belowMO n) = true) : RelH K ct H (μ.take n) (M.cut n) := by
  refine ⟨by show (M.ix.take n).length = _; rw [List.length_take, List.length_take, R.len], R.nd.sublist (List.take_sublist _ _), fun k mo q => ?_, fun a q => ?_⟩
  · have hk : k < n := by
      rcases Nat.lt_or_ge k n with y | y
      · exact y
      · rw [List.getElem?_eq_none (by rw [List.length_take]; omega)] at q; cases q
    have hb' : belowMO n mo = true := (List.all_eq_true.mp hb) mo (List.mem_of_getElem? q)
    rw [List.getElem?_take_of_lt hk] at q
    obtain ⟨a, e, r⟩ := R.at_ k mo q
    refine ⟨a, by show (M.ix.take n)[k]? = _; rw [List.getElem?_take_of_lt hk]; exact e, ?_⟩
    cases mo with
    | lst ds => obtain ⟨xs, h, r⟩ := r; exact ⟨xs, h, r.cut n hb'⟩
    | dead => exact r
    | ins c fs =>
      obtain ⟨dx, fvs, h, r⟩ := r
      refine ⟨dx, fvs, h, ?_⟩
      have hb2 : ∀ p ∈ fs, below n p.2 = true := by simpa [belowMO, List.all_eq_true] using hb'
      clear hb' q h e
      induction r with
      | nil => exact .nil
      | cons a r ih => exact .cons ⟨a.1, a.2.cut n (hb2 _ (List.mem_cons_self ..))⟩ (ih fun p hp => hb2 p (List.mem_cons_of_mem _ hp))
    | dk kvs =>
      obtain ⟨ks, h, r⟩ := r
      refine ⟨ks, h, ?_⟩
      have hb2 : ∀ p ∈ kvs, below n p.2 = true := by simpa [belowMO, List.all_eq_true] using hb'
      clear hb' q h e
      induction r with
      | nil => exact .nil
      | cons a r ih => exact .cons ⟨a.1, a.2.cut n (hb2 _ (List.mem_cons_self ..))⟩ (ih fun p hp => hb2 p (List.mem_cons_of_mem _ hp))
    | dt kvs =>
      obtain ⟨ks, h, r⟩ := r
      refine ⟨ks, h, ?_⟩
      have hb2 : ∀ p ∈ kvs, below n p.2 = true := by simpa [belowMO, List.all_eq_true] using hb'
      clear hb' q h e
      induction r with
      | nil => exact .nil
      | cons a r ih => exact .cons ⟨a.1, a.2.cut n (hb2 _ (List.mem_cons_self ..))⟩ (ih fun p hp => hb2 p (List.mem_cons_of_mem _ hp))
  · obtain ⟨x, y⟩ := R.exs a q
    exact ⟨x, fun z => y (List.mem_of_mem_take z)⟩
/-- evolution seen from the beginning, when what was made is cut off -/
theorem Evo.cut (e : Evo M H M' H') : Evo M H (M'.cut M.ix.length) H' :=
  ⟨fun n a h => by
      have z : n < M.ix.length := by
        rcases Nat.lt_or_ge n M.ix.length with z | z
        · exact z
        · rw [List.getElem?_eq_none z] at h; cases h
      show (M'.ix.take M.ix.length)[n]? = some a
      rw [List.getElem?_take_of_lt z]; exact e.pre n a h,
    by show _ ≤ (M'.ix.take M.ix.length).length; rw [List.length_take]; exact Nat.le_min.mpr ⟨Nat.le_refl _, e.len⟩, e.ex,
    fun a o h n => ⟨(e.keep a o h n).1, fun q => (e.keep a o h n).2 (List.mem_of_mem_take q)⟩⟩
/-- with one address kept out -/
theorem Evo.hide (e : Evo M H M' H') : Evo (M.hide p) H (M'.hide p) H' := ⟨e.pre, e.len, congrArg (p :: ·) e.ex, e.keep⟩
theorem Evo.unhide (e : Evo (M.hide p) H (M'.hide p) H') : Evo M H M' H' := ⟨e.pre, e.len, (List.cons.inj e.ex).2, e.keep⟩
end

/-- slots -/
structure RelE (K : PySem.W.Frag) (H : Hp) (M : AM) (σ : St) (ρ : Rho) : Prop where
  len : σ.length = ρ.length
  at_ : ∀ (i : Nat) (d : D), ρ[i]? = some (some d) → ∃ v, σ[i]? = some (some v) ∧ Rep K H M v d
section
variable {K : PySem.W.Frag} {H H' : Hp} {M M' : AM} {σ : St} {ρ : Rho}
theorem RelE.stay (e : Stay M H M' H') (R : RelE K H M σ ρ) : RelE K H' M' σ ρ :=
  ⟨R.len, fun i d h => by obtain ⟨v, h1, h2⟩ := R.at_ i d h; exact ⟨v, h1, h2.stay e⟩⟩
theorem RelE.evo (e : Evo M H M' H') (R : RelE K H M σ ρ) : RelE K H' M' σ ρ := R.stay e.stay
theorem RelE.set (R : RelE K H M σ ρ) {v : V} {d : D} (r : Rep K H M v d) (i : Nat) : RelE K H M (σ.set i (some v)) (ρ.set i (some d)) := by
  refine ⟨by rw [List.length_set, List.length_set]; exact R.len, fun k d' h => ?_⟩
  rw [List.getElem?_set] at h ⊢
  by_cases e : i = k
  · rw [if_pos e] at h ⊢
    by_cases z : i < ρ.length
    · rw [if_pos z] at h; cases h
      rw [if_pos (by rw [R.len]; exact z)]
      exact ⟨v, rfl, r⟩
    · rw [if_neg z] at h; cases h
  · rw [if_neg e] at h ⊢
    exact R.at_ k d' h
/-- a slot is emptied -/
theorem RelE.clear (R : RelE K H M σ ρ) (i : Nat) (x : Option V) : RelE K H M (σ.set i x) (ρ.set i none) := by
  refine ⟨by rw [List.length_set, List.length_set]; exact R.len, fun k d h => ?_⟩
  rw [List.getElem?_set] at h ⊢
  by_cases e : i = k
  · rw [if_pos e] at h
    split at h <;> simp at h
  · rw [if_neg e] at h ⊢
    exact R.at_ k d h
def wipeR (ρ : Rho) : List Nat → Rho
  | [] => ρ
  | i :: is => (wipeR ρ is).set i none
theorem RelE.wipe (R : RelE K H M σ ρ) : ∀ is : List Nat, RelE K H M (L2.wipe σ is) (wipeR ρ is)
  | [] => R
  | i :: is => (R.wipe is).clear i none
end
theorem wipe_set {σ : St} {i : Nat} {v : Option V} : ∀ {vs : List Nat}, i ∈ vs → L2.wipe (σ.set i v) vs = L2.wipe σ vs := by
  intro vs h
  apply List.ext_getElem?
  intro k
  by_cases hk : k ∈ vs
  · have w : ∀ (τ : St) (vs : List Nat), k ∈ vs → k < τ.length → (L2.wipe τ vs)[k]? = some none := by
      intro τ vs
      induction vs with
      | nil => intro h; cases h
      | cons j js ih =>
        intro hk hl
        unfold L2.wipe
        rw [List.getElem?_set]
        by_cases e : j = k
        · rw [if_pos e, if_pos (by rw [wipe_length, e]; exact hl)]
        · rw [if_neg e]
          rcases List.mem_cons.mp hk with z | z
          · exact absurd z.symm e
          · exact ih z hl
    rcases Nat.lt_or_ge k σ.length with z | z
    · rw [w σ vs hk z, w _ vs hk (by rw [List.length_set]; exact z)]
    · rw [List.getElem?_eq_none (by rw [wipe_length, List.length_set]; exact z), List.getElem?_eq_none (by rw [wipe_length]; exact z)]
  · rw [L2.wipe_out hk, L2.wipe_out hk, List.getElem?_set, if_neg (fun (e : i = k) => hk (by rw [← e]; exact h))]
end PyI
/-! A2: the resolved syntax and its interpreter. -/
namespace PyI
open PySem L2

inductive Bop where
  | add | sub | mul | fdiv | mod | pow | shl | shr | band | bor | bxor
  deriving DecidableEq
inductive Cop where
  | eq | ne | lt | le | gt | ge | is_ | isnot | in_ | notin
  deriving DecidableEq
inductive Ty where
  | str | int | bool | tuple | list
  deriving DecidableEq
inductive Bif where
  | len | int | str | tuple | list | sorted | min | max | sum | any | all | abs | ord | bool
  deriving DecidableEq
inductive Met where
  | append | join | find | isascii | isprintable | split | endswith | startswith | extend | pop | index | isdigit | isalpha | islower
  deriving DecidableEq
inductive Tg where
  | nm (i : Nat)
  | tp (l : List Nat)
  deriving DecidableEq

mutual
inductive E where
  | var (i : Nat)
  | cst (d : D)
  | glob (g : Nat)
  | bin (o : Bop) (a b : E)
  | neg (a : E)
  | inv (a : E)
  | bits (a : E)
  | notv (t : T)
  | and (a b : E)
  | or (a b : E)
  | cmp (o : Cop) (a b : E)
  | chn (o o' : Cop) (a b c : E)
  | ite (t : T) (a b : E)
  | call (f : Nat) (as : Es)
  | bif (b : Bif) (as : Es)
  | isi (a : E) (t : Ty)
  | met (m : Met) (o : E) (as : Es)
  | tr37 (o : E)
  | idx (a b : E)
  | slc (a : E) (lo hi : O)
  | tup (es : Es)
  | lst (es : Es)
  | comp (own : List Nat) (tg : Tg) (it : IT) (c : T) (e : E)
  | gdict (g : Nat) (k : E)            -- CONST[k], a dict of the module with text keys
  | gin (neg : Bool) (g : Nat) (k : E)  -- k in CONST
  | fmt (a : E)                        -- a part {a} of an f-string
  | fs (es : Es)                       -- an f-string of two parts or more
  | dgl (l : List (Str × D)) (k : E)   -- {'..': .., ..}[k]
  | dgt (l : List (Str × D)) (k d : E) -- {'..': .., ..}.get(k, d)
  | get1 (o k : E)                     -- o.get(k)
  | get2 (o k d : E)                   -- o.get(k, d)
  | dnew (tp : Bool)                   -- {}, its keys to be tuples
  | disp (ks : List Str) (es : Es)     -- {'..': e, ..}
  | newL (e : E)                       -- a new list, to be changed
  | revs (a : E)                       -- a[::-1]
  | fld (c : Nat) (o : E) (f : Str)    -- o.f, of an object of the class c
  | mcl (f c : Nat) (m : Str) (o : E) (as : Es)  -- o.m(..), m the table's def f
  | mk (f c : Nat) (as : Es)           -- C(..), its __init__ the table's def f
  | maxd (a d : E)                     -- max(a, default=d)
inductive Es where
  | nil
  | cons (e : E) (es : Es)
inductive O where
  | none
  | some (e : E)
inductive T where
  | yes
  | val (e : E)
  | not (t : T)
  | and (t u : T)
  | or (t u : T)
inductive IT where
  | seq (e : E)
  | rng1 (a : E)
  | rng2 (a b : E)
  | rng3 (a b c : E)
  | enum (a : E)
end
/-- e.replace(y, z).replace(..).. -/
inductive R where
  | base (e : E)
  | repl (r : R) (y z : Str)
/-- what a suite of except hands back: literals, fields of the error -/
inductive XA where
  | cst (d : D)
  | fld (k : Nat)
inductive XR where
  | one (a : XA)
  | tup (l : List XA)
mutual
inductive S where
  | rse (c n : Nat) (es : Es)                -- raise C(e, ..)
  | tryR (r : E) (c : Nat) (i : Nat) (h : XR)  -- try: return r / except C as i: return h
  | setR (i : Nat) (r : R)
  | retR (pre : Str) (r : R) (post : Str)      -- return 'pre' + r + 'post'
  | set (tg : Tg) (e : E)
  | new (i : Nat) (e : E)
  | setIx (o i v : E)
  | aug (i : Nat) (o : Bop) (e : E)
  | par2 (i j : Nat) (es : Es)              -- a, b = x, y
  | daug (o k : E) (b : Bop) (e : E)        -- o[k] += e
  | expr (e : E)
  | ifs (t : T) (a b : B)
  | for_ (tg : Tg) (it : IT) (b : B)
  | whl (t : T) (b : B)
  | ret (e : E)
  | retN
  | pass
  | brk
  | cnt
  | bad                                   -- nothing is known of it
  | setF (c : Nat) (o : E) (f : Str) (e : E)             -- o.f = e
  | augF (c : Nat) (o : E) (f : Str) (b : Bop) (e : E)   -- o.f += e
  | tryE (r : E) (c : Nat) (i : Nat) (h : XR)            -- try: r / except C as i: return h
inductive B where
  | nil
  | cons (s : S) (b : B)
end

inductive Res (α : Type) where
  | ok (a : α) (μ : Mu)
  | err (c : Nat) (fs : List D) (μ : Mu)
  | stuck

def Res.bind {α β : Type} (r : Res α) (f : α → Mu → Res β) : Res β := match r with
  | .ok a μ => f a μ
  | .err c fs μ => .err c fs μ
  | .stuck => .stuck
def needs {α : Type} (p : Prop) [Decidable p] (r : Res α) : Res α := if p then r else .stuck
theorem needs_pos {α : Type} {p : Prop} [Decidable p] {r : Res α} (h : p) : needs p r = r := if_pos h

structure G where
  call : Nat → List D → Mu → Res D
  con : Nat → Option D
  dic : Nat → List (Str × D)
  wf : Nat
  mkr : Bool

/-! ### equality -/
mutual
def D.beq : D → D → Bool
  | .non, .non => true
  | .bl a, .bl b => a == b
  | .int a, .int b => a == b
  | .str a, .str b => a == b
  | .ref a, .ref b => a == b
  | .tup a, .tup b => D.beqs a b
  | .lst a, .lst b => D.beqs a b
  | _, _ => false
def D.beqs : List D → List D → Bool
  | [], [] => true
  | x :: xs, y :: ys => D.beq x y && D.beqs xs ys
  | _, _ => false
end
mutual
/-- Python's == on data -/
def eqD : D → D → Bool
  | .non, .non => true
  | .bl a, .bl b => a == b
  | .bl a, .int j => (if a then 1 else 0) == j
  | .int i, .bl b => i == (if b then 1 else 0)
  | .int i, .int j => i == j
  | .str x, .str y => x == y
  | .lst xs, .lst ys => eqDs xs ys
  | .tup xs, .tup ys => eqDs xs ys
  | _, _ => false
def eqDs : List D → List D → Bool
  | [], [] => true
  | x :: xs, y :: ys => eqD x y && eqDs xs ys
  | _, _ => false
end
mutual
/-- what == is told of: no references, texts of signs, at most n deep -/
def eqOk : Nat → D → Bool
  | _, .non | _, .bl _ | _, .int _ => true
  | _, .str s => s.cps.all (· < 0x110000)
  | 0, .tup _ | 0, .lst _ => false
  | n + 1, .tup l => eqOks n l
  | n + 1, .lst l => eqOks n l
  | _, .ref _ => false
  | _, .kl _ => false
  | _, .kt _ => false
def eqOks : Nat → List D → Bool
  | _, [] => true
  | n, d :: ds => eqOk n d && eqOks n ds
end
/-- a list object's content as a datum -/
def deref (μ : Mu) : D → D
  | .ref n => match μ[n]? with
    | some (.lst l) => .lst l
    | _ => .ref n
  | d => d
def flatD : D → Bool
  | .non | .bl _ | .int _ | .str _ => true
  | _ => false
/-- the items of a list or a tuple -/
def seqD (μ : Mu) : D → Option (List D)
  | .tup l => some l
  | .lst l => some l
  | .kl l => some l
  | .kt l => some l
  | .ref n => match μ[n]? with
    | some (.lst l) => some l
    | _ => none
  | _ => none
/-- the items of a list -/
def lstD (μ : Mu) : D → Option (List D)
  | .lst l => some l
  | .ref n => match μ[n]? with
    | some (.lst l) => some l
    | _ => none
  | _ => none
def truD (μ : Mu) : D → Mu → Res Bool
  | .non, ν => .ok false ν
  | .bl b, ν => .ok b ν
  | .int i, ν => .ok (i != 0) ν
  | .str s, ν => needs (s.length ≤ 16777216) (.ok (s.length != 0) ν)
  | .tup l, ν => .ok (!l.isEmpty) ν
  | .lst l, ν => .ok (!l.isEmpty) ν
  | .kl _, _ => .stuck
  | .kt l, ν => .ok (!l.isEmpty) ν
  | .ref n, ν => match μ[n]? with
    | some (.lst l) => .ok (!l.isEmpty) ν
    | _ => .stuck

/-! ### dicts -/
def keyD : D → Option Key
  | .int i => some (.inl i)
  | .str s => some (.inr s)
  | _ => none
def keysL : List D → Option (List Key)
  | [] => some []
  | d :: ds => match keyD d, keysL ds with
    | some k, some ks => some (k :: ks)
    | _, _ => none
def keysD : D → Option (List Key)
  | .tup ds => keysL ds
  | _ => none
section
variable {κ : Type} [DecidableEq κ]
def valD (kvs : List (κ × D)) (k : κ) : Option D := (kvs.find? fun kv => decide (kv.1 = k)).map (·.2)
def putD (kvs : List (κ × D)) (k : κ) (v : D) : List (κ × D) := if kvs.any (fun kv => decide (kv.1 = k)) then kvs.map fun kv => if kv.1 = k then (kv.1, v) else kv else kvs ++ [(k, v)]
def mergeD (kvs more : List (κ × D)) : List (κ × D) := more.foldl (fun acc kv => putD acc kv.1 kv.2) kvs
end
/-- what is asked of a dict: none where this is no dict, or no key of its kind -/
def getDic (μ : Mu) (o k : D) : Option (Option D) := match o with
  | .ref n => match μ[n]? with
    | some (.dk kvs) => (keyD k).map fun k => valD kvs k
    | some (.dt kvs) => (keysD k).map fun k => valD kvs k
    | _ => none
  | _ => none
/-- the same for o.get(k, x) -/
def getDicS (μ : Mu) (o k : D) : Option (Option D) := match o, k with
  | .ref n, .str s => match μ[n]? with
    | some (.dt _) => some none
    | _ => getDic μ o k
  | _, _ => getDic μ o k
def isDic (μ : Mu) (o : D) : Bool := match o with
  | .ref n => match μ[n]? with
    | some (.dk _) => true
    | some (.dt _) => true
    | _ => false
  | _ => false
def putDic (μ : Mu) (o k v : D) : Option (Nat × Mu) := match o with
  | .ref n => match μ[n]? with
    | some (.dk kvs) => (keyD k).map fun k => (kvs.length, μ.set n (.dk (putD kvs k v)))
    | some (.dt kvs) => (keysD k).map fun k => (kvs.length, μ.set n (.dt (putD kvs k v)))
    | _ => none
  | _ => none
/-! ### operators -/
/-- a text, so many times -/
def strRep (x : Str) (n : Nat) : Str := ⟨(List.replicate n x.cps).foldl (· ++ ·) #[]⟩
abbrev lim64 (i : Int) : Prop := -(2 ^ 64) < i ∧ i < 2 ^ 64
def binD (o : Bop) (x y : D) (μ : Mu) : Res D := match o, x, y with
  | .add, .int i, .int j => .ok (.int (i + j)) μ
  | .sub, .int i, .int j => .ok (.int (i - j)) μ
  | .mul, .int i, .int j => needs ((lim64 i ∨ lim64 j) ∨ i.natAbs.log2 + j.natAbs.log2 < 1000000) (.ok (.int (i * j)) μ)
  | .fdiv, .int i, .int j => needs (0 < j ∧ (j < 1073741824 ∨ j.natAbs.log2 < 9000)) (.ok (.int (i / j)) μ)
  | .mod, .int i, .int j => needs (0 < j) (.ok (.int (i % j)) μ)
  | .pow, .int i, .int j => needs (0 ≤ j ∧ j ≤ 1000000 ∧ i.natAbs < 2 ^ 64) (.ok (.int (i ^ j.toNat)) μ)
  | .shl, .int i, .int j => needs ((0 ≤ j ∧ j ≤ 1000000 ∧ i.natAbs < 2 ^ 64) ∨ (0 ≤ j ∧ (Builtin.Int.intBits i : Int) + j ≤ 2 ^ 27)) (.ok (.int (i * 2 ^ j.toNat)) μ)
  | .shr, .int i, .int j => needs (0 ≤ j) (.ok (.int (i / 2 ^ j.toNat)) μ)
  | .band, .int i, .int j => .ok (.int (Builtin.bitAnd i j)) μ
  | .bor, .int i, .int j => .ok (.int (Builtin.bitOr i j)) μ
  | .bxor, .int i, .int j => .ok (.int (Builtin.bitXor i j)) μ
  | .add, .str i, .str j => needs (i.length + j.length ≤ 16777216) (.ok (.str (i ++ j)) μ)
  | .add, .tup i, .tup j => needs (i.length + j.length ≤ 16777216) (.ok (.tup (i ++ j)) μ)
  | .mul, .str i, .int j => needs ((-(2 ^ 62) ≤ j ∧ j < 2 ^ 62) ∧ i.length * j.toNat ≤ 16777216) (.ok (.str (strRep i j.toNat)) μ)
  | .mul, x, .int j => match lstD μ x with
    | some l => needs ((-(2 ^ 62) ≤ j ∧ j < 2 ^ 62) ∧ l.length * j.toNat ≤ 16777216) (.ok (.lst (List.replicate j.toNat l).flatten) μ)
    | none => .stuck
  | .add, x, y => match lstD μ x, lstD μ y with
    | some i, some j => needs (i.length + j.length ≤ 16777216) (.ok (.lst (i ++ j)) μ)
    | _, _ => .stuck
  | _, _, _ => .stuck
def ltS (i j : Str) : Bool := decide (i.cps.toList < j.cps.toList)
def cmpD (o : Cop) (x y : D) (μ : Mu) : Res Bool := match o with
  | .eq => let x := deref μ x; let y := deref μ y; needs (eqOk 64 x = true ∧ eqOk 64 y = true) (.ok (eqD x y) μ)
  | .ne => let x := deref μ x; let y := deref μ y; needs (eqOk 64 x = true ∧ eqOk 64 y = true) (.ok (!eqD x y) μ)
  | .lt => match x, y with
    | .int i, .int j => .ok (decide (i < j)) μ
    | .str i, .str j => .ok (ltS i j) μ
    | _, _ => .stuck
  | .le => match x, y with
    | .int i, .int j => .ok (decide (i ≤ j)) μ
    | .str i, .str j => .ok (!ltS j i) μ
    | _, _ => .stuck
  | .gt => match x, y with
    | .int i, .int j => .ok (decide (j < i)) μ
    | .str i, .str j => .ok (ltS j i) μ
    | _, _ => .stuck
  | .ge => match x, y with
    | .int i, .int j => .ok (decide (j ≤ i)) μ
    | .str i, .str j => .ok (!ltS i j) μ
    | _, _ => .stuck
  | .is_ => match x, y with
    | .non, .non => .ok true μ
    | _, .non => .ok false μ
    | .bl a, .bl b => .ok (a == b) μ
    | _, .bl _ => .ok false μ
    | _, _ => .stuck
  | .isnot => match x, y with
    | .non, .non => .ok false μ
    | _, .non => .ok true μ
    | .bl a, .bl b => .ok (!(a == b)) μ
    | _, .bl _ => .ok true μ
    | _, _ => .stuck
  | .in_ => match x, y with
    | .str i, .str j => .ok (!(Builtin.Str.occurrences j i 0 j.length 1).isEmpty) μ
    | x, y => match getDic μ y x with
     | some r => .ok r.isSome μ
     | none => match seqD μ y with
      | some l => needs (flatD x = true ∧ l.all flatD = true) (.ok (l.any fun y => eqD y x) μ)
      | none => .stuck
  | .notin => match x, y with
    | .str i, .str j => .ok (!(!(Builtin.Str.occurrences j i 0 j.length 1).isEmpty)) μ
    | x, y => match getDic μ y x with
     | some r => .ok (!r.isSome) μ
     | none => match seqD μ y with
      | some l => needs (flatD x = true ∧ l.all flatD = true) (.ok (!(l.any fun y => eqD y x)) μ)
      | none => .stuck
def isiD (x : D) (t : Ty) (μ : Mu) : Res D := match x with
  | .non => .ok (.bl false) μ
  | .bl _ => .ok (.bl (t == .bool || t == .int)) μ
  | .int _ => .ok (.bl (t == .int)) μ
  | .str _ => .ok (.bl (t == .str)) μ
  | .tup _ => .ok (.bl (t == .tuple)) μ
  | .lst _ => .ok (.bl (t == .list)) μ
  | .kl _ => .stuck
  | .kt _ => .ok (.bl (t == .tuple)) μ
  | .ref n => match μ[n]? with
    | some (.lst _) => .ok (.bl (t == .list)) μ
    | _ => .stuck
def strsOf : List D → Option (List Str)
  | [] => some []
  | .str s :: ds => (strsOf ds).map (s :: ·)
  | _ => none
def intsOf : List D → Option (List Int)
  | [] => some []
  | .int s :: ds => (intsOf ds).map (s :: ·)
  | _ => none
def boolsOf : List D → Option (List Bool)
  | [] => some []
  | .bl s :: ds => (boolsOf ds).map (s :: ·)
  | _ => none
def maxL : List Int → Int
  | [] => 0
  | [a] => a
  | a :: b :: r => if a < maxL (b :: r) then maxL (b :: r) else a
def minL : List Int → Int
  | [] => 0
  | [a] => a
  | a :: b :: r => if minL (b :: r) < a then minL (b :: r) else a
def insI (a : Int) : List Int → List Int
  | [] => [a]
  | b :: r => if a ≤ b then a :: b :: r else b :: insI a r
def sortI : List Int → List Int
  | [] => []
  | a :: r => insI a (sortI r)
def bifD (b : Bif) (ds : List D) (μ : Mu) : Res D := match b, ds with
  | .len, [.str s] => needs (s.length ≤ 16777216) (.ok (.int s.length) μ)
  | .len, [d] => match seqD μ d with
    | some l => .ok (.int l.length) μ
    | none => .stuck
  | .int, [.int i] => .ok (.int i) μ
  | .int, [.bl k] => .ok (.int (if k then 1 else 0)) μ
  | .int, [.str s] => match PySem.intText? s with
    | some n => needs (s.length ≤ 640) (.ok (.int n) μ)
    | none => .stuck
  | .str, [.int i] => needs (i.natAbs.log2 < 1920) (.ok (.str (toString i)) μ)
  | .abs, [.int i] => .ok (.int (if i < 0 then -i else i)) μ
  | .max, [.int i, .int j] => .ok (.int (if j > i then j else i)) μ
  | .min, [.int i, .int j] => .ok (.int (if j < i then j else i)) μ
  | .min, [.int a, .int b, .int c] => .ok (.int (if c < (if b < a then b else a) then c else (if b < a then b else a))) μ
  | .tuple, [.tup l] => .ok (.tup l) μ
  | .tuple, [.kt l] => .ok (.kt l) μ
  | .tuple, [d] => match seqD μ d with
    | some l => .ok (.tup l) μ
    | none => .stuck
  | .list, [d] => match seqD μ d with
    | some l => .ok (.lst l) μ
    | none => .stuck
  | .ord, [.str s] => needs (s.length = 1) (.ok (.int (s.cps.getD 0 0 : Nat)) μ)
  | .sum, [d] => match (lstD μ d).bind intsOf with
    | some l => .ok (.int l.sum) μ
    | none => .stuck
  | .any, [d] => match (lstD μ d).bind boolsOf with
    | some l => .ok (.bl (l.any id)) μ
    | none => .stuck
  | .all, [d] => match (lstD μ d).bind boolsOf with
    | some l => .ok (.bl (l.all id)) μ
    | none => .stuck
  | .max, [d] => match (lstD μ d).bind intsOf with
    | some l => needs (0 < l.length) (.ok (.int (maxL l)) μ)
    | none => .stuck
  | .min, [d] => match (lstD μ d).bind intsOf with
    | some l => needs (0 < l.length) (.ok (.int (minL l)) μ)
    | none => .stuck
  | .sorted, [d] => match (lstD μ d).bind intsOf with
    | some l => .ok (.lst ((sortI l).map D.int)) μ
    | none => .stuck
  | _, _ => .stuck
def metD (m : Met) (o : D) (ds : List D) (μ : Mu) : Res D := match m, o, ds with
  | .append, .ref n, [d] => match μ[n]? with
    | some (.lst l) => needs (l.length < 16777216) (.ok .non (μ.set n (.lst (l ++ [d]))))
    | _ => .stuck
  | .extend, .ref n, [d] => match μ[n]?, lstD μ d with
    | some (.lst l), some r => needs (l.length + r.length ≤ 16777216) (.ok .non (μ.set n (.lst (l ++ r))))
    | _, _ => .stuck
  | .index, .ref n, [d] => match μ[n]? with
    | some (.lst l) => needs (flatD d = true ∧ l.all flatD = true ∧ l.any (fun y => eqD y d) = true) (.ok (.int (l.findIdx fun y => eqD y d)) μ)
    | _ => .stuck
  | .join, .str a, [d] => match (seqD μ d).bind strsOf with
    | some ys => needs ((ys.map (·.length)).sum + ys.length * a.length ≤ 16777216) (.ok (.str (Txt.join a ys)) μ)
    | none => .stuck
  | .find, .str a, [.str b, .int i] => .ok (.int (Txt.find3 a b i)) μ
  | .find, .str a, [.str b] => .ok (.int (Txt.find a b)) μ
  | .isascii, .str a, [] => .ok (.bl (Txt.isascii a)) μ
  | .isprintable, .str a, [] => .ok (.bl (Txt.isprintable a)) μ
  | .isdigit, .str a, [] => .ok (.bl (Txt.isdigit a)) μ
  | .isalpha, .str a, [] => .ok (.bl (Txt.isalpha a)) μ
  | .islower, .str a, [] => .ok (.bl (Txt.islower a)) μ
  | .startswith, .str a, [.str b] => .ok (.bl (Txt.startswith a b)) μ
  | .endswith, .str a, [.str b] => .ok (.bl (Txt.endswith a b)) μ
  | .split, .str a, [.str b] => needs (¬ b.length = 0 ∧ a.length + 2 ≤ 16777216) (.ok (.lst ((Txt.split a b).map D.str)) μ)
  | _, _, _ => .stuck
/-- the receiver is of the method's type -/
def tyD (m : Met) (o : D) (μ : Mu) : Bool := match m, o with
  | .append, .ref n => (match μ[n]? with
    | some (.lst _) => true
    | _ => false)
  | .extend, .ref n => (match μ[n]? with
    | some (.lst _) => true
    | _ => false)
  | .index, .ref n => (match μ[n]? with
    | some (.lst _) => true
    | _ => false)
  | .extend, _ | .pop, _ | .append, _ | .index, _ => false
  | _, .str _ => true
  | _, _ => false
def replD (o : D) (y z : Str) (μ : Mu) : Res D := match o with
  | .str x => needs (x.length + (x.length + 1) * z.length ≤ 16777216) (.ok (.str (Txt.replace x y z)) μ)
  | _ => .stuck
def tr37S (x : Str) : Str := ⟨(x.cps.toList.filter (· != 37)).toArray⟩
def tr37D (o : D) (μ : Mu) : Res D := match o with
  | .str x => needs (x.length ≤ 1000000 ∧ x.cps.all (· < 128) = true) (.ok (.str (tr37S x)) μ)
  | _ => .stuck
def revD (o : D) (μ : Mu) : Res D := match o with
  | .tup l => .ok (.tup l.reverse) μ
  | d => match lstD μ d with
    | some l => .ok (.lst l.reverse) μ
    | none => .stuck
def idxD (o i : D) (μ : Mu) : Res D := match o, i with
  | .str z, .int k => match atI z.cps.toList k with
    | some c => needs (z.length ≤ 16777216) (.ok (.str ⟨#[c]⟩) μ)
    | none => .stuck
  | o, .int k => match seqD μ o with
    | some l => match atI l k with
      | some d => .ok d μ
      | none => .stuck
    | none => .stuck
  | _, _ => .stuck
def cutD (xs : List D) (lo hi : Option Int) : List D := (xs.drop (HT.sIx xs.length 0 lo)).take (HT.sIx xs.length xs.length hi - HT.sIx xs.length 0 lo)
/-- o[i], a dict's too -/
def idxA (o i : D) (μ : Mu) : Res D := match getDic μ o i with
  | some (some d) => .ok d μ
  | some none => .stuck
  | none => idxD o i μ
def slcD (o : D) (lo hi : Option Int) (μ : Mu) : Res D := match o with
  | .str z => needs (z.length ≤ 16777216) (.ok (.str (cutS z lo hi)) μ)
  | .lst l => .ok (.lst (cutD l lo hi)) μ
  | .ref n => match μ[n]? with
    | some (.lst l) => .ok (.lst (cutD l lo hi)) μ
    | _ => .stuck
  | .tup l => .ok (.tup (cutD l lo hi)) μ
  | _ => .stuck
def setIxD (o i v : D) (μ : Mu) : Res Unit := match o, i with
  | .ref n, .int k => match μ[n]? with
    | some (.lst l) => match ixN l.length k with
      | some j => .ok () (μ.set n (.lst (l.set j v)))
      | none => .stuck
    | _ => .stuck
  | _, _ => .stuck
/-- o[i] = v, a dict's too -/
def putA (o i v : D) (μ : Mu) : Res Unit := match putDic μ o i v with
  | some (n, μ') => needs (n < 16777216) (.ok () μ')
  | none => setIxD o i v μ
def assignT (t : Tg) (d : D) (ρ : Rho) : Option Rho := match t with
  | .nm i => some (ρ.set i (some d))
  | .tp l => match d with
    | .tup ds => if ds.length = l.length then some ((l.zip ds).foldl (fun ρ p => ρ.set p.1 (some p.2)) ρ) else none
    | .lst ds => if ds.length = l.length then some ((l.zip ds).foldl (fun ρ p => ρ.set p.1 (some p.2)) ρ) else none
    | .kt ds => if ds.length = l.length then some ((l.zip ds).foldl (fun ρ p => ρ.set p.1 (some p.2)) ρ) else none
    | _ => none

/-! ### loops of comprehensions -/
def compLoop (f : D → Mu → Res (Option D)) (chk : Mu → Bool) : List D → List D → Mu → Res (List D)
  | acc, [], μ => if chk μ then .ok acc μ else .stuck
  | acc, d :: ds, μ => if chk μ then (match f d μ with
      | .ok none μ' => compLoop f chk acc ds μ'
      | .ok (some y) μ' => needs (acc.length < 16777216) (compLoop f chk (acc ++ [y]) ds μ')
      | _ => .stuck) else .stuck
/-- the items, and the list object that must stay while they are walked -/
abbrev Its := List D × Option (Nat × List D)
def chkOf (src : Option (Nat × List D)) (μ : Mu) : Bool := match src with
  | none => true
  | some (n, l) => match μ[n]? with
    | some (.lst l') => D.beqs l' l
    | _ => false
def rngD (lo : Int) (n : Nat) : List D := (List.range n).map fun (i : Nat) => D.int (lo + (i : Int))
def lim62 (i : Int) : Prop := -(2 ^ 62) ≤ i ∧ i < 2 ^ 62
instance (i : Int) : Decidable (lim62 i) := by unfold lim62; infer_instance
def itD (d : D) (μ : Mu) : Res Its := match d with
  | .tup l => .ok (l, none) μ
  | .kt l => .ok (l, none) μ
  | .lst l => .ok (l, none) μ
  | .ref n => match μ[n]? with
    | some (.lst l) => .ok (l, some (n, l)) μ
    | _ => .stuck
  | .str s => .ok (s.cps.toList.map fun c => D.str ⟨#[c]⟩, none) μ
  | _ => .stuck

/-- what enumerate yields -/
def enumL (l : List D) : List D := (l.zipIdx 0).map fun p => D.tup [.int (p.2 : Nat), p.1]
def enumD (d : D) (μ : Mu) : Res Its := match d with
  | .tup l => .ok (enumL l, none) μ
  | .lst l => .ok (enumL l, none) μ
  | _ => .stuck
/-- range(a, b, -1) -/
def rngDown (lo : Int) (n : Nat) : List D := (List.range n).map fun (i : Nat) => D.int (lo + (i : Int) * (-1))
/-- the last one of a name -/
def lkL : List (Str × D) → Str → Option D → Option D
  | [], _, r => r
  | (k, d) :: l, s, r => lkL l s (if s = k then some d else r)
/-! ### objects of own classes -/
def fldD (c : Nat) (x : D) (f : Str) (μ : Mu) : Res D := match x with
  | .ref n => match μ[n]? with
    | some (.ins c' fs) => if c' = c then (match fs.lookup f with
      | some d => .ok d μ
      | none => .stuck) else .stuck
    | _ => .stuck
  | _ => .stuck
def insOk (c : Nat) (m : Str) (x : D) (μ : Mu) : Bool := match x with
  | .ref n => match μ[n]? with
    | some (.ins c' fs) => decide (c' = c) && (fs.lookup m).isNone
    | _ => false
  | _ => false
def putFD (f : Str) (v : D) : List (Str × D) → List (Str × D)
  | [] => [(f, v)]
  | (g, x) :: r => if g = f then (g, v) :: r else (g, x) :: putFD f v r
def setFD (c : Nat) (x : D) (f : Str) (v : D) (μ : Mu) : Res Unit := match x with
  | .ref n => match μ[n]? with
    | some (.ins c' fs) => if c' = c ∧ fs.length < 1000 then .ok () (μ.set n (.ins c (putFD f v fs))) else .stuck
    | _ => .stuck
  | _ => .stuck
def augI (b : Bop) (v y : D) : Option Int := match b, v, y with
  | .add, .int i, .int j => some (i + j)
  | .sub, .int i, .int j => some (i - j)
  | _, _, _ => none
def maxdD (x d : D) (μ : Mu) : Res D := match (lstD μ x).bind intsOf with
  | some l => if l = [] then .ok d μ else .ok (.int (maxL l)) μ
  | none => .stuck
mutual
def evalE (Γ : G) : E → Rho → Mu → Res D
  | .var i, ρ, μ => match ρ[i]? with
    | some (some d) => .ok d μ
    | _ => .stuck
  | .cst d, _, μ => .ok d μ
  | .glob g, _, μ => match Γ.con g with
    | some d => .ok d μ
    | none => .stuck
  | .bin o a b, ρ, μ => (evalE Γ a ρ μ).bind fun x μ => (evalE Γ b ρ μ).bind fun y μ => binD o x y μ
  | .neg a, ρ, μ => (evalE Γ a ρ μ).bind fun x μ => match x with
    | .int i => .ok (.int (-i)) μ
    | _ => .stuck
  | .inv a, ρ, μ => (evalE Γ a ρ μ).bind fun x μ => match x with
    | .int i => .ok (.int (Builtin.bitNot i)) μ
    | _ => .stuck
  | .bits a, ρ, μ => (evalE Γ a ρ μ).bind fun x μ => match x with
    | .int i => .ok (.int (Builtin.Int.intBits i)) μ
    | _ => .stuck
  | .notv t, ρ, μ => (evalT Γ t ρ μ).bind fun b μ => .ok (.bl (!b)) μ
  | .and a b, ρ, μ => (evalE Γ a ρ μ).bind fun x μ => (truD μ x μ).bind fun k μ => if k then evalE Γ b ρ μ else .ok x μ
  | .or a b, ρ, μ => (evalE Γ a ρ μ).bind fun x μ => (truD μ x μ).bind fun k μ => if k then .ok x μ else evalE Γ b ρ μ
  | .cmp o a b, ρ, μ => (evalE Γ a ρ μ).bind fun x μ => (evalE Γ b ρ μ).bind fun y μ => (cmpD o x y μ).bind fun k μ => .ok (.bl k) μ
  | .chn o o' a b c, ρ, μ => (evalE Γ a ρ μ).bind fun x μ => (evalE Γ b ρ μ).bind fun y μ => (cmpD o x y μ).bind fun k μ =>
      if k then (evalE Γ c ρ μ).bind fun z μ => (cmpD o' y z μ).bind fun k μ => .ok (.bl k) μ else .ok (.bl false) μ
  | .ite t a b, ρ, μ => (evalT Γ t ρ μ).bind fun k μ => if k then evalE Γ a ρ μ else evalE Γ b ρ μ
  | .call f as, ρ, μ => (evalEs Γ as ρ μ).bind fun ds μ => Γ.call f ds μ
  | .bif b as, ρ, μ => (evalEs Γ as ρ μ).bind fun ds μ => bifD b ds μ
  | .isi a t, ρ, μ => (evalE Γ a ρ μ).bind fun x μ => isiD x t μ
  | .met m o as, ρ, μ => (evalE Γ o ρ μ).bind fun x μ => needs (tyD m x μ = true) ((evalEs Γ as ρ μ).bind fun ds μ => metD m x ds μ)
  | .tr37 o, ρ, μ => (evalE Γ o ρ μ).bind fun x μ => tr37D x μ
  | .idx a b, ρ, μ => (evalE Γ a ρ μ).bind fun x μ => (evalE Γ b ρ μ).bind fun y μ => idxA x y μ
  | .slc a lo hi, ρ, μ => (evalE Γ a ρ μ).bind fun x μ => (evalO Γ lo ρ μ).bind fun l μ => (evalO Γ hi ρ μ).bind fun h μ => slcD x l h μ
  | .tup es, ρ, μ => (evalEs Γ es ρ μ).bind fun ds μ => needs (ds.length ≤ 16777216) (.ok (.tup ds) μ)
  | .lst es, ρ, μ => (evalEs Γ es ρ μ).bind fun ds μ => needs (ds.length ≤ 16777216) (.ok (.lst ds) μ)
  | .comp own tg it c e, ρ, μ => (evalIt Γ it ρ μ).bind fun ds μ =>
      (compLoop (fun d μ => match assignT tg d (wipeR ρ own) with
        | none => .stuck
        | some ρ' => (evalT Γ c ρ' μ).bind fun k μ => if k then (evalE Γ e ρ' μ).bind fun y μ => .ok (some y) μ else .ok none μ) (chkOf ds.2) [] ds.1 μ).bind fun l μ => .ok (.lst l) μ
  | .gdict g k, ρ, μ => (evalE Γ k ρ μ).bind fun x μ => match x with
    | .str s => match (Γ.dic g).lookup s with
      | some d => .ok d μ
      | none => .stuck
    | _ => .stuck
  | .gin neg g k, ρ, μ => (evalE Γ k ρ μ).bind fun x μ => match x with
    | .str s => .ok (.bl (if neg then !((Γ.dic g).lookup s).isSome else ((Γ.dic g).lookup s).isSome)) μ
    | _ => .stuck
  | .fmt a, ρ, μ => (evalE Γ a ρ μ).bind fun x μ => match x with
    | .str y => needs (y.length ≤ 16777216) (.ok (.str y) μ)
    | .int i => needs (i.natAbs.log2 < 1920) (.ok (.str (toString i)) μ)
    | _ => .stuck
  | .fs es, ρ, μ => evalJ Γ es Str.empty ρ μ
  | .dgl l k, ρ, μ => (evalE Γ k ρ μ).bind fun x μ => match x with
    | .str s => match lkL l s none with
      | some d => .ok d μ
      | none => .stuck
    | _ => .stuck
  | .dgt l k d, ρ, μ => (evalE Γ k ρ μ).bind fun x μ => (evalE Γ d ρ μ).bind fun z μ => match x with
    | .str s => .ok ((lkL l s none).getD z) μ
    | _ => .stuck
  | .get1 o k, ρ, μ => (evalE Γ o ρ μ).bind fun x μ => needs (isDic μ x = true) ((evalE Γ k ρ μ).bind fun y μ => match getDic μ x y with
    | some r => .ok (r.getD .non) μ
    | none => .stuck)
  | .get2 o k d, ρ, μ => (evalE Γ o ρ μ).bind fun x μ => needs (isDic μ x = true) ((evalE Γ k ρ μ).bind fun y μ => (evalE Γ d ρ μ).bind fun z μ => match getDicS μ x y with
    | some r => .ok (r.getD z) μ
    | none => .stuck)
  | .dnew tp, _, μ => .ok (.ref μ.length) (μ ++ [if tp then .dt [] else .dk []])
  | .disp ks es, ρ, μ => (evalEs Γ es ρ μ).bind fun ds μ => needs (ds.length = ks.length ∧ ks.length ≤ 15) (.ok (.ref μ.length) (μ ++ [.dk (mergeD [] (ks.zip ds |>.map fun p => (Sum.inr p.1, p.2)))]))
  | .newL e, ρ, μ => (evalE Γ e ρ μ).bind fun d μ => match d with
    | .lst l => .ok (.ref μ.length) (μ ++ [.lst l])
    | _ => .stuck
  | .revs a, ρ, μ => (evalE Γ a ρ μ).bind fun x μ => revD x μ
  | .fld c o f, ρ, μ => (evalE Γ o ρ μ).bind fun x μ => fldD c x f μ
  | .mcl f c m o as, ρ, μ => (evalE Γ o ρ μ).bind fun x μ => needs (insOk c m x μ = true) ((evalEs Γ as ρ μ).bind fun ds μ => Γ.call f (x :: ds) μ)
  | .mk f c as, ρ, μ => (evalEs Γ as ρ μ).bind fun ds μ => (Γ.call f (.ref μ.length :: ds) (μ ++ [.ins c []])).bind fun d μ' => match d with
    | .non => .ok (.ref μ.length) μ'
    | _ => .stuck
  | .maxd a d, ρ, μ => (evalE Γ a ρ μ).bind fun x μ => (evalE Γ d ρ μ).bind fun y μ => maxdD x y μ
def evalJ (Γ : G) : Es → Str → Rho → Mu → Res D
  | .nil, acc, _, μ => .ok (.str acc) μ
  | .cons e es, acc, ρ, μ => (evalE Γ e ρ μ).bind fun x μ => match x with
    | .str y => needs ((acc ++ y).length ≤ 16777216) (evalJ Γ es (acc ++ y) ρ μ)
    | _ => .stuck
def evalEs (Γ : G) : Es → Rho → Mu → Res (List D)
  | .nil, _, μ => .ok [] μ
  | .cons e es, ρ, μ => (evalE Γ e ρ μ).bind fun d μ => (evalEs Γ es ρ μ).bind fun ds μ => .ok (d :: ds) μ
def evalO (Γ : G) : O → Rho → Mu → Res (Option Int)
  | .none, _, μ => .ok none μ
  | .some e, ρ, μ => (evalE Γ e ρ μ).bind fun d μ => match d with
    | .int i => .ok (some i) μ
    | _ => .stuck
def evalT (Γ : G) : T → Rho → Mu → Res Bool
  | .yes, _, μ => .ok true μ
  | .val e, ρ, μ => (evalE Γ e ρ μ).bind fun d μ => truD μ d μ
  | .not t, ρ, μ => (evalT Γ t ρ μ).bind fun b μ => .ok (!b) μ
  | .and t u, ρ, μ => (evalT Γ t ρ μ).bind fun b μ => if b then evalT Γ u ρ μ else .ok false μ
  | .or t u, ρ, μ => (evalT Γ t ρ μ).bind fun b μ => if b then .ok true μ else evalT Γ u ρ μ
def evalIt (Γ : G) : IT → Rho → Mu → Res Its
  | .seq e, ρ, μ => (evalE Γ e ρ μ).bind fun d μ => itD d μ
  | .rng1 a, ρ, μ => (evalE Γ a ρ μ).bind fun x μ => match x with
    | .int j => needs (lim62 j) (.ok (rngD 0 j.toNat, none) μ)
    | _ => .stuck
  | .rng2 a b, ρ, μ => (evalE Γ a ρ μ).bind fun x μ => (evalE Γ b ρ μ).bind fun y μ => match x, y with
    | .int i, .int j => needs (lim62 i ∧ lim62 j) (.ok (rngD i (j - i).toNat, none) μ)
    | _, _ => .stuck
  | .rng3 a b c, ρ, μ => (evalE Γ a ρ μ).bind fun x μ => (evalE Γ b ρ μ).bind fun y μ => (evalE Γ c ρ μ).bind fun z μ => match x, y, z with
    | .int i, .int j, .int k => needs (k = -1 ∧ lim62 i ∧ lim62 j) (.ok (rngDown i (i - j).toNat, none) μ)
    | _, _, _ => .stuck
  | .enum a, ρ, μ => (evalE Γ a ρ μ).bind fun d μ => enumD d μ
end

/-! ### statements -/
def evalR (Γ : G) : R → Rho → Mu → Res D
  | .base e, ρ, μ => evalE Γ e ρ μ
  | .repl r y z, ρ, μ => (evalR Γ r ρ μ).bind fun x μ => replD x y z μ
inductive Out where
  | nx (ρ : Rho) (μ : Mu)
  | br (ρ : Rho) (μ : Mu)
  | ct (ρ : Rho) (μ : Mu)
  | rt (d : D) (μ : Mu)
  | er (c : Nat) (fs : List D) (ρ : Rho) (μ : Mu)
  | stuck
def Res.then {α : Type} (r : Res α) (ρ : Rho) (f : α → Mu → Out) : Out := match r with
  | .ok a μ => f a μ
  | .err c fs μ => .er c fs ρ μ
  | .stuck => .stuck
def Out.next (o : Out) (f : Rho → Mu → Out) : Out := match o with
  | .nx ρ μ => f ρ μ
  | o => o
def forLoop (f : D → Rho → Mu → Out) (chk : Mu → Bool) : List D → Rho → Mu → Out
  | [], ρ, μ => if chk μ then .nx ρ μ else .stuck
  | d :: ds, ρ, μ => if chk μ then (match f d ρ μ with
      | .nx ρ' μ' => forLoop f chk ds ρ' μ'
      | .ct ρ' μ' => forLoop f chk ds ρ' μ'
      | .br ρ' μ' => .nx ρ' μ'
      | o => o) else .stuck
def whileLoop (c : Rho → Mu → Res Bool) (f : Rho → Mu → Out) : Nat → Rho → Mu → Out
  | 0, _, _ => .stuck
  | n + 1, ρ, μ => (c ρ μ).then ρ fun k μ => if k then (match f ρ μ with
      | .nx ρ' μ' => whileLoop c f n ρ' μ'
      | .ct ρ' μ' => whileLoop c f n ρ' μ'
      | .br ρ' μ' => .nx ρ' μ'
      | o => o) else .nx ρ μ
/-- what may stand in an error's text -/
def okArg : D → Bool
  | .int i => decide (0 ≤ i) && decide (i < 1000000000000000000)
  | .str s => decide (s.length ≤ 1000000)
  | _ => false
def XA.val (fs : List D) : XA → Option D
  | .cst d => some d
  | .fld k => fs[k]?
def XA.vals (fs : List D) : List XA → Option (List D)
  | [] => some []
  | a :: l => match a.val fs, XA.vals fs l with
    | some d, some ds => some (d :: ds)
    | _, _ => none
def XR.val (fs : List D) : XR → Option D
  | .one a => a.val fs
  | .tup l => if l.length ≤ 100 then (XA.vals fs l).map D.tup else none
mutual
def runS (Γ : G) : S → Rho → Mu → Out
  | .setR i r, ρ, μ => (evalR Γ r ρ μ).then ρ fun d μ => .nx (ρ.set i (some d)) μ
  | .retR pre r post, ρ, μ => (evalR Γ r ρ μ).then ρ fun x μ => ((binD .add (.str pre) x μ).bind fun y μ => binD .add y (.str post) μ).then ρ fun d μ => .rt d μ
  | .set tg e, ρ, μ => (evalE Γ e ρ μ).then ρ fun d μ => match assignT tg d ρ with
    | some ρ' => .nx ρ' μ
    | none => .stuck
  | .new i e, ρ, μ => (evalE Γ e ρ μ).then ρ fun d μ => match d with
    | .lst l => .nx (ρ.set i (some (.ref μ.length))) (μ ++ [.lst l])
    | _ => .stuck
  | .setIx o i v, ρ, μ => (evalE Γ v ρ μ).then ρ fun x μ => (evalE Γ o ρ μ).then ρ fun y μ => (evalE Γ i ρ μ).then ρ fun z μ => (putA y z x μ).then ρ fun _ μ => .nx ρ μ
  | .aug i o e, ρ, μ => match ρ[i]? with
    | some (some (.int x)) => (evalE Γ e ρ μ).then ρ fun y μ => match o, y with
      | .add, .int j => .nx (ρ.set i (some (.int (x + j)))) μ
      | .sub, .int j => .nx (ρ.set i (some (.int (x - j)))) μ
      | _, _ => .stuck
    | _ => .stuck
  | .par2 i j es, ρ, μ => (evalEs Γ es ρ μ).then ρ fun ds μ => match ds with
    | [x, y] => .nx ((ρ.set i (some x)).set j (some y)) μ
    | _ => .stuck
  | .daug o k b e, ρ, μ => (evalE Γ o ρ μ).then ρ fun x μ => (evalE Γ k ρ μ).then ρ fun y μ => match getDic μ x y with
    | some (some (.int i)) => (evalE Γ e ρ μ).then ρ fun z μ => match b, z with
      | .add, .int j => (match putDic μ x y (.int (i + j)) with
        | some (n, μ') => if n < 16777216 then .nx ρ μ' else .stuck
        | none => .stuck)
      | _, _ => .stuck
    | _ => .stuck
  | .expr e, ρ, μ => (evalE Γ e ρ μ).then ρ fun _ μ => .nx ρ μ
  | .ifs t a b, ρ, μ => (evalT Γ t ρ μ).then ρ fun k μ => if k then runB Γ a ρ μ else runB Γ b ρ μ
  | .for_ tg it b, ρ, μ => (evalIt Γ it ρ μ).then ρ fun ds μ => forLoop (fun d ρ μ => match assignT tg d ρ with
      | some ρ' => runB Γ b ρ' μ
      | none => .stuck) (chkOf ds.2) ds.1 ρ μ
  | .whl t b, ρ, μ => whileLoop (fun ρ μ => evalT Γ t ρ μ) (fun ρ μ => runB Γ b ρ μ) Γ.wf ρ μ
  | .ret e, ρ, μ => (evalE Γ e ρ μ).then ρ fun d μ => .rt d μ
  | .retN, _, μ => .rt .non μ
  | .pass, ρ, μ => .nx ρ μ
  | .brk, ρ, μ => .br ρ μ
  | .cnt, ρ, μ => .ct ρ μ
  | .bad, _, _ => .stuck
  | .setF c o f e, ρ, μ => (evalE Γ e ρ μ).then ρ fun v μ => (evalE Γ o ρ μ).then ρ fun x μ => (setFD c x f v μ).then ρ fun _ μ => .nx ρ μ
  | .augF c o f b e, ρ, μ => (evalE Γ o ρ μ).then ρ fun x μ => (fldD c x f μ).then ρ fun v μ => (evalE Γ e ρ μ).then ρ fun y μ => match augI b v y with
    | some k => (setFD c x f (.int k) μ).then ρ fun _ μ => .nx ρ μ
    | none => .stuck
  | .tryE r c i h, ρ, μ => match evalE Γ r ρ μ with
    | .ok _ μ' => .nx ρ μ'
    | .err c' fs μ' => if c' = c then (match h.val fs with
      | some d => .rt d μ'
      | none => .stuck) else .stuck
    | .stuck => .stuck
  | .rse c n es, ρ, μ => if Γ.mkr then (evalEs Γ es ρ μ).then ρ fun ds μ => if ds.length = n ∧ ds.all okArg = true then .er c ds.reverse ρ μ else .stuck else .stuck
  | .tryR r c i h, ρ, μ => match evalE Γ r ρ μ with
    | .ok d μ' => .rt d μ'
    | .err c' fs μ' => if c' = c then (match h.val fs with
      | some d => .rt d μ'
      | none => .stuck) else .stuck
    | .stuck => .stuck
def runB (Γ : G) : B → Rho → Mu → Out
  | .nil, ρ, μ => .nx ρ μ
  | .cons s b, ρ, μ => (runS Γ s ρ μ).next fun ρ μ => runB Γ b ρ μ
end

/-! ### defs -/
structure Fn where
  np : Nat
  ns : Nat
  body : B
/-- what a def made is forgotten where nothing points at it; a list that it made is handed back by value -/
def fin (n : Nat) (d : D) (μ : Mu) : Res D :=
  if μ.length = n then .ok d μ else
    let d' := match d with
      | .ref k => if n ≤ k then (match μ[k]? with
          | some (.lst l) => .lst l
          | _ => d) else d
      | _ => d
    if below n d' = true ∧ (μ.take n).all (belowMO n) = true ∧ n ≤ μ.length then .ok d' (μ.take n) else .ok d μ
def finO (n : Nat) : Out → Res D
  | .nx _ μ => fin n .non μ
  | .rt d μ => fin n d μ
  | .er c fs _ μ => if μ.length = n then .err c fs μ else if belows n fs = true ∧ (μ.take n).all (belowMO n) = true ∧ n ≤ μ.length then .err c fs (μ.take n) else .err c fs μ
  | _ => .stuck
def startR (ns : Nat) (ds : List D) : Rho := ds.map some ++ List.replicate (ns - ds.length) none
def callD (tab : List Fn) (con : Nat → Option D) (dic : Nat → List (Str × D)) (wf : Nat) : Nat → Nat → List D → Mu → Res D
  | 0, _, _, _ => .stuck
  | k + 1, f, ds, μ => match tab[f]? with
    | some fn => if ds.length = fn.np then finO μ.length (runB ⟨callD tab con dic wf k, con, dic, wf, decide (2 ≤ k)⟩ fn.body (startR fn.ns ds) μ) else .stuck
    | none => .stuck
end PyI
/-! N1: rules of my own: a text asked of a dict with tuple keys; lists times ints; t[::-1]; enumerate of tuples. -/
namespace PyI.Nw
open PySem PySem.Spec PyProof.Rows L2

/-! ### d.get(text, x), d's keys are tuples -/
section
variable {prog : Program} {w : World} {K : Type} [DecidableEq K] {knd : KeyKind prog w K} {A : Around} {E : Value → Shared → Prop} {s : Shared}
theorem quiet_str {x : Str} {t : Tok} {Q : Bool → Shared → Prop} (h : Q true s) : wpAny (model prog w) A (eqIsQuiet 8 (.str x t)) Q E s := by
  unfold eqIsQuiet
  exact wpAny_pure h
theorem find_str {d : Addr} {o : Obj} {es : Array DictEntry} {ep : Nat} {xs : List (List K × Addr × Value)} {x : Str} {t : Tok} {hv : Int} {Q : Option Nat → Shared → Prop} (hu : A.units < cLine)
    (ho : s.heap.get? d = some o) (hd : o.data = .dict es ep) (he : es.toList = xs.map (entryOfKey (tupleKind knd))) (his : ∀ y ∈ xs, (tupleKind knd).is s.heap y.1 y.2.1) (hq : Q none s) :
    wpAny (model prog w) A (dictFind d (.str x t) hv) Q E s := by
  have hmem : ∀ e ∈ es, ∃ y ∈ xs, e = entryOfKey (tupleKind knd) y := by
    intro e hin
    have : e ∈ xs.map (entryOfKey (tupleKind knd)) := he ▸ Array.mem_toList_iff.mpr hin
    obtain ⟨y, hy, rfl⟩ := List.mem_map.mp this
    exact ⟨y, hy, rfl⟩
  unfold dictFind
  try with_reducible refine wpAny_holding ?_
  refine wpAny_bind (wpAny_dictEntries ho hd ?_)
  dsimp only
  have hno : es.findIdx? (fun e => e.key.isStr x) = none := Array.findIdx?_eq_none_iff.mpr fun e hin => by
    obtain ⟨y, _, rfl⟩ := hmem e hin
    rfl
  by_cases hall : (es.all fun e => isExactStrKey e.key) = true
  · rw [if_pos hall]
    unfold foundByValue
    rw [hno]
    exact wpAny_bind (wpAny_pure (wpAny_pure hq))
  · rw [if_neg hall]
    have hst : ∀ v ∈ (placesWithHash es.size (fun i => es[i]?.map (·.hash)) hv).filterMap (fun i => es[i]?.map (·.key)), ∃ k' b, v = .ref b ∧ (tupleKind knd).is s.heap k' b := by
      intro v hv'
      obtain ⟨i, _, hi⟩ := List.mem_filterMap.mp hv'
      cases hei : es[i]? with
      | none => rw [hei] at hi; cases hi
      | some e =>
        rw [hei] at hi
        obtain rfl : e.key = v := by simpa using hi
        obtain ⟨y, hy, rfl⟩ := hmem e (Array.mem_of_getElem? hei)
        exact ⟨y.1, y.2.1, rfl, his y hy⟩
    have hplain : (Value.str x t :: (placesWithHash es.size (fun i => es[i]?.map (·.hash)) hv).filterMap (fun i => es[i]?.map (·.key))).all carriedByValue = true → (placesWithHash es.size (fun i => es[i]?.map (·.hash)) hv) = [] := by
      intro q
      cases hp : placesWithHash es.size (fun i => es[i]?.map (·.hash)) hv with
      | nil => rfl
      | cons i r =>
        exfalso
        have hi : i ∈ placesWithHash es.size (fun i => es[i]?.map (·.hash)) hv := by rw [hp]; exact List.mem_cons_self ..
        have hlt : i < es.size := by
          unfold placesWithHash at hi
          exact List.mem_range.mp (List.mem_filter.mp hi).1
        have hk : es[i].key ∈ (placesWithHash es.size (fun i => es[i]?.map (·.hash)) hv).filterMap (fun i => es[i]?.map (·.key)) := List.mem_filterMap.mpr ⟨i, hi, by rw [Array.getElem?_eq_getElem hlt]; rfl⟩
        have h2 := List.all_eq_true.mp q _ (List.mem_cons_of_mem _ hk)
        obtain ⟨k', b, e, _⟩ := hst _ hk
        rw [e] at h2
        simp [carriedByValue] at h2
    by_cases hc : (Value.str x t :: (placesWithHash es.size (fun i => es[i]?.map (·.hash)) hv).filterMap (fun i => es[i]?.map (·.key))).all carriedByValue = true
    · rw [if_pos hc, hplain hc]
      unfold dictWalkPlain
      refine wpAny_bind ?_
      refine wpAny_forIn_list _ (fun rest b s' => s' = s ∧ b = (none, ()) ∧ rest = []) _ ?_ ?_ _ _ ⟨rfl, rfl, rfl⟩
      · rintro i rest b s' ⟨_, _, q⟩
        cases q
      · rintro b s' ⟨rfl, rfl, _⟩
        exact wpAny_pure hq
    · rw [if_neg hc]
      have hone : ¬ ((((placesWithHash es.size (fun i => es[i]?.map (·.hash)) hv).filterMap (fun i => es[i]?.map (·.key))) == [Value.str x t]) = true) := by
        intro q
        have q := eq_of_beq q
        obtain ⟨k', b, e, _⟩ := hst (.str x t) (by rw [q]; exact List.mem_singleton_self _)
        cases e
      rw [if_neg hone]
      refine wpAny_bind ?_
      have tell : ∀ {Q' : Bool → Shared → Prop}, Q' false s → wpAny (model prog w) A (tableMayTell (.str x t) ((placesWithHash es.size (fun i => es[i]?.map (·.hash)) hv).filterMap (fun i => es[i]?.map (·.key)))) Q' E s := by
        intro Q' h
        unfold tableMayTell
        split
        · exact wpAny_pure h
        · refine wpAny_bind (quiet_str ?_)
          simp only [Bool.not_true, Bool.false_eq_true, if_false]
          refine wpAny_bind ?_
          refine wpAny_forIn_list _ (fun rest r s' => s' = s ∧ r = (none, ()) ∧ ∀ v ∈ rest, ∃ k' b, v = .ref b ∧ (tupleKind knd).is s.heap k' b) _ ?_ ?_ _ _ ⟨rfl, rfl, hst⟩
          · rintro y rest r s' ⟨rfl, rfl, hr⟩
            obtain ⟨k', b, rfl, hb⟩ := hr y List.mem_cons_self
            refine wpAny_bind ((tupleKind knd).quiet hb ?_)
            simp only [Bool.not_true, Bool.false_eq_true, if_false]
            exact wpAny_pure ⟨rfl, rfl, fun v hv => hr v (List.mem_cons_of_mem _ hv)⟩
          · rintro r s' ⟨rfl, rfl, _⟩
            exact wpAny_pure h
      refine tell ?_
      rw [if_neg (by simp)]
      refine wpAny_bind ?_
      refine wpAny_forIn_list _ (fun rest b s' => s' = s ∧ b = (none, none)) _ ?_ ?_ _ _ ⟨rfl, rfl⟩
      · rintro i rest b s' ⟨rfl, rfl⟩
        cases hei : es[i]? with
        | none => exact wpAny_pure ⟨rfl, rfl⟩
        | some e =>
          obtain ⟨y, hy, rfl⟩ := hmem e (Array.mem_of_getElem? hei)
          dsimp only
          split
          · have hT := his y hy
            refine wpAny_bind (wpAny_dictEpoch ho hd (wpAny_bind ?_))
            obtain ⟨oT, its, n, t1, t2, t3, t4⟩ := hT
            refine SeqAt.EqAt.tuple_str (items := its) x t ⟨oT, t1, t2, n, t3⟩ hu prog w E _ ?_
            refine wpAny_bind (wpAny_dictEpoch ho hd ?_)
            show wpAny _ _ (if (ep != ep) = true then _ else _) _ E _
            rw [if_neg (by simp)]
            simp only [Bool.false_eq_true, if_false]
            refine wpAny_bind (wpAny_rule ?_)
            first | rw [if_neg (by simp)] | skip
            first
              | exact wpAny_pure ⟨rfl, rfl⟩
              | exact wpAny_bind (wpAny_pure (wpAny_pure ⟨rfl, rfl⟩))
          · exact wpAny_pure ⟨rfl, rfl⟩
      · rintro b s' ⟨rfl, rfl⟩
        exact wpAny_pure hq
theorem get_str {d : Addr} {xs : List (List K × Addr × Value)} {x : Str} {t : Tok} {Q : Option Value → Shared → Prop} (hu : A.units < cLine) (hm : s.heap.DictOfH (tupleKind knd) d xs) (hq : Q none { s with toks := s.toks + 1 }) :
    wpAny (model prog w) A (dictGet d (.str x t)) Q E s := by
  obtain ⟨o, es, ep, ho, _, hd, he, his, hn⟩ := hm
  unfold dictGet
  try with_reducible refine wpAny_holding ?_
  refine wpAny_bind (wpAny_pyHash_str (wpAny_bind (find_str (s := { s with toks := s.toks + 1 }) hu ho hd he his ?_)))
  exact wpAny_pure hq
theorem meets_get_str (d : Addr) (x : Str) (t : Tok) (hd : (d == sysModules) = false) (dflt : Value) :
    MeetsIn prog w (Builtin.«dict.get» ⟨[.ref d, .str x t, dflt], []⟩) (fun A R s => A.in1.units < cLine ∧ ∃ xs : List (List K × Addr × Value), s.heap.DictOfH (tupleKind knd) d xs ∧ R (.ok (.ret dflt)) { s with toks := s.toks + 1 }) :=
  .of_wp fun A R s ⟨hu, xs, hm, h⟩ => by
    show wpAny _ _ (dictGet d (.str x t) >>= _) _ _ s
    refine wpAny_bind (get_str (knd := knd) (Nat.lt_of_le_of_lt (Nat.le_refl _) hu) hm ?_)
    show wpAny _ _ (Builtin.Dict.missed d (.str x t) >>= _) _ _ _
    exact wpAny_bind (wpAny_missed_other hd (wpAny_pure ⟨dflt, rfl, h⟩))
end

/-- what d.get(y, x) looks up: a text is no key of a dict with tuple keys -/
def DGetS (H : Hp) (a : Addr) (y : V) (r : Option V) : Prop := DGet H a y r ∨ ((∃ kvs, Rd H a (.dT kvs)) ∧ (∃ z, y = .str z) ∧ r = none)
def tDGet2S (td ty tx : TE) : TE := fun σ H Q => td σ H fun x H1 => ∃ a, x = .ref a ∧ IsD H1 a ∧ ty σ H1 fun y H2 => tx σ H2 fun z H3 => ∃ o, DGetS H3 a y o ∧ Q (o.getD z) H3
section
variable {X : Cx} {o e f : Expr} {apos cpos : Pos} {td ty tx : TE}
theorem d_get2S {pins : List (Addr × Obj)} {σ : L2.St} {H : Hp} {s : Shared} {a : Addr} {y d : V} {u r : Value} {o : Option V} {A : Around} {E : Value → Shared → Prop} {Q : Value → Shared → Prop} (hu : A.units + 1 < cLine) (I : Inv X pins σ H s) (g : DGetS H a y o) (ry : RelV y u) (rd : RelV d r) (h : ∀ w' s', Inv X pins σ H s' → RelV (o.getD d) w' → Q w' s') :
    wpAny (model X.prog X.w) A (call (.builtin "dict.get") [.ref a, u, r]) Q E s := by
  rcases g with g | ⟨⟨kvs, e⟩, ⟨z, ey⟩, l⟩
  · exact d_get2 hu I g ry rd h
  · subst ey l
    obtain ⟨t, rfl⟩ := ry
    obtain ⟨_, hd, xs, rel, dd⟩ := dt_rd I.hok e
    refine call_meetsIn PySem.F.slot_dict_get dd.typeIs PySem.F.entry_dict_get (PySem.F.args_dict_get_3 _ _ _) (meets_get_str (knd := mixKind X.prog X.w) a z t hd r) ⟨hu, xs, dd, h _ _ (I.tok _) rd⟩
theorem pe_dget2S (hu : X.A.units + 1 < cLine) (ho : PE X o td) (he : PE X e ty) (hf : PE X f tx) (m : M2 X o "get" apos e f cpos) : PE X (.Call (.Attribute o "get" apos) [e, f] [] cpos) (tDGet2S td ty tx) := by
  refine ⟨fun pins s σ H Q I h => ?_⟩
  refine wpAny_Call_method m.base m.few m.line PySem.F.plainAttrs_dict PySem.F.slot_dict_get PySem.F.type_dict_get (thn (ho.run pins s σ H _ I h) fun u s1 ⟨x, H1, I1, rx, a, ex, d, q1⟩ => ?_)
  subst ex
  obtain rfl : u = Value.ref a := rx
  obtain ⟨t1, t2, _⟩ := isD_at I1 d
  refine ⟨t1, t2, ?_⟩
  rw [m.trees]
  refine Calls.callWith_builtin rfl (Calls.evalArgs_plain (Calls.spliced_cons (thn (he.run pins s1 σ H1 _ I1 q1) fun iv s2 ⟨y, H2, I2, ry, q2⟩ =>
    Calls.spliced_cons (thn (hf.run pins s2 σ H2 _ I2 q2) fun fv s3 ⟨z, H3, I3, rz, ov, g, q3⟩ => Calls.spliced_nil ?_))))
  exact d_get2S hu I3 g ry rz fun w' s4 I4 rw' => ⟨_, H3, I4, rw', q3⟩
/-- y in d, y not in d, by values -/
theorem op_din (hu : X.A.units + 1 < cLine) : OpR X (compareOp .In) (fun y x H Q => ∃ a o, x = .ref a ∧ DGet H a y o ∧ Q (.bl o.isSome) H) := by
  intro pins s σ H y x u v Q I ry rx h
  obtain ⟨a, ov, rfl, g, q⟩ := h
  obtain rfl : v = Value.ref a := rx
  exact d_in hu I g ry fun s3 I3 => ⟨.bl ov.isSome, H, I3, rfl, q⟩
theorem op_dnotin (hu : X.A.units + 1 < cLine) : OpR X (compareOp .NotIn) (fun y x H Q => ∃ a o, x = .ref a ∧ DGet H a y o ∧ Q (.bl (!o.isSome)) H) := by
  intro pins s σ H y x u v Q I ry rx h
  obtain ⟨a, ov, rfl, g, q⟩ := h
  obtain rfl : v = Value.ref a := rx
  exact d_notIn hu I g ry fun s3 I3 => ⟨.bl (!ov.isSome), H, I3, rfl, q⟩

/-! ### list * int -/
theorem op_repL : OpR X (binaryOp .Mult) (fun x y H Q => ∃ l k xs, x = .ref l ∧ y = .int k ∧ Rd H l (.lst xs) ∧ -(2 ^ 63) ≤ k ∧ k < 2 ^ 63 ∧ xs.length * k.toNat ≤ sizeLine ∧ ∀ p, H p = none → Q (.ref p) (upd H p (.lst (List.replicate k.toNat xs).flatten))) := by
  intro pins s σ H x y v u Q I rx ry h
  obtain ⟨l, k, xs, rfl, rfl, hl, h1, h2, hz, q⟩ := h
  cases rx
  obtain ⟨t, rfl⟩ := ry
  obtain ⟨_, its, n, r, e⟩ := hl.ok I.hok
  have hn := r.length
  have hlen : its.toArray.size * k.toNat ≤ sizeLine := by rw [List.size_toArray, ← hn]; exact hz
  have hcap : ¬ its.toArray.size * k.toNat > (2 ^ 63 - 1) / 8 := by
    have : (sizeLine : Nat) ≤ (2 ^ 63 - 1) / 8 := by decide
    omega
  have hfit : ¬ (!Builtin.List.listFitsIndex k) = true := by
    rw [fitsIndex_both h1 h2]
    exact Bool.false_ne_true
  have hlong : ¬ Builtin.List.listTooLong (its.toArray.size * k.toNat) = true := by
    rw [notLongL hlen]
    exact Bool.false_ne_true
  have hnew : List.foldl (fun x1 x2 => x1 ++ x2) #[] (List.replicate (if its.toArray.isEmpty = true then 0 else k.toNat) its.toArray) = (List.replicate k.toNat its).flatten.toArray := by
    have f0 : ∀ m : Nat, List.foldl (fun x1 x2 => x1 ++ x2) #[] (List.replicate m its.toArray) = (List.replicate m its).flatten.toArray := fun m => by
      have := foldl_rep its m []
      rw [List.nil_append] at this
      exact this
    rw [f0]
    cases its with
    | nil => simp
    | cons a r' => rw [if_neg (by simp)]
  refine wpAny_binaryOp_repeat_ref (T := "list") (U := "int") (by decide) ⟨_, e, rfl⟩ (fun s' => typeIs_int s' k t) noFill_list_mul F.fills_int_mul F.slot_int_rmul repeat_list F.slot_int_index.lookup
    (call_meets F.slot_int_rmul (typeIs_int s k t) F.entry_int_rmul (F.args_int_rmul_2 _ _) (int___rmul___int_list k t l its.toArray n)
      ⟨e, rfl, ⟨_, e, rfl⟩, call_meets F.slot_list_mul ⟨_, e, rfl⟩ F.entry_list_mul (F.args_list_mul_2 _ _) (AutoListH.list___mul___list_int_3 l its.toArray n k t hfit hcap hlong) ⟨e, ?_⟩⟩)
  rw [hnew]
  exact ⟨.ref _, _, I.lnew (t' := s.toks) (r.rep k.toNat) (by rw [PyProof.Rows.lm_len_rep_flat, Nat.mul_comm]; exact hz), rfl, q _ I.fresh⟩

/-- xs.extend(ys), ys any list that stands -/
theorem mt_extendR : MtR X "list.extend" (fun x vs H Q => ∃ l b xs zs, x = .ref l ∧ vs = [.ref b] ∧ H l = some (.lst xs) ∧ Rd H b (.lst zs) ∧ xs.length + zs.length ≤ sizeLine ∧ Q .non (upd H l (.lst (xs ++ zs)))) := by
  intro pins s σ H x vs v us Q I rx rv h
  obtain ⟨l, b, xs, zs, rfl, rfl, hH, hB, hz, q⟩ := h
  cases rx
  obtain ⟨u, rfl, ru⟩ := rv.one
  cases ru
  obtain ⟨z, its, n, r, hl, e⟩ := I.lstM hH
  obtain ⟨_, its2, n2, r2, e2⟩ := hB.ok I.hok
  have hl2 := r2.length
  have hsz : its.toArray.size + its2.toArray.size ≤ sizeLine := by rw [List.size_toArray, List.size_toArray]; omega
  have hlong : ¬ (!its.toArray.isEmpty && Builtin.List.listTooLong (its.toArray.size + its2.toArray.size)) = true := by
    rw [notLongL hsz, Bool.and_false]
    exact Bool.false_ne_true
  refine call_meets F.slot_list_extend ⟨_, e, rfl⟩ F.entry_list_extend (F.args_list_extend_2 _ _)
    (AutoSeq1.list_extend_list_list_0 l its.toArray n b its2.toArray n2 hlong (by rw [List.size_toArray]; omega) (by omega)) ⟨e, e2, ?_⟩
  refine ⟨.non, _, I.lset (its' := its ++ its2) hH e (by simp) (r.append r2) ?_, rfl, q⟩
  rw [List.length_append]
  omega

/-! ### min of three ints -/
theorem call_min3 (hc : X.calm = true) : CallR X (.builtin "min") (fun xs H Q => ∃ a b c : Int, xs = [.int a, .int b, .int c] ∧ Q (.int (if c < (if b < a then b else a) then c else (if b < a then b else a))) H) := by
  intro pins s σ H xs us Q I r h
  obtain ⟨a, b, c, rfl, q⟩ := h
  refine call_min3Nu hc pins s σ H _ us Q I r ⟨_, _, _, _, rfl, ?_, q⟩
  show ((some (decide (b < a))).map (fun c => if c = true then V.int b else V.int a)).bind (fun m => nuMin2 m (.int c)) = _
  by_cases h1 : b < a
  · rw [decide_eq_true h1, if_pos h1]
    show (some (decide (c < b))).map (fun k => if k = true then V.int c else V.int b) = _
    by_cases h2 : c < b
    · rw [decide_eq_true h2, if_pos h2]; rfl
    · rw [decide_eq_false h2, if_neg h2]; rfl
  · rw [decide_eq_false h1, if_neg h1]
    show (some (decide (c < a))).map (fun k => if k = true then V.int c else V.int a) = _
    by_cases h2 : c < a
    · rw [decide_eq_true h2, if_pos h2]; rfl
    · rw [decide_eq_false h2, if_neg h2]; rfl

/-! ### t[::-1] -/
theorem fm_congr {α β : Type} {f g : α → Option β} : ∀ {l : List α}, (∀ x ∈ l, f x = g x) → l.filterMap f = l.filterMap g
  | [], _ => rfl
  | x :: l, h => by
    rw [List.filterMap_cons, List.filterMap_cons, h x (List.mem_cons_self ..), fm_congr fun y hy => h y (List.mem_cons_of_mem _ hy)]
theorem getItem_tuple_rev {prog : Program} {w : World} {A : Around} {E : Value → Shared → Prop} {s : Shared} {t sl : Addr} {items : Array Value} {u : Tok} {Q : Value → Shared → Prop} (ht : IsTup s.heap t items) (hs : s.heap.IsSliceOf sl .none .none (.int (-1) u))
    (h : Q (.ref s.heap.objs.size) { s with heap := s.heap.push { cls := .type "tuple", data := .seq items.toList.reverse.toArray } })
    (hsz : items.size ≤ sizeLine) : wpAny (model prog w) A (getItem (.ref t) (.ref sl)) Q E s := by
  have hrev : sizeOk (.seq (items.toList.reverse).toArray) := by
    show (items.toList.reverse).toArray.size ≤ sizeLine
    rw [List.size_toArray, List.length_reverse, Array.length_toList]
    omega
  obtain ⟨os, hos, hcs, hds⟩ := id hs
  have hTs : s.TypeIs (.ref sl) "slice" := ⟨os, hos, hcs⟩
  have appl : ∀ {Q' : Int × Int × Nat → Shared → Prop}, Q' ((items.size : Int) - 1, -1, items.size) s → wpAny (model prog w) A.in1 (Builtin.Slice.sliceApplied (.ref sl) (pure (items.size : Int))) Q' (fun v s' => E v s') s := by
    intro Q' h
    unfold Builtin.Slice.sliceApplied Builtin.Slice.sliceFields
    refine wpAny_bind (wpAny_bind (wpAny_field hos hds (x := .none) rfl (wpAny_bind (wpAny_field hos hds (x := .none) rfl (wpAny_bind (wpAny_field hos hds (x := .int (-1) u) rfl (wpAny_pure ?_)))))))
    refine wpAny_bind (slicePart_int ?_)
    show wpAny _ _ (if ((-1 : Int) == 0) = true then _ else _) _ _ s
    rw [if_neg (by decide)]
    refine wpAny_bind (slicePart_none (wpAny_bind (slicePart_none (wpAny_bind (wpAny_pure ?_)))))
    show wpAny _ _ (match Builtin.Slice.sliceAdjust none none (-1) (items.size : Int) with | (lo, hi) => pure (lo, (-1 : Int), Builtin.Slice.slicePlaces lo hi (-1))) _ _ s
    have e1 : Builtin.Slice.sliceAdjust none none (-1) (items.size : Int) = ((items.size : Int) - 1, -1) := rfl
    rw [e1]
    have e2 : Builtin.Slice.slicePlaces ((items.size : Int) - 1) (-1) (-1) = items.size := by
      unfold Builtin.Slice.slicePlaces
      rw [if_neg (by decide)]
      by_cases hz : (items.size : Int) - 1 > -1
      · rw [if_pos hz, show (- -1 : Int) = 1 by decide, Int.ediv_one]
        omega
      · rw [if_neg hz]
        omega
    show wpAny _ _ (pure ((items.size : Int) - 1, (-1 : Int), Builtin.Slice.slicePlaces ((items.size : Int) - 1) (-1) (-1))) _ _ s
    rw [e2]
    exact wpAny_pure h
  unfold getItem
  try with_reducible refine wpAny_holding ?_
  first | refine wpAny_bind (wpAny_pure ?_) | skip
  refine wpAny_bind (wpAny_sequenceKey ht.typeIs (by decide) ?_)
  refine wpAny_bind (wpAny_callSpecial?_slot (name := Str.ofString "__getitem__") ht.typeIs slot_tuple_getitem
    (wpAny_call_entry slot_tuple_getitem ht.typeIs PyProof.Rows.entry_tuple_getitem ?_ (PyProof.Rows.args_tuple_getitem _ _)))
  show wpAny _ _ (Builtin.Tuple.tupleItemsOf (.ref t) >>= _) _ _ s
  refine wpAny_bind (PyProof.Rows.tupleItemsOf_ ht ?_)
  refine wpAny_bind (wpAny_typeOf hTs ?_)
  rw [if_pos (by decide)]
  refine wpAny_bind (appl ?_)
  have hno : ¬ (((((items.size : Int) - 1) == 0) && ((-1 : Int) == 1) && (items.size == items.size)) = true) := by
    simp
  show wpAny _ _ (if ((((items.size : Int) - 1) == 0) && ((-1 : Int) == 1) && (items.size == items.size)) = true then _ else _) _ _ s
  rw [if_neg hno]
  have pick : ((List.range items.size).filterMap fun (k : Nat) => items[(((items.size : Int) - 1) + (k : Int) * (-1)).toNat]?).toArray = items.toList.reverse.toArray := by
    have e : (List.range items.size).filterMap (fun (k : Nat) => items[(((items.size : Int) - 1) + (k : Int) * (-1)).toNat]?) = ((List.range items.size).map fun k => items.size - 1 - k).filterMap (items[·]?) := by
      rw [List.filterMap_map]
      refine fm_congr fun k hk => ?_
      have := List.mem_range.mp hk
      have e3 : (((items.size : Int) - 1) + (k : Int) * (-1)).toNat = items.size - 1 - k := by omega
      simp only [Function.comp, e3]
    rw [e, PySem.W.krv_range, List.filterMap_reverse, PySem.W.krv_all]
  rw [pick]
  first
    | exact wpAny_bind (m := Builtin.Tuple.tupleExact _) (wpAny_newObj_type (wpAny_pure ⟨_, rfl, wpAny_pure h⟩) hrev)
    | exact wpAny_bind (m := Builtin.Tuple.tupleExact _) (wpAny_newObj_type (wpAny_bind (wpAny_pure (wpAny_pure ⟨_, rfl, wpAny_pure h⟩))) hrev)
    | exact wpAny_bind (wpAny_bind (m := Builtin.Tuple.tupleExact _) (wpAny_newObj_type (wpAny_pure (wpAny_pure ⟨_, rfl, wpAny_pure h⟩)) hrev))
    | exact wpAny_bind (wpAny_bind (m := Builtin.Tuple.tupleExact _) (wpAny_newObj_type (wpAny_pure ⟨_, rfl, wpAny_pure h⟩) hrev))
/-- xs[::-1] of a list or a tuple -/
def tRevA (K : PySem.W.Frag) (te : TE) : TE := fun σ H Q => te σ H fun x H1 => ∃ a xs, x = .ref a ∧ ((SqL K H1 a xs ∧ ∀ p, H1 p = none → Q (.ref p) (upd H1 p (.lst xs.reverse))) ∨ (SqT K H1 a xs ∧ ∀ p, H1 p = none → Q (.ref p) (upd H1 p (.tup xs.reverse))))
theorem pe_revA {e : Expr} {te : TE} {k : Nat} {p1 p2 p3 pos : Pos} (he : PE X e te) : PE X (.Subscript e (.Slice none none (some (.UnaryOp .USub (.Constant (.int 1) k p1) p2)) p3) pos) (tRevA X.K te) := by
  refine ⟨fun pins s σ H Q I h => ?_⟩
  refine Subscript_ (thn (he.run pins s σ H _ I h) fun v s1 ⟨x, H1, I1, r1, q1⟩ => ?_)
  obtain ⟨a, xs, ex, q⟩ := q1
  subst ex
  cases r1
  have hst : PO X (some (.UnaryOp .USub (.Constant (.int 1) k p1) p2)) (tPart (tUn (rU fun i => .int (-i)) (tC (.int 1)))) := po_some (pe_un un_neg pe_int)
  refine wpAny_Slice (thn (po_none.run pins s1 σ H1 (fun o H2 => o = none ∧ H2 = H1) I1 ⟨rfl, rfl⟩) fun vl s2 ⟨l, H2, I2, pl, el, e2⟩ => ?_)
  subst el e2
  refine thn (po_none.run pins s2 σ H2 (fun o H3 => o = none ∧ H3 = H2) I2 ⟨rfl, rfl⟩) fun vu s3 ⟨u, H3, I3, pu, eu, e3⟩ => ?_
  subst eu e3
  refine thn (hst.run pins s3 σ H3 (fun o H4 => o = some (-1) ∧ H4 = H3) I3 ⟨1, rfl, -1, rfl, rfl, rfl⟩) fun vs s4 ⟨o, H4, I4, ps, eo, e4⟩ => ?_
  subst eo e4
  have I5 : Inv X pins σ H4 { s4 with heap := s4.heap.push { cls := .type "slice", data := .fields #[vl, vu, vs] } } := I4.kept (t' := s4.toks) fun b ob q => Heap.get?_push_of_some _ q
  show wpAny (model X.prog X.w) X.A (subscriptTail e (.Slice none none (some (.UnaryOp .USub (.Constant (.int 1) k p1) p2)) p3) (.ref a) (.ref s4.heap.objs.size)) (EP X pins σ Q) X.xe { s4 with heap := s4.heap.push { cls := .type "slice", data := .fields #[vl, vu, vs] } }
  rcases q with ⟨hx, q⟩ | ⟨hx, q⟩
  · obtain ⟨its, r, ht, hz⟩ := I5.list hx
    have hlen := r.length
    refine tail_any (ops := [.ref a, .ref s4.heap.objs.size]) ht.isList.typeIs (PySem.slot_list_getitem.lookup) ?_ (by with_unfolding_all rfl)
    refine wpAny_getItem_list_slice ht.isList (Heap.IsSliceOf.new _ vl vu vs) pl pu ps (by decide) ?_ (by rw [List.size_toArray]; omega)
    rw [PySem.W.krv_pick]
    refine ⟨.ref _, _, I5.laid (t' := s4.toks) (o := .lst xs.reverse) (fun b ob q => Heap.get?_push_of_some _ q) (Nat.le_refl _) ?_, rfl, q _ (I5.hok.fresh (Nat.le_refl _))⟩
    exact ⟨by rw [List.length_reverse]; exact hz, _, 0, r.reverse, Heap.get?_push_size _ rfl⟩
  · obtain ⟨its, r, ht, hz⟩ := I5.tuple hx
    have hlen := r.length
    cases pl with
    | none =>
      cases pu with
      | none =>
        cases ps with
        | int i u =>
          refine tail_any (ops := [.ref a, .ref s4.heap.objs.size]) ht.typeIs (PyProof.Rows.slot_tuple_getitem.lookup) ?_ (by with_unfolding_all rfl)
          refine getItem_tuple_rev ht (Heap.IsSliceOf.new _ _ _ _) ?_ (by rw [List.size_toArray]; omega)
          refine ⟨.ref _, _, I5.laid (t' := s4.toks) (o := .tup xs.reverse) (fun b ob q => Heap.get?_push_of_some _ q) (Nat.le_refl _) ?_, rfl, q _ (I5.hok.fresh (Nat.le_refl _))⟩
          exact ⟨by rw [List.length_reverse]; exact hz, its.reverse, r.reverse, ⟨_, Heap.get?_push_size _ rfl, rfl, 0, by simp⟩⟩
end

/-! ### enumerate(tuple) -/
theorem meets_enumB1 {v : Value} {o : Obj} {H : Heap → Prop} (B : Begins v o H) :
    Meets (Builtin.«enumerate.__new__» ⟨[.type "enumerate", v], []⟩) (fun _ R s => H s.heap ∧
      R (.ok (.ret (.ref (s.heap.push o).objs.size))) { s with heap := (s.heap.push o).push { cls := .type "enumerate", data := .fields #[.none, .bool false, .ref s.heap.objs.size, rawInt 0, .none, .none] } }) :=
  .of_wp fun prog w A R s h => by
    obtain ⟨hp, g, d, tk, os⟩ := s; obtain ⟨h1, h⟩ := h
    have hsub := sub_enumerate
    have q1 : ∀ {A' : Around} {E : Value → Shared → Prop} {Q : Value → Shared → Prop}, Q (.ref hp.objs.size) ⟨hp.push o, g, d, tk, os⟩ → wpAny (model prog w) A' (pyIter v) Q E ⟨hp, g, d, tk, os⟩ :=
      fun q => B.iter prog w _ _ ⟨hp, g, d, tk, os⟩ _ h1 q
    wp_walk using q1
    refine wpAny_stack_any fun st => wpAny_pure ?_
    split
    · rename_i c _ _ _ _ _
      cases (c == Value.type "enumerate")
      · wp_walk using q1
        exact ⟨_, rfl, h⟩
      · wp_walk using q1
        exact ⟨_, rfl, h⟩
    · wp_walk using q1
      exact ⟨_, rfl, h⟩
section
variable {prog : Program} {w : World} {A : Around} {E : Value → Shared → Prop} {s : Shared}
theorem enum_begins1 {v : Value} {o : Obj} {H : Heap → Prop} {Q : Value → Shared → Prop} (B : Begins v o H) (h1 : H s.heap)
    (h : ∀ h', IsEnum h' (s.heap.objs.size + 1) s.heap.objs.size 0 .none → h'.get? s.heap.objs.size = some o → h'.objs.size = s.heap.objs.size + 2 →
      (∀ b o, s.heap.get? b = some o → h'.get? b = some o) → Q (.ref (s.heap.objs.size + 1)) { s with heap := h' }) :
    wpAny (model prog w) A (call (.type "enumerate") [v]) Q E s := by
  refine callType_new F.called_enumerate (by decide) (F.typeCall_enumerate_1 _) (F.newCall_enumerate_1 _) (fun obj => F.args_object_init_2 obj _) F.entry_enumerate_new
    (meets_enumB1 B) ⟨h1, ?_⟩
  have hz : (s.heap.push o).objs.size = s.heap.objs.size + 1 := Heap.size_push ..
  show _ ∧ _
  rw [hz]
  have he : IsEnum ((s.heap.push o).push { cls := .type "enumerate", data := .fields #[.none, .bool false, .ref s.heap.objs.size, rawInt 0, .none, .none] }) (s.heap.objs.size + 1) s.heap.objs.size 0 .none := by
    have := Heap.get?_push_size (s.heap.push o) (o := { cls := .type "enumerate", data := .fields #[.none, .bool false, .ref s.heap.objs.size, rawInt 0, .none, .none] }) rfl
    rw [hz] at this; exact this
  refine ⟨⟨_, he, rfl⟩, h _ he (Heap.get?_push_of_some _ (Heap.get?_push_size _ B.free)) (by rw [Heap.size_push, hz]) fun b o x => Heap.get?_push_of_some _ (Heap.get?_push_of_some _ x)⟩
end
/-- the tuple at a as it stands at each turn, each item in a new pair -/
def IteT (K : PySem.W.Frag) (a : Addr) : L2.It :=
  ⟨fun i H => ∃ (xs : List V) (x : V), SqT K H a xs ∧ xs[i]? = some x, fun i H v H' => ∃ T x, v = .ref T ∧ H T = none ∧ H' = upd H T (.tup [.int (i : Nat), x]) ∧ ∀ xs, SqT K H a xs → xs[i]? = some x, fun i H => ∃ xs : List V, SqT K H a xs ∧ xs.length = i⟩
theorem turn_enumT {P : Program} {w : World} {K : PySem.W.Frag} {elts : List Expr} {kk : Nat} {tpos : Pos} (a e it : Addr) :
    Turn P w K (.Tuple elts kk tpos) (IteT K a) [e, it] e (fun i h => (∃ old, IsEnum h e it ((i : Nat) : Int) old) ∧ h.IsTupleIter it a i ∧ e ≠ it ∧ a ≠ it ∧ a ≠ e) where
  mem := by simp
  obj := fun i h st b hb => by
    obtain ⟨⟨old, he⟩, ⟨o, ho, hc, hd⟩, _⟩ := st
    have e' : b = e ∨ b = it := by simpa using hb
    rcases e' with z | z
    · rw [z]; exact ⟨_, he, fun v q => nomatch q⟩
    · rw [z]; exact ⟨o, ho, fun v q => by rw [hd] at q; cases q⟩
  keep := fun i h h' st k => let ⟨⟨old, he⟩, hi, hne⟩ := st; ⟨⟨old, k e (by simp) _ he⟩, hi.at fun o q => k it (by simp) o q, hne⟩
  item := by
    intro X hP hw hK hc i pins s σ H E I hf st hg
    subst hP hw hK
    obtain ⟨⟨old, he⟩, hit, hne, hai, hae⟩ := st
    obtain ⟨xs, x, hq, hx⟩ := hg
    obtain ⟨its, rv, p, hz⟩ := I.tuple hq
    obtain ⟨u, hu, ru⟩ := rv.get hx
    have hel : e < s.heap.objs.size := Heap.lt_size he
    have hil : it < s.heap.objs.size := by obtain ⟨_, q, _⟩ := hit; exact Heap.lt_size q
    have hlt : i < its.toArray.size := by
      have := (List.getElem?_eq_some_iff.mp hu).1
      simpa using this
    have pt : s.heap.IsTuple a its.toArray := by obtain ⟨o, h1, h2, n, h3⟩ := p; exact ⟨o, h1, h2, n, h3⟩
    refine wpAny_pyNext_enum_itemD (Draws.tuple (A := X.A.in1) (I.ok.hd hc) it a hai its.toArray) he ⟨hit, pt⟩ hlt hne (by simp; exact ⟨hne, Ne.symm hae⟩) fun x' h' tk hP ho hit' hT hsz hk => ?_
    have ex : x' = u := by
      have h1 : its.toArray[i]? = some x' := hP
      rw [List.getElem?_toArray, hu] at h1
      exact (Option.some.inj h1).symm
    subst ex
    refine ⟨_, rfl, wpAny_letOwnedTupleGo_enum (s := { s with heap := h', toks := tk + 1 }) ho fun h'' he' sb => ?_⟩
    have hT2 : h''.get? s.heap.objs.size = some { cls := .type "tuple", data := .seq #[.int i tk, x'] } := (sb.2 _ (Nat.ne_of_gt hel)).trans hT
    have new : ObjOk X.prog X.w (upd H s.heap.objs.size (.tup [.int (i : Nat), x])) h'' s.heap.objs.size (.tup [.int (i : Nat), x]) :=
      ⟨by show 2 ≤ sizeLine; decide, [.int i tk, x'], .cons ⟨_, rfl⟩ (.cons ru .nil), ⟨_, hT2, rfl, _, rfl⟩⟩
    have I1 : Inv X pins σ (upd H s.heap.objs.size (.tup [.int (i : Nat), x])) { s with heap := h'', toks := tk + 1 } :=
      I.turnedNew (ch := [e, it]) (fun b ob hb q => (sb.2 b (fun z => hb (by simp [z]))).trans (hk b ob (fun z => hb (by simp [z])) (fun z => hb (by simp [z])) q)) hf (Nat.le_refl _) new
    refine ⟨.ref s.heap.objs.size, _, I1, rfl, ⟨_, x, rfl, I.hok.fresh (Nat.le_refl _), rfl, fun ys hy => by rw [I.tuple_inj hy hq]; exact hx⟩, ⟨⟨x', ?_⟩, hit'.1.at fun o q => (sb.2 it (Ne.symm hne)).trans q, hne, hai, hae⟩, fun b hb => ?_⟩
    · have e1 : ((i + 1 : Nat) : Int) = (i : Int) + 1 := by omega
      rw [e1]; exact he'
    · have hb' : b < s.heap.objs.size := by
        have e' : b = e ∨ b = it := by simpa using hb
        rcases e' with z | z
        · rw [z]; exact hel
        · rw [z]; exact hil
      rw [upd_ne (Nat.ne_of_lt hb')]
      exact (hf b hb).1
  done := by
    intro X hP hw hK hc i pins s σ H E I hf st hg
    subst hP hw hK
    obtain ⟨⟨old, he⟩, hit, hne, hai, hae⟩ := st
    obtain ⟨xs, hq, hx⟩ := hg
    obtain ⟨its, rv, p, hz⟩ := I.tuple hq
    obtain ⟨f0, f1, f2, f3, f4, f5⟩ := hf it (by simp)
    have hl := rv.length
    have pt : s.heap.IsTuple a its.toArray := by obtain ⟨o, h1, h2, n, h3⟩ := p; exact ⟨o, h1, h2, n, h3⟩
    have hi : i = its.toArray.size := by rw [List.size_toArray, ← hl, hx]
    subst hi
    exact wpAny_pyNext_enum_endD (Draws.tuple (A := X.A.in1) (I.ok.hd hc) it a hai its.toArray) he ⟨hit, pt⟩ fun h' eb => ⟨rfl, I.turned (t' := s.toks) (fun b o hb q => eb b o hb q) f0 f1 f3 f4 f5⟩
  self := fun A i s Q E st h => let ⟨⟨_, he⟩, _⟩ := st; wpAny_pyIter_enum he h
def iEnumA (K : PySem.W.Frag) (ta : TA) : TI := fun σ H R => ta σ H fun vs H1 => ∃ a xs, vs = [.ref a] ∧ ((SqL K H1 a xs ∧ R (Ite K a) H1) ∨ (SqT K H1 a xs ∧ R (IteT K a) H1))
theorem pi_enumA {X : Cx} {e : Expr} {ta : TA} {p pos tpos : Pos} {elts : List Expr} {kk : Nat} (hg : Gl X "enumerate") (hm : X.mg "enumerate" = none) (ha : PA X [e] ta) (hs : starEach [e] X.env = [(false, eval e X.env)] := by rfl) :
    PI X (.Tuple elts kk tpos) (.Call (.Name "enumerate" p) [e] [] pos) (iEnumA X.K ta) := by
  refine ⟨fun pins s σ H R I h => ?_⟩
  refine Call_ (ld_blt I hg hm boot_enumerate (PyProof.Rows.callWith_type1 (thn (ha.run pos pins s σ H _ I h) fun us s1 ⟨vs, H1, I1, r1, q1⟩ => ?_) hs rfl))
  obtain ⟨a, xs, ex, q⟩ := q1
  subst ex
  cases r1 with
  | cons r rr =>
    cases rr
    cases r
    rcases q with ⟨hq, q⟩ | ⟨hq, q⟩
    · obtain ⟨its, rv, p', hz⟩ := I1.list hq
      refine call_enumerate_list p'.isList fun h' he hit hsz hk => wpAny_pyIter_enum he ?_
      have I2 : Inv X pins σ H1 { s1 with heap := h' } := I1.kept (t' := s1.toks) hk
      refine ⟨s1.heap.objs.size + 1, [s1.heap.objs.size + 1, s1.heap.objs.size], _, _, H1, rfl, I2, turn_enum a (s1.heap.objs.size + 1) s1.heap.objs.size, ⟨⟨.none, he⟩, hit, Nat.succ_ne_self _⟩, fun b hb => ?_, q⟩
      have e' : b = s1.heap.objs.size + 1 ∨ b = s1.heap.objs.size := by simpa using hb
      have hle : s1.heap.objs.size ≤ b := by
        rcases e' with z | z
        · rw [z]; exact Nat.le_add_right _ _
        · rw [z]; exact Nat.le_refl _
      exact I1.fpOk hle (I1.hok.fresh hle)
    · obtain ⟨its, rv, p', hz⟩ := I1.tuple hq
      have pt : s1.heap.IsTuple a its.toArray := by obtain ⟨o, h1, h2, n, h3⟩ := p'; exact ⟨o, h1, h2, n, h3⟩
      have hal : a < s1.heap.objs.size := by obtain ⟨o, h1, _⟩ := p'; exact Heap.lt_size h1
      refine enum_begins1 (begins_tuple a its.toArray) pt fun h' he hit hsz hk => wpAny_pyIter_enum he ?_
      have I2 : Inv X pins σ H1 { s1 with heap := h' } := I1.kept (t' := s1.toks) hk
      refine ⟨s1.heap.objs.size + 1, [s1.heap.objs.size + 1, s1.heap.objs.size], _, _, H1, rfl, I2, turn_enumT a (s1.heap.objs.size + 1) s1.heap.objs.size, ⟨⟨.none, he⟩, ⟨_, hit, rfl, rfl⟩, Nat.succ_ne_self _, Nat.ne_of_lt hal, Nat.ne_of_lt (Nat.lt_succ_of_lt hal)⟩, fun b hb => ?_, q⟩
      have e' : b = s1.heap.objs.size + 1 ∨ b = s1.heap.objs.size := by simpa using hb
      have hle : s1.heap.objs.size ≤ b := by
        rcases e' with z | z
        · rw [z]; exact Nat.le_add_right _ _
        · rw [z]; exact Nat.le_refl _
      exact I1.fpOk hle (I1.hok.fresh hle)
end PyI.Nw
/-! N2: objects of own classes: methods, making. -/
namespace PyI.Nw
open PySem PySem.Spec PyProof.Rows L2
section
variable {X : Cx} {CX : CXT} {k : Nat} {f C : Addr} {fd : FuncData} {ps : List Str} {sp : Sp} {E : L2.St → XK} {x m : Str} {p pos apos : Pos} {e o : Expr} {es : List Expr} {ta : TE} {t : TA}
theorem meth_tree {env : Env} {args : List Expr} (hb : attributeBase o m env (eval o env) = eval o env) (hs : (backTo pos (starEach args env)).all (fun x => !x.1) = true) (hn : args.length < 30) (hl : (apos.endLine == pos.line) = true) :
    ∃ pl : Sem Bool, eval (.Call (.Attribute o m apos) args [] pos) env = (do
      let ov ← eval o env
      standAt apos.atName
      let (f, first) ← holding [ov] (getMethod ov m pl)
      callWith pos f first (backTo pos (starEach args env)) (backToKw pos (keywordEach [] env))) := by
  refine ⟨(do return (← importBound o env).getD true), ?_⟩
  have hform : methodCallForm (args.length + ([] : List Keyword).length) (backTo pos (starEach args env)) (backToKw pos (keywordEach [] env)) = true := by
    unfold methodCallForm
    rw [hs]
    show (true && true && decide (args.length + 0 + 0 < 30)) = true
    rw [decide_eq_true (by omega)]; rfl
  have hpos : methodCallPos true o env apos pos = pure pos := by
    unfold methodCallPos
    rw [hl]; rfl
  rw [arm_eval_Call, hb]
  unfold methodCall
  rw [hform, hpos]
  rfl
def tMethSD (C : Addr) (m : Str) (sp : Sp) (E : L2.St → XK) (ta : TE) (t : TA) : TE := fun σ H Q => ta σ H fun x H1 => ∃ a dx fs, x = .ref a ∧ H1 a = some (.ins C dx fs) ∧ fs.lookup m = none ∧
  t σ H1 fun vs H2 => sp (x :: vs) H2 Q (E σ)
theorem pe_methSD (he : PE X o ta) (c : Cls X.K C) (hm : Meth X.K C m f) (F : FnOk X.prog X.w X.K X.mg X.base CX k f fd ps sp) (hr : Room k X.A) (hb : Binds X.K fd ps []) (hx : ∀ σ, PassesAt CX X σ (E σ)) (ha : PA X (e :: es) t)
    (hst : starEach (e :: es) X.env = (false, eval e X.env) :: starEach es X.env) (hpl : (backTo pos (starEach es X.env)).any (·.1) = false)
    (ht : ∃ pl : Sem Bool, eval (.Call (.Attribute o m apos) (e :: es) [] pos) X.env = (do
      let ov ← eval o X.env
      standAt apos.atName
      let (f, first) ← holding [ov] (getMethod ov m pl)
      callWith pos f first (backTo pos (starEach (e :: es) X.env)) (backToKw pos (keywordEach [] X.env)))) :
    PE X (.Call (.Attribute o m apos) (e :: es) [] pos) (tMethSD C m sp E ta t) := by
  obtain ⟨pl, ht⟩ := ht
  refine ⟨fun pins s σ H Q I h => ?_⟩
  refine PySem.W.methodCall_KW (pl := pl) (thn (he.run pins s σ H _ I h) fun u s1 ⟨x, H1, I1, rx, a, dx, fs, ex, ea, l, q⟩ => ?_) ht
  subst ex
  obtain rfl : u = Value.ref a := rx
  refine getmeth_ok I1 ea c hm l ?_
  refine PySem.W.callWith_K (first := [.ref a]) (h₀ := X.base) I.ok.mod.kin hm.kp (thn (ha.run pos pins s1 σ H1 _ I1 q) fun us s2 ⟨vs, H2, I2, r, q2⟩ => ⟨I2.kIn, ?_⟩) hst hpl
  exact run_fnSD (us := .ref a :: us) (vs := .ref a :: vs) (dvs := []) (ds := []) F hr hb .nil (hx σ) I2 (.cons rfl r) (by rw [List.append_nil]; exact q2)
theorem pe_methSD0 (he : PE X o ta) (c : Cls X.K C) (hm : Meth X.K C m f) (F : FnOk X.prog X.w X.K X.mg X.base CX k f fd ps sp) (hr : Room k X.A) (hb : Binds X.K fd ps []) (hx : ∀ σ, PassesAt CX X σ (E σ))
    (ht : ∃ pl : Sem Bool, eval (.Call (.Attribute o m apos) [] [] pos) X.env = (do
      let ov ← eval o X.env
      standAt apos.atName
      let (f, first) ← holding [ov] (getMethod ov m pl)
      callWith pos f first (backTo pos (starEach [] X.env)) (backToKw pos (keywordEach [] X.env)))) :
    PE X (.Call (.Attribute o m apos) [] [] pos) (tMethSD C m sp E ta tNil) := by
  obtain ⟨pl, ht⟩ := ht
  refine ⟨fun pins s σ H Q I h => ?_⟩
  refine PySem.W.methodCall_KW (pl := pl) (thn (he.run pins s σ H _ I h) fun u s1 ⟨x, H1, I1, rx, a, dx, fs, ex, ea, l, q⟩ => ?_) ht
  subst ex
  obtain rfl : u = Value.ref a := rx
  refine getmeth_ok I1 ea c hm l ?_
  exact PySem.W.callWith_K0 (first := [.ref a]) I1.kIn hm.kp (run_fnSD (us := [.ref a]) (vs := [.ref a]) (dvs := []) (ds := []) F hr hb .nil (hx σ) I1 (.cons rfl .nil) q)
theorem pe_callSD0 (F : FnOk X.prog X.w X.K X.mg X.base CX k f fd ps sp) (hr : Room k X.A) (hg : Gl X x) (hm : X.mg x = some (.ref f)) (hk : PySem.W.keepIn X.K (.ref f) = true) (hb : Binds X.K fd ps []) (hx : ∀ σ, PassesAt CX X σ (E σ))
    (hdb : (x == ("__debug__" : Str)) = false) : PE X (.Call (.Name x p) [] [] pos) (fun σ H Q => sp [] H Q (E σ)) := by
  refine ⟨fun pins s σ H Q I h => ?_⟩
  refine wpAny_Call_Name_kw (ld_glob I hg hm ?_ hdb)
  exact PySem.W.callWith_K0 I.kIn hk (run_fnSD (us := []) (vs := []) (dvs := []) (ds := []) F hr hb .nil (hx σ) I .nil h)
/-- C(..): a new object, then its __init__ -/
def tMakeSD (C : Addr) (sp : Sp) (E : L2.St → XK) (t : TA) : TE := fun σ H Q => t σ H fun vs H1 => ∀ x dx, H1 x = none → H1 dx = none → dx ≠ x →
  sp (.ref x :: vs) (upd (upd H1 dx (.own x)) x (.ins C dx [])) (fun v H2 => v = .non ∧ Q (.ref x) H2) (E σ)
theorem run_makeSD {pins : List (Addr × Obj)} {σ : L2.St} {H : Hp} {s : Shared} {Q : VK} {us : List Value} {vs : List V} (M : Mk X.K C f) (F : FnOk X.prog X.w X.K X.mg X.base CX k f fd ps sp) (hr : Room (k + 1) X.A) (hb : Binds X.K fd ps [])
    (hx : PassesAt CX X σ (E σ)) (I : Inv X pins σ H s) (r : Vals vs us)
    (h : ∀ x dx, H x = none → H dx = none → dx ≠ x → sp (.ref x :: vs) (upd (upd H dx (.own x)) x (.ins C dx [])) (fun v H2 => v = .non ∧ Q (.ref x) H2) (E σ)) :
    wpAny (model X.prog X.w) X.A (call (.ref C) us) (EP X pins σ Q) X.xe s := by
  have hq := h (s.heap.objs.size + 1) s.heap.objs.size (I.hok.fresh (Nat.le_succ _)) (I.hok.fresh (Nat.le_refl _)) (Nat.ne_of_lt (Nat.lt_succ_self _))
  have I2 := Inv.made (C := C) I
  have r2 : Vals (V.ref (s.heap.objs.size + 1) :: vs) (Value.ref (s.heap.objs.size + 1) :: us) := .cons rfl r
  have hl : (Value.ref (s.heap.objs.size + 1) :: us).length = ps.length := by
    have e := r2.length
    rw [F.len _ _ _ _ hq] at e
    exact e.symm
  refine wpAny_call (make_map (f := f) I.kIn M.makes M.init (beq_iff_eq.mp M.fn) (codeAny_mono (F.run _ X.stack _ _ ⟨Value.ref (s.heap.objs.size + 1) :: us, []⟩ (Value.ref (s.heap.objs.size + 1) :: us) _ _ (E σ) (hr.make C us [])
    (I2.env0.make C us []) (by have := hb _ (Value.ref (s.heap.objs.size + 1) :: us) I2.kIn (by rw [List.append_nil]; exact hl); rw [List.append_nil] at this; exact this) r2 hq) fun r s' hq' => ?_))
  cases r with
  | error e => exact hx pins _ _ e s' I2 hq'
  | ok fl =>
    cases fl with
    | ret u =>
      obtain ⟨v, H', I3, rv, ev, q3⟩ := I2.after hq'
      subst ev
      exact ⟨rv, ⟨V.ref (s.heap.objs.size + 1), H', I3, rfl, q3⟩⟩
    | next => exact False.elim hq'
    | brk => exact False.elim hq'
    | cont => exact False.elim hq'
theorem pe_makeSD (M : Mk X.K C f) (F : FnOk X.prog X.w X.K X.mg X.base CX k f fd ps sp) (hr : Room (k + 1) X.A) (hg : Gl X x) (hm : X.mg x = some (.ref C)) (hb : Binds X.K fd ps []) (hx : ∀ σ, PassesAt CX X σ (E σ))
    (ha : PA X (e :: es) t) (hdb : (x == ("__debug__" : Str)) = false) (he : starEach (e :: es) X.env = (false, eval e X.env) :: starEach es X.env) (hpl : (backTo pos (starEach es X.env)).any (·.1) = false) :
    PE X (.Call (.Name x p) (e :: es) [] pos) (tMakeSD C sp E t) := by
  refine ⟨fun pins s σ H Q I h => ?_⟩
  refine wpAny_Call_Name_kw (ld_glob I hg hm ?_ hdb)
  refine PySem.W.callWith_K (h₀ := X.base) I.ok.mod.kin M.kp (thn (ha.run pos pins s σ H _ I h) fun us s1 ⟨vs, H1, I1, r, q⟩ => ⟨I1.kIn, ?_⟩) he hpl
  exact run_makeSD M F hr hb (hx σ) I1 r q
end
end PyI.Nw
/-! N3: max(xs, default=d). -/
namespace PyI.Nw
open PySem PySem.Spec PyProof.Rows L2
section
variable {prog : Program} {w : World} {A : Around} {R : Result → Shared → Prop} {I : Addr} {fp wr : List Addr} {n : Nat} {P : Nat → Value → Prop} {St : Nat → Heap → Prop} {kw : List (Str × Value)}
theorem args_maxD (a v : Value) : argsOk "max" ⟨[a], [(Str.ofString "default", v)]⟩ := by unfold argsOk; kernel_rfl
theorem max_loopD (W : Walks prog w A.in1 I fp wr n P St) (bt : Nat → Nat → Bool) (hcmp : CmpOf prog w A.in1 .Gt P bt) (S : Addr) (hSf : S ∉ fp) :
    ∀ (k j : Nat) (s : Shared) (vb : Value) (c : Nat), n - (j + 1) = k → j + 1 ≤ n → St (j + 1) s.heap → P (argBest bt j) vb →
    s.heap.get? S = some { cls := .type "list", dict := none, data := .seq #[vb, vb] c, slots := #[] } →
    (∀ v h' tk, P (argBest bt (n - 1)) v → (∀ b o, b ∉ wr → b ≠ S → s.heap.get? b = some o → h'.get? b = some o) → R (.ok (.ret v)) { s with heap := h', toks := tk }) →
    codeAny (model prog w) A (.builtin "max.loop" ⟨[.ref I, .none, .ref S], kw⟩) R s := by
  have hSw : S ∉ wr := fun h => hSf (W.sub _ h)
  have hname : (toString "max" ++ toString ".loop" : String) = "max.loop" := by decide
  intro k
  induction k with
  | zero =>
    intro j s vb c hk hj hst hPb hS hR
    have hin : j + 1 = n := by omega
    refine codeAny_builtin F.entry_max_loop ?_
    rw [Around.under_plainId F.plain_max_loop _]
    show wpAny _ A.in1 (seqItems? (.ref S) >>= _) _ _ s
    refine wpAny_bind (wpAny_seqItems hS rfl ?_)
    show wpAny _ A.in1 (tryCatch (pyNext (.ref I)) _ >>= _) _ _ s
    refine wpAny_bind (wpAny_tryCatch (W.done s _ _ (hin ▸ hst) fun h' tk hk' => ?_))
    have hS' := hk' S _ hSw hS
    show wpAny _ A.in1 (updateSeq S (fun _ => #[]) >>= _) _ _ _
    refine wpAny_bind ?_
    refine wpAny_updateSeq hS' rfl (wpAny_bind (wpAny_letGo (wpAny_pure ?_)))
    refine hR vb _ tk (by rw [← hin]; exact hPb) fun b o hbw hbS e => (Heap.get?_update_other _ _ (Ne.symm hbS)).trans (hk' b o hbw e)
  | succ k ih =>
    intro j s vb c hk hj hst hPb hS hR
    have hlt : j + 1 < n := by omega
    refine codeAny_builtin F.entry_max_loop ?_
    rw [Around.under_plainId F.plain_max_loop _]
    show wpAny _ A.in1 (seqItems? (.ref S) >>= _) _ _ s
    refine wpAny_bind (wpAny_seqItems hS rfl ?_)
    show wpAny _ A.in1 (tryCatch (pyNext (.ref I)) _ >>= _) _ _ s
    refine wpAny_bind (wpAny_tryCatch (W.item (j + 1) s _ _ hlt hst fun v h' tk hP hst' hk' => ?_))
    have hS' := hk' S _ hSw hS
    show wpAny _ A.in1 (tryCatch (holding [v, v] (richCompare .Gt v vb >>= _)) _ >>= _) _ _ _
    refine wpAny_bind (wpAny_tryCatch (wpAny_holding (wpAny_bind (hcmp (j + 1) (argBest bt j) v vb _ _ _ hP hPb ?_))))
    refine wpAny_bind (wpAny_holding (wpAny_truthy_bool ?_))
    refine wpAny_bind (wpAny_letGo (wpAny_pure ?_))
    cases hb : bt (j + 1) (argBest bt j) with
    | true =>
      simp only [if_true]
      refine wpAny_bind ?_
      refine wpAny_updateSeq hS' rfl (wpAny_bind (wpAny_letGo ?_))
      rw [hname]
      refine wpAny_pure ⟨plainId_quiet F.plain_max_loop _, ih (j + 1) _ v _ (by omega) hlt (W.frame _ _ _ hst' fun b hbf o e => ?_) (by simp only [argBest, hb, if_true]; exact hP) (Heap.get?_update_self _ hS' rfl)
        fun v' h'' tk'' hP' hk'' => ?_⟩
      · exact (Heap.get?_update_other _ _ (fun h : S = b => hSf (by rw [h]; exact hbf))).trans e
      · exact hR v' h'' tk'' hP' fun b o hbw hbS e => hk'' b o hbw hbS ((Heap.get?_update_other _ _ (Ne.symm hbS)).trans (hk' b o hbw e))
    | false =>
      simp only [Bool.false_eq_true, if_false]
      refine wpAny_bind (wpAny_letGo ?_)
      rw [hname]
      refine wpAny_pure ⟨plainId_quiet F.plain_max_loop _, ih (j + 1) _ vb c (by omega) hlt hst' (by simp only [argBest, hb, Bool.false_eq_true, if_false]; exact hPb) hS' fun v' h'' tk'' hP' hk'' => ?_⟩
      exact hR v' h'' tk'' hP' fun b o hbw hbS e => hk'' b o hbw hbS (hk' b o hbw e)
theorem max_firstD (W : Walks prog w A.in1 I fp wr n P St) (bt : Nat → Nat → Bool) (hcmp : CmpOf prog w A.in1 .Gt P bt) (S : Addr) (hSf : S ∉ fp) (hn : 0 < n) {s : Shared} {c : Nat} (hst : St 0 s.heap)
    (hS : s.heap.get? S = some { cls := .type "list", dict := none, data := .seq #[] c, slots := #[] })
    (hR : ∀ v h' tk, P (argBest bt (n - 1)) v → (∀ b o, b ∉ wr → b ≠ S → s.heap.get? b = some o → h'.get? b = some o) → R (.ok (.ret v)) { s with heap := h', toks := tk }) :
    codeAny (model prog w) A (.builtin "max.loop" ⟨[.ref I, .none, .ref S], kw⟩) R s := by
  have hSw : S ∉ wr := fun h => hSf (W.sub _ h)
  have hname : (toString "max" ++ toString ".loop" : String) = "max.loop" := by decide
  refine codeAny_builtin F.entry_max_loop ?_
  rw [Around.under_plainId F.plain_max_loop _]
  show wpAny _ A.in1 (seqItems? (.ref S) >>= _) _ _ s
  refine wpAny_bind (wpAny_seqItems hS rfl ?_)
  show wpAny _ A.in1 (tryCatch (pyNext (.ref I)) _ >>= _) _ _ s
  refine wpAny_bind (wpAny_tryCatch (W.item 0 s _ _ hn hst fun v h' tk hP hst' hk' => ?_))
  have hS' := hk' S _ hSw hS
  show wpAny _ A.in1 (updateSeq S (fun _ => #[v, v]) >>= _) _ _ _
  refine wpAny_bind ?_
  refine wpAny_updateSeq hS' rfl ?_
  rw [hname]
  refine wpAny_pure ⟨plainId_quiet F.plain_max_loop _, max_loopD W bt hcmp S hSf _ 0 _ v _ rfl hn (W.frame _ _ _ hst' fun b hbf o e => ?_) hP (Heap.get?_update_self _ hS' rfl) fun v' h'' tk'' hP' hk'' => ?_⟩
  · exact (Heap.get?_update_other _ _ (fun h : S = b => hSf (by rw [h]; exact hbf))).trans e
  · exact hR v' h'' tk'' hP' fun b o hbw hbS e => hk'' b o hbw hbS ((Heap.get?_update_other _ _ (Ne.symm hbS)).trans (hk' b o hbw e))
theorem max_noneD (W : Walks prog w A.in1 I fp wr n P St) (S : Addr) (hSf : S ∉ fp) (hn : n = 0) {s : Shared} {c : Nat} {k : Str} {d : Value} (hst : St 0 s.heap)
    (hS : s.heap.get? S = some { cls := .type "list", dict := none, data := .seq #[] c, slots := #[] })
    (hR : ∀ h' tk, (∀ b o, b ∉ wr → b ≠ S → s.heap.get? b = some o → h'.get? b = some o) → R (.ok (.ret d)) { s with heap := h', toks := tk }) :
    codeAny (model prog w) A (.builtin "max.loop" ⟨[.ref I, .none, .ref S], [(k, d)]⟩) R s := by
  refine codeAny_builtin F.entry_max_loop ?_
  rw [Around.under_plainId F.plain_max_loop _]
  show wpAny _ A.in1 (seqItems? (.ref S) >>= _) _ _ s
  refine wpAny_bind (wpAny_seqItems hS rfl ?_)
  show wpAny _ A.in1 (tryCatch (pyNext (.ref I)) _ >>= _) _ _ s
  refine wpAny_bind (wpAny_tryCatch (W.done s _ _ (hn ▸ hst) fun h' tk hk' => ?_))
  show wpAny _ A.in1 (rule _ >>= _) _ _ _
  refine wpAny_bind (wpAny_rule (wpAny_pure ?_))
  exact hR _ tk fun b o hbw hbS e => hk' b o hbw e
end
section
variable {prog : Program} {w : World} {A : Around} {E : Value → Shared → Prop} {s : Shared} {l : Addr} {its : List Value} {ns : List Int} {Q : Value → Shared → Prop} {d : Value}
theorem max_rawD (hh : A.handled = none) (hl : s.heap.IsList l its.toArray) (hi : IntsAre its ns)
    (h0 : ns = [] → ∀ h' tk, (∀ b o, s.heap.get? b = some o → h'.get? b = some o) → Q d { s with heap := h', toks := tk })
    (h : ∀ h' tk M t', (∀ b o, s.heap.get? b = some o → h'.get? b = some o) → M ∈ ns → (∀ a, a ∈ ns → a ≤ M) → Q (.int M t') { s with heap := h', toks := tk }) : wpAny (model prog w) A (call (.builtin "max") [.ref l] [(Str.ofString "default", d)]) Q E s := by
  obtain ⟨xs, e⟩ := hi.allInts.items
  have hn : numsOf (intItems xs).toList = ns := by rw [← e]; exact hi.numsOf
  rw [nums_intItems] at hn
  subst hn
  rw [e] at hl
  have hname : (toString "max" ++ toString ".loop" : String) = "max.loop" := by decide
  refine kmk_tree F.kind_max F.plain_max F.entry_max (args_maxD _ _) ?_
  show wpAny _ A.in1 (Builtin.Builtins.bindParams "max" ["key", "default"] 0 ⟨[], [(Str.ofString "default", d)]⟩ >>= _) _ _ s
  refine wpAny_bind (wpAny_of_eq (show Builtin.Builtins.bindParams "max" ["key", "default"] 0 ⟨[], [(Str.ofString "default", d)]⟩ = pure [none, some d] from rfl) ?_)
  refine wpAny_bind (wpAny_pure ?_)
  refine wpAny_bind (iter_intList hl fun s₂ e st hfp hlI => ?_)
  refine wpAny_bind (wpAny_newObj_type ?_)
  have hSf : s₂.heap.objs.size ∉ [s.heap.objs.size, l] := fun hm => Nat.lt_irrefl _ (hfp _ hm)
  have W := Walks.list (prog := prog) (w := w) (A := A.in1) hh _ l hlI (intItems xs)
  rw [hname]
  have old : ∀ (h' : Heap), (∀ b o, b ∉ [s.heap.objs.size] → b ≠ s₂.heap.objs.size → (s₂.heap.push { cls := .type "list", data := .seq #[] }).get? b = some o → h'.get? b = some o) → ∀ b o, s.heap.get? b = some o → h'.get? b = some o := fun h' hk b o e' => by
    subst e
    have hb := Heap.lt_size e'
    refine hk b o (fun z => ?_) (fun z => ?_) (Heap.get?_push_of_some _ (Heap.get?_push_of_some _ e'))
    · rw [List.mem_singleton.mp z] at hb; exact Nat.lt_irrefl _ hb
    · have : (s.heap.push { cls := .type "list_iterator", data := .fields #[.ref l, .int 0 0] }).objs.size = s.heap.objs.size + 1 := Heap.size_push _ _
      rw [z] at hb
      show False
      have hb' : (s.heap.push { cls := .type "list_iterator", data := .fields #[.ref l, .int 0 0] }).objs.size < s.heap.objs.size := hb
      omega
  have hz : (intItems xs).size = xs.size := by simp [intItems]
  rcases Nat.eq_zero_or_pos xs.size with z | z
  · refine wpAny_pure ⟨plainId_quiet F.plain_max_loop _, max_noneD (A := A) W s₂.heap.objs.size hSf (by rw [hz, z]) (W.frame _ _ _ st fun b _ o e => Heap.get?_push_of_some _ e) (Heap.get?_push_size _ rfl) fun h' tk hk => ?_⟩
    have := h0 (by simpa using z) h' tk (old h' hk)
    subst e
    exact this
  · refine wpAny_pure ⟨plainId_quiet F.plain_max_loop _, max_firstD (A := A) W _ (CmpOf.ints_gt (numAt xs) (fun _ _ => intItems_at)) s₂.heap.objs.size hSf (by rw [hz]; exact z) (W.frame _ _ _ st fun b _ o e => Heap.get?_push_of_some _ e) (Heap.get?_push_size _ rfl) fun v h' tk hv hk => ?_⟩
    rw [hz] at hv
    obtain ⟨t, rfl⟩ := intItems_at hv
    obtain ⟨h1, h2⟩ := argBest_gt (numAt xs) (xs.size - 1)
    have := h h' tk (numAt xs (argBest (fun i j => decide (numAt xs i > numAt xs j)) (xs.size - 1))) t (old h' hk) (by rw [numAt_eq]; exact PySem.getD_mem (by rw [List.length_map, Array.length_toList]; omega)) (fun a ha => by
      obtain ⟨j, hj, rfl⟩ := mem_getD ha
      rw [List.length_map, Array.length_toList] at hj
      rw [← numAt_eq]; exact h2 j (by omega))
    subst e
    exact this
end
section
variable {X : Cx} {p pos kpos : Pos} {e d : Expr} {te td : TE}
/-- max(xs, default=d), xs a list of ints -/
def tMaxD (K : PySem.W.Frag) (te td : TE) : TE := fun σ H Q => te σ H fun x H1 => td σ H1 fun y H2 => ∃ (a : Addr) (ns : List Int), x = .ref a ∧ SqL K H2 a (ns.map V.int) ∧ (ns = [] → Q y H2) ∧ ∀ m, m ∈ ns → (∀ y, y ∈ ns → y ≤ m) → Q (.int m) H2
theorem pe_maxD (hc : X.calm = true) (hg : Gl X "max") (hm : X.mg "max" = none) (he : PE X e te) (hd : PE X d td) (hs : starEach [e] X.env = [(false, eval e X.env)]) : PE X (.Call (.Name "max" p) [e] [⟨some "default", d, kpos⟩] pos) (tMaxD X.K te td) := by
  refine ⟨fun pins s σ H Q I h => ?_⟩
  refine wpAny_Call_Name_kw (ld_blt I hg hm (show bootBuiltins "max" = some (.builtin "max") by decide +kernel) ?_ (by decide) (by decide))
  refine callWith_kw ?_ (by rw [hs]; rfl) (by rw [hs]; rfl) rfl rfl
  have ha := pa_cons (X := X) he pa_nil hs
  have hk := pk_cons (nm := some "default") (kpos := kpos) hd pk_nil
  refine thn (ha.run pos pins s σ H (fun vs H1 => match vs with
    | [x] => td σ H1 fun y H2 => ∃ (a : Addr) (ns : List Int), x = .ref a ∧ SqL X.K H2 a (ns.map V.int) ∧ (ns = [] → Q y H2) ∧ ∀ m, m ∈ ns → (∀ y, y ∈ ns → y ≤ m) → Q (.int m) H2
    | _ => False) I h) fun us s1 ⟨vs, H1, I1, r, q⟩ => ?_
  match vs, r, q with
  | [x], r, q =>
    refine thn (hk.run pos pins s1 σ H1 (fun zs H2 => match zs with
      | [y] => ∃ (a : Addr) (ns : List Int), x = .ref a ∧ SqL X.K H2 a (ns.map V.int) ∧ (ns = [] → Q y H2) ∧ ∀ m, m ∈ ns → (∀ y, y ∈ ns → y ≤ m) → Q (.int m) H2
      | _ => False) I1 q) fun ws s2 ⟨zs, H2, I2, rz, q2⟩ => ?_
    match zs, rz, q2 with
    | [y], rz, ⟨a, ns, ex, hl, q0, q1⟩ =>
      subst ex
      obtain ⟨v, ew, rv⟩ := vals1 rz
      subst ew
      rw [Vals.ref1 r]
      obtain ⟨its, ri, hli, _⟩ := I2.list hl
      show wpAny _ _ (call (.builtin "max") [.ref a] [(Str.ofString "default", v)]) _ _ _
      exact max_rawD (I2.ok.hd hc) hli.isList ri.ints (fun e h' tk hk => ⟨y, H2, I2.kept hk, rv, q0 e⟩) fun h' tk M t' hk h1 h2 => ⟨.int M, H2, I2.kept hk, ⟨_, rfl⟩, q1 M h1 h2⟩
end
end PyI.Nw
/-! A3: what the model does, in the words of the interpreter: frames of the proof, and operators. -/
namespace PyI
open PySem L2

/-! ### canonical readings -/
section
variable (X : Cx)
def wE (e : Expr) : TE := fun σ H Q => ∀ pins s, Inv X pins σ H s → wpAny (model X.prog X.w) X.A (eval e X.env) (EP X pins σ Q) X.xe s
def wT (e : Expr) : TT := fun σ H Q => ∀ pins s, Inv X pins σ H s → wpAny (model X.prog X.w) X.A (isTrue e X.env (eval e X.env)) (TP X pins σ Q) X.xe s
def wA (es : List Expr) : TA := fun σ H Q => ∀ (pos : Pos) pins s, Inv X pins σ H s → wpAny (model X.prog X.w) X.A (spliced (backTo pos (starEach es X.env))) (AP X pins σ Q) X.xe s
def wI (tg iter : Expr) : TI := fun σ H (R : L2.It → Hp → Prop) => ∀ pins s, Inv X pins σ H s →
  wpAny (model X.prog X.w) X.A (eval iter X.env) (fun v s1 => wpAny (model X.prog X.w) X.A (pyIter v) (PIE X pins σ tg R) X.xe s1) X.xe s
def wO (f : Value → Value → Sem Value) : R2 := fun x y H Q => ∀ pins s σ v u, Inv X pins σ H s → RelV x v → RelV y u → wpAny (model X.prog X.w) X.A (f v u) (EP X pins σ Q) X.xe s
def wU (f : Value → Sem Value) : V → Hp → VK → Prop := fun x H Q => ∀ pins s σ v, Inv X pins σ H s → RelV x v → wpAny (model X.prog X.w) X.A (f v) (EP X pins σ Q) X.xe s
def wC (f : Value) : List V → Hp → VK → Prop := fun xs H Q => ∀ pins s σ us, Inv X pins σ H s → Vals xs us → wpAny (model X.prog X.w) X.A (call f us) (EP X pins σ Q) X.xe s
def wM (id : String) : V → List V → Hp → VK → Prop := fun x xs H Q => ∀ pins s σ v us, Inv X pins σ H s → RelV x v → Vals xs us → wpAny (model X.prog X.w) X.A (call (.builtin id) (v :: us)) (EP X pins σ Q) X.xe s
end
section
variable {X : Cx} {e : Expr} {es : List Expr} {σ : St} {H : Hp} {Q : VK}
theorem pE : PE X e (wE X e) := ⟨fun pins s _ _ _ I h => h pins s I⟩
theorem pT : PT X e (wT X e) := ⟨fun pins s _ _ _ I h => h pins s I⟩
theorem pA : PA X es (wA X es) := ⟨fun pos pins s _ _ _ I h => h pos pins s I⟩
theorem pI {tg : Expr} : PI X tg e (wI X tg e) := ⟨fun pins s _ _ _ I h => h pins s I⟩
theorem pO {f : Value → Value → Sem Value} : OpR X f (wO X f) := fun pins s σ _ _ _ v u _ I r r' h => h pins s σ v u I r r'
theorem pU {f : Value → Sem Value} : UnR X f (wU X f) := fun pins s σ _ _ v _ I r h => h pins s σ v I r
theorem pC {f : Value} : CallR X f (wC X f) := fun pins s σ _ _ us _ I r h => h pins s σ us I r
theorem pM {id : String} : MtR X id (wM X id) := fun pins s σ _ _ _ v us _ I r r' h => h pins s σ v us I r r'
theorem we {t : TE} (p : PE X e t) (h : t σ H Q) : wE X e σ H Q := fun pins s I => p.run pins s σ H Q I h
theorem wt {t : TT} {Q : Bool → Hp → Prop} (p : PT X e t) (h : t σ H Q) : wT X e σ H Q := fun pins s I => p.run pins s σ H Q I h
theorem wa {t : TA} {Q : List V → Hp → Prop} (p : PA X es t) (h : t σ H Q) : wA X es σ H Q := fun pos pins s I => p.run pos pins s σ H Q I h
theorem wi {tg : Expr} {t : TI} {R : L2.It → Hp → Prop} (p : PI X tg e t) (h : t σ H R) : wI X tg e σ H R := fun pins s I => p.run pins s σ H R I h
theorem wo {f : Value → Value → Sem Value} {r : R2} {x y : V} (p : OpR X f r) (h : r x y H Q) : wO X f x y H Q := fun pins s σ v u I r r' => p pins s σ H x y v u Q I r r' h
theorem wu {f : Value → Sem Value} {r : V → Hp → VK → Prop} {x : V} (p : UnR X f r) (h : r x H Q) : wU X f x H Q := fun pins s σ v I r => p pins s σ H x v Q I r h
theorem wc {f : Value} {r : List V → Hp → VK → Prop} {xs : List V} (p : CallR X f r) (h : r xs H Q) : wC X f xs H Q := fun pins s σ us I r => p pins s σ H xs us Q I r h
theorem wm {id : String} {r : V → List V → Hp → VK → Prop} {x : V} {xs : List V} (p : MtR X id r) (h : r x xs H Q) : wM X id x xs H Q := fun pins s σ v us I r r' => p pins s σ H x xs v us Q I r r' h
end

/-! ### what is due of an answer -/
def ErrRep (K : PySem.W.Frag) (ct : CTab) (H : Hp) (M : AM) (c : Nat) (fs : List D) (cls : Value) (d : Option Addr) : Prop :=
  cls = .ref (ct.cls c) ∧ ∃ dx vs, d = some dx ∧ H dx = some (.xd vs) ∧ vs.map (·.1) = ct.flds c ∧ Reps K H M (vs.map (·.2)) fs
def Ok {α β : Type} (K : PySem.W.Frag) (ct : CTab) (R : Hp → AM → β → α → Prop) (M : AM) (H : Hp) (r : Res α) (Q : β → Hp → Prop) (W : XK) : Prop :=
  match r with
  | .ok a μ' => ∀ v H' M', Evo M H M' H' → RelH K ct H' μ' M' → R H' M' v a → Q v H'
  | .err c fs μ' => ∀ cls d H' M', Evo M H M' H' → RelH K ct H' μ' M' → ErrRep K ct H' M' c fs cls d → W cls d H'
  | .stuck => False
abbrev RD (K : PySem.W.Frag) : Hp → AM → V → D → Prop := fun H M v d => Rep K H M v d
abbrev RDs (K : PySem.W.Frag) : Hp → AM → List V → List D → Prop := fun H M v d => Reps K H M v d
abbrev RB : Hp → AM → Bool → Bool → Prop := fun _ _ v d => v = d
abbrev RO : Hp → AM → Option Int → Option Int → Prop := fun _ _ v d => v = d
abbrev RU : Hp → AM → Unit → Unit → Prop := fun _ _ _ _ => True
section
variable {α β γ δ : Type} {K : PySem.W.Frag} {ct : CTab} {R : Hp → AM → β → α → Prop} {R' : Hp → AM → δ → γ → Prop} {M M1 : AM} {H H1 : Hp} {r : Res α} {μ : Mu} {Q Q1 : β → Hp → Prop} {W : XK}
theorem Ok.evo (e : Evo M H M1 H1) (h : Ok K ct R M H r Q W) : Ok K ct R M1 H1 r Q W := by
  cases r with
  | ok a μ' => exact fun v H' M' e' => h v H' M' (e.trans e')
  | err c fs μ' => exact fun cls d H' M' e' => h cls d H' M' (e.trans e')
  | stuck => exact h
theorem Ok.step {f : α → Mu → Res γ} {Q' : δ → Hp → Prop} (h : Ok K ct R' M H (r.bind f) Q' W)
    (k : ∀ a μ1 v H1 M1, Evo M H M1 H1 → RelH K ct H1 μ1 M1 → R H1 M1 v a → Ok K ct R' M1 H1 (f a μ1) Q' W → Q1 v H1) : Ok K ct R M H r Q1 W := by
  cases r with
  | ok a μ' => exact fun v H' M' e R1 r1 => k a μ' v H' M' e R1 r1 (Ok.evo e h)
  | err c fs μ' => exact h
  | stuck => exact h
theorem Ok.ret {a : α} {v : β} (h : Ok K ct R M H (.ok a μ) Q W) (R1 : RelH K ct H μ M) (r1 : R H M v a) : Q v H := h v H M (Evo.refl M H) R1 r1
theorem Ok.needs {p : Prop} [Decidable p] (h : Ok K ct R M H (needs p r) Q W) : p ∧ Ok K ct R M H r Q W := by
  unfold PyI.needs at h
  by_cases q : p
  · rw [if_pos q] at h; exact ⟨q, h⟩
  · rw [if_neg q] at h; exact h.elim
theorem Ok.imp (h : Ok K ct R M H r Q W) (k : ∀ v H', Q v H' → Q1 v H') : Ok K ct R M H r Q1 W := by
  cases r with
  | ok a μ' => exact fun v H' M' e R1 r1 => k v H' (h v H' M' e R1 r1)
  | err c fs μ' => exact h
  | stuck => exact h
end

/-! ### the frame in which a def's text is read -/
/-- an own class: its number, its name, its attributes, its __init__ in the table of defs -/
structure Own where
  c : Nat
  name : Str
  attrs : List Str
  ini : Str
structure Tb where
  fns : List (Str × Nat)
  cons : List Str
  dics : List Str
  clss : List (Str × List Str)
  isx : List (Nat × Str × Bool)
  owns : List Own := []
  mets : List (Str × Nat × Str) := []
def spF (K : PySem.W.Frag) (ct : CTab) (Γ : G) (f n : Nat) : Sp := fun vs H Q E => ∃ ds μ M, vs.length = n ∧ RelH K ct H μ M ∧ Reps K H M vs ds ∧ Ok K ct (RD K) M H (Γ.call f ds μ) Q E
def bins : List Str := ["len", "int", "str", "tuple", "list", "sorted", "min", "max", "sum", "any", "all", "abs", "ord", "bool", "isinstance", "range", "enumerate", "zip", "set", "type", "reversed"]
/-- a dict of the module with text keys -/
def DicAt (K : PySem.W.Frag) (w : World) (d : Addr) (l : List (Str × D)) : Prop := ∃ es n, KDict K w d es n ∧ ∀ z, match l.lookup z with
  | none => PySem.W.nsIn K d z = some none
  | some dd => ∃ u v, PySem.W.nsIn K d z = some (some u) ∧ RelV v u ∧ ∀ H M, Rep K H M v dd
/-- what may stand in an error's text -/
def FmtV (v : V) : Prop := (∃ i : Int, v = .int i ∧ 0 ≤ i ∧ i < 1000000000000000000) ∨ ∃ s : Str, v = .str s ∧ s.length ≤ 1000000
/-- what the __init__ of an own error keeps: its fields, the last one first -/
def iniS (C : Addr) (flds : List Str) : Sp := fun vs H Q E => ∃ a ws, vs = .ref a :: ws ∧ ws.length = flds.length ∧ (∀ y ∈ ws, FmtV y) ∧ H a = some (exo a C none) ∧
  ∀ dx, H dx = none → dx ≠ a → Q .non (upd (upd H dx (exd dx (flds.zip ws.reverse))) a (exo a C (some dx)))
/-- an own error class, as the written part has it -/
structure ClsK (P : Program) (w : World) (K : PySem.W.Frag) (mg : Str → Option Value) (C : Addr) (x : Str) (flds : List Str) : Prop where
  T : OexC K C
  xf : XfC K C
  ex : ExcC K C
  ini : ∃ fI fd ps, PySem.W.findIn K (.ref C) "__init__" = some (some (.ref fI)) ∧ PySem.W.typeIn K (.ref fI) = some (.type "function") ∧ Binds K fd ps [] ∧ ∀ base, FnOk P w K mg base (L2.CX P w) 1 fI fd ps (iniS C flds)
  mgx : mg x = some (.ref C)
  nos : ∀ f ∈ flds, PySem.W.findIn K (.ref C) f = some none
  exm : PySem.W.exmOne K (.ref C) (.ref C) = some true
/-- an own class, as the written part has it -/
structure OwnK (K : PySem.W.Frag) (mg : Str → Option Value) (C : Addr) (o : Own) : Prop where
  cls : Cls K C
  nos : ∀ f ∈ o.attrs, NoAttr K C f
  mgx : mg o.name = some (.ref C)
  mks : PySem.W.makesIn K C = true
  kp : PySem.W.keepIn K (.ref C) = true
structure FrG (P : Program) (w : World) (K : PySem.W.Frag) (mg : Str → Option Value) (base : Heap) (A : Around) (ct : CTab) (tb : Tb) (Γ : G) : Prop where
  units : A.units + 64 < cLine
  bi : ∀ x ∈ bins, mg x = none
  own : ∀ o ∈ tb.owns, OwnK K mg (ct.cls o.c) o
  meth : ∀ f x n c m, tb.fns[f]? = some (x, n) → tb.mets.lookup x = some (c, m) → ∃ k a fd ps, FnOk P w K mg base (L2.CX P w) k a fd ps (spF K ct Γ f n) ∧ Room (k + 1) A ∧ Meth K (ct.cls c) m a ∧ Binds K fd ps []
  call : ∀ f x n, tb.fns[f]? = some (x, n) → tb.mets.lookup x = none → ∃ k a fd ps, FnOk P w K mg base (L2.CX P w) k a fd ps (spF K ct Γ f n) ∧ Room k A ∧ mg x = some (.ref a) ∧ PySem.W.keepIn K (.ref a) = true ∧ Binds K fd ps []
  ar : ∀ f x n ds μ, tb.fns[f]? = some (x, n) → ds.length ≠ n → Γ.call f ds μ = .stuck
  con : ∀ g x d, tb.cons[g]? = some x → Γ.con g = some d → ∃ u v, mg x = some u ∧ RelV v u ∧ ∀ H M, Rep K H M v d
  dic : ∀ g x, tb.dics[g]? = some x → ∃ d, mg x = some (.ref d) ∧ DicAt K w d (Γ.dic g)
  cls : ∀ (c : Nat) (x : Str) (fl : List Str), tb.clss[c]? = some (x, fl) → ClsK P w K mg (ct.cls c) x fl ∧ ct.flds c = fl ∧ fl.Nodup
  room : Γ.mkr = true → Room 2 A
  isx : ∀ c x b, (c, x, b) ∈ tb.isx → ∃ (v : V) (cv : Value), ((mg x = some cv) ∨ (mg x = none ∧ bootBuiltins x = some cv ∧ x ≠ "__name__")) ∧ RelV v cv ∧ (∀ u, RelV v u → u = cv) ∧ PySem.W.kitOne K (.ref (ct.cls c)) cv = some b
structure Fr (X : Cx) (ct : CTab) (tb : Tb) (Γ : G) (N : List Str) (sc : Scope) : Prop where
  hN : X.N = N
  hsc : X.env.scope = sc
  nd : N.Nodup
  calm : X.calm = true
  kindF : sc.kind = .function
  g : FrG X.prog X.w X.K X.mg X.base X.A ct tb Γ

/-- e is evaluated as A tells -/
def Snd (X : Cx) (ct : CTab) (Γ : G) (e : Expr) (A : E) : Prop := ∀ (W : WX) (ρ : Rho) (μ : Mu) (σ : St) (H : Hp) (M : AM) (Q : VK), Takes X W → RelE X.K H M σ ρ → RelH X.K ct H μ M →
  Ok X.K ct (RD X.K) M H (evalE Γ A ρ μ) Q (fun c d H' => W c d σ H') → wE X e σ H Q
def SndA (X : Cx) (ct : CTab) (Γ : G) (es : List Expr) (A : Es) : Prop := ∀ (W : WX) (ρ : Rho) (μ : Mu) (σ : St) (H : Hp) (M : AM) (Q : List V → Hp → Prop), Takes X W → RelE X.K H M σ ρ → RelH X.K ct H μ M →
  Ok X.K ct (RDs X.K) M H (evalEs Γ A ρ μ) Q (fun c d H' => W c d σ H') → wA X es σ H Q
def SndT (X : Cx) (ct : CTab) (Γ : G) (e : Expr) (A : T) : Prop := ∀ (W : WX) (ρ : Rho) (μ : Mu) (σ : St) (H : Hp) (M : AM) (Q : Bool → Hp → Prop), Takes X W → RelE X.K H M σ ρ → RelH X.K ct H μ M →
  Ok X.K ct RB M H (evalT Γ A ρ μ) Q (fun c d H' => W c d σ H') → wT X e σ H Q

/-! ### values -/
section
variable {X : Cx} {ct : CTab} {K : PySem.W.Frag} {H : Hp} {M : AM} {μ : Mu} {x y z v : V} {d d' : D} {Q : VK} {W : XK}
theorem sl16 {n : Nat} (h : n ≤ 16777216) : n ≤ sizeLine := by rw [sizeLine_eq]; exact h
theorem sl16' {n : Nat} (h : n < 16777216) : n < sizeLine := by rw [sizeLine_eq]; exact h
/-- a list object of ours -/
theorem RelH.lst (R : RelH K ct H μ M) {n : Nat} {l : List D} {a : Addr} (h : μ[n]? = some (.lst l)) (ha : M.ix[n]? = some a) : ∃ xs, H a = some (.lst xs) ∧ Reps K H M xs l := by
  obtain ⟨a', e, xs, h1, r⟩ := R.at_ n _ h
  rw [ha] at e; cases e
  exact ⟨xs, h1, r⟩
/-- the items of a list or a tuple -/
theorem seq_of (R : RelH K ct H μ M) (r : Rep K H M x d) {l : List D} (h : seqD μ d = some l) : ∃ a xs, x = .ref a ∧ (SqL K H a xs ∨ SqT K H a xs) ∧ Reps K H M xs l := by
  cases r with
  | tup h1 r1 => cases h; exact ⟨_, _, rfl, .inr h1.sq, r1⟩
  | lst h1 r1 => cases h; exact ⟨_, _, rfl, .inl h1.sq, r1⟩
  | kl h1 r1 => cases h; exact ⟨_, _, rfl, .inl h1.sq, r1⟩
  | kt h1 r1 => cases h; exact ⟨_, _, rfl, .inr h1.sq, r1⟩
  | ref ha =>
    unfold seqD at h
    simp only at h
    split at h
    · rename_i l' hl
      cases h
      obtain ⟨xs, h1, r1⟩ := R.lst hl ha
      exact ⟨_, _, rfl, .inl (.inl (.inl h1)), r1⟩
    · cases h
  | non => cases h
  | bl => cases h
  | int => cases h
  | str => cases h
/-! ### dicts -/
theorem key_ok {k : D} {kk : Key} (r : Rep K H M y k) (h : keyD k = some kk) : y = kV kk := by
  cases r <;> unfold keyD at h <;> simp only [Option.some.injEq, reduceCtorEq] at h
  · subst h; rfl
  · subst h; rfl
theorem keys_ok : ∀ {xs : List V} {ds : List D} {ks : List Key}, Reps K H M xs ds → keysL ds = some ks → xs = ks.map kV
  | _, _, _, .nil, h => by cases h; rfl
  | _, _, _, .cons h r, e => by
    unfold keysL at e
    split at e
    · rename_i k ks e1 e2
      cases e
      rw [key_ok h e1, keys_ok r e2]; rfl
    · cases e
theorem keysT_ok {k : D} {ks : List Key} (r : Rep K H M y k) (h : keysD k = some ks) : ∃ b, y = .ref b ∧ H b = some (.tup (ks.map kV)) := by
  cases r with
  | tup h1 r1 =>
    have e := keys_ok r1 (show keysL _ = some ks from h)
    subst e
    exact ⟨_, rfl, h1.1⟩
  | _ => cases h
theorem prep_val {κ : Type} [DecidableEq κ] {ks : List (κ × V)} {kvs : List (κ × D)} (r : Paired (fun p q => p.1 = q.1 ∧ Rep K H M p.2 q.2) ks kvs) (k : κ) : match valD kvs k with
    | none => valV ks k = none
    | some d => ∃ v, valV ks k = some v ∧ Rep K H M v d := by
  induction r with
  | nil => rfl
  | @cons p q ps qs hq t ih =>
    by_cases e : q.1 = k
    · have e1 : valD (q :: qs) k = some q.2 := by simp [valD, List.find?_cons, e]
      rw [e1]
      exact ⟨p.2, valV_pos (hq.1.trans e), hq.2⟩
    · have e1 : valD (q :: qs) k = valD qs k := by simp [valD, List.find?_cons, e]
      rw [e1, valV_neg (fun z => e (hq.1.symm.trans z))]
      exact ih
theorem prep_any {κ : Type} [DecidableEq κ] {ks : List (κ × V)} {kvs : List (κ × D)} (r : Paired (fun p q => p.1 = q.1 ∧ Rep K H M p.2 q.2) ks kvs) (k : κ) : (ks.any fun kv => decide (kv.1 = k)) = kvs.any fun kv => decide (kv.1 = k) := by
  induction r with
  | nil => rfl
  | cons hq t ih => rw [List.any_cons, List.any_cons, ih, hq.1]
theorem prep_map {κ : Type} [DecidableEq κ] {ks : List (κ × V)} {kvs : List (κ × D)} (r : Paired (fun p q => p.1 = q.1 ∧ Rep K H M p.2 q.2) ks kvs) (k : κ) {v : V} {d : D} (rv : Rep K H M v d) :
    Paired (fun p q => p.1 = q.1 ∧ Rep K H M p.2 q.2) (ks.map fun kv => if kv.1 = k then (kv.1, v) else kv) (kvs.map fun kv => if kv.1 = k then (kv.1, d) else kv) := by
  induction r with
  | nil => exact .nil
  | @cons p q ps qs hq t ih =>
    rw [List.map_cons, List.map_cons]
    refine .cons ?_ ih
    by_cases e : q.1 = k
    · rw [if_pos e, if_pos (hq.1.trans e)]; exact ⟨hq.1, rv⟩
    · rw [if_neg e, if_neg (fun z => e (hq.1.symm.trans z))]; exact hq
theorem prep_snoc {κ : Type} {ks : List (κ × V)} {kvs : List (κ × D)} (r : Paired (fun p q => p.1 = q.1 ∧ Rep K H M p.2 q.2) ks kvs) (k : κ) {v : V} {d : D} (rv : Rep K H M v d) :
    Paired (fun p q => p.1 = q.1 ∧ Rep K H M p.2 q.2) (ks ++ [(k, v)]) (kvs ++ [(k, d)]) := by
  induction r with
  | nil => exact .cons ⟨rfl, rv⟩ .nil
  | cons hq t ih => exact .cons hq ih
theorem prep_put {κ : Type} [DecidableEq κ] {ks : List (κ × V)} {kvs : List (κ × D)} (r : Paired (fun p q => p.1 = q.1 ∧ Rep K H M p.2 q.2) ks kvs) (k : κ) {v : V} {d : D} (rv : Rep K H M v d) :
    Paired (fun p q => p.1 = q.1 ∧ Rep K H M p.2 q.2) (putK ks k v) (putD kvs k d) := by
  unfold putK putD
  rw [prep_any r k]
  split
  · exact prep_map r k rv
  · exact prep_snoc r k rv
theorem prep_len {κ : Type} {ks : List (κ × V)} {kvs : List (κ × D)} (r : Paired (fun p q => p.1 = q.1 ∧ Rep K H M p.2 q.2) ks kvs) : ks.length = kvs.length := by
  induction r with
  | nil => rfl
  | cons hq t ih => rw [List.length_cons, List.length_cons, ih]
theorem RelH.dk (R : RelH K ct H μ M) {n : Nat} {l : List (Key × D)} {a : Addr} (h : μ[n]? = some (.dk l)) (ha : M.ix[n]? = some a) : ∃ ks, H a = some (.dK ks) ∧ KRep K H M ks l := by
  obtain ⟨a', e, ks, h1, r⟩ := R.at_ n _ h
  rw [ha] at e; cases e
  exact ⟨ks, h1, r⟩
theorem RelH.dt (R : RelH K ct H μ M) {n : Nat} {l : List (List Key × D)} {a : Addr} (h : μ[n]? = some (.dt l)) (ha : M.ix[n]? = some a) : ∃ ks, H a = some (.dT ks) ∧ TRep K H M ks l := by
  obtain ⟨a', e, ks, h1, r⟩ := R.at_ n _ h
  rw [ha] at e; cases e
  exact ⟨ks, h1, r⟩
abbrev ROp (K : PySem.W.Frag) (H : Hp) (M : AM) (ov : Option V) (r : Option D) : Prop := match r with
  | none => ov = none
  | some d => ∃ v, ov = some v ∧ Rep K H M v d
theorem getDic_ok (R : RelH K ct H μ M) (rx : Rep K H M x d) (ry : Rep K H M y d') {r : Option D} (h : getDic μ d d' = some r) : ∃ a ov, x = .ref a ∧ DGet H a y ov ∧ ROp K H M ov r := by
  cases rx with
  | ref ha =>
    unfold getDic at h
    simp only at h
    split at h
    · rename_i kvs hk
      obtain ⟨k, hk2, rfl⟩ := Option.map_eq_some_iff.mp h
      obtain ⟨ks, h1, r1⟩ := R.dk hk ha
      have e := key_ok ry hk2
      subst e
      exact ⟨_, _, rfl, DGet.k h1, prep_val r1 k⟩
    · rename_i kvs hk
      obtain ⟨k, hk2, rfl⟩ := Option.map_eq_some_iff.mp h
      obtain ⟨ks, h1, r1⟩ := R.dt hk ha
      obtain ⟨b, rfl, hb⟩ := keysT_ok ry hk2
      exact ⟨_, _, rfl, DGet.t h1 hb, prep_val r1 k⟩
    · cases h
  | _ => cases h
theorem getDicS_ok (R : RelH K ct H μ M) (rx : Rep K H M x d) (ry : Rep K H M y d') {r : Option D} (h : getDicS μ d d' = some r) : ∃ a ov, x = .ref a ∧ Nw.DGetS H a y ov ∧ ROp K H M ov r := by
  unfold getDicS at h
  split at h
  · split at h
    · rename_i n s kvs hk
      cases h
      cases rx with
      | ref ha =>
        cases ry
        obtain ⟨ks, h1, r1⟩ := R.dt hk ha
        exact ⟨_, none, rfl, .inr ⟨⟨_, .inl h1⟩, ⟨_, rfl⟩, rfl⟩, rfl⟩
    · obtain ⟨a, ov, q1, q2, q3⟩ := getDic_ok R rx ry h
      exact ⟨a, ov, q1, .inl q2, q3⟩
  · obtain ⟨a, ov, q1, q2, q3⟩ := getDic_ok R rx ry h
    exact ⟨a, ov, q1, .inl q2, q3⟩
theorem isDic_ok (R : RelH K ct H μ M) (rx : Rep K H M x d) (h : isDic μ d = true) : ∃ a, x = .ref a ∧ IsD H a := by
  cases rx with
  | ref ha =>
    unfold isDic at h
    simp only at h
    split at h
    · rename_i kvs hk
      obtain ⟨ks, h1, r1⟩ := R.dk hk ha
      exact ⟨_, rfl, .inl ⟨_, .inl h1⟩⟩
    · rename_i kvs hk
      obtain ⟨ks, h1, r1⟩ := R.dt hk ha
      exact ⟨_, rfl, .inr ⟨_, .inl h1⟩⟩
    · cases h
  | _ => cases h
theorem putDic_ok (R : RelH K ct H μ M) (rx : Rep K H M x d) (ry : Rep K H M y d') {v : V} {e : D} (rv : Rep K H M v e) {n : Nat} {μ' : Mu} (h : putDic μ d d' e = some (n, μ')) (hn : n < 16777216) : ∃ a H', x = .ref a ∧ DPut H a y v H' ∧ Evo M H M H' ∧ RelH K ct H' μ' M := by
  cases rx with
  | ref ha =>
    unfold putDic at h
    simp only at h
    split at h
    · rename_i kvs hk
      obtain ⟨k, hk2, hh⟩ := Option.map_eq_some_iff.mp h
      cases hh
      obtain ⟨ks, h1, r1⟩ := R.dk hk ha
      have e := key_ok ry hk2
      subst e
      have ev : Evo M H M (upd H _ (.dK (putK ks k v))) := Evo.mut (List.mem_of_getElem? ha)
      exact ⟨_, _, rfl, DPut.k h1 (sl16' (by rw [prep_len r1]; exact hn)), ev, R.mut ha ⟨_, upd_same, paired_imp (fun _ _ q => ⟨q.1, q.2.evo ev⟩) (prep_put r1 k rv)⟩⟩
    · rename_i kvs hk
      obtain ⟨k, hk2, hh⟩ := Option.map_eq_some_iff.mp h
      cases hh
      obtain ⟨ks, h1, r1⟩ := R.dt hk ha
      obtain ⟨b, rfl, hb⟩ := keysT_ok ry hk2
      have ev : Evo M H M (upd H _ (.dT (putK ks k v))) := Evo.mut (List.mem_of_getElem? ha)
      exact ⟨_, _, rfl, DPut.t h1 hb (sl16' (by rw [prep_len r1]; exact hn)), ev, R.mut ha ⟨_, upd_same, paired_imp (fun _ _ q => ⟨q.1, q.2.evo ev⟩) (prep_put r1 k rv)⟩⟩
    · cases h
  | _ => cases h
theorem rep_flat : ∀ (n : Nat) {xs : List V} {ds : List D}, Reps K H M xs ds → Reps K H M (List.replicate n xs).flatten (List.replicate n ds).flatten
  | 0, _, _, _ => .nil
  | n + 1, _, _, r => by
    rw [List.replicate_succ, List.replicate_succ, List.flatten_cons, List.flatten_cons]
    exact r.append (rep_flat n r)
theorem Rep.int_inv {i : Int} (r : Rep K H M x (.int i)) : x = .int i := by cases r; rfl
theorem Rep.str_inv {s : Str} (r : Rep K H M x (.str s)) : x = .str s := by cases r; rfl
theorem Rep.bl_inv {b : Bool} (r : Rep K H M x (.bl b)) : x = .bl b := by cases r; rfl
theorem Rep.non_inv (r : Rep K H M x .non) : x = .non := by cases r; rfl

/-- a new tuple, a new list -/
theorem Ok.newT {ds : List D} (h : Ok K ct (RD K) M H (.ok (.tup ds) μ) Q W) (R : RelH K ct H μ M) (r : Reps K H M xs ds) {p : Addr} (hp : H p = none) : Q (.ref p) (upd H p (.tup xs)) :=
  h _ _ M (Evo.new hp) (R.new hp) (.tup ⟨upd_same, R.fresh hp⟩ (r.evo (Evo.new hp)))
theorem Ok.newL {ds : List D} (h : Ok K ct (RD K) M H (.ok (.lst ds) μ) Q W) (R : RelH K ct H μ M) (r : Reps K H M xs ds) {p : Addr} (hp : H p = none) : Q (.ref p) (upd H p (.lst xs)) :=
  h _ _ M (Evo.new hp) (R.new hp) (.lst ⟨.inl upd_same, R.fresh hp⟩ (r.evo (Evo.new hp)))
theorem lst_of (R : RelH K ct H μ M) (r : Rep K H M x d) {l : List D} (h : lstD μ d = some l) : ∃ a xs, x = .ref a ∧ Rd H a (.lst xs) ∧ Reps K H M xs l := by
  cases r with
  | lst h1 r1 => cases h; exact ⟨_, _, rfl, h1.1, r1⟩
  | kl => cases h
  | kt => cases h
  | ref ha =>
    unfold lstD at h
    simp only at h
    split at h
    · rename_i l' hl
      cases h
      obtain ⟨xs, h1, r1⟩ := R.lst hl ha
      exact ⟨_, _, rfl, .inl h1, r1⟩
    · cases h
  | tup => cases h
  | non => cases h
  | bl => cases h
  | int => cases h
  | str => cases h
theorem strRep_one {s : Str} : strRep s (Int.toNat 1) = s := by
  show Str.mk (#[] ++ s.cps) = s
  rw [Array.empty_append]
theorem strRep_len (s : Str) (n : Nat) : (strRep s n).length = n * s.length := by
  have f : ∀ (n : Nat) (acc : Array Nat), ((List.replicate n s.cps).foldl (· ++ ·) acc).size = acc.size + n * s.cps.size := fun n => by
    induction n with
    | zero => intro acc; simp
    | succ n ih =>
      intro acc
      rw [List.replicate_succ, List.foldl_cons, ih, Array.size_append, Nat.add_assoc, Nat.succ_mul, Nat.add_comm s.cps.size]
  exact (f n #[]).trans (by show 0 + _ = n * s.cps.size; rw [Nat.zero_add])
theorem strRep_nil {s : Str} (h : s.length = 0) {n : Nat} : strRep s n = s := by
  have e : s.cps = #[] := Array.eq_empty_of_size_eq_zero h
  have f : ∀ n : Nat, (List.replicate n (#[] : Array Nat)).foldl (· ++ ·) #[] = #[] := fun n => by
    induction n with
    | zero => rfl
    | succ n ih => rw [List.replicate_succ, List.foldl_cons]; exact ih
  cases s with
  | mk c =>
    unfold strRep
    simp only at e
    rw [e]
    simp only [f]
/-- a text, so many times -/
theorem op_mulS : OpR X (binaryOp .Mult) (fun x y H Q => ∃ s k, x = .str s ∧ y = .int k ∧ -(2 ^ 62) ≤ k ∧ k < 2 ^ 62 ∧ s.length * k.toNat ≤ sizeLine ∧ Q (.str (strRep s k.toNat)) H) := by
  intro pins st σ H x y v u Q I rx ry h
  obtain ⟨s, k, rfl, rfl, k1, k2, hz, q⟩ := h
  obtain ⟨t, rfl⟩ := rx
  obtain ⟨u, rfl⟩ := ry
  refine PySem.P.mul_str ?_ ?_ ?_ ?_
  · rw [decide_eq_false (by omega), decide_eq_false (by omega)]; rfl
  · intro h1 _ h2
    have h3 : (0 : Int) < k := by omega
    have h4 := Int.lt_mul_of_ediv_lt h3 h2
    rw [sizeLine_eq] at hz
    have h5 : ((s.length * k.toNat : Nat) : Int) ≤ ((16777216 : Nat) : Int) := Int.ofNat_le.mpr hz
    rw [Int.natCast_mul, Int.toNat_of_nonneg (Int.le_of_lt h3)] at h5
    generalize (s.length : Int) * k = m at h4 h5
    omega
  · intro _ _
    have : s.length * k.toNat ≤ 16777216 := by rw [sizeLine_eq] at hz; exact hz
    exact decide_eq_false (by omega)
  · split
    · rename_i h1
      have e : strRep s k.toNat = Str.empty := by
        unfold strRep
        rw [Int.toNat_eq_zero.mpr (by omega)]; rfl
      rw [e] at q
      exact ⟨Nat.zero_le _, .str _, H, I.tok _, ⟨_, rfl⟩, q⟩
    · rename_i h1
      split
      · rename_i h2
        have e : strRep s k.toNat = s := by
          simp only [Bool.or_eq_true, beq_iff_eq] at h2
          rcases h2 with h2 | h2
          · rw [h2]; exact strRep_one
          · exact strRep_nil h2
        rw [e] at q
        exact ⟨.str _, H, I, ⟨_, rfl⟩, q⟩
      · exact ⟨by have := strRep_len s k.toNat; unfold strRep at this; rw [this, Nat.mul_comm]; exact hz, .str _, H, I.tok _, ⟨_, rfl⟩, q⟩
/-- a list put behind a list: of our data too -/
theorem op_catL : OpR X (binaryOp .Add) (fun x y H Q => ∃ l b xs zs, x = .ref l ∧ y = .ref b ∧ Rd H l (.lst xs) ∧ Rd H b (.lst zs) ∧ xs.length + zs.length ≤ sizeLine ∧ ∀ p, H p = none → Q (.ref p) (upd H p (.lst (xs ++ zs)))) := by
  intro pins s σ H x y v u Q I rx ry h
  obtain ⟨l, b, xs, zs, rfl, rfl, hl, hb, hz, q⟩ := h
  cases rx
  cases ry
  obtain ⟨_, its, n1, r1, e1⟩ := hl.ok I.hok
  obtain ⟨_, its2, n2, r2, e2⟩ := hb.ok I.hok
  have hlen : its.toArray.size + its2.toArray.size ≤ sizeLine := by
    rw [List.size_toArray, List.size_toArray, ← r1.length, ← r2.length]
    exact hz
  refine PySem.P.add_list e1 e2 ?_ hlen
  rw [List.append_toArray]
  exact ⟨.ref _, _, I.lnew (t' := s.toks) (r1.append r2) (by rw [List.length_append]; exact hz), rfl, q _ I.fresh⟩
theorem bin_ok {op : Operator} {o : Bop} (ho : (match op with | .Add => some Bop.add | .Sub => some .sub | .Mult => some .mul | .FloorDiv => some .fdiv | .Mod => some .mod | .Pow => some .pow | .LShift => some .shl | .RShift => some .shr | .BitAnd => some .band | .BitOr => some .bor | .BitXor => some .bxor | _ => none) = some o)
    (R : RelH X.K ct H μ M) (rx : Rep X.K H M x d) (ry : Rep X.K H M y d') (h : Ok X.K ct (RD X.K) M H (binD o d d' μ) Q W) : wO X (binaryOp op) x y H Q := by
  unfold binD at h
  split at h
  case h_1 i j => cases op <;> cases ho; cases rx; cases ry; exact wo op_add ⟨i, j, rfl, rfl, h.ret R (.int _)⟩
  case h_2 i j => cases op <;> cases ho; cases rx; cases ry; exact wo op_sub ⟨i, j, rfl, rfl, h.ret R (.int _)⟩
  case h_3 i j =>
    cases op <;> cases ho
    cases rx; cases ry
    rcases h.needs.1 with q | q
    · exact wo op_mul ⟨i, j, rfl, rfl, q, h.needs.2.ret R (.int _)⟩
    · exact wo op_mulW ⟨i, j, rfl, rfl, q, h.needs.2.ret R (.int _)⟩
  case h_4 i j =>
    cases op <;> cases ho
    cases rx; cases ry
    rcases h.needs.1 with ⟨q0, q | q⟩
    · exact wo op_fdiv ⟨i, j, rfl, rfl, ⟨q0, q⟩, h.needs.2.ret R (.int _)⟩
    · exact wo op_fdivW ⟨i, j, rfl, rfl, ⟨q0, q⟩, h.needs.2.ret R (.int _)⟩
  case h_5 i j => cases op <;> cases ho; cases rx; cases ry; exact wo op_mod ⟨i, j, rfl, rfl, h.needs.1, h.needs.2.ret R (.int _)⟩
  case h_6 i j => cases op <;> cases ho; cases rx; cases ry; exact wo op_pow ⟨i, j, rfl, rfl, h.needs.1, h.needs.2.ret R (.int _)⟩
  case h_7 i j =>
    cases op <;> cases ho
    cases rx; cases ry
    rcases h.needs.1 with q | q
    · exact wo op_shl ⟨i, j, rfl, rfl, q, h.needs.2.ret R (.int _)⟩
    · exact wo op_shlW ⟨i, j, rfl, rfl, q, h.needs.2.ret R (.int _)⟩
  case h_8 i j => cases op <;> cases ho; cases rx; cases ry; exact wo op_shr ⟨i, j, rfl, rfl, h.needs.1, h.needs.2.ret R (.int _)⟩
  case h_9 i j => cases op <;> cases ho; cases rx; cases ry; exact wo op_and ⟨i, j, rfl, rfl, h.ret R (.int _)⟩
  case h_10 i j => cases op <;> cases ho; cases rx; cases ry; exact wo op_or ⟨i, j, rfl, rfl, h.ret R (.int _)⟩
  case h_11 i j => cases op <;> cases ho; cases rx; cases ry; exact wo op_xor ⟨i, j, rfl, rfl, h.ret R (.int _)⟩
  case h_12 i j => cases op <;> cases ho; cases rx; cases ry; exact wo op_add_str ⟨i, j, rfl, rfl, sl16 h.needs.1, h.needs.2.ret R (.str _)⟩
  case h_13 i j =>
    cases op <;> cases ho
    cases rx with
    | tup h1 r1 =>
      cases ry with
      | tup h2 r2 =>
        have h3 := h.needs.2
        refine wo op_catA ⟨_, _, _, _, rfl, rfl, h1.sq, h2.sq, ?_, fun e => ?_, fun _ e => ?_, fun _ _ p hp => Ok.newT (μ := μ) h3 R (r1.append r2) hp⟩
        · rw [r1.length, r2.length]; exact sl16 h.needs.1
        · subst e; cases r1; exact h3.ret R (.tup h2 r2)
        · subst e
          cases r2
          rw [List.append_nil] at h3
          exact h3.ret R (.tup h1 r1)
  case h_14 i j =>
    cases op <;> cases ho
    cases rx; cases ry
    exact wo op_mulS ⟨i, j, rfl, rfl, h.needs.1.1.1, h.needs.1.1.2, sl16 h.needs.1.2, h.needs.2.ret R (.str _)⟩
  case h_15 =>
    cases op <;> cases ho
    cases ry
    split at h
    · rename_i l e1
      obtain ⟨a, xs, rfl, hs, rs⟩ := lst_of R rx e1
      refine wo Nw.op_repL ⟨_, _, _, rfl, rfl, hs, by have := h.needs.1.1.1; omega, by have := h.needs.1.1.2; omega, by rw [rs.length]; exact sl16 h.needs.1.2, fun p hp => Ok.newL (μ := μ) h.needs.2 R (rep_flat _ rs) hp⟩
    · exact h.elim
  case h_16 =>
    cases op <;> cases ho
    split at h
    · rename_i i j e1 e2
      obtain ⟨a, xs, rfl, hs, rs⟩ := lst_of R rx e1
      obtain ⟨b, ys, rfl, ht, rt⟩ := lst_of R ry e2
      refine wo op_catL ⟨_, _, _, _, rfl, rfl, hs, ht, ?_, fun p hp => Ok.newL (μ := μ) h.needs.2 R (rs.append rt) hp⟩
      rw [rs.length, rt.length]; exact sl16 h.needs.1
    · exact h.elim
  case h_17 => exact h.elim


/-! ### equality -/
mutual
def PD : D → PyData
  | .non => .none
  | .bl b => .bool b
  | .int i => .int i
  | .str s => .str s
  | .tup l => .tuple (PDs l)
  | .lst l => .list (PDs l)
  | .ref _ => .none
  | .kl _ => .none
  | .kt _ => .none
def PDs : List D → List PyData
  | [] => []
  | d :: ds => PD d :: PDs ds
end
mutual
theorem dp_of {n : Nat} : ∀ {x : V} {d : D}, Rep K H M x d → eqOk n d = true → Dp K H x (PD d)
  | _, _, .non, _ => .non
  | _, _, .bl b, _ => .bl b
  | _, _, .int i, _ => .int i
  | _, _, .str s, _ => .str s
  | _, _, .tup h r, q => by
    cases n with
    | zero => simp [eqOk] at q
    | succ n => exact .tup h.sq (dps_of r (by simpa only [eqOk] using q))
  | _, _, .lst h r, q => by
    cases n with
    | zero => simp [eqOk] at q
    | succ n => exact .lst h.sq (dps_of r (by simpa only [eqOk] using q))
  | _, _, .ref _, q => by cases n <;> simp [eqOk] at q
  | _, _, .kl _ _, q => by cases n <;> simp [eqOk] at q
  | _, _, .kt _ _, q => by cases n <;> simp [eqOk] at q
theorem dps_of {n : Nat} : ∀ {xs : List V} {ds : List D}, Reps K H M xs ds → eqOks n ds = true → DpAll K H xs (PDs ds)
  | _, _, .nil, _ => .nil
  | _, _, .cons h r, q => by
    simp only [eqOks, Bool.and_eq_true] at q
    exact .cons (dp_of h q.1) (dps_of r q.2)
end
mutual
theorem lay_of : ∀ {n : Nat} {d : D}, eqOk n d = true → (PD d).canLay0 = true ∧ (PD d).depth ≤ n
  | _, .non, _ => ⟨rfl, Nat.zero_le _⟩
  | _, .bl _, _ => ⟨rfl, Nat.zero_le _⟩
  | _, .int _, _ => ⟨rfl, Nat.zero_le _⟩
  | n, .str s, q => ⟨by cases n <;> simpa [eqOk, PD, PyData.canLay0, PyData.strOk] using q, Nat.zero_le _⟩
  | 0, .tup _, q => by simp [eqOk] at q
  | 0, .lst _, q => by simp [eqOk] at q
  | n + 1, .tup l, q => by
    have z := lays_of (n := n) (ds := l) (by simpa only [eqOk] using q)
    exact ⟨by simpa only [PD, PyData.canLay0] using z.1, by simpa only [PD, PyData.depth] using Nat.succ_le_succ z.2⟩
  | n + 1, .lst l, q => by
    have z := lays_of (n := n) (ds := l) (by simpa only [eqOk] using q)
    exact ⟨by simpa only [PD, PyData.canLay0] using z.1, by simpa only [PD, PyData.depth] using Nat.succ_le_succ z.2⟩
  | n, .ref _, q => by cases n <;> simp [eqOk] at q
  | n, .kl _, q => by cases n <;> simp [eqOk] at q
  | n, .kt _, q => by cases n <;> simp [eqOk] at q
theorem lays_of : ∀ {n : Nat} {ds : List D}, eqOks n ds = true → PyData.canLayAll0 (PDs ds) = true ∧ PyData.depthAll (PDs ds) ≤ n
  | _, [], _ => ⟨rfl, Nat.zero_le _⟩
  | n, d :: ds, q => by
    simp only [eqOks, Bool.and_eq_true] at q
    have a := lay_of q.1
    have b := lays_of q.2
    exact ⟨by simp only [PDs, PyData.canLayAll0, a.1, b.1, Bool.and_self], by simp only [PDs, PyData.depthAll]; exact Nat.max_le.mpr ⟨a.2, b.2⟩⟩
end
mutual
theorem eqv_of : ∀ {n m : Nat} {d e : D}, eqOk n d = true → eqOk m e = true → PyData.eqv (PD d) (PD e) = eqD d e
  | n, m, .ref _, _, q, _ => by cases n <;> simp [eqOk] at q
  | n, m, _, .ref _, _, q => by cases m <;> simp [eqOk] at q
  | n, m, .kl _, _, q, _ => by cases n <;> simp [eqOk] at q
  | n, m, _, .kl _, _, q => by cases m <;> simp [eqOk] at q
  | n, m, .kt _, _, q, _ => by cases n <;> simp [eqOk] at q
  | n, m, _, .kt _, _, q => by cases m <;> simp [eqOk] at q
  | 0, _, .tup _, _, q, _ => by simp [eqOk] at q
  | 0, _, .lst _, _, q, _ => by simp [eqOk] at q
  | _, 0, _, .tup _, _, q => by simp [eqOk] at q
  | _, 0, _, .lst _, _, q => by simp [eqOk] at q
  | n + 1, m + 1, .tup a, .tup b, q, p => by
    simp only [PD, PyData.eqv, eqD]
    exact eqvs_of (n := n) (m := m) (by simpa only [eqOk] using q) (by simpa only [eqOk] using p)
  | n + 1, m + 1, .lst a, .lst b, q, p => by
    simp only [PD, PyData.eqv, eqD]
    exact eqvs_of (n := n) (m := m) (by simpa only [eqOk] using q) (by simpa only [eqOk] using p)
  | n + 1, m + 1, .tup a, .lst b, q, p => by simp only [PD, PyData.eqv, eqD]
  | n + 1, m + 1, .lst a, .tup b, q, p => by simp only [PD, PyData.eqv, eqD]
  | n + 1, m, .tup a, .non, q, p => by simp only [PD, PyData.eqv, eqD]
  | n + 1, m, .tup a, .bl _, q, p => by simp only [PD, PyData.eqv, eqD]
  | n + 1, m, .tup a, .int _, q, p => by simp only [PD, PyData.eqv, eqD]
  | n + 1, m, .tup a, .str _, q, p => by simp only [PD, PyData.eqv, eqD]
  | n + 1, m, .lst a, .non, q, p => by simp only [PD, PyData.eqv, eqD]
  | n + 1, m, .lst a, .bl _, q, p => by simp only [PD, PyData.eqv, eqD]
  | n + 1, m, .lst a, .int _, q, p => by simp only [PD, PyData.eqv, eqD]
  | n + 1, m, .lst a, .str _, q, p => by simp only [PD, PyData.eqv, eqD]
  | n, m + 1, .non, .tup _, q, p => by simp only [PD, PyData.eqv, eqD]
  | n, m + 1, .bl _, .tup _, q, p => by simp only [PD, PyData.eqv, eqD]
  | n, m + 1, .int _, .tup _, q, p => by simp only [PD, PyData.eqv, eqD]
  | n, m + 1, .str _, .tup _, q, p => by simp only [PD, PyData.eqv, eqD]
  | n, m + 1, .non, .lst _, q, p => by simp only [PD, PyData.eqv, eqD]
  | n, m + 1, .bl _, .lst _, q, p => by simp only [PD, PyData.eqv, eqD]
  | n, m + 1, .int _, .lst _, q, p => by simp only [PD, PyData.eqv, eqD]
  | n, m + 1, .str _, .lst _, q, p => by simp only [PD, PyData.eqv, eqD]
  | n, m, .non, .non, q, p => by simp only [PD, PyData.eqv, eqD]
  | n, m, .non, .bl _, q, p => by simp only [PD, PyData.eqv, eqD]
  | n, m, .non, .int _, q, p => by simp only [PD, PyData.eqv, eqD]
  | n, m, .non, .str _, q, p => by simp only [PD, PyData.eqv, eqD]
  | n, m, .bl _, .non, q, p => by simp only [PD, PyData.eqv, eqD]
  | n, m, .bl _, .bl _, q, p => by simp only [PD, PyData.eqv, eqD]
  | n, m, .bl _, .int _, q, p => by simp only [PD, PyData.eqv, eqD]
  | n, m, .bl _, .str _, q, p => by simp only [PD, PyData.eqv, eqD]
  | n, m, .int _, .non, q, p => by simp only [PD, PyData.eqv, eqD]
  | n, m, .int _, .bl _, q, p => by simp only [PD, PyData.eqv, eqD]
  | n, m, .int _, .int _, q, p => by simp only [PD, PyData.eqv, eqD]
  | n, m, .int _, .str _, q, p => by simp only [PD, PyData.eqv, eqD]
  | n, m, .str _, .non, q, p => by simp only [PD, PyData.eqv, eqD]
  | n, m, .str _, .bl _, q, p => by simp only [PD, PyData.eqv, eqD]
  | n, m, .str _, .int _, q, p => by simp only [PD, PyData.eqv, eqD]
  | n, m, .str _, .str _, q, p => by simp only [PD, PyData.eqv, eqD]
theorem eqvs_of : ∀ {n m : Nat} {ds es : List D}, eqOks n ds = true → eqOks m es = true → PyData.eqvAll (PDs ds) (PDs es) = eqDs ds es
  | _, _, [], [], _, _ => by simp only [PDs, PyData.eqvAll, eqDs]
  | _, _, [], _ :: _, _, _ => by simp only [PDs, PyData.eqvAll, eqDs]
  | _, _, _ :: _, [], _, _ => by simp only [PDs, PyData.eqvAll, eqDs]
  | n, m, d :: ds, e :: es, q, p => by
    simp only [eqOks, Bool.and_eq_true] at q p
    simp only [PDs, PyData.eqvAll, eqDs, eqv_of q.1 p.1, eqvs_of q.2 p.2]
end
theorem shaped_of {d : D} (h : eqOk 64 d = true) : SeqAt.shaped (PD d) = true := by
  unfold SeqAt.shaped
  rw [(lay_of h).1, decide_eq_true (lay_of h).2]
  rfl
theorem Rep.deref (R : RelH K ct H μ M) (r : Rep K H M x d) (h : eqOk 64 (deref μ d) = true) : Dp K H x (PD (PyI.deref μ d)) := by
  cases r with
  | ref ha =>
    unfold PyI.deref at h ⊢
    simp only at h ⊢
    split at h
    · rename_i l' hl
      obtain ⟨xs, h1, r1⟩ := R.lst hl ha
      exact .lst (.inl (.inl h1)) (dps_of (n := 63) r1 (by simpa only [eqOk] using h))
    · simp [eqOk] at h
  | non => exact .non
  | bl b => exact .bl b
  | int i => exact .int i
  | str s => exact .str s
  | tup h1 r1 => exact dp_of (.tup h1 r1) h
  | lst h1 r1 => exact dp_of (.lst h1 r1) h
  | kl => simp [PyI.deref, eqOk] at h
  | kt => simp [PyI.deref, eqOk] at h
/-- flat values -/
theorem flat_of (r : Rep K H M x d) (h : flatD d = true) : flatV x = true := by cases r <;> first | rfl | (simp [flatD] at h)
theorem flats_of : ∀ {xs : List V} {ds : List D}, Reps K H M xs ds → ds.all flatD = true → xs.all flatV = true
  | _, _, .nil, _ => rfl
  | _, _, .cons h r, q => by
    simp only [List.all_cons, Bool.and_eq_true] at q ⊢
    exact ⟨flat_of h q.1, flats_of r q.2⟩
theorem eqV_of (rx : Rep K H M x d) (ry : Rep K H M y d') (h : flatD d = true) (h' : flatD d' = true) : eqV x y = eqD d d' := by
  cases rx <;> first | (simp [flatD] at h; done) | (cases ry <;> first | (simp [flatD] at h'; done) | simp only [eqV, eqD])
theorem inV_of (rx : Rep K H M x d) (h : flatD d = true) : ∀ {xs : List V} {ds : List D}, Reps K H M xs ds → ds.all flatD = true → inV x xs = ds.any fun y => eqD y d
  | _, _, .nil, _ => rfl
  | _, _, .cons hh r, q => by
    simp only [List.all_cons, Bool.and_eq_true] at q
    have ih := inV_of rx h r q.2
    unfold inV at ih ⊢
    rw [List.any_cons, List.any_cons, ih, eqV_of hh rx q.1 h]
/-- is of a bool -/
def rIsB' (neg : Bool) : R2 := fun x y H Q => ∃ b, y = .bl b ∧ (match x with | .byt _ => False | .flt _ => False | .ty _ => False | _ => True) ∧ Q (.bl (if neg then !decide (x = .bl b) else decide (x = .bl b))) H
theorem op_isB' : OpR X (compareOp .Is) (rIsB' false) := by
  intro pins s σ H x y v u Q I rx ry h
  obtain ⟨b, rfl, hx, q⟩ := h
  cases (show u = Value.bool b from ry)
  cases x with
  | non => cases (show v = Value.none from rx); exact wpAny_is_other rfl (by intro z; cases z) ⟨.bl false, H, I, rfl, by simpa using q⟩
  | bl a =>
    cases (show v = Value.bool a from rx)
    by_cases e : a = b
    · subst e; exact wpAny_is_self rfl ⟨.bl true, H, I, rfl, by simpa using q⟩
    · exact wpAny_is_other rfl (fun z => e (Value.bool.inj z)) ⟨.bl false, H, I, rfl, by simpa [e] using q⟩
  | int i => obtain ⟨t, rfl⟩ := rx; exact wpAny_is_other rfl (by intro z; cases z) ⟨.bl false, H, I, rfl, by simpa using q⟩
  | str i => obtain ⟨t, rfl⟩ := rx; exact wpAny_is_other rfl (by intro z; cases z) ⟨.bl false, H, I, rfl, by simpa using q⟩
  | ref a => cases (show v = Value.ref a from rx); exact wpAny_is_other rfl (by intro z; cases z) ⟨.bl false, H, I, rfl, by simpa using q⟩
  | byt _ => exact hx.elim
  | flt _ => exact hx.elim
  | ty _ => exact hx.elim
theorem op_isnB' : OpR X (compareOp .IsNot) (rIsB' true) := by
  intro pins s σ H x y v u Q I rx ry h
  obtain ⟨b, rfl, hx, q⟩ := h
  cases (show u = Value.bool b from ry)
  cases x with
  | non => cases (show v = Value.none from rx); exact wpAny_isNot_other rfl (by intro z; cases z) ⟨.bl true, H, I, rfl, by simpa using q⟩
  | bl a =>
    cases (show v = Value.bool a from rx)
    by_cases e : a = b
    · subst e; exact wpAny_isNot_self rfl ⟨.bl false, H, I, rfl, by simpa using q⟩
    · exact wpAny_isNot_other rfl (fun z => e (Value.bool.inj z)) ⟨.bl true, H, I, rfl, by simpa [e] using q⟩
  | int i => obtain ⟨t, rfl⟩ := rx; exact wpAny_isNot_other rfl (by intro z; cases z) ⟨.bl true, H, I, rfl, by simpa using q⟩
  | str i => obtain ⟨t, rfl⟩ := rx; exact wpAny_isNot_other rfl (by intro z; cases z) ⟨.bl true, H, I, rfl, by simpa using q⟩
  | ref a => cases (show v = Value.ref a from rx); exact wpAny_isNot_other rfl (by intro z; cases z) ⟨.bl true, H, I, rfl, by simpa using q⟩
  | byt _ => exact hx.elim
  | flt _ => exact hx.elim
  | ty _ => exact hx.elim
def copOf : CmpOp → Cop
  | .Eq => .eq | .NotEq => .ne | .Lt => .lt | .LtE => .le | .Gt => .gt | .GtE => .ge | .Is => .is_ | .IsNot => .isnot | .In => .in_ | .NotIn => .notin
/-- comparisons: Q is asked at a bool -/
theorem cmp_ok {op : CmpOp} {B : Bool → Hp → Prop} (hu : X.A.units + 64 < cLine) (R : RelH X.K ct H μ M) (rx : Rep X.K H M x d) (ry : Rep X.K H M y d') (h : Ok X.K ct RB M H (cmpD (copOf op) d d' μ) B W) (hq : ∀ b H', B b H' → Q (.bl b) H') : wO X (compareOp op) x y H Q := by
  cases op
  case Eq =>
    obtain ⟨⟨h1, h2⟩, h⟩ := (show Ok X.K ct RB M H (needs (eqOk 64 (deref μ d) = true ∧ eqOk 64 (deref μ d') = true) (.ok (eqD (deref μ d) (deref μ d')) μ)) B W from h).needs
    refine wo (op_eqD hu) ⟨_, _, rx.deref R h1, ry.deref R h2, shaped_of h1, shaped_of h2, hq _ _ ?_⟩
    rw [eqv_of h1 h2]
    exact h.ret R rfl
  case NotEq =>
    obtain ⟨⟨h1, h2⟩, h⟩ := (show Ok X.K ct RB M H (needs (eqOk 64 (deref μ d) = true ∧ eqOk 64 (deref μ d') = true) (.ok (!eqD (deref μ d) (deref μ d')) μ)) B W from h).needs
    refine wo (op_neD hu) ⟨_, _, rx.deref R h1, ry.deref R h2, shaped_of h1, shaped_of h2, hq _ _ ?_⟩
    rw [eqv_of h1 h2]
    exact h.ret R rfl
  case Lt =>
    unfold cmpD copOf at h
    simp only at h
    split at h
    · cases rx; cases ry; exact wo op_lt ⟨_, _, rfl, rfl, hq _ _ (h.ret R rfl)⟩
    · cases rx; cases ry; exact wo op_lt_str ⟨_, _, rfl, rfl, hq _ _ (h.ret R rfl)⟩
    · exact h.elim
  case LtE =>
    unfold cmpD copOf at h
    simp only at h
    split at h
    · cases rx; cases ry; exact wo op_le ⟨_, _, rfl, rfl, hq _ _ (h.ret R rfl)⟩
    · cases rx; cases ry; exact wo op_le_str ⟨_, _, rfl, rfl, hq _ _ (h.ret R rfl)⟩
    · exact h.elim
  case Gt =>
    unfold cmpD copOf at h
    simp only at h
    split at h
    · cases rx; cases ry; exact wo op_gt ⟨_, _, rfl, rfl, hq _ _ (h.ret R rfl)⟩
    · cases rx; cases ry; exact wo op_gt_str ⟨_, _, rfl, rfl, hq _ _ (h.ret R rfl)⟩
    · exact h.elim
  case GtE =>
    unfold cmpD copOf at h
    simp only at h
    split at h
    · cases rx; cases ry; exact wo op_ge ⟨_, _, rfl, rfl, hq _ _ (h.ret R rfl)⟩
    · cases rx; cases ry; exact wo op_ge_str ⟨_, _, rfl, rfl, hq _ _ (h.ret R rfl)⟩
    · exact h.elim
  case Is =>
    unfold cmpD copOf at h
    simp only at h
    split at h
    · cases rx; cases ry; exact wo op_isN ⟨rfl, hq _ _ (by simpa using h.ret R rfl)⟩
    · rename_i hn
      cases ry
      refine wo op_isN ⟨rfl, hq _ _ ?_⟩
      have e : decide (x = V.non) = false := decide_eq_false (by rintro rfl; cases rx; exact hn rfl)
      rw [e]; exact h.ret R rfl
    · rename_i a b
      cases rx; cases ry
      refine wo op_isB' ⟨b, rfl, trivial, hq _ _ ?_⟩
      have z := h.ret R rfl
      by_cases e : a = b
      · simpa [e] using z
      · have e2 : (a == b) = false := beq_eq_false_iff_ne.mpr e
        rw [e2] at z
        simpa [e] using z
    · rename_i b hn
      cases ry
      refine wo op_isB' ⟨b, rfl, by cases rx <;> trivial, hq _ _ ?_⟩
      have e : decide (x = V.bl b) = false := decide_eq_false (by rintro rfl; cases rx; exact hn _ rfl)
      simp only [Bool.false_eq_true, if_false, e]
      exact h.ret R rfl
    · exact h.elim
  case IsNot =>
    unfold cmpD copOf at h
    simp only at h
    split at h
    · cases rx; cases ry; exact wo op_notN ⟨rfl, hq _ _ (by simpa using h.ret R rfl)⟩
    · rename_i hn
      cases ry
      refine wo op_notN ⟨rfl, hq _ _ ?_⟩
      have e : decide (x = V.non) = false := decide_eq_false (by rintro rfl; cases rx; exact hn rfl)
      rw [e]; exact h.ret R rfl
    · rename_i a b
      cases rx; cases ry
      refine wo op_isnB' ⟨b, rfl, trivial, hq _ _ ?_⟩
      have z := h.ret R rfl
      by_cases e : a = b
      · simpa [e] using z
      · have e2 : (a == b) = false := beq_eq_false_iff_ne.mpr e
        rw [e2] at z
        simpa [e] using z
    · rename_i b hn
      cases ry
      refine wo op_isnB' ⟨b, rfl, by cases rx <;> trivial, hq _ _ ?_⟩
      have e : decide (x = V.bl b) = false := decide_eq_false (by rintro rfl; cases rx; exact hn _ rfl)
      simp only [if_true, e, Bool.not_false]
      exact h.ret R rfl
    · exact h.elim
  case In =>
    unfold cmpD copOf at h
    simp only at h
    split at h
    · cases rx; cases ry; exact wo op_in_str ⟨_, _, rfl, rfl, hq _ _ (h.ret R rfl)⟩
    · split at h
      · rename_i r hr
        obtain ⟨a, ov, rfl, g, ro⟩ := getDic_ok R ry rx hr
        refine wo (Nw.op_din (by omega)) ⟨a, ov, rfl, g, hq _ _ ?_⟩
        have e : ov.isSome = r.isSome := by
          cases r with
          | none => rw [show ov = none from ro]; rfl
          | some d => obtain ⟨v, rfl, _⟩ := ro; rfl
        rw [e]
        exact h.ret R rfl
      split at h
      · rename_i l hl
        obtain ⟨⟨h1, h2⟩, h⟩ := h.needs
        obtain ⟨a, xs, rfl, hs, rs⟩ := seq_of R ry hl
        refine wo op_in_seq ⟨a, xs, rfl, hs, flat_of rx h1, flats_of rs h2, hq _ _ ?_⟩
        simp only [Bool.false_eq_true, if_false, inV_of rx h1 rs h2]
        exact h.ret R rfl
      · exact h.elim
  case NotIn =>
    unfold cmpD copOf at h
    simp only at h
    split at h
    · cases rx; cases ry; exact wo op_notIn_str ⟨_, _, rfl, rfl, hq _ _ (h.ret R rfl)⟩
    · split at h
      · rename_i r hr
        obtain ⟨a, ov, rfl, g, ro⟩ := getDic_ok R ry rx hr
        refine wo (Nw.op_dnotin (by omega)) ⟨a, ov, rfl, g, hq _ _ ?_⟩
        have e : ov.isSome = r.isSome := by
          cases r with
          | none => rw [show ov = none from ro]; rfl
          | some d => obtain ⟨v, rfl, _⟩ := ro; rfl
        rw [e]
        exact h.ret R rfl
      split at h
      · rename_i l hl
        obtain ⟨⟨h1, h2⟩, h⟩ := h.needs
        obtain ⟨a, xs, rfl, hs, rs⟩ := seq_of R ry hl
        refine wo op_notIn_seq ⟨a, xs, rfl, hs, flat_of rx h1, flats_of rs h2, hq _ _ ?_⟩
        simp only [if_true, inV_of rx h1 rs h2]
        exact h.ret R rfl
      · exact h.elim
/-- truth -/
theorem tru_ok {B : Bool → Hp → Prop} {ν : Mu} (R : RelH K ct H μ M) (rx : Rep K H M x d) (h : Ok K ct RB M H (truD μ d μ) B W) : ∃ k, TruV K x H k ∧ truD μ d μ = .ok k μ ∧ B k H := by
  cases rx with
  | non => exact ⟨false, rfl, rfl, h.ret R rfl⟩
  | bl b => exact ⟨b, rfl, rfl, h.ret R rfl⟩
  | int i => exact ⟨i != 0, rfl, rfl, h.ret R rfl⟩
  | str s =>
    have h' := (show Ok K ct RB M H (needs (s.length ≤ 16777216) (.ok (s.length != 0) μ)) B W from h).needs
    refine ⟨s.length != 0, ⟨sl16 h'.1, ?_⟩, needs_pos h'.1, h'.2.ret R rfl⟩
    cases e : s.length with
    | zero => rfl
    | succ n =>
      have e1 : (n + 1 != 0) = true := by simp
      have e2 : (((n + 1 : Nat) : Int) != 0) = true := by simp; omega
      rw [e1, e2]
  | tup h1 r1 =>
    rename_i a xs ds
    refine ⟨!ds.isEmpty, .inr (.inl ⟨_, h1.sq, ?_⟩), rfl, h.ret R rfl⟩
    cases r1 <;> rfl
  | lst h1 r1 =>
    rename_i a xs ds
    refine ⟨!ds.isEmpty, .inl ⟨_, h1.sq, ?_⟩, rfl, h.ret R rfl⟩
    cases r1 <;> rfl
  | kl => exact (h : False).elim
  | kt h1 r1 =>
    rename_i a xs ds
    refine ⟨!ds.isEmpty, .inr (.inl ⟨_, h1.sq, ?_⟩), rfl, h.ret R rfl⟩
    cases r1 <;> rfl
  | ref ha =>
    unfold truD at h ⊢
    simp only at h ⊢
    split at h
    · rename_i l' hl
      obtain ⟨xs, h1, r1⟩ := R.lst hl ha
      refine ⟨!l'.isEmpty, .inl ⟨_, .inl (.inl h1), ?_⟩, rfl, h.ret R rfl⟩
      cases r1 <;> rfl
    · exact h.elim
end
end PyI
/-! A4: text.translate({37: None}); built-in calls, methods, subscripts. -/
namespace PyI.Tr
open PySem Builtin Builtin.Str L2
section
variable {prog : Program} {w : World} {A : Around} {E : Value → Shared → Prop} {s : Shared} {d : Addr} {c : Nat}
abbrev M37 (prog : Program) (w : World) (h : Heap) (d : Addr) : Prop := h.DictOf (mixKind prog w) d [(Sum.inl 37, Value.none)]
theorem m37_keeps {h h' : Heap} (m : M37 prog w h d) (k : ∀ b o, h.get? b = some o → h'.get? b = some o) : M37 prog w h' d := by
  obtain ⟨o, es, ep, ho, r⟩ := m
  exact ⟨o, es, ep, k _ _ ho, r⟩
theorem tl37 {Q : Mapped → Shared → Prop} (hh : A.handled = none) (hd : (d == sysModules) = false) (hm : M37 prog w s.heap d)
    (h1 : c = 37 → ∀ k, Q .drop { s with toks := k })
    (h2 : c ≠ 37 → ∀ h' k, (∀ b o, s.heap.get? b = some o → h'.get? b = some o) → Q .keep { s with heap := h', toks := k }) : wpAny (model prog w) A (tableLookup (.ref d) c) Q E s := by
  unfold tableLookup
  refine wpAny_bind (wpAny_attempt (wpAny_bind (wpAny_mkInt ?_)))
  by_cases hc : c = 37
  · refine wpAny_getItem_of (knd := mixKind prog w) (k := (Sum.inl (c : Int))) (v := Value.none) (mixKind_int ..) hm.mapOf (by subst hc; rfl) ?_
    exact wpAny_pure (h1 hc _)
  · refine wpAny_getItem_missing_of (knd := mixKind prog w) (k := (Sum.inl (c : Int))) (mixKind_int ..) hd hh hm.mapOf ?_ fun h' e hx => ?_
    · unfold valueAt
      rw [List.find?_cons, List.find?_nil]
      have : decide (((Sum.inl 37 : Key), Value.none).1 = Sum.inl (c : Int)) = false := decide_eq_false (fun z => hc (by have := Sum.inl.inj z; omega))
      rw [this]; rfl
    show wpAny _ _ (do let b ← isInstance (.ref e) (.type "LookupError"); _) _ _ _
    obtain ⟨ob, t, ho, hc', _⟩ := hx.there
    refine wpAny_bind (wpAny_isInstance (T := "KeyError") (b := true) ⟨ob, ho, hc'⟩ key_is_lookup ?_)
    show wpAny _ _ (if true = true then (do rule "str.translate.not-in-table"; pure Mapped.keep) else _) _ _ _
    rw [if_pos rfl]
    exact wpAny_bind (wpAny_rule (wpAny_pure (h2 hc h' _ hx.keeps)))
end
abbrev one37 (c : Nat) : Option Nat := if c = 37 then none else some c
theorem pieces37 : ∀ (l : List Nat) (acc : Array Nat), List.foldl (fun acc (p : Str) => acc ++ p.cps) acc (l.map fun c => (⟨#[c]⟩ : Str)) = acc ++ l.toArray
  | [], acc => by
    show acc = acc ++ #[]
    rw [Array.append_empty]
  | c :: l, acc => by
    rw [List.map_cons, List.foldl_cons, pieces37 l]
    apply Array.toList_inj.mp
    simp
/-- what stands while the signs are walked -/
def At37 (x : List Nat) (s : Shared) (rest : List Nat) (st : List Str × Nat × Bool × List (Nat × Option Nat) × Bool) (s' : Shared) : Prop :=
  ∃ (past : List Nat) (pieces : List Str) (known : List (Nat × Option Nat)) (n : Nat) (h' : Heap) (k : Nat), x = past ++ rest ∧ n ≤ past.length ∧ st = (pieces, n, true, known, false) ∧ pieces.reverse = (past.filter (· != 37)).map (fun c => (⟨#[c]⟩ : Str)) ∧
    (∀ c a, List.lookup c known = some a → a = one37 c) ∧ s' = { s with heap := h', toks := k } ∧ ∀ b o, s.heap.get? b = some o → h'.get? b = some o
theorem At37.keep {x : List Nat} {s : Shared} {rest past : List Nat} {n : Nat} {c : Nat} {pieces : List Str} {known : List (Nat × Option Nat)} {h' : Heap} {k : Nat} (hc : c ≠ 37) (h1 : x = past ++ c :: rest) (hn : n ≤ past.length)
    (h3 : pieces.reverse = (past.filter (· != 37)).map (fun c => (⟨#[c]⟩ : Str))) (h4 : ∀ c a, List.lookup c known = some a → a = one37 c) (h6 : ∀ b o, s.heap.get? b = some o → h'.get? b = some o) :
    At37 x s rest (⟨#[c]⟩ :: pieces, n + 1, true, known, false) { s with heap := h', toks := k } := by
  refine ⟨past ++ [c], ⟨#[c]⟩ :: pieces, known, n + 1, h', k, ?_, ?_, rfl, ?_, h4, rfl, h6⟩
  · rw [h1, List.append_assoc] <;> rfl
  · rw [List.length_append]; exact Nat.succ_le_succ hn
  · rw [List.reverse_cons, h3, List.filter_append, List.map_append]
    have : List.filter (fun x => x != 37) [c] = [c] := by simp [hc]
    rw [this]; rfl
theorem At37.drop {x : List Nat} {s : Shared} {rest past : List Nat} {n : Nat} {c : Nat} {pieces : List Str} {known : List (Nat × Option Nat)} {h' : Heap} {k : Nat} (hc : c = 37) (h1 : x = past ++ c :: rest) (hn : n ≤ past.length)
    (h3 : pieces.reverse = (past.filter (· != 37)).map (fun c => (⟨#[c]⟩ : Str))) (h4 : ∀ c a, List.lookup c known = some a → a = one37 c) (h6 : ∀ b o, s.heap.get? b = some o → h'.get? b = some o) :
    At37 x s rest (pieces, n, true, known, false) { s with heap := h', toks := k } := by
  refine ⟨past ++ [c], pieces, known, n, h', k, ?_, ?_, rfl, ?_, h4, rfl, h6⟩
  · rw [h1, List.append_assoc] <;> rfl
  · rw [List.length_append]; exact Nat.le_succ_of_le hn
  · rw [h3, List.filter_append]
    have : List.filter (fun x => x != 37) [c] = [] := by simp [hc]
    rw [this, List.append_nil]
theorem meets37 {prog : Program} {w : World} (x : List Nat) (t : Tok) (d : Addr) (hd : (d == sysModules) = false) (hz : x.length ≤ 1000000) (hf : x.toArray.all (fun y => decide (y < 128)) = true) : MeetsIn prog w («str.translate» ⟨[.str ⟨x.toArray⟩ t, .ref d], []⟩) (fun A R s =>
    A.handled = none ∧ M37 prog w s.heap d ∧ ∀ (v : Value) (h' : Heap) (k : Nat), (∀ b o, s.heap.get? b = some o → h'.get? b = some o) → (∃ t', v = .str ⟨(x.filter (· != 37)).toArray⟩ t') → R (.ok (.ret v)) { s with heap := h', toks := k }) := by
  refine .of_wp fun A R s h => ?_
  obtain ⟨hh, hm, h⟩ := h
  have hh1 : A.in1.handled = none := hh
  have hlen : (⟨x.toArray⟩ : Str).length = x.length := by show x.toArray.size = _; simp
  show wpAny _ _ (if ((⟨x.toArray⟩ : Str).length == 0) = true then (do rule "str.translate.empty"; ret (.str ⟨x.toArray⟩ t)) else (do
    let st ← forIn x.toArray (([], 0, x.toArray.all fun y => decide (y < 128), [], false) : List Str × Nat × Bool × List (Nat × Option Nat) × Bool) _
    _)) _ _ s
  by_cases h0 : ((⟨x.toArray⟩ : Str).length == 0) = true
  · rw [if_pos h0]
    have hx : x = [] := by
      rw [beq_iff_eq, hlen] at h0
      exact List.eq_nil_of_length_eq_zero h0
    subst hx
    exact wpAny_bind (wpAny_rule (wpAny_pure ⟨_, rfl, h _ s.heap s.toks (fun _ _ e => e) ⟨t, rfl⟩⟩))
  · rw [if_neg h0, hf]
    refine wpAny_bind (MeetsSeq2.wpAny_forIn_array _ (At37 x s) _ (fun c rest st s' hI => ?turn) (fun st s' hI => ?fin) x.toArray ([], 0, true, [], false) ?h0)
    case h0 =>
      refine ⟨[], [], [], 0, s.heap, s.toks, ?_, Nat.le_refl _, rfl, rfl, fun c a z => ?_, rfl, fun _ _ e => e⟩
      · rw [List.nil_append]
      · rw [List.lookup_nil] at z
        cases z
    case turn =>
      obtain ⟨past, pieces, known, n, h', k, e1, en, e2, e3, e4, e5, e6⟩ := hI
      subst e2
      subst e5
      have hpl : n ≤ 1000000 := by
        have q := congrArg List.length e1
        rw [List.length_append] at q
        omega
      have hm' : M37 prog w ({ s with heap := h', toks := k } : Shared).heap d := m37_keeps hm e6
      show wpAny _ _ (if tooLong n = true then _ else (if true = true then _ else _)) _ _ _
      rw [show tooLong n = false from PyProof.Rows.short24 (by omega), if_neg Bool.false_ne_true]
      rw [if_pos rfl]
      cases hl : List.lookup c known with
      | some a =>
        have ha := e4 c a hl
        by_cases hc : c = 37
        · have ha' : a = none := by rw [ha]; exact if_pos hc
          subst ha'
          refine wpAny_bind (wpAny_pure ?_)
          exact wpAny_pure (At37.drop hc e1 en e3 e4 e6)
        · have ha' : a = some c := by rw [ha]; exact if_neg hc
          subst ha'
          refine wpAny_bind (wpAny_pure ?_)
          exact wpAny_pure (At37.keep hc e1 en e3 e4 e6)
      | none =>
        have new : ∀ b, b = one37 c → ∀ c' a, List.lookup c' ((c, b) :: known) = some a → a = one37 c' := fun b hb c' a z => by
          rcases PySem.lookup_new z with ⟨q1, q2⟩ | q
          · rw [q2, hb, q1]
          · exact e4 c' a q
        refine wpAny_bind (tl37 hh1 hd hm' (fun hc k2 => ?_) (fun hc h2 k2 k3 => ?_))
        · refine wpAny_bind (wpAny_pure ?_)
          refine wpAny_pure ?_
          exact At37.drop (k := k2) (known := (c, none) :: known) hc e1 en e3 (new none (by rw [one37, if_pos hc])) e6
        · refine wpAny_bind (wpAny_pure ?_)
          refine wpAny_pure ?_
          exact At37.keep (k := k2) (known := (c, some c) :: known) hc e1 en e3 (new (some c) (by rw [one37, if_neg hc])) (fun b o z => k3 b o (e6 b o z))
    case fin =>
      obtain ⟨past, pieces, known, n, h', k, e1, en, e2, e3, e4, e5, e6⟩ := hI
      subst e2
      subst e5
      have ex : x = past := by rw [e1, List.append_nil]
      show wpAny _ _ (if tooLong n = true then _ else retStr { cps := List.foldl (fun acc (p : Str) => acc ++ p.cps) #[] pieces.reverse }) _ _ _
      rw [show tooLong n = false from PyProof.Rows.short24 (by rw [← ex] at en; omega), if_neg Bool.false_ne_true, e3, pieces37, ← ex]
      have ev : (⟨#[] ++ (x.filter (· != 37)).toArray⟩ : Str) = ⟨(x.filter (· != 37)).toArray⟩ := by
        rw [Array.empty_append]
      rw [ev]
      refine wpAny_bind (wpAny_mkStr (wpAny_pure ⟨_, rfl, h _ h' _ e6 ⟨_, rfl⟩⟩) ?_)
      show (x.filter (· != 37)).toArray.size ≤ sizeLine
      have hfl : (x.filter (· != 37)).length ≤ x.length := List.length_filter_le ..
      rw [sizeLine_eq]; simp; omega
end PyI.Tr
namespace PyI
open PySem L2
def rTr37 : V → List V → Hp → VK → Prop := fun x xs H Q => ∃ (z : Str) (d : Addr), x = .str z ∧ xs = [.ref d] ∧ H d = some (.dK [(.inl 37, .non)]) ∧ z.length ≤ 1000000 ∧ z.cps.all (· < 128) = true ∧ Q (.str (tr37S z)) H
theorem mt_tr37 {X : Cx} (hc : X.calm = true) : MtR X "str.translate" rTr37 := by
  intro pins s σ H x xs v us Q I rx rs h
  obtain ⟨a, d, rfl, rfl, hd, h3, hf, h⟩ := h
  obtain ⟨t, rfl⟩ := rx
  cases rs with
  | cons r1 rs =>
    cases rs
    cases r1
    obtain ⟨_, low, vs, kv, dd⟩ := dk_of I.hok hd
    have dd' : Tr.M37 X.prog X.w s.heap d := by
      cases kv with
      | cons p kv =>
        cases kv
        rename_i q
        obtain ⟨q1, q2⟩ := q
        obtain ⟨p1, p2⟩ := p
        cases p1
        cases (show q2 = Value.none from p2)
        exact dd
    obtain ⟨⟨l⟩⟩ := a
    refine call_meetsIn F.slot_str_translate (typeIs_str _ _ _) F.entry_str_translate (F.args_str_translate_2 _ _) (Tr.meets37 l t d low (by have h3' : (l.toArray).size ≤ 1000000 := h3; simpa using h3') hf) ⟨I.ok.hd hc, dd', ?_⟩
    intro v h' k hk ⟨t', e⟩
    subst e
    refine ⟨.str _, H, I.kept (t' := k) hk, ⟨t', rfl⟩, ?_⟩
    have e : tr37S ⟨l.toArray⟩ = ⟨(l.filter (· != 37)).toArray⟩ := by unfold tr37S; rfl
    rw [e] at h
    exact h
end PyI
/-! A5: built-in calls, methods, subscripts by values. -/
namespace PyI
open PySem L2
section
variable {X : Cx} {ct : CTab} {K : PySem.W.Frag} {H : Hp} {M : AM} {μ : Mu} {x y z v : V} {d d' : D} {xs : List V} {ds : List D} {Q : VK} {W : XK}

def tyN : Ty → String
  | .str => "str" | .int => "int" | .bool => "bool" | .tuple => "tuple" | .list => "list"
theorem tyx_t {a : Addr} {xs : List V} (h : SqT K H a xs) : TyX K H (.ref a) (.type "tuple") := by
  rcases h with (h | ⟨o, h⟩) | ⟨o, its, n, h1, h2, _⟩
  · exact .base (.tup h)
  · exact .fTuple h
  · exact .kTuple h1 h2
theorem tyx_l {a : Addr} {xs : List V} (h : SqL K H a xs) : TyX K H (.ref a) (.type "list") := by
  rcases h with (h | ⟨o, h⟩) | ⟨o, its, n, h1, h2, _⟩
  · exact .base (.lst h)
  · exact .base (.frz h)
  · exact .kList h1 h2
theorem isi_ok {t : Ty} (R : RelH X.K ct H μ M) (rx : Rep X.K H M x d) (h : Ok X.K ct (RD X.K) M H (isiD d t μ) Q W) : wC X (.builtin "isinstance") [x, .ty (tyN t)] H Q := by
  have go : ∀ {tn : String} {b : Bool}, TyX X.K H x (.type tn) → kitB tn (tyN t) = some b → Q (.bl b) H → wC X (.builtin "isinstance") [x, .ty (tyN t)] H Q :=
    fun ty k q => wc call_isi ⟨x, _, _, _, _, rfl, .ty _, ty, kit_ty k, q⟩
  cases rx with
  | non => exact go (.base .non) (by cases t <;> decide) (h.ret R (.bl _))
  | bl b => exact go (.base (.bl b)) (by cases t <;> decide) (h.ret R (.bl _))
  | int i => exact go (.base (.int i)) (by cases t <;> decide) (h.ret R (.bl _))
  | str s => exact go (.base (.str s)) (by cases t <;> decide) (h.ret R (.bl _))
  | tup h1 r1 => exact go (tyx_t h1.sq) (by cases t <;> decide) (h.ret R (.bl _))
  | lst h1 r1 => exact go (tyx_l h1.sq) (by cases t <;> decide) (h.ret R (.bl _))
  | kl => exact (h : False).elim
  | kt h1 r1 => exact go (tyx_t h1.sq) (by cases t <;> decide) (h.ret R (.bl _))
  | ref ha =>
    unfold isiD at h
    simp only at h
    split at h
    · rename_i l hl
      obtain ⟨xs, h1, r1⟩ := R.lst hl ha
      exact go (.base (.lst h1)) (by cases t <;> decide) (h.ret R (.bl _))
    · exact h.elim

theorem reps1 (r : Reps K H M xs [d]) : ∃ x, xs = [x] ∧ Rep K H M x d := Reps.one_inv r
theorem reps2 (r : Reps K H M xs [d, d']) : ∃ x y, xs = [x, y] ∧ Rep K H M x d ∧ Rep K H M y d' := by
  cases r with
  | cons h r => obtain ⟨y, rfl, h'⟩ := reps1 r; exact ⟨_, _, rfl, h, h'⟩
theorem reps0 (r : Reps K H M xs []) : xs = [] := by cases r; rfl
theorem seqL_of (R : RelH K ct H μ M) (r : Rep K H M x d) {l : List D} (h : seqD μ d = some l) (hn : ∀ t, d = .tup t → False) (hn2 : ∀ t, d = .kt t → False) : ∃ a xs, x = .ref a ∧ SqL K H a xs ∧ Reps K H M xs l := by
  cases r with
  | tup h1 r1 => exact (hn _ rfl).elim
  | lst h1 r1 => cases h; exact ⟨_, _, rfl, h1.sq, r1⟩
  | kl h1 r1 => cases h; exact ⟨_, _, rfl, h1.sq, r1⟩
  | kt h1 r1 => exact (hn2 _ rfl).elim
  | ref ha =>
    unfold seqD at h
    simp only at h
    split at h
    · rename_i l' hl
      cases h
      obtain ⟨xs, h1, r1⟩ := R.lst hl ha
      exact ⟨_, _, rfl, .inl (.inl h1), r1⟩
    · cases h
  | non => cases h
  | bl => cases h
  | int => cases h
  | str => cases h
def bifV : Bif → Value
  | .len => .builtin "len" | .int => .type "int" | .str => .type "str" | .tuple => .type "tuple" | .list => .type "list"
  | .sorted => .builtin "sorted" | .min => .builtin "min" | .max => .builtin "max" | .sum => .builtin "sum" | .any => .builtin "any" | .all => .builtin "all"
  | .abs => .builtin "abs" | .ord => .builtin "ord" | .bool => .type "bool"
theorem ints_of : ∀ {xs : List V} {ds : List D} {ys : List Int}, Reps K H M xs ds → intsOf ds = some ys → xs = ys.map V.int
  | _, _, _, .nil, e => by cases e; rfl
  | _, _, ys, .cons h r, e => by
    cases h <;> unfold intsOf at e <;> simp only [Option.map_eq_some_iff, reduceCtorEq] at e
    obtain ⟨zs, hz, rfl⟩ := e
    rw [ints_of r hz]; rfl
theorem bools_of : ∀ {xs : List V} {ds : List D} {ys : List Bool}, Reps K H M xs ds → boolsOf ds = some ys → xs = ys.map V.bl
  | _, _, _, .nil, e => by cases e; rfl
  | _, _, ys, .cons h r, e => by
    cases h <;> unfold boolsOf at e <;> simp only [Option.map_eq_some_iff, reduceCtorEq] at e
    obtain ⟨zs, hz, rfl⟩ := e
    rw [bools_of r hz]; rfl
theorem reps_ints : ∀ (ys : List Int), Reps K H M (ys.map V.int) (ys.map D.int)
  | [] => .nil
  | y :: ys => .cons (.int y) (reps_ints ys)
theorem maxL_mem : ∀ {l : List Int}, l ≠ [] → maxL l ∈ l
  | [], h => absurd rfl h
  | [a], _ => by simp [maxL]
  | a :: b :: r, _ => by
    have := maxL_mem (l := b :: r) (by simp)
    rw [maxL]
    split
    · exact List.mem_cons_of_mem _ this
    · exact List.mem_cons_self ..
theorem maxL_ge : ∀ {l : List Int}, ∀ y ∈ l, y ≤ maxL l
  | [a], y, h => by rw [List.mem_singleton.mp h]; simp [maxL]
  | a :: b :: r, y, h => by
    have ih := fun y h => maxL_ge (l := b :: r) y h
    rw [maxL]
    rcases List.mem_cons.mp h with rfl | h
    · split <;> omega
    · have := ih y h
      split <;> omega
theorem minL_mem : ∀ {l : List Int}, l ≠ [] → minL l ∈ l
  | [], h => absurd rfl h
  | [a], _ => by simp [minL]
  | a :: b :: r, _ => by
    have := minL_mem (l := b :: r) (by simp)
    rw [minL]
    split
    · exact List.mem_cons_of_mem _ this
    · exact List.mem_cons_self ..
theorem minL_le : ∀ {l : List Int}, ∀ y ∈ l, minL l ≤ y
  | [a], y, h => by rw [List.mem_singleton.mp h]; simp [minL]
  | a :: b :: r, y, h => by
    have ih := fun y h => minL_le (l := b :: r) y h
    rw [minL]
    rcases List.mem_cons.mp h with rfl | h
    · split <;> omega
    · have := ih y h
      split <;> omega
theorem insI_perm (a : Int) : ∀ l : List Int, (insI a l).Perm (a :: l)
  | [] => .refl _
  | b :: r => by
    rw [insI]
    split
    · exact .refl _
    · exact ((insI_perm a r).cons b).trans (.swap a b r)
theorem sortI_perm : ∀ l : List Int, (sortI l).Perm l
  | [] => .refl _
  | a :: r => (insI_perm a _).trans ((sortI_perm r).cons a)
theorem insI_up (a : Int) : ∀ {l : List Int}, l.Pairwise (· ≤ ·) → (insI a l).Pairwise (· ≤ ·)
  | [], _ => by simp [insI]
  | b :: r, h => by
    rw [insI]
    rw [List.pairwise_cons] at h
    split
    · rename_i e
      rw [List.pairwise_cons]
      refine ⟨fun y hy => ?_, List.pairwise_cons.mpr h⟩
      rcases List.mem_cons.mp hy with rfl | hy
      · exact e
      · exact Int.le_trans e (h.1 y hy)
    · rename_i e
      rw [List.pairwise_cons]
      refine ⟨fun y hy => ?_, insI_up a h.2⟩
      rcases List.mem_cons.mp ((insI_perm a r).mem_iff.mp hy) with rfl | hy
      · omega
      · exact h.1 y hy
theorem sortI_up : ∀ l : List Int, (sortI l).Pairwise (· ≤ ·)
  | [] => .nil
  | a :: r => insI_up a (sortI_up r)
theorem bif_ok {b : Bif} (hc : X.calm = true) (R : RelH X.K ct H μ M) (r : Reps X.K H M xs ds) (h : Ok X.K ct (RD X.K) M H (bifD b ds μ) Q W) : wC X (bifV b) xs H Q := by
  unfold bifD at h
  split at h
  case h_1 s => obtain ⟨x, rfl, rx⟩ := reps1 r; cases rx; exact wc call_len_str ⟨s, rfl, sl16 h.needs.1, h.needs.2.ret R (.int _)⟩
  case h_2 =>
    obtain ⟨x, rfl, rx⟩ := reps1 r
    split at h
    · rename_i l hl
      obtain ⟨a, xs, rfl, hs, rs⟩ := seq_of R rx hl
      refine wc call_len_seq ⟨a, xs, rfl, hs, ?_⟩
      rw [rs.length]; exact h.ret R (.int _)
    · exact h.elim
  case h_3 => obtain ⟨x, rfl, rx⟩ := reps1 r; cases rx; exact wc call_int1 (.inl ⟨_, rfl, h.ret R (.int _)⟩)
  case h_4 => obtain ⟨x, rfl, rx⟩ := reps1 r; cases rx; exact wc call_int1 (.inr ⟨_, rfl, h.ret R (.int _)⟩)
  case h_5 =>
    obtain ⟨x, rfl, rx⟩ := reps1 r; cases rx
    split at h
    · rename_i n hn
      exact wc call_int_str ⟨_, n, rfl, hn, h.needs.1, h.needs.2.ret R (.int _)⟩
    · exact h.elim
  case h_6 => obtain ⟨x, rfl, rx⟩ := reps1 r; cases rx; exact wc call_str_int ⟨_, rfl, h.needs.1, h.needs.2.ret R (.str _)⟩
  case h_7 => obtain ⟨x, rfl, rx⟩ := reps1 r; cases rx; exact wc call_abs ⟨_, rfl, h.ret R (.int _)⟩
  case h_8 => obtain ⟨x, y, rfl, rx, ry⟩ := reps2 r; cases rx; cases ry; exact wc (call_max2 hc) ⟨_, _, rfl, h.ret R (.int _)⟩
  case h_9 => obtain ⟨x, y, rfl, rx, ry⟩ := reps2 r; cases rx; cases ry; exact wc (call_min2 hc) ⟨_, _, rfl, h.ret R (.int _)⟩
  case h_10 =>
    cases r with
    | cons r1 r =>
      obtain ⟨y, z, rfl, r2, r3⟩ := reps2 r
      cases r1; cases r2; cases r3
      exact wc (Nw.call_min3 hc) ⟨_, _, _, rfl, h.ret R (.int _)⟩
  case h_11 =>
    obtain ⟨x, rfl, rx⟩ := reps1 r
    cases rx with
    | tup h1 r1 => exact wc call_tuple_of ⟨_, _, rfl, .inr ⟨h1.sq, h.ret R (.tup h1 r1)⟩⟩
  case h_12 =>
    obtain ⟨x, rfl, rx⟩ := reps1 r
    cases rx with
    | kt h1 r1 => exact wc call_tuple_of ⟨_, _, rfl, .inr ⟨h1.sq, h.ret R (.kt h1 r1)⟩⟩
  case h_13 hn hn2 =>
    obtain ⟨x, rfl, rx⟩ := reps1 r
    split at h
    · rename_i l hl
      obtain ⟨a, xs, rfl, hs, rs⟩ := seqL_of R rx hl hn hn2
      exact wc call_tuple_of ⟨a, xs, rfl, .inl ⟨hs, fun p hp => h.newT R rs hp⟩⟩
    · exact h.elim
  case h_14 =>
    obtain ⟨x, rfl, rx⟩ := reps1 r
    split at h
    · rename_i l hl
      obtain ⟨a, xs, rfl, hs, rs⟩ := seq_of R rx hl
      exact wc call_list_of ⟨a, xs, rfl, hs, fun p hp => h.newL R rs hp⟩
    · exact h.elim
  case h_15 s => obtain ⟨x, rfl, rx⟩ := reps1 r; cases rx; exact wc call_ord ⟨s, rfl, h.needs.1, h.needs.2.ret R (.int _)⟩
  case h_16 =>
    obtain ⟨x, rfl, rx⟩ := reps1 r
    split at h
    · rename_i l hl
      obtain ⟨zs, e1, e2⟩ := Option.bind_eq_some_iff.mp hl
      obtain ⟨a, xs, rfl, hs, rs⟩ := lst_of R rx e1
      exact wc (cr_sum hc) ⟨a, l, rfl, .inl (by rw [← ints_of rs e2]; exact hs), h.ret R (.int _)⟩
    · exact h.elim
  case h_17 =>
    obtain ⟨x, rfl, rx⟩ := reps1 r
    split at h
    · rename_i l hl
      obtain ⟨zs, e1, e2⟩ := Option.bind_eq_some_iff.mp hl
      obtain ⟨a, xs, rfl, hs, rs⟩ := lst_of R rx e1
      exact wc (cr_any hc) ⟨a, l, rfl, .inl (by rw [← bools_of rs e2]; exact hs), h.ret R (.bl _)⟩
    · exact h.elim
  case h_18 =>
    obtain ⟨x, rfl, rx⟩ := reps1 r
    split at h
    · rename_i l hl
      obtain ⟨zs, e1, e2⟩ := Option.bind_eq_some_iff.mp hl
      obtain ⟨a, xs, rfl, hs, rs⟩ := lst_of R rx e1
      exact wc (cr_all hc) ⟨a, l, rfl, .inl (by rw [← bools_of rs e2]; exact hs), h.ret R (.bl _)⟩
    · exact h.elim
  case h_19 =>
    obtain ⟨x, rfl, rx⟩ := reps1 r
    split at h
    · rename_i l hl
      obtain ⟨zs, e1, e2⟩ := Option.bind_eq_some_iff.mp hl
      obtain ⟨a, xs, rfl, hs, rs⟩ := lst_of R rx e1
      have hn : l ≠ [] := List.length_pos_iff.mp h.needs.1
      refine wc (cr_max hc) ⟨a, l, rfl, .inl (by rw [← ints_of rs e2]; exact hs), h.needs.1, fun m h1 h2 => ?_⟩
      have e : m = maxL l := Int.le_antisymm (maxL_ge m h1) (h2 _ (maxL_mem hn))
      rw [e]
      exact h.needs.2.ret R (.int _)
    · exact h.elim
  case h_20 =>
    obtain ⟨x, rfl, rx⟩ := reps1 r
    split at h
    · rename_i l hl
      obtain ⟨zs, e1, e2⟩ := Option.bind_eq_some_iff.mp hl
      obtain ⟨a, xs, rfl, hs, rs⟩ := lst_of R rx e1
      have hn : l ≠ [] := List.length_pos_iff.mp h.needs.1
      refine wc (cr_min hc) ⟨a, l, rfl, .inl (by rw [← ints_of rs e2]; exact hs), h.needs.1, fun m h1 h2 => ?_⟩
      have e : m = minL l := Int.le_antisymm (h2 _ (minL_mem hn)) (minL_le m h1)
      rw [e]
      exact h.needs.2.ret R (.int _)
    · exact h.elim
  case h_21 =>
    obtain ⟨x, rfl, rx⟩ := reps1 r
    split at h
    · rename_i l hl
      obtain ⟨zs, e1, e2⟩ := Option.bind_eq_some_iff.mp hl
      obtain ⟨a, xs, rfl, hs, rs⟩ := lst_of R rx e1
      refine wc cr_sortedI ⟨a, l, rfl, .inl (by rw [← ints_of rs e2]; exact hs), fun ns' p h1 h2 hp => ?_⟩
      have e : ns' = sortI l := List.Perm.eq_of_pairwise (fun a b _ _ h1 h2 => Int.le_antisymm h1 h2) h2 (sortI_up l) (h1.trans (sortI_perm l).symm)
      rw [e]
      exact h.newL R (reps_ints _) hp
    · exact h.elim
  case h_22 => exact h.elim

/-! ### methods -/
def metI : Met → String
  | .append => "list.append" | .join => "str.join" | .find => "str.find" | .isascii => "str.isascii" | .isprintable => "str.isprintable" | .split => "str.split"
  | .endswith => "str.endswith" | .startswith => "str.startswith" | .extend => "list.extend" | .pop => "list.pop" | .index => "list.index" | .isdigit => "str.isdigit" | .isalpha => "str.isalpha" | .islower => "str.islower"
def metT : Met → String
  | .append => "list" | .extend => "list" | .pop => "list" | .index => "list"
  | _ => "str"
theorem strs_of : ∀ {xs : List V} {ds : List D} {ys : List Str}, Reps K H M xs ds → strsOf ds = some ys → xs = ys.map V.str
  | _, _, _, .nil, e => by cases e; rfl
  | _, _, ys, .cons h r, e => by
    cases h <;> unfold strsOf at e <;> simp only [Option.map_eq_some_iff, reduceCtorEq] at e
    obtain ⟨zs, hz, rfl⟩ := e
    rw [strs_of r hz]; rfl
theorem reps_strs : ∀ (ys : List Str), Reps K H M (ys.map V.str) (ys.map D.str)
  | [] => .nil
  | y :: ys => .cons (.str y) (reps_strs ys)
theorem met_ty {m : Met} {o : D} (R : RelH K ct H μ M) (rx : Rep K H M x o) (h : tyD m o μ = true) : tyV K (metT m) x H := by
  unfold tyD at h
  split at h
  case h_1 =>
    cases rx with
    | ref ha =>
      split at h
      · rename_i l hl
        obtain ⟨xs, h1, r1⟩ := R.lst hl ha
        exact .inl ⟨rfl, xs, .inl (.inl h1)⟩
      · cases h
  case h_2 =>
    cases rx with
    | ref ha =>
      split at h
      · rename_i l hl
        obtain ⟨xs, h1, r1⟩ := R.lst hl ha
        exact .inl ⟨rfl, xs, .inl (.inl h1)⟩
      · cases h
  case h_3 =>
    cases rx with
    | ref ha =>
      split at h
      · rename_i l hl
        obtain ⟨xs, h1, r1⟩ := R.lst hl ha
        exact .inl ⟨rfl, xs, .inl (.inl h1)⟩
      · cases h
  case h_8 => cases rx; unfold metT; split <;> first | rfl | (exfalso; simp_all; done) | trace_state
  all_goals cases h
theorem met_ok {m : Met} {o : D} (R : RelH X.K ct H μ M) (rx : Rep X.K H M x o) (r : Reps X.K H M xs ds) (h : Ok X.K ct (RD X.K) M H (metD m o ds μ) Q W) : wM X (metI m) x xs H Q := by
  unfold metD at h
  split at h
  case h_1 n d =>
    cases rx with
    | ref ha =>
      obtain ⟨y, rfl, ry⟩ := reps1 r
      split at h
      · rename_i l hl
        obtain ⟨zs, h1, r1⟩ := R.lst hl ha
        obtain ⟨hz, h⟩ := h.needs
        have em : Evo M H M (upd H _ (.lst (zs ++ [y]))) := Evo.mut (List.mem_of_getElem? ha)
        refine wm mt_append ⟨_, zs, y, rfl, rfl, h1, sl16' (by rw [r1.length]; exact hz), ?_⟩
        exact h _ _ M em (R.mut ha ⟨zs ++ [y], upd_same, (r1.evo em).append (Reps.one (ry.evo em))⟩) .non
      · exact h.elim
  case h_2 n d =>
    cases rx with
    | ref ha =>
      obtain ⟨y, rfl, ry⟩ := reps1 r
      split at h
      · rename_i l r' hl hr
        obtain ⟨zs, h1, r1⟩ := R.lst hl ha
        obtain ⟨b, ys, rfl, hb, r2⟩ := lst_of R ry hr
        obtain ⟨hz, h⟩ := h.needs
        have em : Evo M H M (upd H _ (.lst (zs ++ ys))) := Evo.mut (List.mem_of_getElem? ha)
        refine wm Nw.mt_extendR ⟨_, b, zs, ys, rfl, rfl, h1, hb, by rw [r1.length, r2.length]; exact sl16 hz, ?_⟩
        exact h _ _ M em (R.mut ha ⟨zs ++ ys, upd_same, (r1.evo em).append (r2.evo em)⟩) .non
      · exact h.elim
  case h_3 n d =>
    cases rx with
    | ref ha =>
      obtain ⟨y, rfl, ry⟩ := reps1 r
      split at h
      · rename_i l hl
        obtain ⟨zs, h1, r1⟩ := R.lst hl ha
        obtain ⟨⟨f1, f2, f3⟩, h⟩ := h.needs
        have hlt : l.findIdx (fun y => eqD y d) < l.length := List.findIdx_lt_length.mpr (List.any_eq_true.mp f3)
        obtain ⟨z, hz, rz⟩ := r1.get (List.getElem?_eq_getElem hlt)
        have fz : ∀ {m : Nat} {e : D}, l[m]? = some e → flatD e = true := fun he => List.all_eq_true.mp f2 _ (List.mem_of_getElem? he)
        refine wm mt_index ⟨_, zs, y, _, z, rfl, rfl, .inl (.inl h1), flat_of ry f1, flats_of r1 f2, hz, ?_, fun m z' hm hz' => ?_, h.ret R (.int _)⟩
        · rw [eqV_of rz ry (fz (List.getElem?_eq_getElem hlt)) f1]
          exact List.findIdx_getElem (w := hlt)
        · have hml : m < l.length := Nat.lt_trans hm hlt
          obtain ⟨z2, hz2, rz2⟩ := r1.get (List.getElem?_eq_getElem hml)
          rw [hz'] at hz2
          cases hz2
          rw [eqV_of rz2 ry (fz (List.getElem?_eq_getElem hml)) f1]
          exact Bool.eq_false_iff.mpr (by simpa using List.not_of_lt_findIdx hm)
      · exact h.elim
  case h_4 a d =>
    cases rx
    obtain ⟨y, rfl, ry⟩ := reps1 r
    split at h
    · rename_i ys hy
      obtain ⟨hz, h⟩ := h.needs
      obtain ⟨l, hl, hs⟩ := Option.bind_eq_some_iff.mp hy
      obtain ⟨p, xs, rfl, hq, rs⟩ := seq_of R ry hl
      have e := strs_of rs hs
      subst e
      exact wm mt_join ⟨_, p, ys, rfl, rfl, hq, hz, h.ret R (.str _)⟩
    · exact h.elim
  case h_5 => cases rx; obtain ⟨y, z, rfl, ry, rz⟩ := reps2 r; cases ry; cases rz; exact wm mt_find3 ⟨_, _, _, rfl, rfl, h.ret R (.int _)⟩
  case h_6 => cases rx; obtain ⟨y, rfl, ry⟩ := reps1 r; cases ry; exact wm mt_find ⟨_, _, rfl, rfl, h.ret R (.int _)⟩
  case h_7 => cases rx; cases reps0 r; exact wm mt_isascii ⟨_, rfl, rfl, trivial, h.ret R (.bl _)⟩
  case h_8 => cases rx; cases reps0 r; exact wm mt_isprintable ⟨_, rfl, rfl, trivial, h.ret R (.bl _)⟩
  case h_9 => cases rx; cases reps0 r; exact wm mt_isdigit ⟨_, rfl, rfl, trivial, h.ret R (.bl _)⟩
  case h_10 => cases rx; cases reps0 r; exact wm mt_isalpha ⟨_, rfl, rfl, trivial, h.ret R (.bl _)⟩
  case h_11 => cases rx; cases reps0 r; exact wm mt_islower ⟨_, rfl, rfl, trivial, h.ret R (.bl _)⟩
  case h_12 => cases rx; obtain ⟨y, rfl, ry⟩ := reps1 r; cases ry; exact wm mt_startswith ⟨_, _, rfl, rfl, h.ret R (.bl _)⟩
  case h_13 => cases rx; obtain ⟨y, rfl, ry⟩ := reps1 r; cases ry; exact wm mt_endswith ⟨_, _, rfl, rfl, h.ret R (.bl _)⟩
  case h_14 =>
    cases rx; obtain ⟨y, rfl, ry⟩ := reps1 r; cases ry
    obtain ⟨hz, h⟩ := h.needs
    refine wm mt_split ⟨_, _, rfl, rfl, beq_eq_false_iff_ne.mpr hz.1, sl16 hz.2, fun p hp => ?_⟩
    exact h.newL R (reps_strs _) hp
  case h_15 => exact h.elim

/-! ### subscripts -/
theorem idx_ok {i : D} (R : RelH X.K ct H μ M) (rx : Rep X.K H M x d) (ry : Rep X.K H M y i) (h : Ok X.K ct (RD X.K) M H (idxD d i μ) Q W) : rIx X.K x y H Q := by
  unfold idxD at h
  split at h
  case h_1 z k =>
    cases rx; cases ry
    split at h
    · rename_i c hc
      exact .inr (.inr ⟨_, _, c, rfl, rfl, sl16 h.needs.1, hc, h.needs.2.ret R (.str _)⟩)
    · exact h.elim
  case h_2 k hn =>
    cases ry
    split at h
    · rename_i l hl
      obtain ⟨a, xs, rfl, hs, rs⟩ := seq_of R rx hl
      split at h
      · rename_i e he
        have : ∃ v, atI xs k = some v ∧ Rep X.K H M v e := by
          unfold atI at he ⊢
          obtain ⟨j, hj, hd⟩ := Option.bind_eq_some_iff.mp he
          obtain ⟨v, hv, rv⟩ := rs.get hd
          rw [rs.length]
          exact ⟨v, Option.bind_eq_some_iff.mpr ⟨j, hj, hv⟩, rv⟩
        obtain ⟨v, hv, rv⟩ := this
        rcases hs with hs | hs
        · exact .inl ⟨a, xs, _, v, rfl, rfl, hs, hv, h.ret R rv⟩
        · exact .inr (.inl ⟨a, xs, _, v, rfl, rfl, hs, hv, h.ret R rv⟩)
      · exact h.elim
    · exact h.elim
  case h_3 => exact h.elim
abbrev rSl (K : PySem.W.Frag) : V → Option Int → Option Int → Hp → VK → Prop := fun x lo hi H Q => (rSlS x lo hi H Q ∨ rSlL K x lo hi H Q) ∨ rSlA K x lo hi H Q
theorem sl_any : SlR X (rSl X.K) := (sl_str.or sl_list).or sl_tupA
theorem cut_reps {lo hi : Option Int} {l : List D} (r : Reps K H M xs l) : Reps K H M (cutV xs lo hi) (cutD l lo hi) := by
  unfold cutV cutD
  rw [r.length]
  exact (r.dropL _).takeL _
theorem slc_ok {lo hi : Option Int} (R : RelH X.K ct H μ M) (rx : Rep X.K H M x d) (h : Ok X.K ct (RD X.K) M H (slcD d lo hi μ) Q W) : rSl X.K x lo hi H Q := by
  cases rx with
  | str z =>
    obtain ⟨hz, h⟩ := (show Ok X.K ct (RD X.K) M H (needs (z.length ≤ 16777216) (.ok (.str (cutS z lo hi)) μ)) Q W from h).needs
    exact .inl (.inl ⟨z, rfl, sl16 hz, h.ret R (.str _)⟩)
  | lst h1 r1 => exact .inl (.inr ⟨_, _, rfl, h1.sq, fun p hp => Ok.newL (μ := μ) h R (cut_reps r1) hp⟩)
  | tup h1 r1 =>
    rename_i a xs l
    refine .inr ⟨_, _, rfl, h1.sq, fun hw => ?_, fun hw p hp => Ok.newT (μ := μ) h R (cut_reps r1) hp⟩
    have e : cutD l lo hi = l := by
      unfold cutD
      rw [← r1.length, hw.1, hw.2, List.drop_zero, Nat.sub_zero, r1.length, List.take_length]
    have h2 : Ok X.K ct (RD X.K) M H (.ok (.tup (cutD l lo hi)) μ) Q W := h
    rw [e] at h2
    exact h2.ret R (.tup h1 r1)
  | ref ha =>
    unfold slcD at h
    simp only at h
    split at h
    · rename_i l hl
      obtain ⟨xs, h1, r1⟩ := R.lst hl ha
      exact .inl (.inr ⟨_, _, rfl, .inl (.inl h1), fun p hp => h.newL R (cut_reps r1) hp⟩)
    · exact h.elim
  | kl => exact (h : False).elim
  | kt => exact (h : False).elim
  | non => exact h.elim
  | bl => exact h.elim
  | int => exact h.elim
theorem rev_ok (R : RelH X.K ct H μ M) (rx : Rep X.K H M x d) (h : Ok X.K ct (RD X.K) M H (revD d μ) Q W) : ∃ a xs, x = .ref a ∧ ((SqL X.K H a xs ∧ ∀ p, H p = none → Q (.ref p) (upd H p (.lst xs.reverse))) ∨ (SqT X.K H a xs ∧ ∀ p, H p = none → Q (.ref p) (upd H p (.tup xs.reverse)))) := by
  unfold revD at h
  split at h
  · cases rx with
    | tup h1 r1 => exact ⟨_, _, rfl, .inr ⟨h1.sq, fun p hp => Ok.newT (μ := μ) h R r1.rev hp⟩⟩
  · split at h
    · rename_i l hl
      obtain ⟨a, xs, rfl, hs, rs⟩ := lst_of R rx hl
      exact ⟨_, _, rfl, .inl ⟨.inl hs, fun p hp => Ok.newL (μ := μ) h R rs.rev hp⟩⟩
    · exact h.elim
end
end PyI
/-! A6: from the syntax to the resolved syntax. -/
namespace PyI
open PySem L2

structure RC where
  N : List Str
  tb : Tb
def ixOf {α : Type} [DecidableEq α] (x : α) : List α → Option Nat
  | [] => none
  | y :: ys => if x = y then some 0 else (ixOf x ys).map (· + 1)
theorem ixOf_get {α : Type} [DecidableEq α] {x : α} : ∀ {l : List α} {i : Nat}, ixOf x l = some i → l[i]? = some x
  | [], _, h => by cases h
  | y :: ys, i, h => by
    unfold ixOf at h
    by_cases e : x = y
    · rw [if_pos e] at h; cases h; subst e; rfl
    · rw [if_neg e] at h
      obtain ⟨j, hj, rfl⟩ := Option.map_eq_some_iff.mp h
      simpa using ixOf_get hj
/-- a def of the table: its number and how many arguments it takes -/
def fnOf (x : Str) : List (Str × Nat) → Option (Nat × Nat)
  | [] => none
  | (y, n) :: ys => if x = y then some (0, n) else (fnOf x ys).map fun p => (p.1 + 1, p.2)
theorem fnOf_get {x : Str} : ∀ {l : List (Str × Nat)} {i n : Nat}, fnOf x l = some (i, n) → l[i]? = some (x, n)
  | [], _, _, h => by cases h
  | (y, k) :: ys, i, n, h => by
    unfold fnOf at h
    by_cases e : x = y
    · rw [if_pos e] at h; cases h; subst e; rfl
    · rw [if_neg e] at h
      obtain ⟨⟨j, m⟩, hj, q⟩ := Option.map_eq_some_iff.mp h
      cases q
      simpa using fnOf_get hj
def okName (x : Str) : Bool := !(x == ("__debug__" : Str)) && !(x == ("__classdict__" : Str)) && !(x == ("__name__" : Str))
def visB (sc : Scope) (x : Str) : Bool := match sc.names.lookup x with
  | some .local => true
  | some .cell => true
  | some .free => true
  | _ => false
def glB (sc : Scope) (x : Str) : Bool := match sc.names.lookup x with
  | some .globalImplicit => true
  | _ => false
def star : Expr → Bool
  | .Starred _ _ => true
  | _ => false
def isSlc : Expr → Bool
  | .Slice _ _ none _ => true
  | _ => false
def isSet : Expr → Bool
  | .Set _ _ _ => true
  | _ => false
/-- isTrue reads it by its value's truth -/
def plainT : Expr → Bool
  | .UnaryOp .Not _ _ => false
  | .BoolOp _ _ _ => false
  | .IfExp _ _ _ _ => false
  | .Compare _ _ _ _ => false
  | _ => true
def plainO : Expr → Bool
  | .Call (.Name id _) [] [] _ => id != ("super" : Str)
  | _ => true
def bopOf : Operator → Option Bop
  | .Add => some .add | .Sub => some .sub | .Mult => some .mul | .FloorDiv => some .fdiv | .Mod => some .mod | .Pow => some .pow
  | .LShift => some .shl | .RShift => some .shr | .BitAnd => some .band | .BitOr => some .bor | .BitXor => some .bxor | _ => none
def bifOf (x : Str) : Option Bif :=
  if x = "len" then some .len else if x = "int" then some .int else if x = "str" then some .str else if x = "tuple" then some .tuple else if x = "list" then some .list else
  if x = "abs" then some .abs else if x = "max" then some .max else if x = "min" then some .min else if x = "ord" then some .ord else
  if x = "sum" then some .sum else if x = "any" then some .any else if x = "all" then some .all else if x = "sorted" then some .sorted else none
def tyOf (x : Str) : Option Ty :=
  if x = "str" then some .str else if x = "int" then some .int else if x = "bool" then some .bool else if x = "tuple" then some .tuple else if x = "list" then some .list else none
def metOf (x : Str) : Option Met :=
  if x = "append" then some .append else if x = "join" then some .join else if x = "find" then some .find else if x = "isascii" then some .isascii else if x = "isprintable" then some .isprintable else
  if x = "split" then some .split else if x = "isdigit" then some .isdigit else if x = "isalpha" then some .isalpha else if x = "islower" then some .islower else
  if x = "startswith" then some .startswith else if x = "endswith" then some .endswith else if x = "extend" then some .extend else if x = "index" then some .index else none
def guardO {α : Type} (b : Bool) (o : Option α) : Option α := if b then o else none
theorem guardO_some {α : Type} {b : Bool} {o : Option α} {a : α} (h : guardO b o = some a) : b = true ∧ o = some a := by
  unfold guardO at h
  cases b with
  | true => exact ⟨rfl, h⟩
  | false => cases h
def ownOf (N : List Str) (sc : Scope) : List (Str × Nat) := sc.names.filterMap fun p => match p.2 with
  | .local => (ixOf p.1 N).map fun i => (p.1, i)
  | .cell => (ixOf p.1 N).map fun i => (p.1, i)
  | _ => none
/-- targets: names, tuples of names -/
def resNames (N : List Str) (loc : List Str) : List Expr → Option (List Nat)
  | [] => some []
  | .Name x _ :: es => guardO (decide (x ∈ loc)) ((ixOf x N).bind fun i => (resNames N loc es).map (i :: ·))
  | _ => none
def resTg (N : List Str) (loc : List Str) : Expr → Option Tg
  | .Name x _ => guardO (decide (x ∈ loc)) ((ixOf x N).map Tg.nm)
  | .Tuple es _ _ => (resNames N loc es).map Tg.tp
  | _ => none
def slotsOf : Tg → List Nat
  | .nm i => [i]
  | .tp l => l
def litTab : List (Option Expr) → List Expr → Bool
  | [some (.Constant (.int 37) _ _)], [.Constant .none _ _] => true
  | _, _ => false
def isiArgs : List Expr → Option (Expr × Str)
  | [a, .Name t _] => some (a, t)
  | _ => none
theorem isiArgs_eq {args : List Expr} {q : Expr × Str} (h : isiArgs args = some q) : ∃ p, args = [q.1, .Name q.2 p] := by
  unfold isiArgs at h
  split at h
  · cases h; exact ⟨_, rfl⟩
  · cases h
def trArgs : List Expr → Option (List (Option Expr) × List Expr)
  | [.Dict ks vs _] => some (ks, vs)
  | _ => none
theorem trArgs_eq {args : List Expr} {q : List (Option Expr) × List Expr} (h : trArgs args = some q) : ∃ p, args = [.Dict q.1 q.2 p] := by
  unfold trArgs at h
  split at h
  · cases h; exact ⟨_, rfl⟩
  · cases h
/-- a dict of the module -/
def dicOf (C : RC) (sc : Scope) : Expr → Option Nat
  | .Name x _ => guardO (okName x && glB sc x) (ixOf x C.tb.dics)
  | _ => none
theorem dicOf_eq {C : RC} {sc : Scope} {e : Expr} {g : Nat} (h : dicOf C sc e = some g) : ∃ x p, e = .Name x p ∧ okName x = true ∧ glB sc x = true ∧ C.tb.dics[g]? = some x := by
  unfold dicOf at h
  split at h
  · obtain ⟨h1, h⟩ := guardO_some h
    simp only [Bool.and_eq_true] at h1
    exact ⟨_, _, rfl, h1.1, h1.2, ixOf_get h⟩
  · cases h
def inOp : CmpOp → Option Bool
  | .In => some false
  | .NotIn => some true
  | _ => none
theorem inOp_eq {op : CmpOp} {b : Bool} (h : inOp op = some b) : op = if b then .NotIn else .In := by
  cases op <;> simp [inOp] at h <;> subst h <;> rfl
def litC : Expr → Option D
  | .Constant (.int i) _ _ => some (.int i)
  | .Constant (.bool b) _ _ => some (.bl b)
  | .Constant .none _ _ => some .non
  | .Constant (.str s) _ _ => some (.str s)
  | _ => none
def litP : List (Option Expr) → List Expr → Option (List (Str × D))
  | [], [] => some []
  | some (.Constant (.str s) _ _) :: ks, v :: vs => (litC v).bind fun d => (litP ks vs).map fun l => (s, d) :: l
  | _, _ => none
/-- the keys of a display: texts -/
def strKeys : List (Option Expr) → Option (List Str)
  | [] => some []
  | some (.Constant (.str s) _ _) :: ks => (strKeys ks).map (s :: ·)
  | _ => none
/-- an own class of this name -/
def ownBy (f : Str) : List Own → Option Own
  | [] => none
  | o :: os => if o.name = f then some o else ownBy f os
theorem ownBy_get {f : Str} : ∀ {l : List Own} {o : Own}, ownBy f l = some o → o ∈ l ∧ o.name = f
  | [], _, h => by cases h
  | p :: l, o, h => by
    unfold ownBy at h
    by_cases e : p.name = f
    · rw [if_pos e] at h; cases h; exact ⟨List.mem_cons_self .., e⟩
    · rw [if_neg e] at h
      obtain ⟨h1, h2⟩ := ownBy_get h
      exact ⟨List.mem_cons_of_mem _ h1, h2⟩
/-- an own class with this attribute -/
def ownAttr (f : Str) : List Own → Option Own
  | [] => none
  | o :: os => if f ∈ o.attrs then some o else ownAttr f os
theorem ownAttr_get {f : Str} : ∀ {l : List Own} {o : Own}, ownAttr f l = some o → o ∈ l ∧ f ∈ o.attrs
  | [], _, h => by cases h
  | p :: l, o, h => by
    unfold ownAttr at h
    by_cases e : f ∈ p.attrs
    · rw [if_pos e] at h; cases h; exact ⟨List.mem_cons_self .., e⟩
    · rw [if_neg e] at h
      obtain ⟨h1, h2⟩ := ownAttr_get h
      exact ⟨List.mem_cons_of_mem _ h1, h2⟩
/-- an own method of this name: its name in the table, its class -/
def metBy (m : Str) : List (Str × Nat × Str) → Option (Str × Nat)
  | [] => none
  | (x, c, n) :: l => if n = m then some (x, c) else metBy m l
def isMet (tb : Tb) (x : Str) (c : Nat) (m : Str) : Bool := match tb.mets.lookup x with
  | some (c', m') => decide (c' = c) && decide (m' = m)
  | none => false
theorem isMet_eq {tb : Tb} {x m : Str} {c : Nat} (h : isMet tb x c m = true) : tb.mets.lookup x = some (c, m) := by
  unfold isMet at h
  split at h
  · next c' m' q =>
    simp only [Bool.and_eq_true, decide_eq_true_eq] at h
    rw [q, h.1, h.2]
  · cases h
def isTupE : Expr → Bool
  | .Tuple _ _ _ => true
  | _ => false
mutual
def resE : Nat → RC → Scope → Expr → Option E
  | 0, _, _, _ => none
  | n + 1, C, sc, e => match e with
    | .Constant (.int i) _ _ => some (.cst (.int i))
    | .Constant (.bool b) _ _ => some (.cst (.bl b))
    | .Constant .none _ _ => some (.cst .non)
    | .Constant (.str s) _ _ => some (.cst (.str s))
    | .Name x _ => guardO (okName x) (if visB sc x then (ixOf x C.N).map E.var else guardO (glB sc x) ((ixOf x C.tb.cons).map E.glob))
    | .BinOp a op b _ => (bopOf op).bind fun o => (resE n C sc a).bind fun A => (resE n C sc b).map fun B => .bin o A B
    | .UnaryOp .USub a _ => (resE n C sc a).map .neg
    | .UnaryOp .Invert a _ => (resE n C sc a).map .inv
    | .UnaryOp .Not a _ => (resE n C sc a).map fun A => .notv (.val A)
    | .BoolOp .And vs _ => resAnd n C sc vs
    | .BoolOp .Or vs _ => resOr n C sc vs
    | .Compare a [op] [b] _ => (match dicOf C sc b with
        | some g => (inOp op).bind fun neg => (resE n C sc a).map fun A => .gin neg g A
        | none => guardO (!isSet b) ((resE n C sc a).bind fun A => (resE n C sc b).map fun B => .cmp (copOf op) A B))
    | .Compare a [op, op'] [b, c] _ => guardO (!isSet b && !isSet c) ((resE n C sc a).bind fun A => (resE n C sc b).bind fun B => (resE n C sc c).map fun D => .chn (copOf op) (copOf op') A B D)
    | .IfExp c a b _ => (resT n C sc c).bind fun T => (resE n C sc a).bind fun A => (resE n C sc b).map fun B => .ite T A B
    | .Call (.Name f _) args [] _ => guardO (okName f && glB sc f) (match fnOf f C.tb.fns with
        | some (i, k) => guardO (args.length == k && (C.tb.mets.lookup f).isNone) ((resEs n C sc args).map (.call i))
        | none => match ownBy f C.tb.owns with
          | some w => (fnOf w.ini C.tb.fns).bind fun p => guardO (p.2 == args.length + 1 && !args.isEmpty && isMet C.tb w.ini w.c "__init__") ((resEs n C sc args).map (.mk p.1 w.c))
          | none => if f = "isinstance" then (isiArgs args).bind fun p => guardO (okName p.2 && glB sc p.2 && !star p.1) ((tyOf p.2).bind fun ty => (resE n C sc p.1).map fun A => .isi A ty) else guardO (!args.isEmpty) ((bifOf f).bind fun b => (resEs n C sc args).map (.bif b)))
    | .Call (.Attribute (.Dict ks vs _) m apos) [k, d] [] pos => guardO (decide (m = "get") && apos.endLine == pos.line && !star k && !star d && !ks.isEmpty) ((litP ks vs).bind fun l => guardO (decide (l.length ≤ 15)) ((resE n C sc k).bind fun A => (resE n C sc d).map fun B => .dgt l A B))
    | .Call (.Attribute o m apos) args [] pos => guardO (plainO o && apos.endLine == pos.line) (match metBy m C.tb.mets with
        | some q => (fnOf q.1 C.tb.fns).bind fun p => guardO (p.2 == args.length + 1 && decide (args.length < 30) && isMet C.tb q.1 q.2 m && C.tb.owns.any (fun w => decide (w.c = q.2))) ((resE n C sc o).bind fun A => (resEs n C sc args).map (.mcl p.1 q.2 m A))
        | none => if m = "bit_length" ∧ args.isEmpty = true then (resE n C sc o).map .bits else if m = "translate" then (trArgs args).bind fun p => guardO (litTab p.1 p.2) ((resE n C sc o).map .tr37) else if m = "get" then (match args with
        | [k] => guardO (!star k) ((resE n C sc o).bind fun A => (resE n C sc k).map fun B => .get1 A B)
        | [k, d] => guardO (!star k && !star d) ((resE n C sc o).bind fun A => (resE n C sc k).bind fun B => (resE n C sc d).map fun D => .get2 A B D)
        | _ => none) else guardO (decide (args.length < 30)) ((metOf m).bind fun t => (resE n C sc o).bind fun A => (resEs n C sc args).map (.met t A)))
    | .Subscript (.Dict ks vs _) k _ => guardO (!isSlc k && !ks.isEmpty) ((litP ks vs).bind fun l => guardO (decide (l.length ≤ 15)) ((resE n C sc k).map (.dgl l)))
    | .Subscript a (.Slice none none (some (.UnaryOp .USub (.Constant (.int 1) _ _) _)) _) _ => (resE n C sc a).map .revs
    | .Subscript a (.Slice lo hi none _) _ => (resE n C sc a).bind fun A => (resO n C sc lo).bind fun L => (resO n C sc hi).map fun U => .slc A L U
    | .Subscript a b _ => guardO (!isSlc b) (match dicOf C sc a with
      | some g => (resE n C sc b).map fun B => .gdict g B
      | none => (resE n C sc a).bind fun A => (resE n C sc b).map fun B => .idx A B)
    | .Tuple es _ _ => (resEs n C sc es).map .tup
    | .FormattedValue a (-1) none _ => (resE n C sc a).map .fmt
    | .JoinedStr [a] _ => resE n C sc a
    | .JoinedStr (a :: b :: r) _ => (resEs n C sc (a :: b :: r)).map .fs
    | .List es _ => (resEs n C sc es).map .lst
    | .Dict [] [] _ => some (.dnew false)
    | .Dict (k :: ks) vs _ => (strKeys (k :: ks)).bind fun l => guardO (decide (l.length ≤ 15) && decide (l.length = vs.length)) ((resEn n C sc vs).map (.disp l))
    | .ListComp elt [⟨tg, iter, ifs, 0⟩] scope _ =>
      let own : List (Str × Nat) := ownOf C.N scope
      guardO (blkC C.N sc scope own && !isSet iter) ((resTg C.N (own.map Prod.fst) tg).bind fun t => guardO ((slotsOf t).all fun i => decide (i ∈ own.map Prod.snd)) ((resI n C sc tg iter).bind fun it =>
        (match ifs with
          | [] => some T.yes
          | [c] => resT n C (relS scope sc) c
          | _ => none).bind fun c => (resE n C (relS scope sc) elt).map fun e => .comp (own.map Prod.snd) t it c e))
    | .Attribute o f _ => guardO (plainO o) ((ownAttr f C.tb.owns).bind fun w => (resE n C sc o).map fun A => .fld w.c A f)
    | .Call (.Name f _) [a] [⟨some kn, d, _⟩] _ => guardO (decide (f = "max") && decide (kn = "default") && glB sc f && !star a) ((resE n C sc a).bind fun A => (resE n C sc d).map fun B => .maxd A B)
    | _ => none
def resAnd : Nat → RC → Scope → List Expr → Option E
  | 0, _, _, _ => none
  | n + 1, C, sc, es => match es with
    | [a] => resE n C sc a
    | a :: b :: r => (resE n C sc a).bind fun A => (resAnd n C sc (b :: r)).map fun B => .and A B
    | [] => none
def resOr : Nat → RC → Scope → List Expr → Option E
  | 0, _, _, _ => none
  | n + 1, C, sc, es => match es with
    | [a] => resE n C sc a
    | a :: b :: r => (resE n C sc a).bind fun A => (resOr n C sc (b :: r)).map fun B => .or A B
    | [] => none
def resEs : Nat → RC → Scope → List Expr → Option Es
  | 0, _, _, _ => none
  | n + 1, C, sc, es => match es with
    | [] => some .nil
    | e :: r => guardO (!star e) ((resE n C sc e).bind fun A => (resEs n C sc r).map (.cons A))
def resEn : Nat → RC → Scope → List Expr → Option Es
  | 0, _, _, _ => none
  | n + 1, C, sc, es => match es with
    | [] => some .nil
    | .List es _ :: r => (resEs n C sc es).bind fun A => (resEn n C sc r).map (.cons (.newL (.lst A)))
    | e :: r => guardO (!star e) ((resE n C sc e).bind fun A => (resEn n C sc r).map (.cons A))
def resO : Nat → RC → Scope → Option Expr → Option O
  | 0, _, _, _ => none
  | n + 1, C, sc, o => match o with
    | none => some .none
    | some e => (resE n C sc e).map .some
def resT : Nat → RC → Scope → Expr → Option T
  | 0, _, _, _ => none
  | n + 1, C, sc, e => match e with
    | .UnaryOp .Not a _ => (resT n C sc a).map .not
    | .BoolOp .And vs _ => resTAnd n C sc vs
    | .BoolOp .Or vs _ => resTOr n C sc vs
    | .Compare a [op] [b] _ => (match dicOf C sc b with
        | some g => (inOp op).bind fun neg => (resE n C sc a).map fun A => .val (.gin neg g A)
        | none => guardO (!isSet b) ((resE n C sc a).bind fun A => (resE n C sc b).map fun B => .val (.cmp (copOf op) A B)))
    | .Compare a [op, op'] [b, c] _ => guardO (!isSet b && !isSet c) ((resE n C sc a).bind fun A => (resE n C sc b).bind fun B => (resE n C sc c).map fun D => .val (.chn (copOf op) (copOf op') A B D))
    | e => guardO (plainT e) ((resE n C sc e).map .val)
def resTAnd : Nat → RC → Scope → List Expr → Option T
  | 0, _, _, _ => none
  | n + 1, C, sc, es => match es with
    | [a] => resT n C sc a
    | a :: b :: r => (resT n C sc a).bind fun A => (resTAnd n C sc (b :: r)).map fun B => .and A B
    | [] => none
def resTOr : Nat → RC → Scope → List Expr → Option T
  | 0, _, _, _ => none
  | n + 1, C, sc, es => match es with
    | [a] => resT n C sc a
    | a :: b :: r => (resT n C sc a).bind fun A => (resTOr n C sc (b :: r)).map fun B => .or A B
    | [] => none
def resI : Nat → RC → Scope → Expr → Expr → Option IT
  | 0, _, _, _, _ => none
  | n + 1, C, sc, tg, e => match e with
    | .Call (.Name f _) args [] _ => if f = "range" then guardO (glB sc f) (match args with
        | [a] => guardO (!star a) ((resE n C sc a).map .rng1)
        | [a, b] => guardO (!star a && !star b) ((resE n C sc a).bind fun A => (resE n C sc b).map fun B => .rng2 A B)
        | [a, b, c] => guardO (!star a && !star b && !star c) ((resE n C sc a).bind fun A => (resE n C sc b).bind fun B => (resE n C sc c).map fun D => .rng3 A B D)
        | _ => none) else if f = "enumerate" then guardO (glB sc f && isTupE tg) (match args with
        | [a] => guardO (!star a) ((resE n C sc a).map .enum)
        | _ => none) else (resE n C sc e).map .seq
    | e => guardO (!isSet e) ((resE n C sc e).map .seq)
end
end PyI
/-! A7: expressions: each form by itself. -/
namespace PyI
open PySem L2

/-! ### the forms -/
section
variable {env : Env} {e a b o : Expr} {es : List Expr}
theorem star_cons (h : star e = false) : starEach (e :: es) env = (false, eval e env) :: starEach es env := by
  cases e <;> first | rfl | (simp [star] at h)
theorem star_nil : starEach [] env = [] := rfl
theorem star_all {pos : Pos} : ∀ {es : List Expr}, es.all (fun e => !star e) = true → (backTo pos (starEach es env)).any (·.1) = false
  | [], _ => rfl
  | e :: es, h => by
    simp only [List.all_cons, Bool.and_eq_true, Bool.not_eq_true'] at h
    rw [star_cons h.1]
    have ih := star_all (pos := pos) h.2
    show (false || (backTo pos (starEach es env)).any (·.1)) = false
    rw [ih]; rfl
theorem star_all' {pos : Pos} : ∀ {es : List Expr}, es.all (fun e => !star e) = true → (backTo pos (starEach es env)).all (fun x => !x.1) = true
  | [], _ => rfl
  | e :: es, h => by
    simp only [List.all_cons, Bool.and_eq_true, Bool.not_eq_true'] at h
    rw [star_cons h.1]
    have ih := star_all' (pos := pos) h.2
    show (true && (backTo pos (starEach es env)).all (fun x => !x.1)) = true
    rw [ih]; rfl
theorem true_plain (h : plainT e = true) (whole : Sem Value) : isTrue e env whole = (do let v ← whole; standAt e.pos; holding [v] (truthy v)) := by
  cases e <;> first | rfl | (simp [plainT] at h; done) | skip
  rename_i op x pos
  cases op <;> first | rfl | (simp [plainT] at h)
theorem slc_plain (h : isSlc b = false) (x y : Value) : subscripted b false x y = operate [x, y] (getItem x y) := by
  cases b <;> first | rfl | skip
  rename_i l u s p
  cases s with
  | none => simp [isSlc] at h
  | some s => rfl
theorem base_plain {m : Str} (h : plainO o = true) : attributeBase o m env (eval o env) = eval o env := by
  unfold attributeBase
  split
  · rename_i id p pos
    have h' : id ≠ ("super" : Str) := by simpa [plainO] using h
    have e : (id != ("super" : Str)) = true := by simpa using h'
    simp only [e, Bool.true_or, if_true]
  · rfl
theorem set_marks {op : CmpOp} (h : isSet b = false) : behindInMarks op b = false := by
  cases b <;> first | rfl | (simp [isSet] at h)
theorem set_last {op op' : CmpOp} {c : Expr} (h : isSet c = false) : lastMarks [op, op'] [b, c] = false := by
  show lastMarks [op'] [c] = false
  exact set_marks h
theorem set_iter (h : isSet e = false) (x : Value) : foldedSetIterable e env x = pure x := by
  cases e <;> first | rfl | (simp [isSet] at h)
end

mutual
theorem beq_eq : ∀ (a b : D), D.beq a b = true → a = b
  | .non, b, h => by cases b <;> first | rfl | (simp [D.beq] at h)
  | .bl a, b, h => by cases b <;> first | (simp [D.beq] at h; done) | (rw [show a = _ from by simpa [D.beq] using h])
  | .int a, b, h => by cases b <;> first | (simp [D.beq] at h; done) | (rw [show a = _ from by simpa [D.beq] using h])
  | .str a, b, h => by cases b <;> first | (simp [D.beq] at h; done) | (rw [show a = _ from by simpa [D.beq] using h])
  | .ref a, b, h => by cases b <;> first | (simp [D.beq] at h; done) | (rw [show a = _ from by simpa [D.beq] using h])
  | .tup a, b, h => by
    cases b with
    | tup b => rw [beqs_eq a b (by simpa only [D.beq] using h)]
    | _ => simp [D.beq] at h
  | .lst a, b, h => by
    cases b with
    | lst b => rw [beqs_eq a b (by simpa only [D.beq] using h)]
    | _ => simp [D.beq] at h
theorem beqs_eq : ∀ (a b : List D), D.beqs a b = true → a = b
  | [], b, h => by cases b <;> first | rfl | (simp [D.beqs] at h)
  | x :: xs, b, h => by
    cases b with
    | nil => simp [D.beqs] at h
    | cons y ys =>
      simp only [D.beqs, Bool.and_eq_true] at h
      rw [beq_eq x y h.1, beqs_eq xs ys h.2]
end
end PyI
/-! A8: expressions, form by form. -/
namespace PyI
open PySem L2

def SndO (X : Cx) (ct : CTab) (Γ : G) (o : Option Expr) (A : O) : Prop := ∃ t : TO, PO X o t ∧ ∀ (W : WX) (ρ : Rho) (μ : Mu) (σ : St) (H : Hp) (M : AM) (Q : Option Int → Hp → Prop), Takes X W → RelE X.K H M σ ρ → RelH X.K ct H μ M →
  Ok X.K ct RO M H (evalO Γ A ρ μ) Q (fun c d H' => W c d σ H') → t σ H Q
def wW (X : Cx) (e : Expr) : TT := fun σ H Q => ∀ whole pins s, Inv X pins σ H s → wpAny (model X.prog X.w) X.A (isTrue e X.env whole) (TP X pins σ Q) X.xe s
theorem pW {X : Cx} {e : Expr} : PW X e (wW X e) := ⟨fun whole pins s _ _ _ I h => h whole pins s I⟩
theorem ww {X : Cx} {e : Expr} {t : TT} {σ : St} {H : Hp} {Q : Bool → Hp → Prop} (p : PW X e t) (h : t σ H Q) : wW X e σ H Q := fun whole pins s I => p.run whole pins s σ H Q I h
def SndW (X : Cx) (ct : CTab) (Γ : G) (e : Expr) (A : T) : Prop := ∀ (W : WX) (ρ : Rho) (μ : Mu) (σ : St) (H : Hp) (M : AM) (Q : Bool → Hp → Prop), Takes X W → RelE X.K H M σ ρ → RelH X.K ct H μ M →
  Ok X.K ct RB M H (evalT Γ A ρ μ) Q (fun c d H' => W c d σ H') → wW X e σ H Q
section
variable {X : Cx} {ct : CTab} {Γ : G} {N : List Str} {sc : Scope} {tb : Tb} {e a b c o : Expr} {es args : List Expr} {A B C' : E} {As : Es} {pos apos : Pos} {j : Nat}
theorem snd_cst {v : V} {d : D} (p : PE X e (tC v)) (r : ∀ H M, Rep X.K H M v d) : Snd X ct Γ e (.cst d) := by
  intro W ρ μ σ H M Q tk E R h
  exact we p (Ok.ret (μ := μ) h R (r _ _))
theorem snd_var {i : Nat} {x : Str} (F : Fr X ct tb Γ N sc) (hi : N[i]? = some x) (hv : visB sc x = true) (hd : okName x = true) : Snd X ct Γ (.Name x pos) (.var i) := by
  intro W ρ μ σ H M Q tk E R h
  have hd' : (x == ("__debug__" : Str)) = false ∧ (x == ("__classdict__" : Str)) = false := by simp [okName] at hd ⊢; exact ⟨hd.1.1, hd.1.2⟩
  have hvis : Vis X.env.scope x := by
    rw [F.hsc]
    unfold visB at hv
    unfold Vis
    split at hv
    · rename_i q; exact .inl q
    · rename_i q; exact .inr (.inl q)
    · rename_i q; exact .inr (.inr q)
    · cases hv
  refine we (pe_var (i := i) (by rw [F.hN]; exact hi) hvis hd'.1 hd'.2) ?_
  unfold evalE at h
  split at h
  · rename_i d hd
    obtain ⟨v, h1, r⟩ := E.at_ i d hd
    exact ⟨v, h1, h.ret R r⟩
  · exact h.elim
theorem gl_of (F : Fr X ct tb Γ N sc) {x : Str} (h : glB sc x = true) : Gl X x := by
  unfold glB at h
  split at h
  · rename_i q
    show X.env.scope.names.lookup x = _
    rw [F.hsc]; exact q
  · cases h
theorem ok1 {x : Str} (h : okName x = true) : (x == ("__debug__" : Str)) = false := by simp [okName] at h ⊢; exact h.1.1
theorem ok3 {x : Str} (h : okName x = true) : x ≠ "__name__" := by simp [okName] at h ⊢; exact h.2
theorem snd_glob {g : Nat} {x : Str} (F : Fr X ct tb Γ N sc) (hi : tb.cons[g]? = some x) (hv : glB sc x = true) (hd : okName x = true) : Snd X ct Γ (.Name x pos) (.glob g) := by
  intro W ρ μ σ H M Q tk E R h
  unfold evalE at h
  split at h
  · rename_i d hc
    obtain ⟨u, v, h1, h2, h3⟩ := F.g.con g x d hi hc
    exact we (pe_glob (gl_of F hv) h1 h2 (ok1 hd)) (h.ret R (h3 _ _))
  · exact h.elim
theorem snd_bin {op : Operator} {o : Bop} (ho : bopOf op = some o) (ha : Snd X ct Γ a A) (hb : Snd X ct Γ b B) : Snd X ct Γ (.BinOp a op b pos) (.bin o A B) := by
  intro W ρ μ σ H M Q tk E R h
  unfold evalE at h
  refine we (pe_op pO pE pE) ?_
  refine ha W ρ μ σ H M _ tk E R (h.step fun d μ1 v H1 M1 e1 R1 r1 h1 => ?_)
  refine hb W ρ μ1 σ H1 M1 _ tk (E.evo e1) R1 (h1.step fun d2 μ2 u H2 M2 e2 R2 r2 h2 => ?_)
  exact bin_ok ho R2 (r1.evo e2) r2 h2
theorem snd_neg (ha : Snd X ct Γ a A) : Snd X ct Γ (.UnaryOp .USub a pos) (.neg A) := by
  intro W ρ μ σ H M Q tk E R h
  unfold evalE at h
  refine we (pe_un un_neg pE) ?_
  refine ha W ρ μ σ H M _ tk E R (h.step fun d μ1 v H1 M1 e1 R1 r1 h1 => ?_)
  split at h1
  · cases r1; exact ⟨_, rfl, h1.ret R1 (.int _)⟩
  · exact h1.elim
theorem snd_inv (ha : Snd X ct Γ a A) : Snd X ct Γ (.UnaryOp .Invert a pos) (.inv A) := by
  intro W ρ μ σ H M Q tk E R h
  unfold evalE at h
  refine we (pe_un un_inv pE) ?_
  refine ha W ρ μ σ H M _ tk E R (h.step fun d μ1 v H1 M1 e1 R1 r1 h1 => ?_)
  split at h1
  · cases r1; exact ⟨_, rfl, h1.ret R1 (.int _)⟩
  · exact h1.elim
theorem snd_bits (ho : plainO a = true) {apos : Pos} (hl : (apos.endLine == pos.line) = true) (ha : Snd X ct Γ a A) : Snd X ct Γ (.Call (.Attribute a "bit_length" apos) [] [] pos) (.bits A) := by
  intro W ρ μ σ H M Q tk E R h
  unfold evalE at h
  refine we (pe_bits pE (base_plain ho) hl) ?_
  refine ha W ρ μ σ H M _ tk E R (h.step fun d μ1 v H1 M1 e1 R1 r1 h1 => ?_)
  split at h1
  · cases r1; exact ⟨_, rfl, h1.ret R1 (.int _)⟩
  · exact h1.elim
theorem snd_notv (ha : Snd X ct Γ a A) : Snd X ct Γ (.UnaryOp .Not a pos) (.notv (.val A)) := by
  intro W ρ μ σ H M Q tk E R h
  simp only [evalE, evalT] at h
  refine we (pe_notT pE) ?_
  refine ha W ρ μ σ H M _ tk E R ?_
  cases hA : evalE Γ A ρ μ with
  | stuck => rw [hA] at h; exact h.elim
  | err c fs μ' => rw [hA] at h; exact h
  | ok d μ' =>
    rw [hA] at h
    intro v H1 M1 e1 R1 r1
    have h1 : Ok X.K ct (RD X.K) M1 H1 ((truD μ' d μ').bind fun b μ => .ok (.bl (!b)) μ) Q _ := Ok.evo e1 h
    obtain ⟨k, t, et, q⟩ := tru_ok (ν := μ') (B := fun k H' => Q (.bl (!k)) H') R1 r1 (h1.step fun k μ2 v2 H2 M2 e2 R2 r2 h2 => by cases r2; exact h2.ret R2 (.bl _))
    exact ⟨k, t, q⟩
theorem snd_and {rest : List Expr} (ha : Snd X ct Γ a A) (hb : Snd X ct Γ (.BoolOp .And (b :: rest) pos) B) : Snd X ct Γ (.BoolOp .And (a :: b :: rest) pos) (.and A B) := by
  intro W ρ μ σ H M Q tk E R h
  unfold evalE at h
  refine we (pe_andT pE pE) ?_
  refine ha W ρ μ σ H M _ tk E R (h.step fun d μ1 v H1 M1 e1 R1 r1 h1 => ?_)
  have h2 : Ok X.K ct RB M1 H1 (truD μ1 d μ1) (fun k H' => if k = true then wE X (.BoolOp .And (b :: rest) pos) σ H' Q else Q v H') (fun c d H' => W c d σ H') := by
    refine h1.step fun k μ2 v2 H2 M2 e2 R2 r2 h2 => ?_
    cases r2
    cases k with
    | true => exact hb W ρ μ2 σ H2 M2 _ tk ((E.evo e1).evo e2) R2 h2
    | false => exact h2.ret R2 (r1.evo e2)
  obtain ⟨k, t, _, q⟩ := tru_ok (ν := μ1) R1 r1 h2
  exact ⟨k, t, q⟩
theorem snd_or {rest : List Expr} (ha : Snd X ct Γ a A) (hb : Snd X ct Γ (.BoolOp .Or (b :: rest) pos) B) : Snd X ct Γ (.BoolOp .Or (a :: b :: rest) pos) (.or A B) := by
  intro W ρ μ σ H M Q tk E R h
  unfold evalE at h
  refine we (pe_orT pE pE) ?_
  refine ha W ρ μ σ H M _ tk E R (h.step fun d μ1 v H1 M1 e1 R1 r1 h1 => ?_)
  have h2 : Ok X.K ct RB M1 H1 (truD μ1 d μ1) (fun k H' => if k = true then Q v H' else wE X (.BoolOp .Or (b :: rest) pos) σ H' Q) (fun c d H' => W c d σ H') := by
    refine h1.step fun k μ2 v2 H2 M2 e2 R2 r2 h2 => ?_
    cases r2
    cases k with
    | true => exact h2.ret R2 (r1.evo e2)
    | false => exact hb W ρ μ2 σ H2 M2 _ tk ((E.evo e1).evo e2) R2 h2
  obtain ⟨k, t, _, q⟩ := tru_ok (ν := μ1) R1 r1 h2
  exact ⟨k, t, q⟩
theorem snd_cmp {op : CmpOp} (F : Fr X ct tb Γ N sc) (hs : isSet b = false) (ha : Snd X ct Γ a A) (hb : Snd X ct Γ b B) : Snd X ct Γ (.Compare a [op] [b] pos) (.cmp (copOf op) A B) := by
  intro W ρ μ σ H M Q tk E R h
  unfold evalE at h
  refine we (pe_cmpR pO pE pE (set_marks hs)) ?_
  refine ha W ρ μ σ H M _ tk E R (h.step fun d μ1 v H1 M1 e1 R1 r1 h1 => ?_)
  refine hb W ρ μ1 σ H1 M1 _ tk (E.evo e1) R1 (h1.step fun d2 μ2 u H2 M2 e2 R2 r2 h2 => ?_)
  exact cmp_ok (B := fun k H' => Q (.bl k) H') F.g.units R2 (r1.evo e2) r2 (h2.step fun k μ3 v3 H3 M3 e3 R3 r3 h3 => by cases r3; exact h3.ret R3 (.bl _)) fun _ _ q => q
theorem chn_tail {op op' : CmpOp} {Qv : VK} (F : Fr X ct tb Γ N sc) {W : WX} {ρ : Rho} {μ : Mu} {σ : St} {H : Hp} {M : AM} (tk : Takes X W) (E : RelE X.K H M σ ρ) (R : RelH X.K ct H μ M) (ha : Snd X ct Γ a A) (hb : Snd X ct Γ b B) (hc : Snd X ct Γ c C')
    (h : Ok X.K ct (RD X.K) M H (evalE Γ (.chn (copOf op) (copOf op') A B C') ρ μ) Qv (fun c d H' => W c d σ H')) : tChain (wO X (compareOp op)) (wO X (compareOp op')) (wE X a) (wE X b) (wE X c) σ H Qv := by
  unfold evalE at h
  refine ha W ρ μ σ H M _ tk E R (h.step fun d μ1 v H1 M1 e1 R1 r1 h1 => ?_)
  refine hb W ρ μ1 σ H1 M1 _ tk (E.evo e1) R1 (h1.step fun d2 μ2 u H2 M2 e2 R2 r2 h2 => ?_)
  refine cmp_ok (B := fun k H' => ∃ k', V.bl k = .bl k' ∧ if k' = true then wE X c σ H' fun z H4 => wO X (compareOp op') u z H4 Qv else Qv (.bl false) H') F.g.units R2 (r1.evo e2) r2 (h2.step fun k μ3 v3 H3 M3 e3 R3 r3 h3 => ?_) fun k H' q => q
  cases r3
  refine ⟨_, rfl, ?_⟩
  cases k with
  | true =>
    refine hc W ρ μ3 σ H3 M3 _ tk (((E.evo e1).evo e2).evo e3) R3 (h3.step fun d4 μ4 z H4 M4 e4 R4 r4 h4 => ?_)
    exact cmp_ok (B := fun k H' => Qv (.bl k) H') F.g.units R4 ((r2.evo e3).evo e4) r4 (h4.step fun k μ5 v5 H5 M5 e5 R5 r5 h5 => by cases r5; exact h5.ret R5 (.bl _)) fun _ _ q => q
  | false => exact h3.ret R3 (.bl _)
theorem snd_chn {op op' : CmpOp} (F : Fr X ct tb Γ N sc) (hs : isSet c = false) (ha : Snd X ct Γ a A) (hb : Snd X ct Γ b B) (hc : Snd X ct Γ c C') : Snd X ct Γ (.Compare a [op, op'] [b, c] pos) (.chn (copOf op) (copOf op') A B C') := by
  intro W ρ μ σ H M Q tk E R h
  exact we (pe_chain pO pO pE pE pE (set_last hs)) (chn_tail F tk E R ha hb hc h)
theorem snd_ite {t : T} (hc : SndT X ct Γ c t) (ha : Snd X ct Γ a A) (hb : Snd X ct Γ b B) : Snd X ct Γ (.IfExp c a b pos) (.ite t A B) := by
  intro W ρ μ σ H M Q tk E R h
  unfold evalE at h
  refine we (pe_ifExp pT pE pE) ?_
  refine hc W ρ μ σ H M _ tk E R (h.step fun k μ1 v H1 M1 e1 R1 r1 h1 => ?_)
  cases r1
  cases k with
  | true => exact ha W ρ μ1 σ H1 M1 _ tk (E.evo e1) R1 h1
  | false => exact hb W ρ μ1 σ H1 M1 _ tk (E.evo e1) R1 h1
theorem snd_call {f : Str} {i k : Nat} (F : Fr X ct tb Γ N sc) (hd : okName f = true) (hg : glB sc f = true) (hf : tb.fns[i]? = some (f, k)) (hmt : tb.mets.lookup f = none) (hs : (e :: es).all (fun e => !star e) = true) (ha : SndA X ct Γ (e :: es) As) : Snd X ct Γ (.Call (.Name f apos) (e :: es) [] pos) (.call i As) := by
  intro W ρ μ σ H M Q tk E R h
  unfold evalE at h
  obtain ⟨k', ad, fd, ps, FO, hr, hm, hk, hb⟩ := F.g.call i f k hf hmt
  simp only [List.all_cons, Bool.and_eq_true, Bool.not_eq_true'] at hs
  refine we (pe_callSD (E := fun σ cls d H => W cls d σ H) FO hr (gl_of F hg) hm hk hb .nil (fun σ => passAt tk σ) pA (ok1 hd) (star_cons hs.1) (star_all hs.2)) ?_
  refine ha W ρ μ σ H M _ tk E R (h.step fun ds μ1 vs H1 M1 e1 R1 r1 h1 => ?_)
  rw [List.append_nil]
  refine ⟨ds, μ1, M1, ?_, R1, r1, h1⟩
  by_cases q : ds.length = k
  · rw [r1.length]; exact q
  · rw [F.g.ar i f k ds μ1 hf q] at h1; exact h1.elim
theorem bif_boot {f : Str} {b : Bif} (h : bifOf f = some b) : f ∈ bins ∧ bootBuiltins f = some (bifV b) := by
  unfold bifOf at h
  by_cases q0 : f = "len"
  · rw [if_pos q0] at h
    cases h
    rw [q0]
    exact ⟨by decide, by decide +kernel⟩
  rw [if_neg q0] at h
  by_cases q1 : f = "int"
  · rw [if_pos q1] at h
    cases h
    rw [q1]
    exact ⟨by decide, by decide +kernel⟩
  rw [if_neg q1] at h
  by_cases q2 : f = "str"
  · rw [if_pos q2] at h
    cases h
    rw [q2]
    exact ⟨by decide, by decide +kernel⟩
  rw [if_neg q2] at h
  by_cases q3 : f = "tuple"
  · rw [if_pos q3] at h
    cases h
    rw [q3]
    exact ⟨by decide, by decide +kernel⟩
  rw [if_neg q3] at h
  by_cases q4 : f = "list"
  · rw [if_pos q4] at h
    cases h
    rw [q4]
    exact ⟨by decide, by decide +kernel⟩
  rw [if_neg q4] at h
  by_cases q5 : f = "abs"
  · rw [if_pos q5] at h
    cases h
    rw [q5]
    exact ⟨by decide, by decide +kernel⟩
  rw [if_neg q5] at h
  by_cases q6 : f = "max"
  · rw [if_pos q6] at h
    cases h
    rw [q6]
    exact ⟨by decide, by decide +kernel⟩
  rw [if_neg q6] at h
  by_cases q7 : f = "min"
  · rw [if_pos q7] at h
    cases h
    rw [q7]
    exact ⟨by decide, by decide +kernel⟩
  rw [if_neg q7] at h
  by_cases q8 : f = "ord"
  · rw [if_pos q8] at h
    cases h
    rw [q8]
    exact ⟨by decide, by decide +kernel⟩
  rw [if_neg q8] at h
  by_cases q9 : f = "sum"
  · rw [if_pos q9] at h
    cases h
    rw [q9]
    exact ⟨by decide, by decide +kernel⟩
  rw [if_neg q9] at h
  by_cases q10 : f = "any"
  · rw [if_pos q10] at h
    cases h
    rw [q10]
    exact ⟨by decide, by decide +kernel⟩
  rw [if_neg q10] at h
  by_cases q11 : f = "all"
  · rw [if_pos q11] at h
    cases h
    rw [q11]
    exact ⟨by decide, by decide +kernel⟩
  rw [if_neg q11] at h
  by_cases q12 : f = "sorted"
  · rw [if_pos q12] at h
    cases h
    rw [q12]
    exact ⟨by decide, by decide +kernel⟩
  rw [if_neg q12] at h
  cases h
theorem snd_bif {f : Str} {b : Bif} (F : Fr X ct tb Γ N sc) (hd : okName f = true) (hg : glB sc f = true) (hf : bifOf f = some b) (hs : (e :: es).all (fun e => !star e) = true) (ha : SndA X ct Γ (e :: es) As) : Snd X ct Γ (.Call (.Name f apos) (e :: es) [] pos) (.bif b As) := by
  intro W ρ μ σ H M Q tk E R h
  unfold evalE at h
  obtain ⟨hb, hv⟩ := bif_boot hf
  simp only [List.all_cons, Bool.and_eq_true, Bool.not_eq_true'] at hs
  have go : wA X (e :: es) σ H fun vs H1 => wC X (bifV b) vs H1 Q :=
    ha W ρ μ σ H M _ tk E R (h.step fun ds μ1 vs H1 M1 e1 R1 r1 h1 => bif_ok F.calm R1 r1 h1)
  cases hbv : bifV b with
  | builtin id => rw [hbv] at hv go; exact we (pe_callB pC (gl_of F hg) (F.g.bi f hb) hv pA (ok3 hd) (ok1 hd) (star_cons hs.1) (star_all hs.2)) go
  | type T => rw [hbv] at hv go; exact we (pe_callTy pC (gl_of F hg) (F.g.bi f hb) hv pA (ok3 hd) (ok1 hd) (star_cons hs.1) (star_all hs.2)) go
  | _ => cases b <;> cases hbv
theorem ty_boot {f : Str} {t : Ty} (h : tyOf f = some t) : f ∈ bins ∧ bootBuiltins f = some (.type (tyN t)) := by
  unfold tyOf at h
  repeat' (split at h; · rename_i q; subst q; cases h; exact ⟨by decide, by decide +kernel⟩)
  cases h
theorem snd_isi {f : Str} {t : Ty} {p2 : Pos} (F : Fr X ct tb Γ N sc) (hg : glB sc "isinstance" = true) (hd : okName f = true) (hgt : glB sc f = true) (hf : tyOf f = some t) (hs : star a = false) (ha : Snd X ct Γ a A) : Snd X ct Γ (.Call (.Name "isinstance" apos) [a, .Name f p2] [] pos) (.isi A t) := by
  intro W ρ μ σ H M Q tk E R h
  unfold evalE at h
  obtain ⟨hb, hv⟩ := ty_boot hf
  have pt : PE X (.Name f p2) (tC (.ty (tyN t))) := pe_bltn (gl_of F hgt) (F.g.bi f hb) hv rfl (ok3 hd) (ok1 hd)
  refine we (pe_callB (id := "isinstance") pC (gl_of F hg) (F.g.bi _ (by decide)) (by decide +kernel) (pa_cons pE (pa_cons pt pa_nil) (star_cons hs)) (by decide) (by decide) (star_cons hs) rfl) ?_
  refine ha W ρ μ σ H M _ tk E R (h.step fun d μ1 v H1 M1 e1 R1 r1 h1 => ?_)
  exact isi_ok R1 r1 h1
theorem met_boot {f : Str} {m : Met} (h : metOf f = some m) : PlainAttrs (metT m) ∧ Slot (metT m) f (metI m) ∧ typeOf (.builtin (metI m)) = pure (.type "method_descriptor") := by
  unfold metOf at h
  by_cases q0 : f = "append"
  · rw [if_pos q0] at h
    cases h
    rw [q0]
    exact ⟨F.plainAttrs_list, F.slot_list_append, F.type_list_append⟩
  rw [if_neg q0] at h
  by_cases q1 : f = "join"
  · rw [if_pos q1] at h
    cases h
    rw [q1]
    exact ⟨F.plainAttrs_str, F.slot_str_join, F.type_str_join⟩
  rw [if_neg q1] at h
  by_cases q2 : f = "find"
  · rw [if_pos q2] at h
    cases h
    rw [q2]
    exact ⟨F.plainAttrs_str, F.slot_str_find, F.type_str_find⟩
  rw [if_neg q2] at h
  by_cases q3 : f = "isascii"
  · rw [if_pos q3] at h
    cases h
    rw [q3]
    exact ⟨F.plainAttrs_str, F.slot_str_isascii, F.type_str_isascii⟩
  rw [if_neg q3] at h
  by_cases q4 : f = "isprintable"
  · rw [if_pos q4] at h
    cases h
    rw [q4]
    exact ⟨F.plainAttrs_str, F.slot_str_isprintable, F.type_str_isprintable⟩
  rw [if_neg q4] at h
  by_cases q5 : f = "split"
  · rw [if_pos q5] at h
    cases h
    rw [q5]
    exact ⟨F.plainAttrs_str, F.slot_str_split, F.type_str_split⟩
  rw [if_neg q5] at h
  by_cases q6 : f = "isdigit"
  · rw [if_pos q6] at h
    cases h
    rw [q6]
    exact ⟨F.plainAttrs_str, F.slot_str_isdigit, F.type_str_isdigit⟩
  rw [if_neg q6] at h
  by_cases q7 : f = "isalpha"
  · rw [if_pos q7] at h
    cases h
    rw [q7]
    exact ⟨F.plainAttrs_str, F.slot_str_isalpha, F.type_str_isalpha⟩
  rw [if_neg q7] at h
  by_cases q8 : f = "islower"
  · rw [if_pos q8] at h
    cases h
    rw [q8]
    exact ⟨F.plainAttrs_str, F.slot_str_islower, F.type_str_islower⟩
  rw [if_neg q8] at h
  by_cases q9 : f = "startswith"
  · rw [if_pos q9] at h
    cases h
    rw [q9]
    exact ⟨F.plainAttrs_str, F.slot_str_startswith, F.type_str_startswith⟩
  rw [if_neg q9] at h
  by_cases q10 : f = "endswith"
  · rw [if_pos q10] at h
    cases h
    rw [q10]
    exact ⟨F.plainAttrs_str, F.slot_str_endswith, F.type_str_endswith⟩
  rw [if_neg q10] at h
  by_cases q11 : f = "extend"
  · rw [if_pos q11] at h
    cases h
    rw [q11]
    exact ⟨F.plainAttrs_list, F.slot_list_extend, F.type_list_extend⟩
  rw [if_neg q11] at h
  by_cases q12 : f = "index"
  · rw [if_pos q12] at h
    cases h
    rw [q12]
    exact ⟨F.plainAttrs_list, F.slot_list_index, F.type_list_index⟩
  rw [if_neg q12] at h
  cases h
theorem snd_met {f : Str} {m : Met} (ho : plainO o = true) (hl : (apos.endLine == pos.line) = true) (hn : args.length < 30) (hf : metOf f = some m) (hs : args.all (fun e => !star e) = true) (hnil : args = [] → As = .nil) (hO : Snd X ct Γ o A) (ha : SndA X ct Γ args As) : Snd X ct Γ (.Call (.Attribute o f apos) args [] pos) (.met m A As) := by
  intro W ρ μ σ H M Q tk E R h
  unfold evalE at h
  obtain ⟨b1, b2, b3⟩ := met_boot hf
  cases args with
  | nil =>
    refine we (pe_bm0 b1 b2 b3 pM pE (base_plain ho) hl) ?_
    refine hO W ρ μ σ H M _ tk E R (h.step fun d μ1 v H1 M1 e1 R1 r1 h1 => ?_)
    obtain ⟨ht, h1⟩ := h1.needs
    refine ⟨met_ty R1 r1 ht, ?_⟩
    rw [hnil rfl] at h1
    exact met_ok R1 r1 .nil (h1 : Ok X.K ct (RD X.K) M1 H1 (metD m d [] μ1) Q _)
  | cons e es =>
    simp only [List.all_cons, Bool.and_eq_true, Bool.not_eq_true'] at hs
    refine we (pe_bm b1 b2 b3 pM pE pA (base_plain ho) ?_ hl (star_cons hs.1) (star_all hs.2)) ?_
    · rw [star_all' (by simp only [List.all_cons, Bool.and_eq_true, Bool.not_eq_true']; exact hs)]
      simp only [Bool.true_and]
      show (([] : List (Option Str × Sem Value)).all _ && decide _) = true
      simp only [List.all_nil, Bool.true_and, decide_eq_true_eq]
      simpa using hn
    refine hO W ρ μ σ H M _ tk E R (h.step fun d μ1 v H1 M1 e1 R1 r1 h1 => ?_)
    obtain ⟨ht, h1⟩ := h1.needs
    refine ⟨met_ty R1 r1 ht, ?_⟩
    refine ha W ρ μ1 σ H1 M1 _ tk (E.evo e1) R1 (h1.step fun ds μ2 vs H2 M2 e2 R2 r2 h2 => ?_)
    exact met_ok R2 (r1.evo e2) r2 h2
theorem snd_tr37 {ks : List (Option Expr)} {vs : List Expr} {dpos : Pos} (F : Fr X ct tb Γ N sc) (ho : plainO o = true) (hl : (apos.endLine == pos.line) = true) (ht : litTab ks vs = true) (hO : Snd X ct Γ o A) : Snd X ct Γ (.Call (.Attribute o "translate" apos) [.Dict ks vs dpos] [] pos) (.tr37 A) := by
  intro W ρ μ σ H M Q tk E R h
  unfold evalE at h
  unfold litTab at ht
  split at ht
  · refine we (pe_bm PySem.F.plainAttrs_str PySem.F.slot_str_translate PySem.F.type_str_translate (mt_tr37 F.calm) pE (pa_cons (pe_disp (pps_cons pe_int pe_non pps_nil) rfl rfl (fun z => by cases z) (by show 1 ≤ 15; decide)) pa_nil) (base_plain ho) rfl hl rfl rfl) ?_
    refine hO W ρ μ σ H M _ tk E R (h.step fun d μ1 v H1 M1 e1 R1 r1 h1 => ?_)
    unfold tr37D at h1
    split at h1
    · cases r1
      obtain ⟨⟨hz, hf⟩, h1⟩ := h1.needs
      refine ⟨rfl, fun p hp => ?_⟩
      refine ⟨upd_same, [(.inl 37, .non)], rfl, by decide, ?_⟩
      have e2 : Evo M1 H1 M1 (upd (upd H1 p (.dK [])) p (.dK (mergeK [] [(.inl 37, .non)]))) := by rw [upd_upd]; exact Evo.new hp
      refine ⟨_, p, rfl, rfl, upd_same, hz, hf, ?_⟩
      exact h1 _ _ M1 e2 (by rw [upd_upd]; exact R1.new hp) (.str _)
    · exact h1.elim
  · cases ht
theorem snd_idx (F : Fr X ct tb Γ N sc) (hs : isSlc b = false) (ha : Snd X ct Γ a A) (hb : Snd X ct Γ b B) : Snd X ct Γ (.Subscript a b pos) (.idx A B) := by
  intro W ρ μ σ H M Q tk E R h
  unfold evalE at h
  cases hA : evalE Γ A ρ μ with
  | stuck => rw [hA] at h; exact h.elim
  | err c fs μ' =>
    refine we (pe_ix ix_seq pE pE (slc_plain hs)) (ha W ρ μ σ H M _ tk E R ?_)
    rw [hA] at h ⊢; exact h
  | ok d μ1 =>
    rw [hA] at h
    have h : Ok X.K ct (RD X.K) M H ((evalE Γ B ρ μ1).bind fun y μ => idxA d y μ) Q (fun c d H' => W c d σ H') := h
    cases hB : evalE Γ B ρ μ1 with
    | stuck => rw [hB] at h; exact h.elim
    | err c fs μ' =>
      refine we (pe_ix ix_seq pE pE (slc_plain hs)) (ha W ρ μ σ H M _ tk E R ?_)
      rw [hA]
      intro v H1 M1 e1 R1 r1
      refine hb W ρ μ1 σ H1 M1 _ tk (E.evo e1) R1 ?_
      rw [hB] at h ⊢
      exact Ok.evo e1 h
    | ok d2 μ2 =>
      rw [hB] at h
      have h : Ok X.K ct (RD X.K) M H (idxA d d2 μ2) Q (fun c d H' => W c d σ H') := h
      cases hg : getDic μ2 d d2 with
      | none =>
        refine we (pe_ix ix_seq pE pE (slc_plain hs)) (ha W ρ μ σ H M _ tk E R ?_)
        rw [hA]
        intro v H1 M1 e1 R1 r1
        refine hb W ρ μ1 σ H1 M1 _ tk (E.evo e1) R1 ?_
        rw [hB]
        intro u H2 M2 e2 R2 r2
        have h2 := Ok.evo (e1.trans e2) h
        unfold idxA at h2
        rw [hg] at h2
        exact idx_ok R2 (r1.evo e2) r2 h2
      | some r =>
        refine we (pe_dget (by have := F.g.units; omega) pE pE (slc_plain hs)) (ha W ρ μ σ H M _ tk E R ?_)
        rw [hA]
        intro v H1 M1 e1 R1 r1
        refine hb W ρ μ1 σ H1 M1 _ tk (E.evo e1) R1 ?_
        rw [hB]
        intro u H2 M2 e2 R2 r2
        have h2 := Ok.evo (e1.trans e2) h
        unfold idxA at h2
        rw [hg] at h2
        obtain ⟨ad, ov, rfl, g, ro⟩ := getDic_ok R2 (r1.evo e2) r2 hg
        cases r with
        | none => exact (h2 : False).elim
        | some dd =>
          obtain ⟨vv, rfl, rv⟩ := ro
          exact ⟨ad, vv, rfl, g, Ok.ret (μ := μ2) h2 R2 rv⟩
theorem m1_of {o k : Expr} {m : Str} (ho : plainO o = true) (hl : (apos.endLine == pos.line) = true) (h1 : star k = false) : M1 X o m apos k pos := by
  have hst : starEach [k] X.env = [(false, eval k X.env)] := by rw [star_cons h1]; rfl
  exact ⟨base_plain ho, by rw [hst]; rfl, hl, by rw [hst]; rfl⟩
theorem m2_of {o k d : Expr} {m : Str} (ho : plainO o = true) (hl : (apos.endLine == pos.line) = true) (h1 : star k = false) (h2 : star d = false) : M2 X o m apos k d pos := by
  have hst : starEach [k, d] X.env = [(false, eval k X.env), (false, eval d X.env)] := by rw [star_cons h1, star_cons h2]; rfl
  exact ⟨base_plain ho, by rw [hst]; rfl, hl, by rw [hst]; rfl⟩
theorem snd_get1 {k : Expr} (F : Fr X ct tb Γ N sc) (ho : plainO o = true) (hl : (apos.endLine == pos.line) = true) (h1 : star k = false) (ha : Snd X ct Γ o A) (hb : Snd X ct Γ k B) : Snd X ct Γ (.Call (.Attribute o "get" apos) [k] [] pos) (.get1 A B) := by
  intro W ρ μ σ H M Q tk E R h
  unfold evalE at h
  refine we (pe_dget1 (by have := F.g.units; omega) pE pE (m1_of ho hl h1)) ?_
  refine ha W ρ μ σ H M _ tk E R (h.step fun d μ1 v H1 M1 e1 R1 r1 h1 => ?_)
  obtain ⟨hd, h1⟩ := h1.needs
  obtain ⟨ad, rfl, isd⟩ := isDic_ok R1 r1 hd
  refine ⟨ad, rfl, isd, ?_⟩
  refine hb W ρ μ1 σ H1 M1 _ tk (E.evo e1) R1 (h1.step fun d2 μ2 u H2 M2 e2 R2 r2 h2 => ?_)
  split at h2
  · rename_i r hg
    obtain ⟨ad', ov, e, g, ro⟩ := getDic_ok R2 (r1.evo e2) r2 hg
    cases e
    refine ⟨ov, g, ?_⟩
    cases r with
    | none => rw [show ov = none from ro]; exact h2.ret R2 .non
    | some dd => obtain ⟨vv, rfl, rv⟩ := ro; exact h2.ret R2 rv
  · exact h2.elim
theorem snd_get2 {k d : Expr} (F : Fr X ct tb Γ N sc) (ho : plainO o = true) (hl : (apos.endLine == pos.line) = true) (h1 : star k = false) (h2 : star d = false) (ha : Snd X ct Γ o A) (hb : Snd X ct Γ k B) (hc : Snd X ct Γ d C') : Snd X ct Γ (.Call (.Attribute o "get" apos) [k, d] [] pos) (.get2 A B C') := by
  intro W ρ μ σ H M Q tk E R h
  unfold evalE at h
  refine we (Nw.pe_dget2S (by have := F.g.units; omega) pE pE pE (m2_of ho hl h1 h2)) ?_
  refine ha W ρ μ σ H M _ tk E R (h.step fun d μ1 v H1 M1 e1 R1 r1 h1 => ?_)
  obtain ⟨hd, h1⟩ := h1.needs
  obtain ⟨ad, rfl, isd⟩ := isDic_ok R1 r1 hd
  refine ⟨ad, rfl, isd, ?_⟩
  refine hb W ρ μ1 σ H1 M1 _ tk (E.evo e1) R1 (h1.step fun d2 μ2 u H2 M2 e2 R2 r2 h2 => ?_)
  refine hc W ρ μ2 σ H2 M2 _ tk ((E.evo e1).evo e2) R2 (h2.step fun d3 μ3 z H3 M3 e3 R3 r3 h3 => ?_)
  split at h3
  · rename_i r hg
    obtain ⟨ad', ov, e, g, ro⟩ := getDicS_ok R3 ((r1.evo e2).evo e3) (r2.evo e3) hg
    cases e
    refine ⟨ov, g, ?_⟩
    cases r with
    | none => rw [show ov = none from ro]; exact h3.ret R3 r3
    | some dd => obtain ⟨vv, rfl, rv⟩ := ro; exact h3.ret R3 rv
  · exact h3.elim
/-- a new object of ours -/
theorem Ok.own {K : PySem.W.Frag} {μ : Mu} {H : Hp} {M : AM} {Q : VK} {W' : XK} {mo : MO} {u : HO} (h : Ok K ct (RD K) M H (.ok (.ref μ.length) (μ ++ [mo])) Q W') (R : RelH K ct H μ M) {p : Addr} (hp : H p = none) (hm : MRep K ct (upd H p u) (M.add p) p mo) : Q (.ref p) (upd H p u) := by
  have hR := (R.hide (o := u) hp).takeIn (R.fresh hp).2 hm
  refine h (.ref p) _ (M.add p) (Evo.own hp) hR (.ref ?_)
  show (M.ix ++ [p])[μ.length]? = some p
  rw [← R.len, List.getElem?_append_right (Nat.le_refl _), Nat.sub_self]; rfl
theorem snd_dnewK : Snd X ct Γ (.Dict [] [] pos) (.dnew false) := by
  intro W ρ μ σ H M Q tk E R h
  unfold evalE at h
  exact we pe_dnewK fun p hp => Ok.own (μ := μ) h R hp ⟨[], upd_same, .nil⟩
theorem snd_dnewT : Snd X ct Γ (.Dict [] [] pos) (.dnew true) := by
  intro W ρ μ σ H M Q tk E R h
  unfold evalE at h
  exact we pe_dnewT fun p hp => Ok.own (μ := μ) h R hp ⟨[], upd_same, .nil⟩
theorem snd_revs {k : Nat} {p1 p2 p3 : Pos} (ha : Snd X ct Γ a A) : Snd X ct Γ (.Subscript a (.Slice none none (some (.UnaryOp .USub (.Constant (.int 1) k p1) p2)) p3) pos) (.revs A) := by
  intro W ρ μ σ H M Q tk E R h
  unfold evalE at h
  refine we (Nw.pe_revA pE) ?_
  refine ha W ρ μ σ H M _ tk E R (h.step fun d μ1 v H1 M1 e1 R1 r1 h1 => ?_)
  exact rev_ok R1 r1 h1
theorem kd_in {g : Nat} {z : Str} {d : Addr} {es : Array DictEntry} {n : Nat} {neg : Bool} {l : List (Str × D)} {Q : VK} {H : Hp} (D1 : KDict X.K X.w d es n) (D2 : ∀ z, match l.lookup z with
    | none => PySem.W.nsIn X.K d z = some none
    | some dd => ∃ u v, PySem.W.nsIn X.K d z = some (some u) ∧ RelV v u ∧ ∀ H M, Rep X.K H M v dd) (q : Q (.bl (if neg then !(l.lookup z).isSome else (l.lookup z).isSome)) H) : wO X (compareOp (if neg then .NotIn else .In)) (.str z) (.ref d) H Q := by
  have h := D2 z
  cases hz : l.lookup z with
  | none =>
    rw [hz] at h q
    cases neg with
    | false => exact wo (op_in_kd D1) ⟨z, _, rfl, rfl, h, q⟩
    | true => exact wo (op_notIn_kd D1) ⟨z, _, rfl, rfl, h, q⟩
  | some dd =>
    rw [hz] at h q
    obtain ⟨u, v, h1, _, _⟩ := h
    cases neg with
    | false => exact wo (op_in_kd D1) ⟨z, _, rfl, rfl, h1, q⟩
    | true => exact wo (op_notIn_kd D1) ⟨z, _, rfl, rfl, h1, q⟩
theorem snd_gin {g : Nat} {neg : Bool} {x : Str} {p2 : Pos} (F : Fr X ct tb Γ N sc) (hd : okName x = true) (hg : glB sc x = true) (hi : tb.dics[g]? = some x) (ha : Snd X ct Γ a A) : Snd X ct Γ (.Compare a [if neg then .NotIn else .In] [.Name x p2] pos) (.gin neg g A) := by
  intro W ρ μ σ H M Q tk E R h
  unfold evalE at h
  obtain ⟨d, hm, es, n, D1, D2⟩ := F.g.dic g x hi
  refine we (pe_cmpR pO pE (pe_glob (v := .ref d) (gl_of F hg) hm rfl (ok1 hd)) (set_marks rfl)) ?_
  refine ha W ρ μ σ H M _ tk E R (h.step fun dd μ1 v H1 M1 e1 R1 r1 h1 => ?_)
  split at h1
  · cases r1
    exact kd_in (g := g) D1 D2 (h1.ret R1 (.bl _))
  · exact h1.elim
theorem sndT_gin {g : Nat} {neg : Bool} {x : Str} {p2 : Pos} (F : Fr X ct tb Γ N sc) (hd : okName x = true) (hg : glB sc x = true) (hi : tb.dics[g]? = some x) (ha : Snd X ct Γ a A) : SndT X ct Γ (.Compare a [if neg then .NotIn else .In] [.Name x p2] pos) (.val (.gin neg g A)) := by
  intro W ρ μ σ H M Q tk E R h
  simp only [evalT, evalE] at h
  obtain ⟨d, hm, es, n, D1, D2⟩ := F.g.dic g x hi
  refine wt (pt_cmpR pO pE (pe_glob (v := .ref d) (gl_of F hg) hm rfl (ok1 hd)) (set_marks rfl)) ?_
  have assoc : ∀ {α β γ : Type} (r : Res α) (f : α → Mu → Res β) (g : β → Mu → Res γ), (r.bind f).bind g = r.bind fun x μ => (f x μ).bind g := fun r f g => by cases r <;> rfl
  rw [assoc] at h
  refine ha W ρ μ σ H M _ tk E R (h.step fun dd μ1 v H1 M1 e1 R1 r1 h1 => ?_)
  cases r1 with
  | str z => exact kd_in (g := g) D1 D2 ⟨_, rfl, Ok.ret (μ := μ1) h1 R1 rfl⟩
  | _ => exact (h1 : False).elim
theorem snd_gdict {g : Nat} {x : Str} {p2 : Pos} (F : Fr X ct tb Γ N sc) (hs : isSlc a = false) (hd : okName x = true) (hg : glB sc x = true) (hi : tb.dics[g]? = some x) (ha : Snd X ct Γ a A) : Snd X ct Γ (.Subscript (.Name x p2) a pos) (.gdict g A) := by
  intro W ρ μ σ H M Q tk E R h
  unfold evalE at h
  obtain ⟨d, hm, es, n, D1, D2⟩ := F.g.dic g x hi
  refine we (pe_ix ix_kdict (pe_glob (v := .ref d) (gl_of F hg) hm rfl (ok1 hd)) pE (slc_plain hs)) ?_
  refine ha W ρ μ σ H M _ tk E R (h.step fun dd μ1 v H1 M1 e1 R1 r1 h1 => ?_)
  split at h1
  · next z =>
    cases r1
    split at h1
    · next d2 hz =>
      have q := D2 z
      rw [hz] at q
      obtain ⟨u, v, q1, q2, q3⟩ := q
      exact ⟨d, z, v, rfl, rfl, ⟨es, n, u, D1.at_, D1.lit, q1, q2⟩, h1.ret R1 (q3 _ _)⟩
    · exact h1.elim
  · exact h1.elim
theorem sndO_none : SndO X ct Γ none .none := ⟨_, po_none, fun W ρ μ σ H M Q tk E R h => Ok.ret (μ := μ) h R rfl⟩
theorem sndO_some (ha : Snd X ct Γ a A) : SndO X ct Γ (some a) (.some A) := ⟨_, po_some pE, fun W ρ μ σ H M Q tk E R h => by
  unfold evalO at h
  refine ha W ρ μ σ H M _ tk E R (h.step fun d μ1 v H1 M1 e1 R1 r1 h1 => ?_)
  split at h1
  · cases r1; exact ⟨_, rfl, h1.ret R1 rfl⟩
  · exact h1.elim⟩
theorem snd_slc {lo hi : Option Expr} {L U : O} {p2 : Pos} (ha : Snd X ct Γ a A) (hl : SndO X ct Γ lo L) (hh : SndO X ct Γ hi U) : Snd X ct Γ (.Subscript a (.Slice lo hi none p2) pos) (.slc A L U) := by
  intro W ρ μ σ H M Q tk E R h
  unfold evalE at h
  obtain ⟨tl, pl, sl⟩ := hl
  obtain ⟨th, ph, sh⟩ := hh
  refine we (pe_slice sl_any pE pl ph) ?_
  refine ha W ρ μ σ H M _ tk E R (h.step fun d μ1 v H1 M1 e1 R1 r1 h1 => ?_)
  refine sl W ρ μ1 σ H1 M1 _ tk (E.evo e1) R1 (h1.step fun l μ2 u H2 M2 e2 R2 r2 h2 => ?_)
  cases r2
  refine sh W ρ μ2 σ H2 M2 _ tk ((E.evo e1).evo e2) R2 (h2.step fun l μ3 u H3 M3 e3 R3 r3 h3 => ?_)
  cases r3
  exact slc_ok R3 ((r1.evo e2).evo e3) h3
theorem snd_tup {k : Nat} (ha : SndA X ct Γ es As) : Snd X ct Γ (.Tuple es k pos) (.tup As) := by
  intro W ρ μ σ H M Q tk E R h
  unfold evalE at h
  refine we (pe_tup pA) ?_
  refine ha W ρ μ σ H M _ tk E R (h.step fun ds μ1 vs H1 M1 e1 R1 r1 h1 => ?_)
  obtain ⟨hz, h1⟩ := h1.needs
  exact ⟨sl16 (by rw [r1.length]; exact hz), fun p hp => h1.newT R1 r1 hp⟩
theorem snd_lst (ha : SndA X ct Γ es As) : Snd X ct Γ (.List es pos) (.lst As) := by
  intro W ρ μ σ H M Q tk E R h
  unfold evalE at h
  refine we (pe_lst pA) ?_
  refine ha W ρ μ σ H M _ tk E R (h.step fun ds μ1 vs H1 M1 e1 R1 r1 h1 => ?_)
  obtain ⟨hz, h1⟩ := h1.needs
  exact ⟨sl16 (by rw [r1.length]; exact hz), fun p hp => h1.newL R1 r1 hp⟩
/-- each of the expressions -/
inductive SndL (X : Cx) (ct : CTab) (Γ : G) : List Expr → Es → Prop
  | nil : SndL X ct Γ [] .nil
  | cons {e : Expr} {A : E} {es : List Expr} {As : Es} : Snd X ct Γ e A → SndL X ct Γ es As → SndL X ct Γ (e :: es) (.cons A As)
theorem snd_fmt (ha : Snd X ct Γ a A) : Snd X ct Γ (.FormattedValue a (-1) none pos) (.fmt A) := by
  intro W ρ μ σ H M Q tk E R h
  unfold evalE at h
  refine we (pe_fmt pE) ?_
  refine ha W ρ μ σ H M _ tk E R (h.step fun d μ1 v H1 M1 e1 R1 r1 h1 => ?_)
  split at h1
  · cases r1
    exact .inl ⟨_, rfl, sl16 h1.needs.1, h1.needs.2.ret R1 (.str _)⟩
  · cases r1
    exact .inr ⟨_, rfl, h1.needs.1, h1.needs.2.ret R1 (.str _)⟩
  · exact h1.elim
theorem pj_all {X : Cx} : ∀ es : List Expr, PJ X es (es.map (wE X))
  | [] => .nil
  | _ :: es => .cons pE (pj_all es)
theorem tjs_ok {W : WX} {ρ : Rho} (tk : Takes X W) {Q : VK} {es : List Expr} {As : Es} (hs : SndL X ct Γ es As) : ∀ {acc : Str} {μ : Mu} {σ : St} {H : Hp} {M : AM}, RelE X.K H M σ ρ → RelH X.K ct H μ M →
    Ok X.K ct (RD X.K) M H (evalJ Γ As acc ρ μ) Q (fun c d H' => W c d σ H') → tJs (es.map (wE X)) acc σ H (fun out H1 => Q (.str out) H1) := by
  induction hs with
  | nil =>
    intro acc μ σ H M E R h
    exact Ok.ret (μ := μ) h R (.str _)
  | cons ha hr ih =>
    intro acc μ σ H M E R h
    unfold evalJ at h
    refine ha W ρ μ σ H M _ tk E R (h.step fun d μ1 v H1 M1 e1 R1 r1 h1 => ?_)
    split at h1
    · cases r1
      exact ⟨_, rfl, sl16 h1.needs.1, ih (E.evo e1) R1 h1.needs.2⟩
    · exact h1.elim
theorem snd_fs {rest : List Expr} (hs : SndL X ct Γ (a :: b :: rest) As) : Snd X ct Γ (.JoinedStr (a :: b :: rest) pos) (.fs As) := by
  intro W ρ μ σ H M Q tk E R h
  unfold evalE at h
  exact we (pe_joined (pj_all _)) (tjs_ok tk hs E R h)
theorem snd_fs1 (ha : Snd X ct Γ a A) : Snd X ct Γ (.JoinedStr [a] pos) A := by
  intro W ρ μ σ H M Q tk E R h
  exact we (pe_joined1 pE) (ha W ρ μ σ H M _ tk E R h)
theorem sndA_nil : SndA X ct Γ [] .nil := by
  intro W ρ μ σ H M Q tk E R h
  exact wa pa_nil (Ok.ret (μ := μ) h R .nil)
theorem sndA_cons (hs : star e = false) (ha : Snd X ct Γ e A) (hr : SndA X ct Γ es As) : SndA X ct Γ (e :: es) (.cons A As) := by
  intro W ρ μ σ H M Q tk E R h
  unfold evalEs at h
  refine wa (pa_cons pE pA (star_cons hs)) ?_
  refine ha W ρ μ σ H M _ tk E R (h.step fun d μ1 v H1 M1 e1 R1 r1 h1 => ?_)
  refine hr W ρ μ1 σ H1 M1 _ tk (E.evo e1) R1 (h1.step fun ds μ2 vs H2 M2 e2 R2 r2 h2 => ?_)
  exact h2.ret R2 (.cons (r1.evo e2) r2)
/-! tests -/
theorem sndT_val (hp : plainT e = true) (ha : Snd X ct Γ e A) : SndT X ct Γ e (.val A) := by
  intro W ρ μ σ H M Q tk E R h
  unfold evalT at h
  refine wt (pt_truth pE (true_plain hp)) ?_
  refine ha W ρ μ σ H M _ tk E R (h.step fun d μ1 v H1 M1 e1 R1 r1 h1 => ?_)
  obtain ⟨k, t, _, q⟩ := tru_ok (ν := μ1) R1 r1 h1
  exact ⟨k, t, q⟩
theorem bl_of {d : D} {μ1 : Mu} {v : V} {H1 : Hp} {M1 : AM} {k : Bool} {W' : XK} {Q : Bool → Hp → Prop} (R1 : RelH X.K ct H1 μ1 M1) (h1 : Ok X.K ct RB M1 H1 (truD μ1 (.bl k) μ1) Q W') : Q k H1 := h1.ret R1 rfl
theorem sndT_cmp {op : CmpOp} (F : Fr X ct tb Γ N sc) (hs : isSet b = false) (ha : Snd X ct Γ a A) (hb : Snd X ct Γ b B) : SndT X ct Γ (.Compare a [op] [b] pos) (.val (.cmp (copOf op) A B)) := by
  intro W ρ μ σ H M Q tk E R h
  simp only [evalT, evalE] at h
  refine wt (pt_cmpR pO pE pE (set_marks hs)) ?_
  have assoc : ∀ {α β γ : Type} (r : Res α) (f : α → Mu → Res β) (g : β → Mu → Res γ), (r.bind f).bind g = r.bind fun x μ => (f x μ).bind g := fun r f g => by cases r <;> rfl
  simp only [assoc] at h
  refine ha W ρ μ σ H M _ tk E R (h.step fun d μ1 v H1 M1 e1 R1 r1 h1 => ?_)
  refine hb W ρ μ1 σ H1 M1 _ tk (E.evo e1) R1 (h1.step fun d2 μ2 u H2 M2 e2 R2 r2 h2 => ?_)
  exact cmp_ok (B := fun k H' => ∃ k', V.bl k = .bl k' ∧ Q k' H') F.g.units R2 (r1.evo e2) r2 (h2.step fun k μ3 v3 H3 M3 e3 R3 r3 h3 => by cases r3; exact ⟨_, rfl, Ok.ret (μ := μ3) h3 R3 rfl⟩) fun _ _ q => q
theorem sndT_chn {op op' : CmpOp} (F : Fr X ct tb Γ N sc) (hs : isSet c = false) (ha : Snd X ct Γ a A) (hb : Snd X ct Γ b B) (hc : Snd X ct Γ c C') : SndT X ct Γ (.Compare a [op, op'] [b, c] pos) (.val (.chn (copOf op) (copOf op') A B C')) := by
  intro W ρ μ σ H M Q tk E R h
  unfold evalT at h
  refine wt (pt_chain pO pO pE pE pE (set_last hs)) ?_
  refine chn_tail F (Qv := fun x H' => ∃ k, x = .bl k ∧ Q k H') tk E R ha hb hc ?_
  -- the value is a bool
  have bl : ∀ d μ', evalE Γ (.chn (copOf op) (copOf op') A B C') ρ μ = .ok d μ' → ∃ k, d = .bl k := by
    intro d μ' q
    simp only [evalE] at q
    cases h1 : evalE Γ A ρ μ <;> rw [h1] at q <;> simp only [Res.bind, reduceCtorEq] at q
    rename_i x μ1
    cases h2 : evalE Γ B ρ μ1 <;> rw [h2] at q <;> simp only [reduceCtorEq] at q
    rename_i y μ2
    cases h3 : cmpD (copOf op) x y μ2 <;> rw [h3] at q <;> simp only [reduceCtorEq] at q
    rename_i k μ3
    cases k with
    | false => simp only [Bool.false_eq_true, if_false, Res.ok.injEq] at q; exact ⟨_, q.1.symm⟩
    | true =>
      simp only [if_true] at q
      cases h4 : evalE Γ C' ρ μ3 <;> rw [h4] at q <;> simp only [reduceCtorEq] at q
      rename_i z μ4
      cases h5 : cmpD (copOf op') y z μ4 <;> rw [h5] at q <;> simp only [reduceCtorEq, Res.ok.injEq] at q
      exact ⟨_, q.1.symm⟩
  cases hA : evalE Γ (.chn (copOf op) (copOf op') A B C') ρ μ with
  | stuck => rw [hA] at h; exact h.elim
  | err c fs μ' => rw [hA] at h; exact h
  | ok d μ' =>
    obtain ⟨k, rfl⟩ := bl d μ' hA
    rw [hA] at h
    intro v H' M' e' R' r'
    cases r'
    exact ⟨k, rfl, Ok.ret (μ := μ') (Ok.evo e' h) R' rfl⟩
theorem sndT_not {t : T} (ha : SndT X ct Γ a t) : SndT X ct Γ (.UnaryOp .Not a pos) (.not t) := by
  intro W ρ μ σ H M Q tk E R h
  unfold evalT at h
  refine wt (pt_not pT) ?_
  refine ha W ρ μ σ H M _ tk E R (h.step fun k μ1 v H1 M1 e1 R1 r1 h1 => ?_)
  cases r1
  exact h1.ret R1 rfl
theorem sndT_w {t : T} (ha : SndW X ct Γ e t) : SndT X ct Γ e t := by
  intro W ρ μ σ H M Q tk E R h
  exact wt (pW.pt) (ha W ρ μ σ H M Q tk E R h)
theorem sndW_and1 {t : T} (ha : SndT X ct Γ a t) : SndW X ct Γ (.BoolOp .And [a] pos) t := by
  intro W ρ μ σ H M Q tk E R h
  exact ww (pw_and1 pT) (ha W ρ μ σ H M Q tk E R h)
theorem sndW_or1 {t : T} (ha : SndT X ct Γ a t) : SndW X ct Γ (.BoolOp .Or [a] pos) t := by
  intro W ρ μ σ H M Q tk E R h
  exact ww (pw_or1 pT) (ha W ρ μ σ H M Q tk E R h)
theorem sndW_and {t u : T} {rest : List Expr} (ha : SndT X ct Γ a t) (hb : SndW X ct Γ (.BoolOp .And (b :: rest) pos) u) : SndW X ct Γ (.BoolOp .And (a :: b :: rest) pos) (.and t u) := by
  intro W ρ μ σ H M Q tk E R h
  unfold evalT at h
  refine ww (pw_and pT pW) ?_
  refine ha W ρ μ σ H M _ tk E R (h.step fun k μ1 v H1 M1 e1 R1 r1 h1 => ?_)
  cases r1
  cases k with
  | true => exact hb W ρ μ1 σ H1 M1 _ tk (E.evo e1) R1 h1
  | false => exact h1.ret R1 rfl
theorem sndW_or {t u : T} {rest : List Expr} (ha : SndT X ct Γ a t) (hb : SndW X ct Γ (.BoolOp .Or (b :: rest) pos) u) : SndW X ct Γ (.BoolOp .Or (a :: b :: rest) pos) (.or t u) := by
  intro W ρ μ σ H M Q tk E R h
  unfold evalT at h
  refine ww (pw_or pT pW) ?_
  refine ha W ρ μ σ H M _ tk E R (h.step fun k μ1 v H1 M1 e1 R1 r1 h1 => ?_)
  cases r1
  cases k with
  | true => exact h1.ret R1 rfl
  | false => exact hb W ρ μ1 σ H1 M1 _ tk (E.evo e1) R1 h1
end
end PyI
/-! AD: written dicts that are asked at once. -/
namespace PyI
open PySem L2
def vOf : D → V
  | .int i => .int i
  | .bl b => .bl b
  | .str s => .str s
  | _ => .non
section
variable {X : Cx} {ct : CTab} {Γ : G} {N : List Str} {sc : Scope} {tb : Tb} {k f : Expr} {A B : E} {pos p2 apos : Pos} {ks : List (Option Expr)} {vs : List Expr} {l : List (Str × D)}
abbrev LitD (d : D) : Prop := ∀ (K : PySem.W.Frag) (H : Hp) (M : AM), Rep K H M (vOf d) d
theorem litC_ok {e : Expr} {d : D} (h : litC e = some d) : PE X e (tC (vOf d)) ∧ LitD d := by
  unfold litC at h
  split at h
  · cases h; exact ⟨pe_int, fun _ _ _ => .int _⟩
  · cases h; exact ⟨pe_bl, fun _ _ _ => .bl _⟩
  · cases h; exact ⟨pe_non, fun _ _ _ => .non⟩
  · cases h; exact ⟨pe_str, fun _ _ _ => .str _⟩
  · cases h
abbrev prT (l : List (Str × D)) : List (TE × TE) := l.map fun p => (tC (.str p.1), tC (vOf p.2))
abbrev kvT (l : List (Str × D)) : List (Key × V) := l.map fun p => (.inr p.1, vOf p.2)
theorem litP_ok : ∀ {ks : List (Option Expr)} {vs : List Expr} {l : List (Str × D)}, litP ks vs = some l → PPs X pos ks vs (prT l) ∧ ks.all (·.isSome) = true ∧ ks.length = vs.length ∧ ks.length = l.length ∧ ∀ p ∈ l, LitD p.2
  | [], [], l, h => by cases h; exact ⟨pps_nil, rfl, rfl, rfl, fun p h => nomatch h⟩
  | some (.Constant (.str s) _ _) :: ks, v :: vs, l, h => by
    obtain ⟨d, hd, h2⟩ := Option.bind_eq_some_iff.mp (show ((litC v).bind fun d => (litP ks vs).map fun l => (s, d) :: l) = some l from h)
    obtain ⟨l', hl, rfl⟩ := Option.map_eq_some_iff.mp h2
    obtain ⟨q1, q2, q3, q4, q5⟩ := litP_ok hl
    obtain ⟨c1, c2⟩ := litC_ok (X := X) hd
    refine ⟨pps_cons pe_str c1 q1, by rw [List.all_cons, q2]; rfl, by rw [List.length_cons, List.length_cons, q3], by rw [List.length_cons, List.length_cons, q4], fun p hp => ?_⟩
    rcases List.mem_cons.mp hp with rfl | hp
    · exact c2
    · exact q5 p hp
theorem tpairs_ok {σ : St} {H : Hp} : ∀ {l : List (Str × D)} {Q : List (V × V) → Hp → Prop}, Q ((kvT l).map fun kv => (kV kv.1, kv.2)) H → tPairs (prT l) σ H Q
  | [], Q, q => q
  | (s, d) :: l, Q, q => tpairs_ok (l := l) (Q := fun ps H3 => Q ((.str s, vOf d) :: ps) H3) q
theorem merge_ok (s : Str) : ∀ (l : List (Str × D)) {acc : List (Key × V)} {r : Option D}, valV acc (.inr s) = r.map vOf → valV (mergeK acc (kvT l)) (.inr s) = (lkL l s r).map vOf
  | [], acc, r, h => h
  | (k, d) :: l, acc, r, h => by
    show valV (mergeK (putK acc (.inr k) (vOf d)) (kvT l)) (.inr s) = (lkL l s (if s = k then some d else r)).map vOf
    refine merge_ok s l ?_
    rw [valV_put]
    by_cases e : s = k
    · subst e; simp
    · rw [if_neg e, if_neg (fun z => e (Sum.inr.inj z)), h]
theorem lkL_lit (s : Str) : ∀ {l : List (Str × D)} {r : Option D}, (∀ p ∈ l, LitD p.2) → (∀ d, r = some d → LitD d) → ∀ d, lkL l s r = some d → LitD d
  | [], r, _, h, d, e => h d e
  | (k, d') :: l, r, hl, h, d, e => by
    refine lkL_lit s (l := l) (fun p hp => hl p (List.mem_cons_of_mem _ hp)) (fun d0 h0 => ?_) d e
    by_cases z : s = k
    · rw [if_pos z] at h0; cases h0; exact hl _ (List.mem_cons_self ..)
    · rw [if_neg z] at h0; exact h d0 h0
theorem disp_ok {σ : St} {H : Hp} {Q : VK} {l : List (Str × D)} (h15 : l.length ≤ 15) (q : ∀ p, H p = none → Q (.ref p) (upd H p (.dK (mergeK [] (kvT l))))) : tDisp (prT l) σ H Q := by
  intro p hp
  refine tpairs_ok ⟨upd_same, kvT l, rfl, by rw [List.length_map]; exact h15, ?_⟩
  have e : upd (upd H p (.dK [])) p (.dK (mergeK [] (kvT l))) = upd H p (.dK (mergeK [] (kvT l))) := by
    funext b
    by_cases hb : b = p
    · rw [hb, upd_same, upd_same]
    · rw [upd_ne hb, upd_ne hb, upd_ne hb]
  rw [e]
  exact q p hp
theorem snd_dgl (F : Fr X ct tb Γ N sc) (hs : isSlc k = false) (hl : litP ks vs = some l) (h0 : ks ≠ []) (h15 : l.length ≤ 15) (hk : Snd X ct Γ k A) : Snd X ct Γ (.Subscript (.Dict ks vs p2) k pos) (.dgl l A) := by
  intro W ρ μ σ H M Q tk E R h
  unfold evalE at h
  obtain ⟨q1, q2, q3, q4, q5⟩ := litP_ok (X := X) (pos := p2) hl
  refine we (pe_dget (by have := F.g.units; omega) (pe_disp q1 q2 q3 h0 (by rw [q4]; exact h15)) pE (slc_plain hs)) (disp_ok h15 fun p hp => ?_)
  have ev : Evo M H M (upd H p (.dK (mergeK [] (kvT l)))) := Evo.new hp
  refine hk W ρ μ σ _ M _ tk (E.evo ev) (R.new hp) ((Ok.evo ev h).step fun d μ1 v H1 M1 e1 R1 r1 h1 => ?_)
  have hd := (e1.keep p _ upd_same (R.fresh hp).1).1
  split at h1
  · rename_i s
    cases r1
    split at h1
    · rename_i d hd2
      exact ⟨p, vOf d, rfl, .inl ⟨_, .inr s, .inl hd, rfl, by rw [merge_ok s l (acc := []) (r := none) rfl, hd2]; rfl⟩, h1.ret R1 (lkL_lit s q5 (fun _ z => by cases z) d hd2 _ _ _)⟩
    · exact h1.elim
  · exact h1.elim
theorem snd_dgt {d : Expr} (hl1 : (apos.endLine == pos.line) = true) (hs1 : star k = false) (hs2 : star d = false) (F : Fr X ct tb Γ N sc) (hl : litP ks vs = some l) (h0 : ks ≠ []) (h15 : l.length ≤ 15) (hk : Snd X ct Γ k A) (hd : Snd X ct Γ d B) :
    Snd X ct Γ (.Call (.Attribute (.Dict ks vs p2) "get" apos) [k, d] [] pos) (.dgt l A B) := by
  intro W ρ μ σ H M Q tk E R h
  unfold evalE at h
  obtain ⟨q1, q2, q3, q4, q5⟩ := litP_ok (X := X) (pos := p2) hl
  have hst : starEach [k, d] X.env = [(false, eval k X.env), (false, eval d X.env)] := by rw [star_cons hs1, star_cons hs2]; rfl
  have m2 : M2 X (.Dict ks vs p2) "get" apos k d pos := ⟨base_plain rfl, by rw [hst]; rfl, hl1, by rw [hst]; rfl⟩
  refine we (pe_dget2 (by have := F.g.units; omega) (pe_disp q1 q2 q3 h0 (by rw [q4]; exact h15)) pE pE m2) (disp_ok h15 fun p hp => ?_)
  have ev : Evo M H M (upd H p (.dK (mergeK [] (kvT l)))) := Evo.new hp
  refine ⟨p, rfl, .inl ⟨_, .inl upd_same⟩, ?_⟩
  refine hk W ρ μ σ _ M _ tk (E.evo ev) (R.new hp) ((Ok.evo ev h).step fun x μ1 v H1 M1 e1 R1 r1 h1 => ?_)
  refine hd W ρ μ1 σ _ M1 _ tk ((E.evo ev).evo e1) R1 (h1.step fun z μ2 u H2 M2 e2 R2 r2 h2 => ?_)
  have e12 := e1.trans e2
  have hdk := (e12.keep p _ upd_same (R.fresh hp).1).1
  split at h2
  · rename_i s
    cases r1
    refine ⟨(lkL l s none).map vOf, .inl ⟨_, .inr s, .inl hdk, rfl, (merge_ok s l (acc := []) (r := none) rfl).symm⟩, ?_⟩
    cases hlk : lkL l s none with
    | none => rw [hlk] at h2; exact h2.ret R2 r2
    | some d0 => rw [hlk] at h2; exact h2.ret R2 (lkL_lit s q5 (fun _ z => by cases z) d0 hlk _ _ _)
  · exact h2.elim
end
end PyI
/-! AO: objects of own classes, in expressions. -/
namespace PyI
open PySem L2
section
variable {K : PySem.W.Frag} {ct : CTab} {H : Hp} {M : AM} {μ : Mu} {fvs : List (Str × V)} {fs : List (Str × D)}
theorem FRep.look (r : FRep K H M fvs fs) {f : Str} : match fs.lookup f with
    | none => fvs.lookup f = none
    | some d => ∃ v, fvs.lookup f = some v ∧ Rep K H M v d := by
  induction r with
  | nil => exact rfl
  | @cons a b _ _ h r ih =>
    obtain ⟨x, v⟩ := a
    obtain ⟨y, d⟩ := b
    obtain ⟨e, q⟩ := h
    have e : x = y := e
    subst e
    rw [List.lookup_cons, List.lookup_cons]
    cases hx : f == x with
    | true => exact ⟨v, rfl, q⟩
    | false => exact ih
theorem FRep.len (r : FRep K H M fvs fs) : fvs.length = fs.length := by
  induction r with
  | nil => rfl
  | cons _ _ ih => rw [List.length_cons, List.length_cons, ih]
theorem FRep.putF {f : Str} {v : V} {d : D} (r : FRep K H M fvs fs) (q : Rep K H M v d) : FRep K H M (L2.putF f v fvs) (putFD f d fs) := by
  induction r with
  | nil => exact .cons ⟨rfl, q⟩ .nil
  | @cons a b _ _ h r ih =>
    obtain ⟨x, u⟩ := a
    obtain ⟨y, w⟩ := b
    obtain ⟨e, q'⟩ := h
    have e : x = y := e
    subst e
    unfold L2.putF putFD
    by_cases e : x = f
    · rw [if_pos e, if_pos e]; exact .cons ⟨rfl, q⟩ r
    · rw [if_neg e, if_neg e]; exact .cons ⟨rfl, q'⟩ ih
/-- an object of ours -/
theorem ins_of (R : RelH K ct H μ M) {n : Nat} {a : Addr} {c : Nat} (h : μ[n]? = some (.ins c fs)) (ha : M.ix[n]? = some a) : ∃ dx fvs, H a = some (.ins (ct.cls c) dx fvs) ∧ FRep K H M fvs fs := by
  obtain ⟨a', e, r⟩ := R.at_ n _ h
  rw [ha] at e; cases e
  exact r
theorem fld_ok {x : V} {d : D} {c : Nat} {f : Str} {μ' : Mu} {Q : VK} {W : XK} (R : RelH K ct H μ M) (r : Rep K H M x d) (h : Ok K ct (RD K) M H (fldD c d f μ) Q W) : ∃ a dx fvs v, x = .ref a ∧ H a = some (.ins (ct.cls c) dx fvs) ∧ fvs.lookup f = some v ∧ Q v H ∧ ∃ n fs e, d = .ref n ∧ M.ix[n]? = some a ∧ μ[n]? = some (.ins c fs) ∧ FRep K H M fvs fs ∧ fs.lookup f = some e ∧ Rep K H M v e ∧ fldD c d f μ = .ok e μ := by
  unfold fldD at h ⊢
  split at h
  · rename_i n
    cases r with
    | ref ha =>
      split at h
      · rename_i c' fs hn
        split at h
        · rename_i hc
          subst hc
          obtain ⟨dx, fvs, h1, h2⟩ := ins_of R hn ha
          have hl := h2.look (f := f)
          split at h
          · rename_i e he
            rw [he] at hl
            obtain ⟨v, hv, rv⟩ := hl
            refine ⟨_, dx, fvs, v, rfl, h1, hv, Ok.ret (μ := μ) h R rv, n, fs, e, rfl, ha, hn, h2, he, rv, ?_⟩
            simp only [hn, if_true, he]
          · exact h.elim
        · exact h.elim
      · exact h.elim
  · exact h.elim
end
section
variable {X : Cx} {ct : CTab} {Γ : G} {N : List Str} {sc : Scope} {tb : Tb} {o a d : Expr} {args : List Expr} {A B : E} {As : Es} {pos apos kpos : Pos}
theorem snd_call0 {f : Str} {i k : Nat} (F : Fr X ct tb Γ N sc) (hd : okName f = true) (hg : glB sc f = true) (hf : tb.fns[i]? = some (f, k)) (hmt : tb.mets.lookup f = none) : Snd X ct Γ (.Call (.Name f apos) [] [] pos) (.call i .nil) := by
  intro W ρ μ σ H M Q tk E R h
  unfold evalE at h
  obtain ⟨k', ad, fd, ps, FO, hr, hm, hk, hb⟩ := F.g.call i f k hf hmt
  refine we (Nw.pe_callSD0 (E := fun σ cls d H => W cls d σ H) FO hr (gl_of F hg) hm hk hb (fun σ => passAt tk σ) (ok1 hd)) ?_
  unfold evalEs at h
  have h : Ok X.K ct (RD X.K) M H (Γ.call i [] μ) Q (fun c d H' => W c d σ H') := h
  refine ⟨[], μ, M, ?_, R, .nil, h⟩
  by_cases q : ([] : List D).length = k
  · exact q
  · rw [F.g.ar i f k [] μ hf q] at h; exact h.elim
theorem snd_fld {f : Str} {w : Own} (F : Fr X ct tb Γ N sc) (hw : w ∈ tb.owns) (hf : f ∈ w.attrs) (ho : plainO o = true) (ha : Snd X ct Γ o A) : Snd X ct Γ (.Attribute o f pos) (.fld w.c A f) := by
  intro W ρ μ σ H M Q tk E R h
  unfold evalE at h
  refine we (pe_fld pE (base_plain ho)) ?_
  refine ha W ρ μ σ H M _ tk E R (h.step fun d μ1 v H1 M1 e1 R1 r1 h1 => ?_)
  obtain ⟨a, dx, fvs, u, e, h2, h3, q, _⟩ := fld_ok (μ' := μ1) R1 r1 h1
  have O := F.g.own w hw
  exact ⟨a, _, dx, fvs, u, e, h2, O.cls, O.nos f hf, h3, q⟩
theorem insOk_of {x : V} {d : D} {c : Nat} {m : Str} {K : PySem.W.Frag} {H : Hp} {M : AM} {μ : Mu} (R : RelH K ct H μ M) (r : Rep K H M x d) (h : insOk c m d μ = true) : ∃ a dx fvs, x = .ref a ∧ H a = some (.ins (ct.cls c) dx fvs) ∧ fvs.lookup m = none := by
  unfold insOk at h
  split at h
  · rename_i n
    cases r with
    | ref ha =>
      split at h
      · rename_i c' fs hn
        simp only [Bool.and_eq_true, decide_eq_true_eq, Option.isNone_iff_eq_none] at h
        obtain ⟨rfl, hl⟩ := h
        obtain ⟨dx, fvs, h1, h2⟩ := ins_of R hn ha
        have := h2.look (f := m)
        rw [hl] at this
        exact ⟨_, dx, fvs, rfl, h1, this⟩
      · cases h
  · cases h
theorem snd_mcl {m x : Str} {i k c : Nat} {w : Own} (F : Fr X ct tb Γ N sc) (hw : w ∈ tb.owns) (hc : w.c = c) (ho : plainO o = true) (hl : (apos.endLine == pos.line) = true) (hn : args.length < 30) (hf : tb.fns[i]? = some (x, k)) (hmt : tb.mets.lookup x = some (c, m)) (hs : args.all (fun e => !star e) = true) (hnil : args = [] → As = .nil) (hO : Snd X ct Γ o A) (ha : SndA X ct Γ args As) : Snd X ct Γ (.Call (.Attribute o m apos) args [] pos) (.mcl i c m A As) := by
  intro W ρ μ σ H M Q tk E R h
  unfold evalE at h
  obtain ⟨k', ad, fd, ps, FO, hr, hm, hb⟩ := F.g.meth i x k c m hf hmt
  have O := F.g.own w hw
  rw [hc] at O
  have hr' : Room k' X.A := hr.mono (Nat.le_succ _)
  have ht := Nw.meth_tree (env := X.env) (o := o) (m := m) (apos := apos) (pos := pos) (args := args) (base_plain ho) (star_all' hs) hn hl
  have fin : ∀ {d : D} {v : V} {ds : List D} {vs : List V} {μ2 : Mu} {H2 : Hp} {M2 : AM}, RelH X.K ct H2 μ2 M2 → Rep X.K H2 M2 v d → Reps X.K H2 M2 vs ds → Ok X.K ct (RD X.K) M2 H2 (Γ.call i (d :: ds) μ2) Q (fun c d H' => W c d σ H') → spF X.K ct Γ i k (v :: vs) H2 Q (fun c d H' => W c d σ H') := fun {d v ds vs μ2 H2 M2} R2 r1 r2 h2 => by
    refine ⟨d :: ds, μ2, M2, ?_, R2, .cons r1 r2, h2⟩
    by_cases q : (d :: ds).length = k
    · rw [List.length_cons, r2.length, ← q, List.length_cons]
    · rw [F.g.ar i x k _ μ2 hf q] at h2; exact h2.elim
  cases args with
  | nil =>
    refine we (Nw.pe_methSD0 (E := fun σ cls d H => W cls d σ H) pE O.cls hm FO hr' hb (fun σ => passAt tk σ) ht) ?_
    refine hO W ρ μ σ H M _ tk E R (h.step fun d μ1 v H1 M1 e1 R1 r1 h1 => ?_)
    obtain ⟨hi, h1⟩ := h1.needs
    obtain ⟨a, dx, fvs, rfl, h2, h3⟩ := insOk_of R1 r1 hi
    refine ⟨a, dx, fvs, rfl, h2, h3, ?_⟩
    rw [hnil rfl] at h1
    unfold evalEs at h1
    exact fin R1 r1 .nil h1
  | cons e es =>
    have hs' := hs
    simp only [List.all_cons, Bool.and_eq_true, Bool.not_eq_true'] at hs'
    refine we (Nw.pe_methSD (E := fun σ cls d H => W cls d σ H) pE O.cls hm FO hr' hb (fun σ => passAt tk σ) pA (star_cons hs'.1) (star_all hs'.2) ht) ?_
    refine hO W ρ μ σ H M _ tk E R (h.step fun d μ1 v H1 M1 e1 R1 r1 h1 => ?_)
    obtain ⟨hi, h1⟩ := h1.needs
    obtain ⟨a, dx, fvs, rfl, h2, h3⟩ := insOk_of R1 r1 hi
    refine ⟨a, dx, fvs, rfl, h2, h3, ?_⟩
    exact ha W ρ μ1 σ H1 M1 _ tk (E.evo e1) R1 (h1.step fun ds μ2 vs H2 M2 e2 R2 r2 h2 => fin R2 (r1.evo e2) r2 h2)
theorem snd_mk {f x : Str} {i k : Nat} {w : Own} {e : Expr} {es : List Expr} (F : Fr X ct tb Γ N sc) (hw : w ∈ tb.owns) (hf0 : w.name = f) (hd : okName f = true) (hg : glB sc f = true) (hf : tb.fns[i]? = some (x, k)) (hmt : tb.mets.lookup x = some (w.c, ("__init__" : Str))) (hs : (e :: es).all (fun e => !star e) = true) (ha : SndA X ct Γ (e :: es) As) : Snd X ct Γ (.Call (.Name f apos) (e :: es) [] pos) (.mk i w.c As) := by
  intro W ρ μ σ H M Q tk E R h
  unfold evalE at h
  obtain ⟨k', ad, fd, ps, FO, hr, hm, hb⟩ := F.g.meth i x k w.c "__init__" hf hmt
  have O := F.g.own w hw
  have MK : Mk X.K (ct.cls w.c) ad := ⟨O.mks, hm.at_, hm.fn, O.kp⟩
  simp only [List.all_cons, Bool.and_eq_true, Bool.not_eq_true'] at hs
  refine we (Nw.pe_makeSD (E := fun σ cls d H => W cls d σ H) MK FO hr (gl_of F hg) (by rw [← hf0]; exact O.mgx) hb (fun σ => passAt tk σ) pA (ok1 hd) (star_cons hs.1) (star_all hs.2)) ?_
  refine ha W ρ μ σ H M _ tk E R (h.step fun ds μ1 vs H1 M1 e1 R1 r1 h1 => ?_)
  intro p dx hp hdx hne
  have E1 : Evo M1 H1 M1 (upd H1 dx (.own p)) := Evo.new hdx
  have hp' : upd H1 dx (.own p) p = none := by rw [upd_ne hne.symm]; exact hp
  have E2 : Evo M1 H1 (M1.add p) (upd (upd H1 dx (.own p)) p (.ins (ct.cls w.c) dx [])) := E1.trans (Evo.own hp')
  have R2 : RelH X.K ct (upd (upd H1 dx (.own p)) p (.ins (ct.cls w.c) dx [])) (μ1 ++ [.ins w.c []]) (M1.add p) := ((R1.new hdx).hide hp').takeIn ((R1.new hdx).fresh hp').2 ⟨dx, [], upd_same, .nil⟩
  have hix : (M1.add p).ix[μ1.length]? = some p := by
    show (M1.ix ++ [p])[μ1.length]? = some p
    rw [← R1.len]; simp
  refine ⟨.ref μ1.length :: ds, μ1 ++ [.ins w.c []], M1.add p, ?_, R2, .cons (.ref hix) (r1.evo E2), ?_⟩
  · by_cases q : (D.ref μ1.length :: ds).length = k
    · rw [List.length_cons, r1.length, ← q, List.length_cons]
    · rw [F.g.ar i x k _ _ hf q] at h1; exact h1.elim
  · refine (Ok.evo E2 h1).step fun d μ2 v H2 M2 e2 R3 r3 h3 => ?_
    cases d with
    | non =>
      cases r3
      exact ⟨rfl, Ok.ret (μ := μ2) h3 R3 (.ref (e2.pre _ _ hix))⟩
    | _ => exact h3.elim
theorem snd_maxd (F : Fr X ct tb Γ N sc) (hg : glB sc "max" = true) (hs : star a = false) (ha : Snd X ct Γ a A) (hb : Snd X ct Γ d B) : Snd X ct Γ (.Call (.Name "max" apos) [a] [⟨some "default", d, kpos⟩] pos) (.maxd A B) := by
  intro W ρ μ σ H M Q tk E R h
  unfold evalE at h
  refine we (Nw.pe_maxD F.calm (gl_of F hg) (F.g.bi _ (by decide)) pE pE (star_cons hs)) ?_
  refine ha W ρ μ σ H M _ tk E R (h.step fun x μ1 v H1 M1 e1 R1 r1 h1 => ?_)
  refine hb W ρ μ1 σ H1 M1 _ tk (E.evo e1) R1 (h1.step fun y μ2 u H2 M2 e2 R2 r2 h2 => ?_)
  unfold maxdD at h2
  split at h2
  · rename_i l hl
    obtain ⟨ds, hd, hi⟩ := Option.bind_eq_some_iff.mp hl
    obtain ⟨a', xs, rfl, rd, rs⟩ := lst_of R2 (r1.evo e2) hd
    have ex : xs = l.map V.int := ints_of rs hi
    subst ex
    refine ⟨a', l, rfl, .inl rd, fun e => ?_, fun m h1 h3 => ?_⟩
    · rw [if_pos e] at h2
      exact Ok.ret (μ := μ2) h2 R2 r2
    · have hn : l ≠ [] := fun z => by rw [z] at h1; cases h1
      rw [if_neg hn] at h2
      have e : m = maxL l := Int.le_antisymm (maxL_ge m h1) (h3 _ (maxL_mem hn))
      rw [e]
      exact Ok.ret (μ := μ2) h2 R2 (.int _)
  · exact h2.elim
end
end PyI
/-! A9: what is walked; comprehensions. -/
namespace PyI
open PySem L2

/-- the iterator J walks the items -/
structure ItOk (K : PySem.W.Frag) (ct : CTab) (M : AM) (H : Hp) (J : L2.It) (its : Its) : Prop where
  go : ∀ (M' : AM) (H' : Hp) (μ' : Mu) (i : Nat) (d : D), Stay M H M' H' → RelH K ct H' μ' M' → chkOf its.2 μ' = true → its.1[i]? = some d → J.go i H' ∧ ∀ x H'', J.yld i H' x H'' → Evo M' H' M' H'' ∧ RelH K ct H'' μ' M' ∧ Rep K H'' M' x d
  stop : ∀ (M' : AM) (H' : Hp) (μ' : Mu), Stay M H M' H' → RelH K ct H' μ' M' → chkOf its.2 μ' = true → J.stop its.1.length H'
abbrev RJ (K : PySem.W.Frag) (ct : CTab) : Hp → AM → L2.It → Its → Prop := fun H M J its => ItOk K ct M H J its
def SndI (X : Cx) (ct : CTab) (Γ : G) (tg e : Expr) (A : IT) : Prop := ∀ (W : WX) (ρ : Rho) (μ : Mu) (σ : St) (H : Hp) (M : AM) (Q : L2.It → Hp → Prop), Takes X W → RelE X.K H M σ ρ → RelH X.K ct H μ M →
  Ok X.K ct (RJ X.K ct) M H (evalIt Γ A ρ μ) Q (fun c d H' => W c d σ H') → wI X tg e σ H Q
section
variable {K : PySem.W.Frag} {ct : CTab} {H : Hp} {M : AM} {a : Addr} {xs : List V} {ds : List D} {μ : Mu}
theorem rd_lst_eq {K : PySem.W.Frag} {H : Hp} {xs ys : List V} (h : Rd H a (.lst xs)) (h' : Rd H a (.lst ys)) : xs = ys := by
  rcases h with h | ⟨o, h⟩ <;> rcases h' with h' | ⟨o', h'⟩ <;> rw [h] at h' <;> cases h' <;> rfl
theorem itok_t (h : TA' K H M a xs) (r : Reps K H M xs ds) : ItOk K ct M H (Itt K a) (ds, none) where
  go := fun M' H' μ' i d e R _ hi => by
    obtain ⟨x, hx, rx⟩ := (r.stay e).get hi
    have sq := (h.stay e).sq
    refine ⟨⟨xs, x, sq, hx⟩, fun y H'' q => ?_⟩
    obtain ⟨rfl, q2⟩ := q
    have := q2 xs sq
    rw [hx] at this; cases this
    exact ⟨Evo.refl _ _, R, rx⟩
  stop := fun M' H' μ' e R _ => ⟨xs, (h.stay e).sq, by rw [r.length]; exact Nat.le_refl _⟩
theorem itok_kt (h : TK K a xs) (r : Reps K H M xs ds) : ItOk K ct M H (Itt K a) (ds, none) where
  go := fun M' H' μ' i d e R _ hi => by
    obtain ⟨x, hx, rx⟩ := (r.stay e).get hi
    have sq : SqT K H' a xs := h.sq
    refine ⟨⟨xs, x, sq, hx⟩, fun y H'' q => ?_⟩
    obtain ⟨rfl, q2⟩ := q
    have := q2 xs sq
    rw [hx] at this; cases this
    exact ⟨Evo.refl _ _, R, rx⟩
  stop := fun M' H' μ' e R _ => ⟨xs, h.sq, by rw [r.length]; exact Nat.le_refl _⟩
theorem enum_get {l : List D} {i : Nat} {d : D} (h : (enumL l)[i]? = some d) : ∃ e, l[i]? = some e ∧ d = .tup [.int (i : Nat), e] := by
  unfold enumL at h
  rw [List.getElem?_map, List.getElem?_zipIdx] at h
  obtain ⟨p, hp, rfl⟩ := Option.map_eq_some_iff.mp h
  obtain ⟨e, he, rfl⟩ := Option.map_eq_some_iff.mp hp
  exact ⟨e, he, by simp⟩
theorem enum_len {l : List D} : (enumL l).length = l.length := by unfold enumL; simp
theorem itok_en (h : LA' K H M a xs) (r : Reps K H M xs ds) : ItOk K ct M H (Ite K a) (enumL ds, none) where
  go := fun M' H' μ' i d e R _ hi => by
    obtain ⟨d', hd, rfl⟩ := enum_get hi
    obtain ⟨x, hx, rx⟩ := (r.stay e).get hd
    have sq := (h.stay e).sq
    refine ⟨⟨xs, x, sq, hx⟩, fun y H'' q => ?_⟩
    obtain ⟨T, x', rfl, hT, rfl, q2⟩ := q
    have := q2 xs sq
    rw [hx] at this; cases this
    have ev : Evo M' H' M' (upd H' T (.tup [.int (i : Nat), x])) := Evo.new hT
    exact ⟨ev, R.new hT, .tup ⟨upd_same, R.fresh hT⟩ (.cons (.int _) (.cons (rx.evo ev) .nil))⟩
  stop := fun M' H' μ' e R _ => ⟨xs, (h.stay e).sq, by rw [enum_len, r.length]; exact Nat.le_refl _⟩
theorem itok_ent (h : TA' K H M a xs) (r : Reps K H M xs ds) : ItOk K ct M H (Nw.IteT K a) (enumL ds, none) where
  go := fun M' H' μ' i d e R _ hi => by
    obtain ⟨d', hd, rfl⟩ := enum_get hi
    obtain ⟨x, hx, rx⟩ := (r.stay e).get hd
    have sq := (h.stay e).sq
    refine ⟨⟨xs, x, sq, hx⟩, fun y H'' q => ?_⟩
    obtain ⟨T, x', rfl, hT, rfl, q2⟩ := q
    have := q2 xs sq
    rw [hx] at this; cases this
    have ev : Evo M' H' M' (upd H' T (.tup [.int (i : Nat), x])) := Evo.new hT
    exact ⟨ev, R.new hT, .tup ⟨upd_same, R.fresh hT⟩ (.cons (.int _) (.cons (rx.evo ev) .nil))⟩
  stop := fun M' H' μ' e R _ => ⟨xs, (h.stay e).sq, by rw [enum_len, r.length]⟩
theorem itok_c (lo : Int) (n : Nat) : ItOk K ct M H (Itc lo (-1) n) (rngDown lo n, none) where
  go := fun M' H' μ' i d e R _ hi => by
    simp only [rngDown, List.getElem?_map, Option.map_eq_some_iff] at hi
    obtain ⟨k, hk, rfl⟩ := hi
    have hin : i < n := by
      rcases Nat.lt_or_ge i n with z | z
      · exact z
      · rw [List.getElem?_eq_none (by simpa using z)] at hk; cases hk
    rw [List.getElem?_range hin] at hk; cases hk
    exact ⟨hin, fun y H'' q => by obtain ⟨rfl, rfl⟩ := q; exact ⟨Evo.refl _ _, R, .int _⟩⟩
  stop := fun M' H' μ' e R _ => by
    show n ≤ (rngDown lo n).length
    simp [rngDown]
theorem itok_l (h : LA' K H M a xs) (r : Reps K H M xs ds) : ItOk K ct M H (Itl K a) (ds, none) where
  go := fun M' H' μ' i d e R _ hi => by
    obtain ⟨x, hx, rx⟩ := (r.stay e).get hi
    have sq := (h.stay e).sq
    refine ⟨⟨xs, x, sq, hx⟩, fun y H'' q => ?_⟩
    obtain ⟨rfl, q2⟩ := q
    have := q2 xs sq
    rw [hx] at this; cases this
    exact ⟨Evo.refl _ _, R, rx⟩
  stop := fun M' H' μ' e R _ => ⟨xs, (h.stay e).sq, by rw [r.length]; exact Nat.le_refl _⟩
theorem itok_r {n : Nat} (ha : M.ix[n]? = some a) : ItOk K ct M H (Itl K a) (ds, some (n, ds)) where
  go := fun M' H' μ' i d e R hc hi => by
    simp only [chkOf] at hc
    split at hc
    · rename_i l' hl
      rw [beqs_eq _ _ hc] at hl
      obtain ⟨ys, h1, r1⟩ := R.lst hl (e.pre _ _ ha)
      obtain ⟨x, hx, rx⟩ := r1.get hi
      have sq : SqL K H' a ys := .inl (.inl h1)
      refine ⟨⟨ys, x, sq, hx⟩, fun y H'' q => ?_⟩
      obtain ⟨rfl, q2⟩ := q
      have := q2 ys sq
      rw [hx] at this; cases this
      exact ⟨Evo.refl _ _, R, rx⟩
    · cases hc
  stop := fun M' H' μ' e R hc => by
    simp only [chkOf] at hc
    split at hc
    · rename_i l' hl
      rw [beqs_eq _ _ hc] at hl
      obtain ⟨ys, h1, r1⟩ := R.lst hl (e.pre _ _ ha)
      exact ⟨ys, .inl (.inl h1), by rw [r1.length]; exact Nat.le_refl _⟩
    · cases hc
theorem itok_s (x : Str) : ItOk K ct M H (L2.Its x) (x.cps.toList.map fun c => D.str ⟨#[c]⟩, none) where
  go := fun M' H' μ' i d e R _ hi => by
    simp only [List.getElem?_map, Option.map_eq_some_iff] at hi
    obtain ⟨c, hc, rfl⟩ := hi
    have hc' : x.cps[i]? = some c := by rw [← Array.getElem?_toList]; exact hc
    refine ⟨?_, fun y H'' q => ?_⟩
    · show i < x.cps.size
      rcases Nat.lt_or_ge i x.cps.size with z | z
      · exact z
      · rw [Array.getElem?_eq_none z] at hc'; cases hc'
    · obtain ⟨q1, c', hc2, rfl⟩ := q
      rw [hc'] at hc2; cases hc2
      subst q1
      exact ⟨Evo.refl _ _, R, .str _⟩
  stop := fun M' H' μ' e R _ => by
    show x.cps.size ≤ (x.cps.toList.map fun c => D.str ⟨#[c]⟩).length
    simp
theorem itok_n (lo : Int) (n : Nat) : ItOk K ct M H (Itr lo n) (rngD lo n, none) where
  go := fun M' H' μ' i d e R _ hi => by
    simp only [rngD, List.getElem?_map, Option.map_eq_some_iff] at hi
    obtain ⟨k, hk, rfl⟩ := hi
    have hin : i < n := by
      rcases Nat.lt_or_ge i n with z | z
      · exact z
      · rw [List.getElem?_eq_none (by simpa using z)] at hk; cases hk
    rw [List.getElem?_range hin] at hk; cases hk
    exact ⟨hin, fun y H'' q => by obtain ⟨rfl, rfl⟩ := q; exact ⟨Evo.refl _ _, R, .int _⟩⟩
  stop := fun M' H' μ' e R _ => by
    show n ≤ (rngD lo n).length
    simp [rngD]
end
section
variable {X : Cx} {ct : CTab} {Γ : G} {N : List Str} {sc : Scope} {tb : Tb} {e a b tg : Expr} {A B : E} {pos apos : Pos}
theorem sndI_seq (ha : Snd X ct Γ e A) : SndI X ct Γ tg e (.seq A) := by
  intro W ρ μ σ H M Q tk E R h
  unfold evalIt at h
  cases hA : evalE Γ A ρ μ with
  | stuck => rw [hA] at h; exact h.elim
  | err c fs μ' =>
    refine wi (pi_list pE) (ha W ρ μ σ H M _ tk E R ?_)
    rw [hA] at h ⊢; exact h
  | ok d μ' =>
    have go : ∀ {Q' : VK}, (∀ v H' M', Evo M H M' H' → RelH X.K ct H' μ' M' → Rep X.K H' M' v d → Q' v H') → wE X e σ H Q' := fun k => ha W ρ μ σ H M _ tk E R (by rw [hA]; exact k)
    rw [hA] at h
    have h' : ∀ {H' M'}, Evo M H M' H' → Ok X.K ct (RJ X.K ct) M' H' (itD d μ') Q (fun c d H' => W c d σ H') := fun e' => Ok.evo e' h
    clear h
    cases d with
    | tup l =>
      refine wi (pi_tup pE) (go fun v H' M' e' R' r' => ?_)
      cases r' with
      | tup h1 r1 => exact ⟨_, rfl, ⟨_, h1.sq⟩, Ok.ret (μ := μ') (h' e') R' (itok_t h1 r1)⟩
    | kt l =>
      refine wi (pi_tup pE) (go fun v H' M' e' R' r' => ?_)
      cases r' with
      | kt h1 r1 => exact ⟨_, rfl, ⟨_, h1.sq⟩, Ok.ret (μ := μ') (h' e') R' (itok_kt h1 r1)⟩
    | lst l =>
      refine wi (pi_list pE) (go fun v H' M' e' R' r' => ?_)
      cases r' with
      | lst h1 r1 => exact ⟨_, rfl, ⟨_, h1.sq⟩, Ok.ret (μ := μ') (h' e') R' (itok_l h1 r1)⟩
    | ref n =>
      refine wi (pi_list pE) (go fun v H' M' e' R' r' => ?_)
      have h2 := h' e'
      unfold itD at h2
      simp only at h2
      split at h2
      · rename_i l hl
        cases r' with
        | ref hr =>
          obtain ⟨xs, h1, r1⟩ := R'.lst hl hr
          exact ⟨_, rfl, ⟨xs, .inl (.inl h1)⟩, Ok.ret (μ := μ') h2 R' (itok_r hr)⟩
      · exact h2.elim
    | str s =>
      refine wi (pi_str pE) (go fun v H' M' e' R' r' => ?_)
      cases r'
      exact ⟨_, rfl, Ok.ret (μ := μ') (h' e') R' (itok_s s)⟩
    | kl _ => exact (h' (Evo.refl _ _)).elim
    | non => exact (h' (Evo.refl _ _)).elim
    | bl _ => exact (h' (Evo.refl _ _)).elim
    | int _ => exact (h' (Evo.refl _ _)).elim
theorem sndI_rng1 (F : Fr X ct tb Γ N sc) (hg : glB sc "range" = true) (hs : star a = false) (ha : Snd X ct Γ a A) : SndI X ct Γ tg (.Call (.Name "range" apos) [a] [] pos) (.rng1 A) := by
  intro W ρ μ σ H M Q tk E R h
  unfold evalIt at h
  refine wi (pi_range1 (gl_of F hg) (F.g.bi _ (by decide)) (pa_cons pE pa_nil (star_cons hs)) (star_cons hs)) ?_
  refine ha W ρ μ σ H M _ tk E R (h.step fun d μ1 v H1 M1 e1 R1 r1 h1 => ?_)
  split at h1
  · rename_i j
    cases r1
    obtain ⟨hz, h1⟩ := h1.needs
    exact ⟨j, rfl, hz.1, hz.2, h1.ret R1 (itok_n 0 _)⟩
  · exact h1.elim
theorem sndI_rng2 (F : Fr X ct tb Γ N sc) (hg : glB sc "range" = true) (hs : star a = false) (hs2 : star b = false) (ha : Snd X ct Γ a A) (hb : Snd X ct Γ b B) : SndI X ct Γ tg (.Call (.Name "range" apos) [a, b] [] pos) (.rng2 A B) := by
  intro W ρ μ σ H M Q tk E R h
  unfold evalIt at h
  refine wi (pi_range2 (gl_of F hg) (F.g.bi _ (by decide)) (pa_cons pE (pa_cons pE pa_nil (star_cons hs2)) (star_cons hs)) (by rw [star_cons hs, star_cons hs2, star_nil]) (by rw [star_cons hs2, star_nil])) ?_
  refine ha W ρ μ σ H M _ tk E R (h.step fun d μ1 v H1 M1 e1 R1 r1 h1 => ?_)
  refine hb W ρ μ1 σ H1 M1 _ tk (E.evo e1) R1 (h1.step fun d2 μ2 u H2 M2 e2 R2 r2 h2 => ?_)
  split at h2
  · rename_i i j
    cases r1; cases r2
    obtain ⟨hz, h2⟩ := h2.needs
    exact ⟨i, j, rfl, ⟨hz.1.1, hz.1.2, hz.2.1, hz.2.2⟩, h2.ret R2 (itok_n i _)⟩
  · exact h2.elim
theorem sndI_rng3 {c : Expr} {C' : E} (F : Fr X ct tb Γ N sc) (hg : glB sc "range" = true) (hs : star a = false) (hs2 : star b = false) (hs3 : star c = false) (ha : Snd X ct Γ a A) (hb : Snd X ct Γ b B) (hc : Snd X ct Γ c C') : SndI X ct Γ tg (.Call (.Name "range" apos) [a, b, c] [] pos) (.rng3 A B C') := by
  intro W ρ μ σ H M Q tk E R h
  unfold evalIt at h
  refine wi (pi_range3 (gl_of F hg) (F.g.bi _ (by decide)) (pa_cons pE (pa_cons pE (pa_cons pE pa_nil (star_cons hs3)) (star_cons hs2)) (star_cons hs)) (star_cons hs) (by rw [star_cons hs2, star_cons hs3, star_nil]; rfl)) ?_
  refine ha W ρ μ σ H M _ tk E R (h.step fun d μ1 v H1 M1 e1 R1 r1 h1 => ?_)
  refine hb W ρ μ1 σ H1 M1 _ tk (E.evo e1) R1 (h1.step fun d2 μ2 u H2 M2 e2 R2 r2 h2 => ?_)
  refine hc W ρ μ2 σ H2 M2 _ tk ((E.evo e1).evo e2) R2 (h2.step fun d3 μ3 w H3 M3 e3 R3 r3 h3 => ?_)
  split at h3
  · rename_i i j k
    cases r1; cases r2; cases r3
    obtain ⟨⟨hk, hz1, hz2⟩, h4⟩ := h3.needs
    subst hk
    exact ⟨i, j, -1, (i - j).toNat, rfl, RgC.neg hz1.1 hz1.2 hz2.1 hz2.2, h4.ret R3 (itok_c i _)⟩
  · exact h3.elim
theorem sndI_enum (F : Fr X ct tb Γ N sc) (hg : glB sc "enumerate" = true) (ht : isTupE tg = true) (hs : star a = false) (ha : Snd X ct Γ a A) : SndI X ct Γ tg (.Call (.Name "enumerate" apos) [a] [] pos) (.enum A) := by
  intro W ρ μ σ H M Q tk E R h
  unfold evalIt at h
  cases tg with
  | Tuple elts kk tpos =>
    refine wi (Nw.pi_enumA (gl_of F hg) (F.g.bi _ (by decide)) (pa_cons pE pa_nil (star_cons hs)) (star_cons hs)) ?_
    refine ha W ρ μ σ H M _ tk E R (h.step fun d μ1 v H1 M1 e1 R1 r1 h1 => ?_)
    unfold enumD at h1
    split at h1
    · cases r1 with
      | tup h2 r2 => exact ⟨_, _, rfl, .inr ⟨h2.sq, h1.ret R1 (itok_ent h2 r2)⟩⟩
    · cases r1 with
      | lst h2 r2 => exact ⟨_, _, rfl, .inl ⟨h2.sq, h1.ret R1 (itok_en h2 r2)⟩⟩
    · exact h1.elim
  | _ => simp [isTupE] at ht

/-! ### targets -/
def gNames : List Nat → TGs
  | [] => gNil
  | i :: is => gCons (gName i) (gNames is)
def gOr (t u : TG) : TG := fun v σ H Q => t v σ H Q ∨ u v σ H Q
theorem pg_or {X : Cx} {e : Expr} {t u : TG} (h : PG X e t) (k : PG X e u) : PG X e (gOr t u) := ⟨fun pins s σ H v w Q I r q => q.elim (h.run pins s σ H v w Q I r) (k.run pins s σ H v w Q I r)⟩
def gOf (K : PySem.W.Frag) : Tg → TG
  | .nm i => gName i
  | .tp l => gOr (gTup K l.length (gNames l)) (gUnl K l.length (gNames l))
def FnLoc (X : Cx) (sc : Scope) (loc : List Str) : Prop := ∀ x ∈ loc, Loc sc x ∧ (X.fn x = true ∨ sc.names.lookup x = some .local)
theorem pg_nm {loc : List Str} {x : Str} {i : Nat} (F : Fr X ct tb Γ N sc) (L : FnLoc X sc loc) (hx : x ∈ loc) (hi : N[i]? = some x) : PG X (.Name x pos) (gName i) :=
  pg_name (by rw [F.hN]; exact F.nd) (by rw [F.hN]; exact hi) (by rw [F.hsc]; exact (L x hx).1) (by rw [F.hsc]; exact (L x hx).2)
theorem names_ok {loc : List Str} (F : Fr X ct tb Γ N sc) (L : FnLoc X sc loc) : ∀ {es : List Expr} {l : List Nat}, resNames N loc es = some l → PGs X es (gNames l) ∧ (assignEach es X.env).length = l.length ∧ (assignEach es X.env).findIdx? (·.1) = none
  | [], l, h => by cases h; exact ⟨pgs_nil, rfl, rfl⟩
  | e :: es, l, h => by
    unfold resNames at h
    split at h
    · rename_i q; cases q
    · rename_i x p es' he
      cases he
      obtain ⟨hx, h⟩ := guardO_some h
      obtain ⟨i, hi, h⟩ := Option.bind_eq_some_iff.mp h
      obtain ⟨l', hl, rfl⟩ := Option.map_eq_some_iff.mp h
      obtain ⟨p1, p2, p3⟩ := names_ok F L hl
      refine ⟨pgs_cons (pg_nm F L (of_decide_eq_true hx) (ixOf_get hi)) p1 rfl, ?_, ?_⟩
      · show (assignEach es X.env).length + 1 = l'.length + 1
        rw [p2]
      · show List.findIdx? (·.1) ((false, assign (.Name x p) X.env) :: assignEach es X.env) = none
        rw [List.findIdx?_cons, p3]; rfl
    · cases h
theorem tg_ok {loc : List Str} {t : Tg} (F : Fr X ct tb Γ N sc) (L : FnLoc X sc loc) (h : resTg N loc tg = some t) : PG X tg (gOf X.K t) := by
  unfold resTg at h
  split at h
  · obtain ⟨hx, h⟩ := guardO_some h
    obtain ⟨i, hi, rfl⟩ := Option.map_eq_some_iff.mp h
    exact pg_nm F L (of_decide_eq_true hx) (ixOf_get hi)
  · obtain ⟨l, hl, rfl⟩ := Option.map_eq_some_iff.mp h
    obtain ⟨p1, p2, p3⟩ := names_ok F L hl
    exact pg_or (pg_tup F.calm p1 p2 p3) (pg_unl F.calm p1 p2 p3)
  · cases h
end
section
variable {K : PySem.W.Frag} {H : Hp} {M : AM} {Q : St → Hp → Prop}
theorem gnames_ok : ∀ {l : List Nat} {vs : List V} {ds : List D} {σ : St} {ρ : Rho}, ds.length = l.length → Reps K H M vs ds → RelE K H M σ ρ →
    (∀ σ', RelE K H M σ' ((l.zip ds).foldl (fun ρ p => ρ.set p.1 (some p.2)) ρ) → (∀ own, (∀ i ∈ l, i ∈ own) → wipe σ' own = wipe σ own) → Q σ' H) → gNames l vs σ H Q
  | [], vs, ds, σ, ρ, hl, r, E, k => by
    cases r with
    | nil => exact ⟨rfl, k σ E fun _ _ => rfl⟩
    | cons => cases hl
  | i :: l, vs, ds, σ, ρ, hl, r, E, k => by
    cases r with
    | nil => cases hl
    | cons h r =>
      rename_i v vs d ds
      refine ⟨v, vs, rfl, ?_⟩
      refine gnames_ok (l := l) (ρ := ρ.set i (some d)) (Nat.succ.inj hl) r (E.set h i) fun σ' E' hw => k σ' E' fun own ho => ?_
      rw [hw own fun j hj => ho j (List.mem_cons_of_mem _ hj), wipe_set (ho i (List.mem_cons_self ..))]
theorem assign_ok {t : Tg} {v : V} {d : D} {σ : St} {ρ ρ' : Rho} (r : Rep K H M v d) (E : RelE K H M σ ρ) (h : assignT t d ρ = some ρ')
    (k : ∀ σ', RelE K H M σ' ρ' → (∀ own, (∀ i ∈ slotsOf t, i ∈ own) → wipe σ' own = wipe σ own) → Q σ' H) : gOf K t v σ H Q := by
  unfold assignT at h
  split at h
  · cases h
    exact k _ (E.set r _) fun own ho => wipe_set (ho _ (List.mem_singleton_self _))
  · split at h
    · split at h
      · rename_i hl
        cases h
        cases r with
        | tup h1 r1 => exact .inl ⟨_, _, rfl, h1.sq, by rw [r1.length]; exact hl, gnames_ok hl r1 E k⟩
      · cases h
    · split at h
      · rename_i hl
        cases h
        cases r with
        | lst h1 r1 => exact .inr ⟨_, _, rfl, h1.sq, by rw [r1.length]; exact hl, gnames_ok hl r1 E k⟩
      · cases h
    · split at h
      · rename_i hl
        cases h
        cases r with
        | kt h1 r1 => exact .inl ⟨_, _, rfl, h1.sq, by rw [r1.length]; exact hl, gnames_ok hl r1 E k⟩
      · cases h
    · cases h
end
end PyI
/-! A10: comprehensions; the resolver is sound for expressions. -/
namespace PyI
open PySem L2
section
variable {K : PySem.W.Frag} {ct : CTab} {H H1 H' : Hp} {M M1 M' : AM} {p : Addr} {o : HO}
theorem Evo.stayHide (e : Evo M H M' H') (hp : H p = none) : Stay M H (M'.hide p) H' := ⟨e.pre, fun a o h n => ⟨(e.keep a o h n.1).1, (e.keep a o h n.1).2, by
  show a ∉ p :: M'.ex
  rw [List.mem_cons, e.ex]
  rintro (q | q)
  · exact ne_of_none h hp q
  · exact n.2 q⟩⟩
theorem Evo.newEx (e : Evo M H M' H') (hp : H p = none) : Evo M H M' (upd H' p o) := ⟨e.pre, e.len, e.ex, fun a u h n => ⟨by rw [upd_ne (ne_of_none h hp)]; exact (e.keep a u h n).1, (e.keep a u h n).2⟩⟩
end
theorem wipe_at {τ : St} {k : Nat} : ∀ {vs : List Nat}, k ∈ vs → k < τ.length → (L2.wipe τ vs)[k]? = some none
  | [], h, _ => by cases h
  | j :: js, hk, hl => by
    unfold L2.wipe
    rw [List.getElem?_set]
    by_cases e : j = k
    · rw [if_pos e, if_pos (by rw [wipe_length, e]; exact hl)]
    · rw [if_neg e]
      rcases List.mem_cons.mp hk with z | z
      · exact absurd z.symm e
      · exact wipe_at z hl
theorem wipe_wipe {σ : St} {vs : List Nat} : L2.wipe (L2.wipe σ vs) vs = L2.wipe σ vs := by
  apply List.ext_getElem?
  intro k
  by_cases hk : k ∈ vs
  · rcases Nat.lt_or_ge k σ.length with z | z
    · rw [wipe_at hk z, wipe_at hk (by rw [wipe_length]; exact z)]
    · rw [List.getElem?_eq_none (by rw [wipe_length, wipe_length]; exact z), List.getElem?_eq_none (by rw [wipe_length]; exact z)]
  · rw [L2.wipe_out hk]
/-- the block of a comprehension, as a frame -/
theorem Fr.blk {X : Cx} {ct : CTab} {Γ : G} {N : List Str} {sc scope : Scope} {tb : Tb} {own : List (Str × Nat)} (F : Fr X ct tb Γ N sc) (ok : BlkOk N sc scope own) (s : Shared) (H : Hp) (C : Addr) (cl : List (Str × Addr)) (fp : List Addr) :
    Fr (X.blk s H scope (compEnvC scope cl C X.env) fp) ct tb Γ N (relS scope sc) where
  hN := F.hN
  hsc := by show relS scope X.env.scope = _; rw [F.hsc]
  nd := F.nd
  calm := F.calm
  kindF := ok.kind
  g := F.g
theorem lookup_mem {α : Type} : ∀ {l : List (Str × α)} {x : Str} {k : α}, (x, k) ∈ l → (∀ y ∈ l, l.lookup y.1 = some y.2) → l.lookup x = some k := fun h hu => hu _ h
theorem own_loc {X : Cx} {N : List Str} {sc scope : Scope} (ok : BlkOk N sc scope (ownOf N scope)) (s : Shared) (H : Hp) (C : Addr) (cl : List (Str × Addr)) (fp : List Addr) :
    FnLoc (X.blk s H scope (compEnvC scope cl C X.env) fp) (relS scope sc) ((ownOf N scope).map Prod.fst) := by
  intro x hx
  obtain ⟨⟨y, i⟩, hp, rfl⟩ := List.mem_map.mp hx
  unfold ownOf at hp
  obtain ⟨⟨z, k⟩, hz, e⟩ := List.mem_filterMap.mp hp
  have hu := ok.uniq _ hz
  cases k with
  | «local» =>
    obtain ⟨j, _, e'⟩ := Option.map_eq_some_iff.mp e
    cases e'
    have q : (relS scope sc).names.lookup z = some .local := lookup_relS_keep (by intro w; cases w) hu
    exact ⟨.inl q, .inr q⟩
  | cell =>
    obtain ⟨j, _, e'⟩ := Option.map_eq_some_iff.mp e
    cases e'
    have q : (relS scope sc).names.lookup z = some .cell := lookup_relS_keep (by intro w; cases w) hu
    refine ⟨.inr q, .inl ?_⟩
    show (scope.names.lookup z == some .cell) = true
    rw [hu]; rfl
  | free => cases e
  | globalExplicit => cases e
  | globalImplicit => cases e
section
variable {X : Cx} {ct : CTab} {Γ : G} {N : List Str} {sc scope : Scope} {tb : Tb} {elt tg iter : Expr} {ifs : List Expr} {A : E} {pos : Pos}
/-- for each block -/
def SndB (X : Cx) (ct : CTab) (Γ : G) (scope : Scope) (e : Expr) (A : E) : Prop := ∀ (s : Shared) (H : Hp) (C : Addr) (cl : List (Str × Addr)) (fp : List Addr), Snd (X.blk s H scope (compEnvC scope cl C X.env) fp) ct Γ e A
def SndTB (X : Cx) (ct : CTab) (Γ : G) (scope : Scope) (ifs : List Expr) (c : T) : Prop := (ifs = [] ∧ c = .yes) ∨ ∃ e, ifs = [e] ∧ ∀ (s : Shared) (H : Hp) (C : Addr) (cl : List (Str × Addr)) (fp : List Addr), SndT (X.blk s H scope (compEnvC scope cl C X.env) fp) ct Γ e c
def wEB (X : Cx) (scope : Scope) (e : Expr) : TE := fun σ H Q => ∀ s H0 C cl fp, wE (X.blk s H0 scope (compEnvC scope cl C X.env) fp) e σ H Q
def wTB (X : Cx) (scope : Scope) : List Expr → TT
  | [e] => fun σ H Q => ∀ s H0 C cl fp, wT (X.blk s H0 scope (compEnvC scope cl C X.env) fp) e σ H Q
  | _ => tYes
/-- a new list is handed on, kept out of the data so far -/
def OkN (K : PySem.W.Frag) (ct : CTab) (M : AM) (H : Hp) (r : Res PyI.D) (Q : VK) (W : XK) : Prop := match r with
  | .ok (.lst acc) μ2 => ∀ p H2 M2 accv, H p = none → Evo M H M2 H2 → RelH K ct H2 μ2 (M2.hide p) → H2 p = some (.lst accv) → Reps K H2 (M2.hide p) accv acc → Q (.ref p) H2
  | .ok _ _ => False
  | .err c fs μ' => ∀ cls d H' M', Evo M H M' H' → RelH K ct H' μ' M' → ErrRep K ct H' M' c fs cls d → W cls d H'
  | .stuck => False
theorem Evo.back {K : PySem.W.Frag} {ct : CTab} {H H' : Hp} {M M' : AM} {μ μ' : Mu} {p : Addr} (e : Evo M H M' H') (R : RelH K ct H μ M) (R' : RelH K ct H' μ' M') (h : H' p = none) : H p = none := by
  cases q : H p with
  | none => rfl
  | some o =>
    by_cases z : p ∈ M.ix
    · obtain ⟨n, hn, en⟩ := List.getElem_of_mem z
      have : M.ix[n]? = some p := by rw [List.getElem?_eq_getElem hn, en]
      exact absurd (List.mem_of_getElem? (e.pre n p this)) (R'.fresh h).1
    · rw [(e.keep p o q z).1] at h; cases h
theorem OkN.evo {K : PySem.W.Frag} {ct : CTab} {H H1 : Hp} {M M1 : AM} {μ μ1 : Mu} {r : Res PyI.D} {Q : VK} {W : XK} (e : Evo M H M1 H1) (R : RelH K ct H μ M) (R1 : RelH K ct H1 μ1 M1) (h : OkN K ct M H r Q W) : OkN K ct M1 H1 r Q W := by
  cases r with
  | stuck => exact h
  | err c fs μ' => exact fun cls d H' M' e' => h cls d H' M' (e.trans e')
  | ok d μ2 =>
    cases d with
    | lst acc => exact fun p H2 M2 accv hp e2 => h p H2 M2 accv (e.back R R1 hp) (e.trans e2)
    | _ => exact h
theorem Ok.toN {K : PySem.W.Frag} {ct : CTab} {H : Hp} {M : AM} {μ : Mu} {r : Res PyI.D} {Q : VK} {W : XK} (R : RelH K ct H μ M) (hl : ∀ d μ', r = .ok d μ' → ∃ l, d = .lst l) (h : Ok K ct (RD K) M H r Q W) : OkN K ct M H r Q W := by
  cases r with
  | stuck => exact h
  | err c fs μ' => exact h
  | ok d μ2 =>
    obtain ⟨l, rfl⟩ := hl d μ2 rfl
    intro p H2 M2 accv hp e2 R2 hp2 ra
    have hout : M2.out p := ⟨(R2.exs p (List.mem_cons_self ..)).2, by rw [e2.ex]; exact (R.fresh hp).2⟩
    exact h (.ref p) H2 M2 e2 R2.unhide (.lst ⟨.inl hp2, hout⟩ (ra.stay Stay.unhide))
theorem comp_noerr {f : D → Mu → Res (Option D)} {chk : Mu → Bool} : ∀ {ds acc : List D} {μ μ' : Mu} {c : Nat} {fs : List D}, compLoop f chk acc ds μ ≠ .err c fs μ'
  | [], acc, μ, μ', c, fs, h => by unfold compLoop at h; split at h <;> cases h
  | d :: ds, acc, μ, μ', c, fs, h => by
    unfold compLoop at h
    split at h
    · split at h
      · exact comp_noerr h
      · unfold needs at h
        split at h
        · exact comp_noerr h
        · cases h
      · cases h
    · cases h
theorem comp_core {W : WX} {ρ : Rho} {μ : Mu} {σ : St} {H : Hp} {M : AM} {Q : VK} {t : Tg} {it : IT} {c : T} (F : Fr X ct tb Γ N sc) (ok : BlkOk N sc scope (ownOf N scope)) (hset : isSet iter = false) (ht : resTg N ((ownOf N scope).map Prod.fst) tg = some t) (hsl : ∀ i ∈ slotsOf t, i ∈ (ownOf N scope).map Prod.snd)
    (hI : SndI X ct Γ tg iter it) (hc : SndTB X ct Γ scope ifs c) (he : SndB X ct Γ scope elt A) (tk : Takes X W) (E : RelE X.K H M σ ρ) (R : RelH X.K ct H μ M) (h : OkN X.K ct M H (evalE Γ (.comp ((ownOf N scope).map Prod.snd) t it c A) ρ μ) Q (fun c d H' => W c d σ H')) :
    tLc (wI X tg iter) (gOf X.K t) (wTB X scope ifs) (wEB X scope elt) ((ownOf N scope).map (·.2)) σ H Q := by
  unfold evalE at h
  have okI : Ok X.K ct (RJ X.K ct) M H (evalIt Γ it ρ μ) (fun J H1 => ∀ D, H1 D = none → ∃ W' : Nat → Nat → Hp → Prop, (∃ m, W' 0 m (upd H1 D (.lst []))) ∧ ∀ i m H, W' i m H →
  (J.stop i H ∧ Q (.ref D) H) ∨ (J.go i H ∧ ∃ Nx : Hp → Prop, (∀ H', Nx H' → ∃ m', m' < m ∧ W' (i + 1) m' H') ∧ ∀ x H', J.yld i H x H' → (gOf X.K t) x (wipe σ ((ownOf N scope).map (·.2))) H' fun σ2 H2 => wipe σ2 ((ownOf N scope).map (·.2)) = wipe σ ((ownOf N scope).map (·.2)) ∧ (wTB X scope ifs) σ2 H2 fun b H3 =>
    if b = true then (wEB X scope elt) σ2 H3 fun y H4 => ∃ acc, H4 D = some (.lst acc) ∧ acc.length < sizeLine ∧ Nx (upd H4 D (.lst (acc ++ [y]))) else Nx H3)) (fun c d H' => W c d σ H') := ?okI
  exact hI W ρ μ σ H M _ tk E R okI
  case okI =>
  cases hit : evalIt Γ it ρ μ with
  | stuck => rw [hit] at h; exact h.elim
  | err c fs μ' => rw [hit] at h; exact h
  | ok its μ1 =>
  rw [hit] at h
  intro J H1 M1 e1 R1 J1
  have h1 := OkN.evo e1 R R1 (show OkN X.K ct M H ((compLoop _ (chkOf its.2) [] its.1 μ1).bind fun l μ => .ok (.lst l) μ) Q _ from h)
  intro D hD
  have E1 := E.evo e1
  -- the loop's answer
  generalize hf : (fun (d : PyI.D) (μ : Mu) => match assignT t d (wipeR ρ ((ownOf N scope).map Prod.snd)) with
        | none => Res.stuck
        | some ρ' => (evalT Γ c ρ' μ).bind fun k μ => if k = true then (evalE Γ A ρ' μ).bind fun y μ => Res.ok (some y) μ else Res.ok none μ) = f at h1
  obtain ⟨ds, src⟩ := its
  generalize hr : compLoop f (chkOf src) [] ds μ1 = r at h1
  have hr0 : ∀ c fs μ', r ≠ .err c fs μ' := fun c fs μ' q => comp_noerr (hr.trans q)
  refine ⟨fun i m H2 => m = ds.length - i ∧ i ≤ ds.length ∧ ∃ (M2 : AM) (μ2 : Mu) (acc : List PyI.D) (accv : List V), Evo M1 H1 M2 H2 ∧ RelH X.K ct H2 μ2 (M2.hide D) ∧ H2 D = some (.lst accv) ∧ Reps X.K H2 (M2.hide D) accv acc ∧ compLoop f (chkOf src) acc (ds.drop i) μ2 = r, ⟨ds.length, rfl, Nat.zero_le _, M1, μ1, [], [], Evo.new hD, R1.hide hD, upd_same, .nil, by rw [List.drop_zero]; exact hr⟩, ?_⟩
  rintro i m H2 ⟨hm, hi, M2, μ2, acc, accv, e2, R2, hD2, ra, hloop⟩
  have st2 : Stay M1 H1 (M2.hide D) H2 := e2.stayHide hD
  rcases Nat.lt_or_ge i ds.length with hlt | hge
  · right
    have hdi : ds[i]? = some ds[i] := List.getElem?_eq_getElem hlt
    rw [List.drop_eq_getElem_cons hlt] at hloop
    unfold compLoop at hloop
    by_cases hck : chkOf src μ2 = true
    · rw [if_pos hck] at hloop
      obtain ⟨hgo, hy⟩ := J1.go (M2.hide D) H2 μ2 i ds[i] st2 R2 hck hdi
      refine ⟨hgo, fun H3 => ∃ m', m' < m ∧ (m' = ds.length - (i + 1) ∧ i + 1 ≤ ds.length ∧ ∃ (M2 : AM) (μ2 : Mu) (acc : List PyI.D) (accv : List V), Evo M1 H1 M2 H3 ∧ RelH X.K ct H3 μ2 (M2.hide D) ∧ H3 D = some (.lst accv) ∧ Reps X.K H3 (M2.hide D) accv acc ∧ compLoop f (chkOf src) acc (ds.drop (i + 1)) μ2 = r), fun H3 q => q, ?_⟩
      intro x H3 hx
      obtain ⟨ev3, R3, rx⟩ := hy x H3 hx
      have st2 : Stay M1 H1 (M2.hide D) H3 := st2.trans ev3.stay
      have e2 : Evo M1 H1 M2 H3 := e2.trans ev3.unhide
      have hD2 : H3 D = some (.lst accv) := (ev3.keep D _ hD2 (R2.exs D (List.mem_cons_self ..)).2).1
      have ra := ra.evo ev3
      have R2 := R3
      -- the target
      have Ew : RelE X.K H3 (M2.hide D) (wipe σ ((ownOf N scope).map Prod.snd)) (wipeR ρ ((ownOf N scope).map Prod.snd)) := (E1.stay st2).wipe _
      have hfd : f ds[i] μ2 = (match assignT t ds[i] (wipeR ρ ((ownOf N scope).map Prod.snd)) with
        | none => Res.stuck
        | some ρ' => (evalT Γ c ρ' μ2).bind fun k μ => if k = true then (evalE Γ A ρ' μ).bind fun y μ => Res.ok (some y) μ else Res.ok none μ) := by rw [← hf]
      rw [hfd] at hloop
      cases has : assignT t ds[i] (wipeR ρ ((ownOf N scope).map Prod.snd)) with
      | none => simp only [has] at hloop; rw [← hloop] at h1; exact (h1 : False).elim
      | some ρ' =>
        simp only [has] at hloop
        refine assign_ok rx Ew has fun σ2 E2 hw => ⟨?_, ?_⟩
        · rw [hw _ hsl]
          exact wipe_wipe
        -- the test
        have hT : ∀ (Q2 : Bool → Hp → Prop), (∀ k μ3, evalT Γ c ρ' μ2 = .ok k μ3 → ∀ H4 M4, Evo (M2.hide D) H3 M4 H4 → RelH X.K ct H4 μ3 M4 → Q2 k H4) → wTB X scope ifs σ2 H3 Q2 := by
          intro Q2 k2
          have okT : Ok X.K ct RB (M2.hide D) H3 (evalT Γ c ρ' μ2) Q2 (fun _ _ _ => False) := by
            cases hc2 : evalT Γ c ρ' μ2 with
            | stuck => rw [hc2] at hloop; simp only [Res.bind] at hloop; rw [← hloop] at h1; exact (h1 : False).elim
            | err _ _ _ => rw [hc2] at hloop; simp only [Res.bind] at hloop; rw [← hloop] at h1; exact (h1 : False).elim
            | ok k μ3 => exact fun v H4 M4 e4 R4 r4 => by cases r4; exact k2 _ μ3 hc2 H4 M4 e4 R4
          rcases hc with ⟨rfl, rfl⟩ | ⟨e, rfl, hcs⟩
          · exact Ok.ret (μ := μ2) okT R2 rfl
          · exact fun s H0 C cl fp => hcs s H0 C cl fp (fun _ _ _ _ => False) ρ' μ2 σ2 H3 (M2.hide D) Q2 takes0 E2 R2 okT
        refine hT _ fun k μ3 hk H4 M4 e4 R4 => ?_
        rw [hk] at hloop
        simp only [Res.bind] at hloop
        -- the block's addresses
        have split4 : ∃ M4', M4 = AM.hide M4' D := ⟨⟨M4.ix, M2.ex⟩, by cases M4; exact congrArg _ e4.ex⟩
        obtain ⟨M4', rfl⟩ := split4
        have e14 : Evo M1 H1 M4' H4 := e2.trans e4.unhide
        have hD4 : H4 D = some (.lst accv) := (e4.keep D _ hD2 (R2.exs D (List.mem_cons_self ..)).2).1
        cases k with
        | false =>
          simp only [Bool.false_eq_true, if_false] at hloop ⊢
          exact ⟨ds.length - (i + 1), by omega, rfl, hlt, M4', μ3, acc, accv, e14, R4, hD4, ra.evo e4, hloop⟩
        | true =>
          simp only [if_true] at hloop ⊢
          have okE : Ok X.K ct (RD X.K) (AM.hide M4' D) H4 (evalE Γ A ρ' μ3) (fun y H5 => ∃ acc, H5 D = some (.lst acc) ∧ acc.length < sizeLine ∧ ∃ m', m' < m ∧ (m' = ds.length - (i + 1) ∧ i + 1 ≤ ds.length ∧ ∃ (M2 : AM) (μ2 : Mu) (acc' : List PyI.D) (accv : List V), Evo M1 H1 M2 (upd H5 D (.lst (acc ++ [y]))) ∧ RelH X.K ct (upd H5 D (.lst (acc ++ [y]))) μ2 (M2.hide D) ∧ (upd H5 D (.lst (acc ++ [y]))) D = some (.lst accv) ∧ Reps X.K (upd H5 D (.lst (acc ++ [y]))) (M2.hide D) accv acc' ∧ compLoop f (chkOf src) acc' (ds.drop (i + 1)) μ2 = r)) (fun _ _ _ => False) := by
            cases hA : evalE Γ A ρ' μ3 with
            | stuck => rw [hA] at hloop; simp only [Res.bind] at hloop; rw [← hloop] at h1; exact (h1 : False).elim
            | err _ _ _ => rw [hA] at hloop; simp only [Res.bind] at hloop; rw [← hloop] at h1; exact (h1 : False).elim
            | ok y μ5 =>
              rw [hA] at hloop
              simp only [Res.bind] at hloop
              intro v H5 M5 e5 R5 r5
              have split5 : ∃ M5', M5 = AM.hide M5' D := ⟨⟨M5.ix, M4'.ex⟩, by cases M5; exact congrArg _ e5.ex⟩
              obtain ⟨M5', rfl⟩ := split5
              have hD5 : H5 D = some (.lst accv) := (e5.keep D _ hD4 (R4.exs D (List.mem_cons_self ..)).2).1
              have hacc : accv.length = acc.length := ra.length
              unfold needs at hloop
              by_cases hz : acc.length < 16777216
              · rw [if_pos hz] at hloop
                have hin : D ∈ (AM.hide M5' D).ex := List.mem_cons_self ..
                have sm : Stay (AM.hide M5' D) H5 (AM.hide M5' D) (upd H5 D (.lst (accv ++ [v]))) := Stay.mutEx hin
                exact ⟨accv, hD5, sl16' (by rw [hacc]; exact hz), ds.length - (i + 1), by omega, rfl, hlt, M5', μ5, acc ++ [y], accv ++ [v], (e14.trans e5.unhide).newEx hD, R5.mutEx hin, upd_same, ((((ra.evo e4).evo e5).append (Reps.one r5)).stay sm), hloop⟩
              · rw [if_neg hz] at hloop; rw [← hloop] at h1; exact (h1 : False).elim
          exact fun s H0 C cl fp => he s H0 C cl fp (fun _ _ _ _ => False) ρ' μ3 σ2 H4 (AM.hide M4' D) _ takes0 (E2.evo e4) R4 okE
    · rw [if_neg hck] at hloop; rw [← hloop] at h1; exact (h1 : False).elim
  · left
    have hie : i = ds.length := Nat.le_antisymm hi hge
    subst hie
    rw [List.drop_length] at hloop
    unfold compLoop at hloop
    by_cases hck : chkOf src μ2 = true
    · rw [if_pos hck] at hloop
      refine ⟨J1.stop (M2.hide D) H2 μ2 st2 R2 hck, ?_⟩
      rw [← hloop] at h1
      exact h1 D H2 M2 accv hD e2 R2 hD2 ra
    · rw [if_neg hck] at hloop; rw [← hloop] at h1; exact (h1 : False).elim
theorem comp_pts {c : T} (hc : SndTB X ct Γ scope ifs c) : ∀ (s : Shared) (H : Hp) (C : Addr) (cl : List (Str × Addr)) (fp : List Addr), PTs (X.blk s H scope (compEnvC scope cl C X.env) fp) ifs (wTB X scope ifs) := by
  intro s H C cl fp
  rcases hc with ⟨rfl, _⟩ | ⟨e, rfl, _⟩
  · exact pts_nil
  · refine pts_one ⟨fun pins s' σ H' Q' I q => q s H C cl fp pins s' I⟩
theorem comp_lst {own : List Nat} {t : Tg} {it : IT} {c : T} {ρ : Rho} {μ : Mu} {d : PyI.D} {μ' : Mu} (h : evalE Γ (.comp own t it c A) ρ μ = .ok d μ') : ∃ l, d = .lst l := by
  unfold evalE at h
  cases hit : evalIt Γ it ρ μ with
  | stuck => rw [hit] at h; cases h
  | err c fs μ' => rw [hit] at h; cases h
  | ok its μ1 =>
    rw [hit] at h
    simp only [Res.bind] at h
    split at h
    · cases h; exact ⟨_, rfl⟩
    · cases h
    · cases h
theorem snd_comp {t : Tg} {it : IT} {c : T} (F : Fr X ct tb Γ N sc) (ok : BlkOk N sc scope (ownOf N scope)) (hset : isSet iter = false) (ht : resTg N ((ownOf N scope).map Prod.fst) tg = some t) (hsl : ∀ i ∈ slotsOf t, i ∈ (ownOf N scope).map Prod.snd)
    (hI : SndI X ct Γ tg iter it) (hc : SndTB X ct Γ scope ifs c) (he : SndB X ct Γ scope elt A) : Snd X ct Γ (.ListComp elt [⟨tg, iter, ifs, 0⟩] scope pos) (.comp ((ownOf N scope).map Prod.snd) t it c A) := by
  intro W ρ μ σ H M Q tk E R h
  have okX : BlkOk X.N X.env.scope scope (ownOf N scope) := by rw [F.hN, F.hsc]; exact ok
  exact we (pe_lc (te := wEB X scope elt) (tt := wTB X scope ifs) (g := gOf X.K t) F.calm (by rw [F.hN]; exact F.nd) pI okX (fun s H C cl fp => tg_ok (F.blk ok s H C cl fp) (own_loc ok s H C cl fp) ht) (comp_pts hc) (fun s H C cl fp => ⟨fun pins s' σ H' Q' I q => q s H C cl fp pins s' I⟩) (set_iter hset))
    (comp_core F ok hset ht hsl hI hc he tk E R (h.toN R fun d μ' q => comp_lst q))
end
end PyI
/-! AN: new lists and dicts of ours, as expressions. -/
namespace PyI
open PySem L2
section
variable {X : Cx} {ct : CTab} {Γ : G} {N : List Str} {sc : Scope} {tb : Tb} {e : Expr} {es : List Expr} {A B C' : E} {As : Es} {pos : Pos}
/-- e makes a new list -/
def SndN (X : Cx) (ct : CTab) (Γ : G) (e : Expr) (A : E) : Prop := ∀ (W : WX) (ρ : Rho) (μ : Mu) (σ : St) (H : Hp) (M : AM) (Q : VK), Takes X W → RelE X.K H M σ ρ → RelH X.K ct H μ M →
  OkN X.K ct M H (evalE Γ A ρ μ) Q (fun c d H' => W c d σ H') → wE X e σ H Q
theorem OkN.step {α β : Type} {K : PySem.W.Frag} {R' : Hp → AM → β → α → Prop} {M : AM} {H : Hp} {μ : Mu} {r : Res α} {f : α → Mu → Res PyI.D} {Q : VK} {Q1 : β → Hp → Prop} {W : XK} (R : RelH K ct H μ M) (h : OkN K ct M H (r.bind f) Q W)
    (k : ∀ a μ1 v H1 M1, Evo M H M1 H1 → RelH K ct H1 μ1 M1 → R' H1 M1 v a → OkN K ct M1 H1 (f a μ1) Q W → Q1 v H1) : Ok K ct R' M H r Q1 W := by
  cases r with
  | ok a μ' => exact fun v H' M' e R1 r1 => k a μ' v H' M' e R1 r1 (OkN.evo e R R1 h)
  | err c fs μ' => exact h
  | stuck => exact h
theorem sndN_lst (ha : SndA X ct Γ es As) : SndN X ct Γ (.List es pos) (.lst As) := by
  intro W ρ μ σ H M Q tk E R h
  unfold evalE at h
  refine we (pe_lst pA) ?_
  refine ha W ρ μ σ H M _ tk E R (OkN.step R h fun ds μ1 vs H1 M1 e1 R1 r1 h1 => ?_)
  unfold needs at h1
  by_cases hz : ds.length ≤ 16777216
  · rw [if_pos hz] at h1
    exact ⟨sl16 (by rw [r1.length]; exact hz), fun p hp => h1 p (upd H1 p (.lst vs)) M1 vs hp (Evo.new hp) (R1.hide hp) upd_same (r1.stay ((Stay.hide hp).trans (Evo.new hp).stay))⟩
  · rw [if_neg hz] at h1; exact (h1 : False).elim
theorem sndN_ite {c a b : Expr} {t : T} {A B : E} (hc : SndT X ct Γ c t) (ha : SndN X ct Γ a A) (hb : SndN X ct Γ b B) : SndN X ct Γ (.IfExp c a b pos) (.ite t A B) := by
  intro W ρ μ σ H M Q tk E R h
  unfold evalE at h
  refine we (pe_ifExp pT pE pE) ?_
  refine hc W ρ μ σ H M _ tk E R (OkN.step R h fun k μ1 v H1 M1 e1 R1 r1 h1 => ?_)
  cases r1
  cases k with
  | true => exact ha W ρ μ1 σ H1 M1 _ tk (E.evo e1) R1 h1
  | false => exact hb W ρ μ1 σ H1 M1 _ tk (E.evo e1) R1 h1
theorem addN_ok {H : Hp} {M : AM} {μ : Mu} {x y : V} {d d' : PyI.D} {Q : VK} {W : XK} (R : RelH X.K ct H μ M) (rx : Rep X.K H M x d) (ry : Rep X.K H M y d') (h : OkN X.K ct M H (binD .add d d' μ) Q W) : wO X (binaryOp .Add) x y H Q := by
  have go : ∀ {i j : List PyI.D}, lstD μ d = some i → lstD μ d' = some j → OkN X.K ct M H (needs (i.length + j.length ≤ 16777216) (.ok (.lst (i ++ j)) μ)) Q W → wO X (binaryOp .Add) x y H Q := by
    intro i j e1 e2 h
    obtain ⟨a, xs, rfl, hs, rs⟩ := lst_of R rx e1
    obtain ⟨b, ys, rfl, ht, rt⟩ := lst_of R ry e2
    unfold needs at h
    by_cases hz : i.length + j.length ≤ 16777216
    · rw [if_pos hz] at h
      have rr := rs.append rt
      refine wo op_catL ⟨_, _, _, _, rfl, rfl, hs, ht, ?_, fun p hp => h p (upd H p (.lst (xs ++ ys))) M (xs ++ ys) hp (Evo.new hp) (R.hide hp) upd_same (rr.stay ((Stay.hide hp).trans (Evo.new hp).stay))⟩
      rw [rs.length, rt.length]; exact sl16 hz
    · rw [if_neg hz] at h; exact (h : False).elim
  unfold binD at h
  split at h <;> first
    | contradiction
    | (rename_i q; cases q; done)
    | exact (h : False).elim
    | (unfold needs at h; split at h <;> exact (h : False).elim)
    | skip
  split at h
  · rename_i e1 e2; exact go e1 e2 h
  · exact (h : False).elim
theorem sndN_add {a b : Expr} {A B : E} (ha : Snd X ct Γ a A) (hb : Snd X ct Γ b B) : SndN X ct Γ (.BinOp a .Add b pos) (.bin .add A B) := by
  intro W ρ μ σ H M Q tk E R h
  unfold evalE at h
  refine we (pe_op pO pE pE) ?_
  refine ha W ρ μ σ H M _ tk E R (OkN.step R h fun d μ1 v H1 M1 e1 R1 r1 h1 => ?_)
  refine hb W ρ μ1 σ H1 M1 _ tk (E.evo e1) R1 (OkN.step R1 h1 fun d2 μ2 u H2 M2 e2 R2 r2 h2 => ?_)
  exact addN_ok R2 (r1.evo e2) r2 h2

theorem Evo.addIn {K : PySem.W.Frag} {H H2 : Hp} {M M2 : AM} {p : Addr} (e2 : Evo M H M2 H2) (hp : H p = none) : Evo M H (M2.add p) H2 :=
  ⟨fun n a q => ix_add (e2.pre n a q), by show _ ≤ (M2.ix ++ [p]).length; rw [List.length_append]; exact Nat.le_add_right_of_le e2.len, e2.ex, fun a u hh n => ⟨(e2.keep a u hh n).1, by
    show a ∉ M2.ix ++ [p]
    rw [List.mem_append, List.mem_singleton]
    rintro (q | q)
    · exact (e2.keep a u hh n).2 q
    · exact ne_of_none hh hp q⟩⟩
theorem ref_add {M : AM} {n : Nat} {p : Addr} (h : M.ix.length = n) : (M.add p).ix[n]? = some p := by
  show (M.ix ++ [p])[n]? = some p
  rw [← h, List.getElem?_append_right (Nat.le_refl _), Nat.sub_self]; rfl
/-- a new list, ours from now on -/
theorem snd_newL (ha : SndN X ct Γ e A) : Snd X ct Γ e (.newL A) := by
  intro W ρ μ σ H M Q tk E R h
  unfold evalE at h
  refine ha W ρ μ σ H M Q tk E R ?_
  cases hA : evalE Γ A ρ μ with
  | stuck => rw [hA] at h; exact h
  | err c fs μ' => rw [hA] at h; exact h
  | ok d μ2 =>
    rw [hA] at h
    cases d with
    | lst acc =>
      intro p H2 M2 accv hp e2 R2 hp2 ra
      have hpe : p ∉ M2.ex := by rw [e2.ex]; exact (R.fresh hp).2
      have rm : MRep X.K ct H2 (M2.add p) p (.lst acc) := ⟨accv, hp2, ra.stay Stay.take⟩
      have R3 := R2.takeIn hpe rm
      exact (h : Ok X.K ct (RD X.K) M H (.ok (.ref μ2.length) (μ2 ++ [.lst acc])) Q _) (.ref p) H2 (M2.add p) (e2.addIn (K := X.K) hp) R3 (.ref (ref_add R2.len))
    | _ => exact (h : False).elim

/-! ### {'..': e, ..} -/
abbrev trZ (X : Cx) (ks : List Str) (es : List Expr) : List (TE × TE) := (ks.zip (es.map (wE X))).map fun p => (tC (.str p.1), p.2)
theorem keys_pps {X : Cx} : ∀ {ks : List (Option Expr)} {l : List Str} {es : List Expr}, strKeys ks = some l → l.length = es.length → PPs X pos ks es (trZ X l es) ∧ ks.all (·.isSome) = true ∧ ks.length = es.length
  | [], l, es, h, hl => by
    cases h
    cases es with
    | nil => exact ⟨pps_nil, rfl, rfl⟩
    | cons => cases hl
  | some (.Constant (.str s) _ _) :: ks, l, es, h, hl => by
    obtain ⟨l', h', rfl⟩ := Option.map_eq_some_iff.mp (show (strKeys ks).map (s :: ·) = some l from h)
    cases es with
    | nil => cases hl
    | cons e es =>
      obtain ⟨q1, q2, q3⟩ := keys_pps (X := X) h' (Nat.succ.inj hl)
      exact ⟨pps_cons pe_str pE q1, by rw [List.all_cons, q2]; rfl, congrArg (· + 1) q3⟩
theorem tp_ok {W : WX} {ρ : Rho} (tk : Takes X W) {σ : St} : ∀ {ks : List Str} {es : List Expr} {As : Es}, SndL X ct Γ es As → ks.length = es.length → ∀ {μ : Mu} {H : Hp} {M : AM} {Q : List (V × V) → Hp → Prop}, RelE X.K H M σ ρ → RelH X.K ct H μ M →
    Ok X.K ct (RDs X.K) M H (evalEs Γ As ρ μ) (fun vs H' => Q ((ks.zip vs).map fun p => (V.str p.1, p.2)) H') (fun c d H' => W c d σ H') → tPairs (trZ X ks es) σ H Q
  | [], _, _, .nil, _, μ, H, M, Q, E, R, h => Ok.ret (R := RDs X.K) (μ := μ) (a := []) (v := []) h R Reps.nil
  | k :: ks, e :: es, _, .cons ha hr, hl, μ, H, M, Q, E, R, h => by
    unfold evalEs at h
    show tPairs ((tC (.str k), wE X e) :: trZ X ks es) σ H Q
    refine ha W ρ μ σ H M _ tk E R (h.step fun d μ1 v H1 M1 e1 R1 r1 h1 => ?_)
    refine tp_ok tk hr (Nat.succ.inj hl) (E.evo e1) R1 (h1.step fun ds μ2 vs H2 M2 e2 R2 r2 h2 => ?_)
    exact h2.ret R2 (.cons (r1.evo e2) r2)
theorem merge_rep {κ : Type} [DecidableEq κ] {K : PySem.W.Frag} {H : Hp} {M : AM} : ∀ {more : List (κ × V)} {more' : List (κ × PyI.D)} {ks : List (κ × V)} {kvs : List (κ × PyI.D)}, Paired (fun p q => p.1 = q.1 ∧ Rep K H M p.2 q.2) more more' → Paired (fun p q => p.1 = q.1 ∧ Rep K H M p.2 q.2) ks kvs →
    Paired (fun p q => p.1 = q.1 ∧ Rep K H M p.2 q.2) (more.foldl (fun acc kv => putK acc kv.1 kv.2) ks) (mergeD kvs more')
  | _, _, _, _, .nil, r => r
  | _, _, _, _, .cons (a := p) (b := q) h t, r => by
    show Paired _ (List.foldl _ (putK _ p.1 p.2) _) (mergeD (putD _ q.1 q.2) _)
    refine merge_rep t ?_
    rw [h.1]
    exact prep_put r q.1 h.2
theorem zip_rep {K : PySem.W.Frag} {H : Hp} {M : AM} : ∀ {ks : List Str} {vs : List V} {ds : List PyI.D}, Reps K H M vs ds → Paired (fun p q => p.1 = q.1 ∧ Rep K H M p.2 q.2) ((ks.zip vs).map fun p => ((Sum.inr p.1 : Key), p.2)) ((ks.zip ds).map fun p => ((Sum.inr p.1 : Key), p.2))
  | [], _, _, _ => Paired.nil
  | _ :: _, _, _, .nil => Paired.nil
  | k :: ks, _, _, .cons h r => .cons ⟨rfl, h⟩ (zip_rep r)
theorem snd_disp {k : Option Expr} {ks : List (Option Expr)} {l : List Str} (hk : strKeys (k :: ks) = some l) (h15 : l.length ≤ 15) (hl : l.length = es.length) (hs : SndL X ct Γ es As) : Snd X ct Γ (.Dict (k :: ks) es pos) (.disp l As) := by
  intro W ρ μ σ H M Q tk E R h
  unfold evalE at h
  obtain ⟨q1, q2, q3⟩ := keys_pps (X := X) (pos := pos) hk hl
  refine we (pe_disp q1 q2 q3 (fun z => by cases z) (by rw [q3, ← hl]; exact h15)) ?_
  intro p hp
  have ev0 : Evo (M.hide p) (upd H p (.dK [])) (M.hide p) (upd H p (.dK [])) := Evo.refl _ _
  have E0 : RelE X.K (upd H p (.dK [])) (M.hide p) σ ρ := E.stay ((Stay.hide hp).trans (Evo.new hp).stay)
  have R0 : RelH X.K ct (upd H p (.dK [])) μ (M.hide p) := R.hide hp
  refine tp_ok tk hs hl E0 R0 ?_
  cases hA : evalEs Γ As ρ μ with
  | stuck => rw [hA] at h; exact h
  | err c fs μ' =>
    rw [hA] at h
    intro cls d H' M' e R' er
    have hsp : ∃ M1, M' = AM.hide M1 p := ⟨⟨M'.ix, M.ex⟩, by cases M'; exact congrArg _ e.ex⟩
    obtain ⟨M1, rfl⟩ := hsp
    have e' : Evo M H M1 H' := (Evo.new hp).trans e.unhide
    obtain ⟨rc, dx, vs, rd, r1, r2, r3⟩ := er
    exact (h : Ok X.K ct (RD X.K) M H (.err c fs μ') Q _) cls d H' M1 e' R'.unhide ⟨rc, dx, vs, rd, r1, r2, r3.stay Stay.unhide⟩
  | ok ds μ' =>
    rw [hA] at h
    have h : Ok X.K ct (RD X.K) M H (needs (ds.length = l.length ∧ l.length ≤ 15) (.ok (.ref μ'.length) (μ' ++ [.dk (mergeD [] ((l.zip ds).map fun p => ((Sum.inr p.1 : Key), p.2)))]))) Q (fun c d H' => W c d σ H') := h
    obtain ⟨⟨hd, _⟩, h⟩ := h.needs
    intro vs H' M' e R' rs
    have hsp : ∃ M1, M' = AM.hide M1 p := ⟨⟨M'.ix, M.ex⟩, by cases M'; exact congrArg _ e.ex⟩
    obtain ⟨M1, rfl⟩ := hsp
    have e' : Evo M H M1 H' := (Evo.new hp).trans e.unhide
    have hpd : H' p = some (.dK []) := (e.keep p _ upd_same (R0.exs p (List.mem_cons_self ..)).2).1
    refine ⟨hpd, (l.zip vs).map fun q => ((Sum.inr q.1 : Key), q.2), ?_, ?_, ?_⟩
    · rw [List.map_map]; rfl
    · rw [List.length_map, List.length_zip]; omega
    · have hin : p ∈ (AM.hide M1 p).ex := List.mem_cons_self ..
      have R2 : RelH X.K ct (upd H' p (.dK (mergeK [] ((l.zip vs).map fun q => ((Sum.inr q.1 : Key), q.2))))) μ' (AM.hide M1 p) := R'.mutEx hin
      have hpe : p ∉ M1.ex := by
        have := e'.ex
        rw [this]; exact (R.fresh hp).2
      have rs2 : Reps X.K (upd H' p (.dK (mergeK [] ((l.zip vs).map fun q => ((Sum.inr q.1 : Key), q.2))))) (M1.add p) vs ds := (rs.stay (Stay.mutEx hin)).stay Stay.take
      have R3 := R2.takeIn hpe (mo := .dk (mergeD [] ((l.zip ds).map fun p => ((Sum.inr p.1 : Key), p.2)))) ⟨_, upd_same, merge_rep (zip_rep rs2) .nil⟩
      exact h (.ref p) _ (M1.add p) ((e'.newEx hp).addIn (K := X.K) hp) R3 (.ref (ref_add R'.len))
end
end PyI
/-! A11: the resolver is sound for expressions. -/
namespace PyI
open PySem L2
structure SndAt (ct : CTab) (Γ : G) (C : RC) (n : Nat) : Prop where
  e : ∀ (X : Cx) (sc : Scope) (e : Expr) (A : E), Fr X ct C.tb Γ C.N sc → resE n C sc e = some A → Snd X ct Γ e A
  and : ∀ (X : Cx) (sc : Scope) (es : List Expr) (pos : Pos) (A : E), Fr X ct C.tb Γ C.N sc → resAnd n C sc es = some A → Snd X ct Γ (.BoolOp .And es pos) A
  or : ∀ (X : Cx) (sc : Scope) (es : List Expr) (pos : Pos) (A : E), Fr X ct C.tb Γ C.N sc → resOr n C sc es = some A → Snd X ct Γ (.BoolOp .Or es pos) A
  es : ∀ (X : Cx) (sc : Scope) (es : List Expr) (A : Es), Fr X ct C.tb Γ C.N sc → resEs n C sc es = some A → SndA X ct Γ es A ∧ es.all (fun e => !star e) = true ∧ (es = [] → A = .nil)
  l : ∀ (X : Cx) (sc : Scope) (es : List Expr) (A : Es), Fr X ct C.tb Γ C.N sc → resEs n C sc es = some A → SndL X ct Γ es A
  o : ∀ (X : Cx) (sc : Scope) (o : Option Expr) (A : O), Fr X ct C.tb Γ C.N sc → resO n C sc o = some A → SndO X ct Γ o A
  t : ∀ (X : Cx) (sc : Scope) (e : Expr) (A : T), Fr X ct C.tb Γ C.N sc → resT n C sc e = some A → SndT X ct Γ e A
  tand : ∀ (X : Cx) (sc : Scope) (es : List Expr) (pos : Pos) (A : T), Fr X ct C.tb Γ C.N sc → resTAnd n C sc es = some A → SndW X ct Γ (.BoolOp .And es pos) A
  tor : ∀ (X : Cx) (sc : Scope) (es : List Expr) (pos : Pos) (A : T), Fr X ct C.tb Γ C.N sc → resTOr n C sc es = some A → SndW X ct Γ (.BoolOp .Or es pos) A
  i : ∀ (X : Cx) (sc : Scope) (tg e : Expr) (A : IT), Fr X ct C.tb Γ C.N sc → resI n C sc tg e = some A → SndI X ct Γ tg e A
  en : ∀ (X : Cx) (sc : Scope) (es : List Expr) (A : Es), Fr X ct C.tb Γ C.N sc → resEn n C sc es = some A → SndL X ct Γ es A ∧ SndA X ct Γ es A ∧ es.all (fun e => !star e) = true
theorem pe_or1 {X : Cx} {op : BoolOp} {a : Expr} {pos : Pos} {ct : CTab} {Γ : G} {A : E} (h : Snd X ct Γ a A) : Snd X ct Γ (.BoolOp op [a] pos) A := by
  intro W ρ μ σ H M Q tk E R k
  exact we (pe_one pE) (h W ρ μ σ H M Q tk E R k)
theorem sndAt (ct : CTab) (Γ : G) (C : RC) : ∀ n, SndAt ct Γ C n
  | 0 => by constructor <;> intros <;> rename_i h <;> first | (unfold resE at h; cases h) | (unfold resAnd at h; cases h) | (unfold resOr at h; cases h) | (unfold resEs at h; cases h) | (unfold resO at h; cases h) | (unfold resT at h; cases h) | (unfold resTAnd at h; cases h) | (unfold resTOr at h; cases h) | (unfold resI at h; cases h) | (unfold resEn at h; cases h)
  | n + 1 => by
    have ih := sndAt ct Γ C n
    constructor
    case e =>
      intro X sc e A F h
      unfold resE at h
      split at h
      · cases h; exact snd_cst pe_int fun _ _ => .int _
      · cases h; exact snd_cst pe_bl fun _ _ => .bl _
      · cases h; exact snd_cst pe_non fun _ _ => .non
      · cases h; exact snd_cst pe_str fun _ _ => .str _
      · obtain ⟨hd, h⟩ := guardO_some h
        split at h
        · rename_i hv
          obtain ⟨i, hi, rfl⟩ := Option.map_eq_some_iff.mp h
          exact snd_var F (ixOf_get hi) hv hd
        · obtain ⟨hg, h⟩ := guardO_some h
          obtain ⟨i, hi, rfl⟩ := Option.map_eq_some_iff.mp h
          exact snd_glob F (ixOf_get hi) hg hd
      · obtain ⟨o, ho, h⟩ := Option.bind_eq_some_iff.mp h
        obtain ⟨A1, hA, h⟩ := Option.bind_eq_some_iff.mp h
        obtain ⟨B1, hB, rfl⟩ := Option.map_eq_some_iff.mp h
        exact snd_bin ho (ih.e X sc _ _ F hA) (ih.e X sc _ _ F hB)
      · obtain ⟨A1, hA, rfl⟩ := Option.map_eq_some_iff.mp h
        exact snd_neg (ih.e X sc _ _ F hA)
      · obtain ⟨A1, hA, rfl⟩ := Option.map_eq_some_iff.mp h
        exact snd_inv (ih.e X sc _ _ F hA)
      · obtain ⟨A1, hA, rfl⟩ := Option.map_eq_some_iff.mp h
        exact snd_notv (ih.e X sc _ _ F hA)
      · exact ih.and X sc _ _ _ F h
      · exact ih.or X sc _ _ _ F h
      · split at h
        · next g hg =>
          obtain ⟨x, p2, he, h1, h2, h3⟩ := dicOf_eq hg
          obtain ⟨neg, hn, h⟩ := Option.bind_eq_some_iff.mp h
          obtain ⟨A1, hA, rfl⟩ := Option.map_eq_some_iff.mp h
          rw [he, inOp_eq hn]
          exact snd_gin F h1 h2 h3 (ih.e X sc _ _ F hA)
        obtain ⟨hs, h⟩ := guardO_some h
        obtain ⟨A1, hA, h⟩ := Option.bind_eq_some_iff.mp h
        obtain ⟨B1, hB, rfl⟩ := Option.map_eq_some_iff.mp h
        exact snd_cmp F (by simpa using hs) (ih.e X sc _ _ F hA) (ih.e X sc _ _ F hB)
      · obtain ⟨hs, h⟩ := guardO_some h
        obtain ⟨A1, hA, h⟩ := Option.bind_eq_some_iff.mp h
        obtain ⟨B1, hB, h⟩ := Option.bind_eq_some_iff.mp h
        obtain ⟨C1, hC, rfl⟩ := Option.map_eq_some_iff.mp h
        exact snd_chn F (by simp at hs; exact hs.2) (ih.e X sc _ _ F hA) (ih.e X sc _ _ F hB) (ih.e X sc _ _ F hC)
      · obtain ⟨T1, hT, h⟩ := Option.bind_eq_some_iff.mp h
        obtain ⟨A1, hA, h⟩ := Option.bind_eq_some_iff.mp h
        obtain ⟨B1, hB, rfl⟩ := Option.map_eq_some_iff.mp h
        exact snd_ite (ih.t X sc _ _ F hT) (ih.e X sc _ _ F hA) (ih.e X sc _ _ F hB)
      · rename_i f p args pos
        obtain ⟨hg, h⟩ := guardO_some h
        simp only [Bool.and_eq_true] at hg
        split at h
        · rename_i i k hf
          obtain ⟨hl, h⟩ := guardO_some h
          obtain ⟨A1, hA, rfl⟩ := Option.map_eq_some_iff.mp h
          simp only [Bool.and_eq_true, beq_iff_eq, Option.isNone_iff_eq_none] at hl
          obtain ⟨s1, s2, s3⟩ := ih.es X sc _ _ F hA
          cases args with
          | nil => rw [s3 rfl]; exact snd_call0 F hg.1 hg.2 (fnOf_get hf) hl.2
          | cons a as => exact snd_call F hg.1 hg.2 (fnOf_get hf) hl.2 s2 s1
        · split at h
          · next w hw =>
            obtain ⟨p, hp, h⟩ := Option.bind_eq_some_iff.mp h
            obtain ⟨hl, h⟩ := guardO_some h
            obtain ⟨A1, hA, rfl⟩ := Option.map_eq_some_iff.mp h
            simp only [Bool.and_eq_true] at hl
            obtain ⟨s1, s2, s3⟩ := ih.es X sc _ _ F hA
            cases args with
            | nil => simp at hl
            | cons a as => exact snd_mk F (ownBy_get hw).1 (ownBy_get hw).2 hg.1 hg.2 (fnOf_get hp) (isMet_eq hl.2) s2 s1
          split at h
          · next hi =>
            obtain ⟨q, hq, h⟩ := Option.bind_eq_some_iff.mp h
            obtain ⟨p2, hp⟩ := isiArgs_eq hq
            obtain ⟨hg2, h⟩ := guardO_some h
            simp only [Bool.and_eq_true, Bool.not_eq_true'] at hg2
            obtain ⟨ty, ht, h⟩ := Option.bind_eq_some_iff.mp h
            obtain ⟨A1, hA, rfl⟩ := Option.map_eq_some_iff.mp h
            rw [hp, hi]
            exact snd_isi F (by rw [← hi]; exact hg.2) hg2.1.1 hg2.1.2 ht hg2.2 (ih.e X sc _ _ F hA)
          · obtain ⟨hl, h⟩ := guardO_some h
            obtain ⟨b, hb, h⟩ := Option.bind_eq_some_iff.mp h
            obtain ⟨A1, hA, rfl⟩ := Option.map_eq_some_iff.mp h
            obtain ⟨s1, s2, _⟩ := ih.es X sc _ _ F hA
            cases args with
            | nil => simp at hl
            | cons a as => exact snd_bif F hg.1 hg.2 hb s2 s1
      · obtain ⟨hg, h⟩ := guardO_some h
        simp only [Bool.and_eq_true, decide_eq_true_eq, Bool.not_eq_true', List.isEmpty_eq_false_iff] at hg
        obtain ⟨l, hl, h⟩ := Option.bind_eq_some_iff.mp h
        obtain ⟨h15, h⟩ := guardO_some h
        obtain ⟨A1, hA, h⟩ := Option.bind_eq_some_iff.mp h
        obtain ⟨B1, hB, rfl⟩ := Option.map_eq_some_iff.mp h
        obtain ⟨⟨⟨⟨rfl, g1⟩, g2⟩, g3⟩, g4⟩ := hg
        exact snd_dgt g1 g2 g3 F hl g4 (of_decide_eq_true h15) (ih.e X sc _ _ F hA) (ih.e X sc _ _ F hB)
      · obtain ⟨hg, h⟩ := guardO_some h
        simp only [Bool.and_eq_true] at hg
        split at h
        · next q hq =>
          obtain ⟨p, hp, h⟩ := Option.bind_eq_some_iff.mp h
          obtain ⟨hl, h⟩ := guardO_some h
          obtain ⟨A1, hA, h⟩ := Option.bind_eq_some_iff.mp h
          obtain ⟨As, hAs, rfl⟩ := Option.map_eq_some_iff.mp h
          simp only [Bool.and_eq_true, decide_eq_true_eq, List.any_eq_true] at hl
          obtain ⟨⟨⟨l1, l2⟩, l3⟩, w, hw, hc⟩ := hl
          obtain ⟨s1, s2, s3⟩ := ih.es X sc _ _ F hAs
          exact snd_mcl F hw hc hg.1 hg.2 l2 (fnOf_get hp) (isMet_eq l3) s2 s3 (ih.e X sc _ _ F hA) s1
        split at h
        · next hm =>
          obtain ⟨A1, hA, rfl⟩ := Option.map_eq_some_iff.mp h
          rw [hm.1, List.isEmpty_iff.mp hm.2]
          exact snd_bits hg.1 hg.2 (ih.e X sc _ _ F hA)
        split at h
        · next hm =>
          obtain ⟨q, hq, h⟩ := Option.bind_eq_some_iff.mp h
          obtain ⟨p2, hp⟩ := trArgs_eq hq
          obtain ⟨ht, h⟩ := guardO_some h
          obtain ⟨A1, hA, rfl⟩ := Option.map_eq_some_iff.mp h
          rw [hp, hm]
          exact snd_tr37 F hg.1 hg.2 ht (ih.e X sc _ _ F hA)
        split at h
        · next hm =>
          rw [hm]
          split at h
          · obtain ⟨hs, h⟩ := guardO_some h
            obtain ⟨A1, hA, h⟩ := Option.bind_eq_some_iff.mp h
            obtain ⟨B1, hB, rfl⟩ := Option.map_eq_some_iff.mp h
            exact snd_get1 F hg.1 hg.2 (by simpa using hs) (ih.e X sc _ _ F hA) (ih.e X sc _ _ F hB)
          · obtain ⟨hs, h⟩ := guardO_some h
            simp only [Bool.and_eq_true, Bool.not_eq_true'] at hs
            obtain ⟨A1, hA, h⟩ := Option.bind_eq_some_iff.mp h
            obtain ⟨B1, hB, h⟩ := Option.bind_eq_some_iff.mp h
            obtain ⟨C1, hC, rfl⟩ := Option.map_eq_some_iff.mp h
            exact snd_get2 F hg.1 hg.2 hs.1 hs.2 (ih.e X sc _ _ F hA) (ih.e X sc _ _ F hB) (ih.e X sc _ _ F hC)
          · cases h
        · obtain ⟨hn, h⟩ := guardO_some h
          obtain ⟨m, hm, h⟩ := Option.bind_eq_some_iff.mp h
          obtain ⟨A1, hA, h⟩ := Option.bind_eq_some_iff.mp h
          obtain ⟨As, hAs, rfl⟩ := Option.map_eq_some_iff.mp h
          obtain ⟨s1, s2, s3⟩ := ih.es X sc _ _ F hAs
          exact snd_met hg.1 hg.2 (of_decide_eq_true hn) hm s2 s3 (ih.e X sc _ _ F hA) s1
      · obtain ⟨hg, h⟩ := guardO_some h
        simp only [Bool.and_eq_true, Bool.not_eq_true', List.isEmpty_eq_false_iff] at hg
        obtain ⟨l, hl, h⟩ := Option.bind_eq_some_iff.mp h
        obtain ⟨h15, h⟩ := guardO_some h
        obtain ⟨A1, hA, rfl⟩ := Option.map_eq_some_iff.mp h
        exact snd_dgl F hg.1 hl hg.2 (of_decide_eq_true h15) (ih.e X sc _ _ F hA)
      · obtain ⟨A1, hA, rfl⟩ := Option.map_eq_some_iff.mp h
        exact snd_revs (ih.e X sc _ _ F hA)
      · obtain ⟨A1, hA, h⟩ := Option.bind_eq_some_iff.mp h
        obtain ⟨L1, hL, h⟩ := Option.bind_eq_some_iff.mp h
        obtain ⟨U1, hU, rfl⟩ := Option.map_eq_some_iff.mp h
        exact snd_slc (ih.e X sc _ _ F hA) (ih.o X sc _ _ F hL) (ih.o X sc _ _ F hU)
      · obtain ⟨hs, h⟩ := guardO_some h
        split at h
        · next g hg =>
          obtain ⟨x, p2, he, h1, h2, h3⟩ := dicOf_eq hg
          obtain ⟨B1, hB, rfl⟩ := Option.map_eq_some_iff.mp h
          rw [he]
          exact snd_gdict F (by simpa using hs) h1 h2 h3 (ih.e X sc _ _ F hB)
        obtain ⟨A1, hA, h⟩ := Option.bind_eq_some_iff.mp h
        obtain ⟨B1, hB, rfl⟩ := Option.map_eq_some_iff.mp h
        exact snd_idx F (by simpa using hs) (ih.e X sc _ _ F hA) (ih.e X sc _ _ F hB)
      · obtain ⟨A1, hA, rfl⟩ := Option.map_eq_some_iff.mp h
        exact snd_tup (ih.es X sc _ _ F hA).1
      · obtain ⟨A1, hA, rfl⟩ := Option.map_eq_some_iff.mp h
        exact snd_fmt (ih.e X sc _ _ F hA)
      · exact snd_fs1 (ih.e X sc _ _ F h)
      · obtain ⟨A1, hA, rfl⟩ := Option.map_eq_some_iff.mp h
        exact snd_fs (ih.l X sc _ _ F hA)
      · obtain ⟨A1, hA, rfl⟩ := Option.map_eq_some_iff.mp h
        exact snd_lst (ih.es X sc _ _ F hA).1
      · cases h; exact snd_dnewK
      · obtain ⟨l, hl, h⟩ := Option.bind_eq_some_iff.mp h
        obtain ⟨hg, h⟩ := guardO_some h
        simp only [Bool.and_eq_true, decide_eq_true_eq] at hg
        obtain ⟨A1, hA, rfl⟩ := Option.map_eq_some_iff.mp h
        exact snd_disp hl hg.1 hg.2 (ih.en X sc _ _ F hA).1
      · rename_i elt tg iter ifs scope pos
        obtain ⟨hb, h⟩ := guardO_some h
        simp only [Bool.and_eq_true, Bool.not_eq_true'] at hb
        obtain ⟨t, ht, h⟩ := Option.bind_eq_some_iff.mp h
        obtain ⟨hsl, h⟩ := guardO_some h
        obtain ⟨it, hit, h⟩ := Option.bind_eq_some_iff.mp h
        obtain ⟨c, hc, h⟩ := Option.bind_eq_some_iff.mp h
        obtain ⟨A1, hA, rfl⟩ := Option.map_eq_some_iff.mp h
        have ok := blkOk_by hb.1
        refine snd_comp F ok hb.2 ht (fun i hi => of_decide_eq_true (List.all_eq_true.mp hsl i hi)) (ih.i X sc _ _ _ F hit) ?_ fun s H C' cl fp => ih.e _ _ _ _ (F.blk ok s H C' cl fp) hA
        split at hc
        · cases hc; exact .inl ⟨rfl, rfl⟩
        · exact .inr ⟨_, rfl, fun s H C' cl fp => ih.t _ _ _ _ (F.blk ok s H C' cl fp) hc⟩
        · cases hc
      · obtain ⟨ho, h⟩ := guardO_some h
        obtain ⟨w, hw, h⟩ := Option.bind_eq_some_iff.mp h
        obtain ⟨A1, hA, rfl⟩ := Option.map_eq_some_iff.mp h
        exact snd_fld F (ownAttr_get hw).1 (ownAttr_get hw).2 ho (ih.e X sc _ _ F hA)
      · obtain ⟨hg, h⟩ := guardO_some h
        obtain ⟨A1, hA, h⟩ := Option.bind_eq_some_iff.mp h
        obtain ⟨B1, hB, rfl⟩ := Option.map_eq_some_iff.mp h
        simp only [Bool.and_eq_true, decide_eq_true_eq, Bool.not_eq_true'] at hg
        obtain ⟨⟨⟨rfl, rfl⟩, g1⟩, g2⟩ := hg
        exact snd_maxd F g1 g2 (ih.e X sc _ _ F hA) (ih.e X sc _ _ F hB)
      · cases h
    case and =>
      intro X sc es pos A F h
      unfold resAnd at h
      split at h
      · exact pe_or1 (ih.e X sc _ _ F h)
      · obtain ⟨A1, hA, h⟩ := Option.bind_eq_some_iff.mp h
        obtain ⟨B1, hB, rfl⟩ := Option.map_eq_some_iff.mp h
        exact snd_and (ih.e X sc _ _ F hA) (ih.and X sc _ _ _ F hB)
      · cases h
    case or =>
      intro X sc es pos A F h
      unfold resOr at h
      split at h
      · exact pe_or1 (ih.e X sc _ _ F h)
      · obtain ⟨A1, hA, h⟩ := Option.bind_eq_some_iff.mp h
        obtain ⟨B1, hB, rfl⟩ := Option.map_eq_some_iff.mp h
        exact snd_or (ih.e X sc _ _ F hA) (ih.or X sc _ _ _ F hB)
      · cases h
    case es =>
      intro X sc es A F h
      unfold resEs at h
      split at h
      · cases h; exact ⟨sndA_nil, rfl, fun _ => rfl⟩
      · obtain ⟨hs, h⟩ := guardO_some h
        obtain ⟨A1, hA, h⟩ := Option.bind_eq_some_iff.mp h
        obtain ⟨B1, hB, rfl⟩ := Option.map_eq_some_iff.mp h
        obtain ⟨s1, s2, _⟩ := ih.es X sc _ _ F hB
        refine ⟨sndA_cons (by simpa using hs) (ih.e X sc _ _ F hA) s1, ?_, fun z => by cases z⟩
        rw [List.all_cons, hs, s2]; rfl
    case l =>
      intro X sc es A F h
      unfold resEs at h
      split at h
      · cases h; exact .nil
      · obtain ⟨hs, h⟩ := guardO_some h
        obtain ⟨A1, hA, h⟩ := Option.bind_eq_some_iff.mp h
        obtain ⟨B1, hB, rfl⟩ := Option.map_eq_some_iff.mp h
        exact .cons (ih.e X sc _ _ F hA) (ih.l X sc _ _ F hB)
    case o =>
      intro X sc o A F h
      unfold resO at h
      split at h
      · cases h; exact sndO_none
      · obtain ⟨A1, hA, rfl⟩ := Option.map_eq_some_iff.mp h
        exact sndO_some (ih.e X sc _ _ F hA)
    case t =>
      intro X sc e A F h
      unfold resT at h
      split at h
      · obtain ⟨A1, hA, rfl⟩ := Option.map_eq_some_iff.mp h
        exact sndT_not (ih.t X sc _ _ F hA)
      · exact sndT_w (ih.tand X sc _ _ _ F h)
      · exact sndT_w (ih.tor X sc _ _ _ F h)
      · split at h
        · next g hg =>
          obtain ⟨x, p2, he, h1, h2, h3⟩ := dicOf_eq hg
          obtain ⟨neg, hn, h⟩ := Option.bind_eq_some_iff.mp h
          obtain ⟨A1, hA, rfl⟩ := Option.map_eq_some_iff.mp h
          rw [he, inOp_eq hn]
          exact sndT_gin F h1 h2 h3 (ih.e X sc _ _ F hA)
        obtain ⟨hs, h⟩ := guardO_some h
        obtain ⟨A1, hA, h⟩ := Option.bind_eq_some_iff.mp h
        obtain ⟨B1, hB, rfl⟩ := Option.map_eq_some_iff.mp h
        exact sndT_cmp F (by simpa using hs) (ih.e X sc _ _ F hA) (ih.e X sc _ _ F hB)
      · obtain ⟨hs, h⟩ := guardO_some h
        obtain ⟨A1, hA, h⟩ := Option.bind_eq_some_iff.mp h
        obtain ⟨B1, hB, h⟩ := Option.bind_eq_some_iff.mp h
        obtain ⟨C1, hC, rfl⟩ := Option.map_eq_some_iff.mp h
        exact sndT_chn F (by simp at hs; exact hs.2) (ih.e X sc _ _ F hA) (ih.e X sc _ _ F hB) (ih.e X sc _ _ F hC)
      · obtain ⟨hp, h⟩ := guardO_some h
        obtain ⟨A1, hA, rfl⟩ := Option.map_eq_some_iff.mp h
        exact sndT_val hp (ih.e X sc _ _ F hA)
    case tand =>
      intro X sc es pos A F h
      unfold resTAnd at h
      split at h
      · exact sndW_and1 (ih.t X sc _ _ F h)
      · obtain ⟨A1, hA, h⟩ := Option.bind_eq_some_iff.mp h
        obtain ⟨B1, hB, rfl⟩ := Option.map_eq_some_iff.mp h
        exact sndW_and (ih.t X sc _ _ F hA) (ih.tand X sc _ _ _ F hB)
      · cases h
    case tor =>
      intro X sc es pos A F h
      unfold resTOr at h
      split at h
      · exact sndW_or1 (ih.t X sc _ _ F h)
      · obtain ⟨A1, hA, h⟩ := Option.bind_eq_some_iff.mp h
        obtain ⟨B1, hB, rfl⟩ := Option.map_eq_some_iff.mp h
        exact sndW_or (ih.t X sc _ _ F hA) (ih.tor X sc _ _ _ F hB)
      · cases h
    case i =>
      intro X sc tg e A F h
      unfold resI at h
      split at h
      · split at h
        · rename_i hr
          subst hr
          obtain ⟨hg, h⟩ := guardO_some h
          split at h
          · obtain ⟨hs, h⟩ := guardO_some h
            obtain ⟨A1, hA, rfl⟩ := Option.map_eq_some_iff.mp h
            exact sndI_rng1 F hg (by simpa using hs) (ih.e X sc _ _ F hA)
          · obtain ⟨hs, h⟩ := guardO_some h
            obtain ⟨A1, hA, h⟩ := Option.bind_eq_some_iff.mp h
            obtain ⟨B1, hB, rfl⟩ := Option.map_eq_some_iff.mp h
            simp only [Bool.and_eq_true, Bool.not_eq_true'] at hs
            exact sndI_rng2 F hg hs.1 hs.2 (ih.e X sc _ _ F hA) (ih.e X sc _ _ F hB)
          · obtain ⟨hs, h⟩ := guardO_some h
            obtain ⟨A1, hA, h⟩ := Option.bind_eq_some_iff.mp h
            obtain ⟨B1, hB, h⟩ := Option.bind_eq_some_iff.mp h
            obtain ⟨C1, hC, rfl⟩ := Option.map_eq_some_iff.mp h
            simp only [Bool.and_eq_true, Bool.not_eq_true'] at hs
            exact sndI_rng3 F hg hs.1.1 hs.1.2 hs.2 (ih.e X sc _ _ F hA) (ih.e X sc _ _ F hB) (ih.e X sc _ _ F hC)
          · cases h
        · split at h
          · rename_i hr
            subst hr
            obtain ⟨hg, h⟩ := guardO_some h
            simp only [Bool.and_eq_true] at hg
            split at h
            · obtain ⟨hs, h⟩ := guardO_some h
              obtain ⟨A1, hA, rfl⟩ := Option.map_eq_some_iff.mp h
              exact sndI_enum F hg.1 hg.2 (by simpa using hs) (ih.e X sc _ _ F hA)
            · cases h
          · obtain ⟨A1, hA, rfl⟩ := Option.map_eq_some_iff.mp h
            exact sndI_seq (ih.e X sc _ _ F hA)
      · obtain ⟨hs, h⟩ := guardO_some h
        obtain ⟨A1, hA, rfl⟩ := Option.map_eq_some_iff.mp h
        exact sndI_seq (ih.e X sc _ _ F hA)
    case en =>
      intro X sc es A F h
      unfold resEn at h
      split at h
      · cases h; exact ⟨.nil, sndA_nil, rfl⟩
      · obtain ⟨A1, hA, h⟩ := Option.bind_eq_some_iff.mp h
        obtain ⟨B1, hB, rfl⟩ := Option.map_eq_some_iff.mp h
        have q := snd_newL (sndN_lst (pos := by assumption) (ih.es X sc _ _ F hA).1)
        obtain ⟨r1, r2, r3⟩ := ih.en X sc _ _ F hB
        exact ⟨.cons q r1, sndA_cons rfl q r2, by rw [List.all_cons, r3]; rfl⟩
      · obtain ⟨hs, h⟩ := guardO_some h
        obtain ⟨A1, hA, h⟩ := Option.bind_eq_some_iff.mp h
        obtain ⟨B1, hB, rfl⟩ := Option.map_eq_some_iff.mp h
        have q := ih.e X sc _ _ F hA
        obtain ⟨r1, r2, r3⟩ := ih.en X sc _ _ F hB
        exact ⟨.cons q r1, sndA_cons (by simpa using hs) q r2, by rw [List.all_cons, r3, hs]; rfl⟩
end PyI
/-! A12: statements. -/
namespace PyI
open PySem L2
def isComp : Expr → Bool
  | .ListComp _ _ _ _ => true
  | .SetComp _ _ _ _ => true
  | .DictComp _ _ _ _ _ => true
  | _ => false
def isTup : Expr → Bool
  | .Tuple _ _ _ => true
  | _ => false
theorem sw_plain {e : Expr} {t : Option Expr} {l : Nat} {env : Env} (h : isComp e = false) : swapsWith e t l env = pure false := by
  cases e <;> first | rfl | (simp [isComp] at h)
theorem sw_sole {e t : Expr} {l : Nat} {env : Env} (h : isComp e = false) : swapsWithSole [t] e l env = pure false := by
  unfold swapsWithSole
  exact sw_plain h
theorem sw_stores {ts : List Expr} {e : Expr} {env : Env} (h : isTup e = false) : swappedStores ts e env = pure none := by
  unfold swappedStores
  split
  · rename_i q
    exfalso
    revert q
    split
    · simp [isTup] at h
    · simp [isTup] at h
    · intro q; cases q
  · rfl
def swB (sc scope : Scope) (x : Str) (px pos : Pos) : Bool := (sc.names.lookup x == some .local) && (px.line == pos.line) && !(scope.names.any fun (n, k) => n == x && (k == .local || k == .cell))
theorem sw_comp {elt : Expr} {gs : List Comprehension} {scope sc : Scope} {x : Str} {px pos : Pos} {l : Nat} {env : Env} (hk : env.scope.kind = .function) (hsc : env.scope = sc) :
    swapsWith (.ListComp elt gs scope pos) (some (.Name x px)) l env = pure (swB sc scope x px pos) := by
  have hb : env.blockKind = .function := by unfold Env.blockKind; rw [hk]; rfl
  unfold swapsWith swB
  subst hsc
  simp only [hb, Expr.pos]
  rfl
/-- what follows of a block's end -/
def OkS (K : PySem.W.Frag) (ct : CTab) (M : AM) (H : Hp) (o : Out) (D : Ends) (W : WX) : Prop := match o with
  | .nx ρ μ => ∀ σ' H' M', Evo M H M' H' → RelH K ct H' μ M' → RelE K H' M' σ' ρ → D.nx σ' H'
  | .br ρ μ => ∀ σ' H' M', Evo M H M' H' → RelH K ct H' μ M' → RelE K H' M' σ' ρ → D.bk σ' H'
  | .ct ρ μ => ∀ σ' H' M', Evo M H M' H' → RelH K ct H' μ M' → RelE K H' M' σ' ρ → D.ct σ' H'
  | .rt d μ => ∀ v H' M', Evo M H M' H' → RelH K ct H' μ M' → Rep K H' M' v d → D.rt v H'
  | .er c fs ρ μ => ∀ cls d σ' H' M', Evo M H M' H' → RelH K ct H' μ M' → RelE K H' M' σ' ρ → ErrRep K ct H' M' c fs cls d → W cls d σ' H'
  | .stuck => False
section
variable {K : PySem.W.Frag} {ct : CTab} {M M1 : AM} {H H1 : Hp} {o : Out} {D D' : Ends} {W : WX} {μ : Mu} {ρ : Rho} {σ : St}
theorem OkS.evo (e : Evo M H M1 H1) (h : OkS K ct M H o D W) : OkS K ct M1 H1 o D W := by
  cases o with
  | nx ρ μ => exact fun σ' H' M' e' => h σ' H' M' (e.trans e')
  | br ρ μ => exact fun σ' H' M' e' => h σ' H' M' (e.trans e')
  | ct ρ μ => exact fun σ' H' M' e' => h σ' H' M' (e.trans e')
  | rt d μ => exact fun v H' M' e' => h v H' M' (e.trans e')
  | er c fs ρ μ => exact fun cls d σ' H' M' e' => h cls d σ' H' M' (e.trans e')
  | stuck => exact h
theorem OkS.step {α β : Type} {R : Hp → AM → β → α → Prop} {r : Res α} {f : α → Mu → Out} {Q : β → Hp → Prop} (h : OkS K ct M H (r.then ρ f) D W) (E : RelE K H M σ ρ)
    (k : ∀ a μ1 v H1 M1, Evo M H M1 H1 → RelH K ct H1 μ1 M1 → R H1 M1 v a → OkS K ct M1 H1 (f a μ1) D W → Q v H1) : Ok K ct R M H r Q (fun c d H' => W c d σ H') := by
  cases r with
  | ok a μ' => exact fun v H' M' e R1 r1 => k a μ' v H' M' e R1 r1 (OkS.evo e h)
  | err c fs μ' => exact fun cls d H' M' e R1 r1 => h cls d σ H' M' e R1 (E.evo e) r1
  | stuck => exact h
theorem OkS.stepE {α β : Type} {R : Hp → AM → β → α → Prop} {r : Res α} {f : α → Mu → Out} {Q : β → Hp → Prop} (h : OkS K ct M H (r.then ρ f) D W) (E : RelE K H M σ ρ)
    (k : ∀ a μ1 v H1 M1, r = .ok a μ1 → Evo M H M1 H1 → RelH K ct H1 μ1 M1 → R H1 M1 v a → OkS K ct M1 H1 (f a μ1) D W → Q v H1) : Ok K ct R M H r Q (fun c d H' => W c d σ H') := by
  cases r with
  | ok a μ' => exact fun v H' M' e R1 r1 => k a μ' v H' M' rfl e R1 r1 (OkS.evo e h)
  | err c fs μ' => exact fun cls d H' M' e R1 r1 => h cls d σ H' M' e R1 (E.evo e) r1
  | stuck => exact h
theorem OkS.nxt (h : OkS K ct M H (.nx ρ μ) D W) (R : RelH K ct H μ M) (E : RelE K H M σ ρ) : D.nx σ H := h σ H M (Evo.refl M H) R E
/-- another end -/
theorem OkS.seq {f : Rho → Mu → Out} (h : OkS K ct M H (o.next f) D W) (h1 : D'.rt = D.rt) (h2 : D'.bk = D.bk) (h3 : D'.ct = D.ct)
    (k : ∀ ρ μ σ' H' M', Evo M H M' H' → RelH K ct H' μ M' → RelE K H' M' σ' ρ → OkS K ct M' H' (f ρ μ) D W → D'.nx σ' H') : OkS K ct M H o D' W := by
  cases o with
  | nx ρ μ => exact fun σ' H' M' e R E => k ρ μ σ' H' M' e R E (OkS.evo e h)
  | br ρ μ => exact fun σ' H' M' e R E => by rw [h2]; exact h σ' H' M' e R E
  | ct ρ μ => exact fun σ' H' M' e R E => by rw [h3]; exact h σ' H' M' e R E
  | rt d μ => exact fun v H' M' e R r => by rw [h1]; exact h v H' M' e R r
  | er c fs ρ μ => exact h
  | stuck => exact h
end
def wS (τ : Bool) (X : Cx) (st : Stmt) : TS := fun D σ H => ∀ pins s, (τ = true → 1 ≤ s.toks) → Inv X pins σ H s → wpAny (model X.prog X.w) X.A (exec st X.env) (SP X pins D) X.xe s
def wB (τ : Bool) (X : Cx) (st : List Stmt) : TS := fun D σ H => ∀ pins s, (τ = true → 1 ≤ s.toks) → Inv X pins σ H s → wpAny (model X.prog X.w) X.A (execs st X.env) (SP X pins D) X.xe s
section
variable {τ : Bool} {X : Cx} {st : Stmt} {sts : List Stmt} {D : Ends} {σ : St} {H : Hp}
theorem ws {t : TS} (p : PS X st t) (h : t D σ H) : wS τ X st D σ H := fun pins s _ I => p.run pins s σ H D I h
end
structure FrS (X : Cx) (ct : CTab) (tb : Tb) (Γ : G) (N : List Str) (sc : Scope) (loc : List Str) : Prop where
  f : Fr X ct tb Γ N sc
  l : FnLoc X sc loc
  po : PassesOwn (model X.prog X.w) X.A X.env X.xe
  hs : X.stack = X.env :: X.outer
  hf : X.env.frame = some X.env.locals
def SndS (τ : Bool) (X : Cx) (ct : CTab) (Γ : G) (st : Stmt) (A : S) : Prop := ∀ (W : WX) (ρ : Rho) (μ : Mu) (σ : St) (H : Hp) (M : AM) (D : Ends), Takes X W → RelE X.K H M σ ρ → RelH X.K ct H μ M →
  OkS X.K ct M H (runS Γ A ρ μ) D W → wS τ X st D σ H
def SndBk (τ : Bool) (X : Cx) (ct : CTab) (Γ : G) (st : List Stmt) (A : B) : Prop := ∀ (W : WX) (ρ : Rho) (μ : Mu) (σ : St) (H : Hp) (M : AM) (D : Ends), Takes X W → RelE X.K H M σ ρ → RelH X.K ct H μ M →
  OkS X.K ct M H (runB Γ A ρ μ) D W → wB τ X st D σ H
section
variable {τ : Bool} {X : Cx} {ct : CTab} {Γ : G} {N loc : List Str} {sc : Scope} {tb : Tb} {e a b o i v tg : Expr} {A B' C' : E} {t : T} {pos px : Pos} {x : Str} {k : Nat} {st : Stmt} {sts body : List Stmt} {SA : S} {BA BB : B}
theorem sndS_bad : SndS τ X ct Γ st .bad := by
  intro W ρ μ σ H M D tk E R h
  unfold runS at h
  exact h.elim
/-- x = e -/
theorem sndS_set (F : FrS X ct tb Γ N sc loc) (hx : x ∈ loc) (hi : N[k]? = some x) (hc : isComp e = false) (he : Snd X ct Γ e A) : SndS τ X ct Γ (.Assign [.Name x px] e pos) (.set (.nm k) A) := by
  intro W ρ μ σ H M D tk E R h
  unfold runS at h
  refine ws (ps_set (by rw [F.f.hN]; exact F.f.nd) (by rw [F.f.hN]; exact hi) (by rw [F.f.hsc]; exact (F.l x hx).1) pE (sw_plain hc) (by rw [F.f.hsc]; exact (F.l x hx).2)) ?_
  refine he W ρ μ σ H M _ tk E R (h.step E fun d μ1 v H1 M1 e1 R1 r1 h1 => ?_)
  exact h1.nxt R1 ((E.evo e1).set r1 k)
/-- a, b = e -/
theorem sndS_tup {es : List Expr} {kk : Nat} {l : List Nat} (F : FrS X ct tb Γ N sc loc) (hl : resNames N loc es = some l) (hc : isComp e = false) (ht : isTup e = false) (he : Snd X ct Γ e A) : SndS τ X ct Γ (.Assign [.Tuple es kk px] e pos) (.set (.tp l) A) := by
  intro W ρ μ σ H M D tk E R h
  unfold runS at h
  have pg : PG X (.Tuple es kk px) (gOf X.K (.tp l)) := tg_ok F.f F.l (by show Option.map Tg.tp (resNames N loc es) = _; rw [hl]; rfl)
  refine ws (ps_asg pE pg (sw_sole hc) (sw_stores ht)) ?_
  refine he W ρ μ σ H M _ tk E R (h.step E fun d μ1 v H1 M1 e1 R1 r1 h1 => ?_)
  split at h1
  · rename_i ρ' ha
    exact assign_ok r1 (E.evo e1) ha fun σ' E' _ => h1.nxt R1 E'
  · exact h1.elim
/-- o[i] = v -/
theorem sndS_setIx (F : FrS X ct tb Γ N sc loc) (hs : isSlc i = false) (hc : isComp v = false) (hv : Snd X ct Γ v C') (ho : Snd X ct Γ o A) (hi : Snd X ct Γ i B') : SndS τ X ct Γ (.Assign [.Subscript o i px] v pos) (.setIx A B' C') := by
  intro W ρ μ σ H M D tk E R h
  unfold runS at h
  by_cases hP : ∃ x μ1 y μ2 z μ3 q, evalE Γ C' ρ μ = .ok x μ1 ∧ evalE Γ A ρ μ1 = .ok y μ2 ∧ evalE Γ B' ρ μ2 = .ok z μ3 ∧ putDic μ3 y z x = some q
  · refine ws (ps_dput (by have := F.f.g.units; omega) pE pE pE (sw_plain hc)) ?_
    refine hv W ρ μ σ H M _ tk E R (h.stepE E fun d μ1 vv H1 M1 q1 e1 R1 r1 h1 => ?_)
    have E1 := E.evo e1
    refine ho W ρ μ1 σ H1 M1 _ tk E1 R1 (h1.stepE E1 fun d2 μ2 ov H2 M2 q2 e2 R2 r2 h2 => ?_)
    have E2 := E1.evo e2
    refine hi W ρ μ2 σ H2 M2 _ tk E2 R2 (h2.stepE E2 fun d3 μ3 iv H3 M3 q3 e3 R3 r3 h3 => ?_)
    have E3 := E2.evo e3
    obtain ⟨x, n1, y, n2, z, n3, ⟨n, μ'⟩, p1, p2, p3, p4⟩ := hP
    rw [q1] at p1; cases p1
    rw [q2] at p2; cases p2
    rw [q3] at p3; cases p3
    unfold putA at h3
    rw [p4] at h3
    simp only at h3
    by_cases hn : n < 16777216
    · rw [needs_pos hn] at h3
      obtain ⟨ad, H4, rfl, dp, ev, R4⟩ := putDic_ok R3 (r2.evo e3) r3 ((r1.evo e2).evo e3) p4 hn
      exact ⟨ad, H4, rfl, dp, (h3 : OkS X.K ct M3 H3 (.nx ρ μ') D W) σ H4 M3 ev R4 (E3.evo ev)⟩
    · unfold needs at h3
      rw [if_neg hn] at h3
      exact (h3 : False).elim
  have pg : PG X (.Subscript o i px) (gSub (wE X o) (wE X i) rSetL) := pg_sub pE pE set_list (fun v => by cases i <;> first | rfl | skip; rename_i s _; cases s <;> first | rfl | (simp [isSlc] at hs))
  have hw : swappedStores [.Subscript o i px] v X.env = pure none := by
    unfold swappedStores
    split
    · rename_i q; simp at q
    · rfl
  refine ws (ps_asg pE pg (sw_sole hc) hw) ?_
  refine hv W ρ μ σ H M _ tk E R (h.stepE E fun d μ1 vv H1 M1 q1 e1 R1 r1 h1 => ?_)
  have E1 := E.evo e1
  refine ho W ρ μ1 σ H1 M1 _ tk E1 R1 (h1.stepE E1 fun d2 μ2 ov H2 M2 q2 e2 R2 r2 h2 => ?_)
  have E2 := E1.evo e2
  refine hi W ρ μ2 σ H2 M2 _ tk E2 R2 (h2.stepE E2 fun d3 μ3 iv H3 M3 q3 e3 R3 r3 h3 => ?_)
  have E3 := E2.evo e3
  unfold putA at h3
  split at h3
  · rename_i n μ' hq
    exact (hP ⟨_, _, _, _, _, _, _, q1, q2, q3, hq⟩).elim
  unfold setIxD at h3
  split at h3
  · rename_i n kk
    cases r3
    split at h3
    · rename_i l hl
      split at h3
      · rename_i j hj
        have r2' := r2.evo e3
        cases r2' with
        | ref ha =>
          obtain ⟨xs, hh, rx⟩ := R3.lst hl ha
          have em : Evo M3 H3 M3 (upd H3 _ (.lst (xs.set j vv))) := Evo.mut (List.mem_of_getElem? ha)
          refine ⟨_, xs, _, j, rfl, rfl, hh, by rw [rx.length]; exact hj, ?_⟩
          have r1' := (r1.evo e2).evo e3
          exact (h3 : OkS X.K ct M3 H3 (.nx ρ _) D W) σ _ M3 em (R3.mut ha ⟨_, upd_same, Reps.set (r1'.evo em) j (rx.evo em)⟩) (E3.evo em)
      · exact (h3 : False).elim
    · exact (h3 : False).elim
  · exact (h3 : False).elim
/-- o[k] += e -/
theorem sndS_daug (F : FrS X ct tb Γ N sc loc) (hs : isSlc i = false) (ho : Snd X ct Γ o A) (hi : Snd X ct Γ i B') (hv : Snd X ct Γ v C') : SndS τ X ct Γ (.AugAssign (.Subscript o i px) .Add v pos) (.daug A B' .add C') := by
  intro W ρ μ σ H M D tk E R h
  unfold runS at h
  refine ws (ps_daug (by have := F.f.g.units; omega) pE pE pE ip_add (fun ov iv new => by cases i <;> first | rfl | skip; rename_i s _; cases s <;> first | rfl | (simp [isSlc] at hs))) ?_
  refine ho W ρ μ σ H M _ tk E R (h.step E fun d μ1 ov H1 M1 e1 R1 r1 h1 => ?_)
  have E1 := E.evo e1
  refine hi W ρ μ1 σ H1 M1 _ tk E1 R1 (h1.step E1 fun d2 μ2 iv H2 M2 e2 R2 r2 h2 => ?_)
  have E2 := E1.evo e2
  split at h2
  · rename_i x hg
    obtain ⟨ad, ov', rfl, g, ro⟩ := getDic_ok R2 (r1.evo e2) r2 hg
    obtain ⟨vv, rfl, rv⟩ := ro
    refine ⟨ad, vv, rfl, g, ?_⟩
    refine hv W ρ μ2 σ H2 M2 _ tk E2 R2 (h2.step E2 fun d3 μ3 yv H3 M3 e3 R3 r3 h3 => ?_)
    have E3 := E2.evo e3
    cases rv
    cases r3 with
    | int j =>
      refine ⟨x, j, rfl, rfl, ?_⟩
      have h3 : OkS X.K ct M3 H3 (match putDic μ3 d d2 (.int (x + j)) with
        | some (n, μ') => if n < 16777216 then .nx ρ μ' else .stuck
        | none => .stuck) D W := h3
      split at h3
      · rename_i n μ' hq
        split at h3
        · rename_i hn
          obtain ⟨ad', H4, e, dp, ev, R4⟩ := putDic_ok R3 ((r1.evo e2).evo e3) (r2.evo e3) (.int (x + j)) hq hn
          cases e
          exact ⟨H4, dp, h3 σ H4 M3 ev R4 (E3.evo ev)⟩
        · exact (h3 : False).elim
      · exact (h3 : False).elim
    | _ => exact (h3 : False).elim
  · exact (h2 : False).elim
/-- a tuple of values that is no constant is stored name by name -/
def swVals (vs : List Expr) : Bool := !(vs.any fun | .Starred .. => true | _ => false) && !vs.all (foldedForSure 8) && !vs.all (constantsAlone 8)
/-- a, b = x, y of plain names in one row -/
def swTwo (sc : Scope) (x y : Str) (px py : Pos) (vs : List Expr) : Bool := (sc.names.lookup x == some .local) && (sc.names.lookup y == some .local) && (py.line == px.line) && !(x == y) && decide (vs.length = 2) && swVals vs
theorem sw_fold {ts : List Expr} {vs : List Expr} {k2 : Nat} {pt2 : Pos} {env : Env} (h : vs.all (foldedForSure 8) = true) : swappedStores ts (.Tuple vs k2 pt2) env = pure none := by
  unfold swappedStores
  split
  · rename_i ts' vs' heq
    have hv : vs' = vs := by
      split at heq
      · rename_i q; cases q; cases heq; rfl
      · rename_i q; cases q; cases heq; rfl
      · cases heq
    subst hv
    simp only [h, if_true]
    split
    · rfl
    · split
      · rfl
      · split
        · rfl
        · rfl
  · rfl
theorem sw_two {sc : Scope} {env : Env} {x y : Str} {px py pt pt2 : Pos} {kt k2 : Nat} {vs : List Expr} (hk : env.scope.kind = .function) (hsc : env.scope = sc) (h : swTwo sc x y px py vs = true) : swappedStores [.Tuple [.Name x px, .Name y py] kt pt] (.Tuple vs k2 pt2) env = pure (some [x, y]) := by
  unfold swTwo swVals at h
  simp only [Bool.and_eq_true, Bool.not_eq_true', decide_eq_true_eq, beq_iff_eq] at h
  obtain ⟨⟨⟨⟨⟨h1, h2⟩, h3⟩, h4⟩, h5⟩, ⟨h6, h7⟩, h8⟩ := h
  have hb : env.blockKind = .function := by unfold Env.blockKind; rw [hk]; rfl
  have k1 : (env.kindOf x == some NameKind.local) = true := by
    show (env.scope.names.lookup x == some NameKind.local) = true
    rw [hsc, h1]; rfl
  have k2 : (env.kindOf y == some NameKind.local) = true := by
    show (env.scope.names.lookup y == some NameKind.local) = true
    rw [hsc, h2]; rfl
  have h4' : (y == x) = false := by
    rw [beq_eq_false_iff_ne] at h4 ⊢
    exact fun z => h4 z.symm
  unfold swappedStores
  simp only [h6, h7, h8, hb, h5, Bool.false_eq_true, if_false, List.filterMap_cons, List.filterMap_nil, k1, k2, Bool.true_and, List.length_cons, List.length_nil, List.head?_cons, Option.map_some, Option.getD_some, Expr.pos, h3, beq_self_eq_true, if_true]
  simp [List.eraseDups_cons, h4', h4]
  intro z hz q
  exfalso
  rw [← Bool.not_eq_true, List.any_eq_true] at h6
  refine h6 ⟨z, hz, ?_⟩
  cases z <;> first | rfl | (exact q) | (cases q)
/-- a, b = constants: as one tuple, taken apart -/
theorem sndS_tupF {es vs : List Expr} {kk k2 : Nat} {l : List Nat} {pt2 : Pos} (F : FrS X ct tb Γ N sc loc) (hl : resNames N loc es = some l) (hf : vs.all (foldedForSure 8) = true) (he : Snd X ct Γ (.Tuple vs k2 pt2) A) : SndS τ X ct Γ (.Assign [.Tuple es kk px] (.Tuple vs k2 pt2) pos) (.set (.tp l) A) := by
  intro W ρ μ σ H M D tk E R h
  unfold runS at h
  have pg : PG X (.Tuple es kk px) (gOf X.K (.tp l)) := tg_ok F.f F.l (by show Option.map Tg.tp (resNames N loc es) = _; rw [hl]; rfl)
  refine ws (ps_asg pE pg (sw_sole rfl) (sw_fold hf)) ?_
  refine he W ρ μ σ H M _ tk E R (h.step E fun d μ1 v H1 M1 e1 R1 r1 h1 => ?_)
  split at h1
  · rename_i ρ' ha
    exact assign_ok r1 (E.evo e1) ha fun σ' E' _ => h1.nxt R1 E'
  · exact h1.elim
theorem sndS_par2 {x y : Str} {a b : Expr} {As : Es} {px py pt pt2 : Pos} {kt k2 i j : Nat} (F : FrS X ct tb Γ N sc loc) (hi : N[i]? = some x) (hj : N[j]? = some y) (hsw : swTwo sc x y px py [a, b] = true) (ha : SndA X ct Γ [a, b] As) :
    SndS τ X ct Γ (.Assign [.Tuple [.Name x px, .Name y py] kt pt] (.Tuple [a, b] k2 pt2) pos) (.par2 i j As) := by
  intro W ρ μ σ H M D tk E R h
  unfold runS at h
  have h0 := hsw
  unfold swTwo at h0
  simp only [Bool.and_eq_true, Bool.not_eq_true', decide_eq_true_eq, beq_iff_eq] at h0
  have hne : i ≠ j := fun z => by
    rw [z, hj] at hi
    have e := Option.some.inj hi
    rw [e] at h0
    have := h0.1.1.2
    simp at this
  refine ws (ps_par F.f.calm (by rw [F.f.hN]; exact F.f.nd) (by rw [F.f.hN]; exact hi) (by rw [F.f.hN]; exact hj) hne (by rw [F.f.hsc]; exact h0.1.1.1.1.1) (by rw [F.f.hsc]; exact h0.1.1.1.1.2) pA (sw_two (by rw [F.f.hsc]; exact F.f.kindF) F.f.hsc hsw) (sw_sole rfl)) ?_
  refine ha W ρ μ σ H M _ tk E R (h.step E fun ds μ1 vs H1 M1 e1 R1 r1 h1 => ?_)
  split at h1
  · rename_i x y
    obtain ⟨v, w, rfl, rv, rw'⟩ := reps2 r1
    exact ⟨v, w, rfl, h1.nxt R1 (((E.evo e1).set rv i).set rw' j)⟩
  · exact h1.elim
end
section
variable {τ : Bool} {X : Cx} {ct : CTab} {Γ : G} {N loc : List Str} {sc : Scope} {tb : Tb} {e a b o i v tg : Expr} {A B' C' : E} {t : T} {pos px : Pos} {x : Str} {k : Nat} {st : Stmt} {sts body : List Stmt} {SA : S} {BA BB : B}
theorem sndS_expr (hc : isComp e = false) (he : Snd X ct Γ e A) : SndS τ X ct Γ (.Expr e pos) (.expr A) := by
  intro W ρ μ σ H M D tk E R h
  unfold runS at h
  refine ws (ps_expr pE (sw_plain hc)) ?_
  refine he W ρ μ σ H M _ tk E R (h.step E fun d μ1 v H1 M1 e1 R1 r1 h1 => ?_)
  exact h1.nxt R1 (E.evo e1)
theorem sndS_ret (he : Snd X ct Γ e A) : SndS τ X ct Γ (.Return (some e) pos) (.ret A) := by
  intro W ρ μ σ H M D tk E R h
  unfold runS at h
  refine ws (ps_ret pE) ?_
  refine he W ρ μ σ H M _ tk E R (h.step E fun d μ1 v H1 M1 e1 R1 r1 h1 => ?_)
  exact h1 v H1 M1 (Evo.refl _ _) R1 r1
theorem sndS_retN : SndS τ X ct Γ (.Return none pos) .retN := by
  intro W ρ μ σ H M D tk E R h
  unfold runS at h
  exact ws ps_retN (h .non H M (Evo.refl _ _) R .non)
theorem sndS_pass : SndS τ X ct Γ (.Pass pos) .pass := by
  intro W ρ μ σ H M D tk E R h
  unfold runS at h
  exact ws ps_pass (h.nxt R E)
theorem sndS_brk : SndS τ X ct Γ (.Break pos) .brk := by
  intro W ρ μ σ H M D tk E R h
  unfold runS at h
  exact ws ps_break (h σ H M (Evo.refl _ _) R E)
theorem sndS_cnt : SndS τ X ct Γ (.Continue pos) .cnt := by
  intro W ρ μ σ H M D tk E R h
  unfold runS at h
  exact ws ps_continue (h σ H M (Evo.refl _ _) R E)
/-- x += e -/
theorem sndS_aug {op : Operator} {bo : Bop} (F : FrS X ct tb Γ N sc loc) (hx : x ∈ loc) (hi : N[k]? = some x) (hb : (op = .Add ∧ bo = .add) ∨ (op = .Sub ∧ bo = .sub)) (he : Snd X ct Γ e A) : SndS τ X ct Γ (.AugAssign (.Name x px) op e pos) (.aug k bo A) := by
  intro W ρ μ σ H M En tk E R h
  unfold runS at h
  split at h
  · rename_i z hz
    obtain ⟨vz, h1, r⟩ := E.at_ k _ hz
    cases r
    rcases hb with ⟨rfl, rfl⟩ | ⟨rfl, rfl⟩
    · refine ws (ps_aug (by rw [F.f.hN]; exact F.f.nd) (by rw [F.f.hN]; exact hi) (by rw [F.f.hsc]; exact (F.l x hx).1) pE ip_add (by rw [F.f.hsc]; exact (F.l x hx).2)) ?_
      refine ⟨_, h1, ?_⟩
      refine he W ρ μ σ H M _ tk E R (h.step E fun d μ1 v H1 M1 e1 R1 r1 h1 => ?_)
      cases r1 with
      | int j => exact ⟨z, j, rfl, rfl, OkS.nxt (μ := μ1) h1 R1 ((E.evo e1).set (.int _) k)⟩
      | _ => exact (h1 : False).elim
    · refine ws (ps_aug (by rw [F.f.hN]; exact F.f.nd) (by rw [F.f.hN]; exact hi) (by rw [F.f.hsc]; exact (F.l x hx).1) pE ip_sub (by rw [F.f.hsc]; exact (F.l x hx).2)) ?_
      refine ⟨_, h1, ?_⟩
      refine he W ρ μ σ H M _ tk E R (h.step E fun d μ1 v H1 M1 e1 R1 r1 h1 => ?_)
      cases r1 with
      | int j => exact ⟨z, j, rfl, rfl, OkS.nxt (μ := μ1) h1 R1 ((E.evo e1).set (.int _) k)⟩
      | _ => exact (h1 : False).elim
  · exact h.elim
end
end PyI
/-! A13: statements: new lists, replace, blocks, loops. -/
namespace PyI
open PySem L2
section
variable {τ : Bool} {X : Cx} {ct : CTab} {Γ : G} {N loc : List Str} {sc scope : Scope} {tb : Tb} {e a b o i v tg elt iter c : Expr} {es ifs : List Expr} {A B' C' : E} {As : Es} {t : T} {pos px : Pos} {x : Str} {k : Nat} {st : Stmt} {sts body : List Stmt} {SA : S} {BA BB : B}
/-- x = [e for ..] -/
theorem sndS_setC {tt : Tg} {it : IT} {c : T} (F : FrS X ct tb Γ N sc loc) (hx : x ∈ loc) (hi : N[k]? = some x) (ok : BlkOk N sc scope (ownOf N scope)) (hset : isSet iter = false) (ht : resTg N ((ownOf N scope).map Prod.fst) tg = some tt) (hsl : ∀ i ∈ slotsOf tt, i ∈ (ownOf N scope).map Prod.snd)
    (hI : SndI X ct Γ tg iter it) (hc : SndTB X ct Γ scope ifs c) (he : SndB X ct Γ scope elt A) : SndS τ X ct Γ (.Assign [.Name x px] (.ListComp elt [⟨tg, iter, ifs, 0⟩] scope pos) pos') (.set (.nm k) (.comp ((ownOf N scope).map Prod.snd) tt it c A)) := by
  intro W ρ μ σ H M D tk E R h
  unfold runS at h
  have okX : BlkOk X.N X.env.scope scope (ownOf N scope) := by rw [F.f.hN, F.f.hsc]; exact ok
  have core : tLc (wI X tg iter) (gOf X.K tt) (wTB X scope ifs) (wEB X scope elt) ((ownOf N scope).map (·.2)) σ H (fun x H1 => D.nx (σ.set k (some x)) H1) := by
    refine comp_core F.f ok hset ht hsl hI hc he tk E R (Ok.toN R (fun d μ' q => comp_lst q) (h.step E fun d μ1 v H1 M1 e1 R1 r1 h1 => ?_))
    exact h1.nxt R1 ((E.evo e1).set r1 k)
  cases hsw : swB sc scope x px pos with
  | true =>
    have hl : sc.names.lookup x = some .local := by
      unfold swB at hsw
      simp only [Bool.and_eq_true, beq_iff_eq] at hsw
      exact hsw.1.1
    refine ws (ps_setLc (g := gOf X.K tt) (te := wEB X scope elt) (tt := wTB X scope ifs) (wi := wI X tg iter) F.f.calm (by rw [F.f.hN]; exact F.f.nd) (by rw [F.f.hN]; exact hi) (by rw [F.f.hsc]; exact hl) (by rw [sw_comp (by rw [F.f.hsc]; exact F.f.kindF) F.f.hsc, hsw]) pI okX (fun s H C cl fp => tg_ok (F.f.blk ok s H C cl fp) (own_loc ok s H C cl fp) ht) (comp_pts hc) (fun s H C cl fp => ⟨fun pins s' σ H' Q' I q => q s H C cl fp pins s' I⟩) (set_iter hset)) core
  | false =>
    refine ws (ps_set (by rw [F.f.hN]; exact F.f.nd) (by rw [F.f.hN]; exact hi) (by rw [F.f.hsc]; exact (F.l x hx).1)
      (pe_lc (te := wEB X scope elt) (tt := wTB X scope ifs) (g := gOf X.K tt) (wi := wI X tg iter) F.f.calm (by rw [F.f.hN]; exact F.f.nd) pI okX (fun s H C cl fp => tg_ok (F.f.blk ok s H C cl fp) (own_loc ok s H C cl fp) ht) (comp_pts hc) (fun s H C cl fp => ⟨fun pins s' σ H' Q' I q => q s H C cl fp pins s' I⟩) (set_iter hset))
      (by rw [sw_comp (by rw [F.f.hsc]; exact F.f.kindF) F.f.hsc, hsw]) (by rw [F.f.hsc]; exact (F.l x hx).2)) core
/-- what becomes ours -/
theorem takeNew {W : WX} {ρ : Rho} {μ : Mu} {σ : St} {H : Hp} {M : AM} {D : Ends} {r : Res PyI.D} (E : RelE X.K H M σ ρ) (R : RelH X.K ct H μ M)
    (h : OkS X.K ct M H (r.then ρ fun d μ => match d with
      | .lst l => .nx (ρ.set k (some (.ref μ.length))) (μ ++ [.lst l])
      | _ => .stuck) D W) : OkN X.K ct M H r (fun x H1 => D.nx (σ.set k (some x)) H1) (fun c d H' => W c d σ H') := by
  cases r with
  | stuck => exact h
  | err c fs μ' => exact fun cls d H' M' e R1 r1 => h cls d σ H' M' e R1 (E.evo e) r1
  | ok d μ2 =>
    cases d with
    | lst acc =>
      intro p H2 M2 accv hp e2 R2 hp2 ra
      have hpe : p ∉ M2.ex := by rw [e2.ex]; exact (R.fresh hp).2
      have rm : MRep X.K ct H2 (M2.add p) p (.lst acc) := ⟨accv, hp2, ra.stay Stay.take⟩
      have R3 := R2.takeIn hpe rm
      have ea : Evo M H (M2.add p) H2 := ⟨fun n a q => ix_add (e2.pre n a q), by show _ ≤ (M2.ix ++ [p]).length; rw [List.length_append]; exact Nat.le_add_right_of_le e2.len, e2.ex, fun a u hh n => ⟨(e2.keep a u hh n).1, by
        show a ∉ M2.ix ++ [p]
        rw [List.mem_append, List.mem_singleton]
        rintro (q | q)
        · exact (e2.keep a u hh n).2 q
        · exact ne_of_none hh hp q⟩⟩
      have hl : M2.ix.length = μ2.length := R2.len
      exact h _ H2 (M2.add p) ea R3 ((E.evo ea).set (.ref (by show (M2.ix ++ [p])[μ2.length]? = some p; rw [← hl, List.getElem?_append_right (Nat.le_refl _), Nat.sub_self]; rfl)) k)
    | _ => exact (h : False).elim
/-- x = [e, ..], to be ours -/
theorem sndS_newL (F : FrS X ct tb Γ N sc loc) (hx : x ∈ loc) (hi : N[k]? = some x) (ha : SndA X ct Γ es As) : SndS τ X ct Γ (.Assign [.Name x px] (.List es pos) pos') (.new k (.lst As)) := by
  intro W ρ μ σ H M D tk E R h
  unfold runS at h
  have hN := takeNew E R h
  refine ws (ps_set (by rw [F.f.hN]; exact F.f.nd) (by rw [F.f.hN]; exact hi) (by rw [F.f.hsc]; exact (F.l x hx).1) (pe_lst pA) (sw_plain rfl) (by rw [F.f.hsc]; exact (F.l x hx).2)) ?_
  unfold evalE at hN
  refine ha W ρ μ σ H M _ tk E R ?_
  cases hA : evalEs Γ As ρ μ with
  | stuck => rw [hA] at hN; exact hN.elim
  | err c fs μ' => rw [hA] at hN; exact hN
  | ok ds μ1 =>
    rw [hA] at hN
    intro vs H1 M1 e1 R1 r1
    have hn : OkN X.K ct M H (needs (ds.length ≤ 16777216) (.ok (.lst ds) μ1)) (fun x H1 => D.nx (σ.set k (some x)) H1) (fun c d H' => W c d σ H') := hN
    unfold needs at hn
    by_cases hz : ds.length ≤ 16777216
    · rw [if_pos hz] at hn
      refine ⟨sl16 (by rw [r1.length]; exact hz), fun p hp => ?_⟩
      exact hn p (upd H1 p (.lst vs)) M1 vs (e1.back R R1 hp) (e1.newEx (e1.back R R1 hp)) (R1.hide hp) upd_same (r1.stay ((Stay.hide hp).trans (Evo.new hp).stay))
    · rw [if_neg hz] at hn; exact (hn : False).elim
theorem sndS_newC {tt : Tg} {it : IT} {c : T} (F : FrS X ct tb Γ N sc loc) (hx : x ∈ loc) (hi : N[k]? = some x) (ok : BlkOk N sc scope (ownOf N scope)) (hset : isSet iter = false) (ht : resTg N ((ownOf N scope).map Prod.fst) tg = some tt) (hsl : ∀ i ∈ slotsOf tt, i ∈ (ownOf N scope).map Prod.snd)
    (hI : SndI X ct Γ tg iter it) (hc : SndTB X ct Γ scope ifs c) (he : SndB X ct Γ scope elt A) : SndS τ X ct Γ (.Assign [.Name x px] (.ListComp elt [⟨tg, iter, ifs, 0⟩] scope pos) pos') (.new k (.comp ((ownOf N scope).map Prod.snd) tt it c A)) := by
  intro W ρ μ σ H M D tk E R h
  unfold runS at h
  have okX : BlkOk X.N X.env.scope scope (ownOf N scope) := by rw [F.f.hN, F.f.hsc]; exact ok
  have core : tLc (wI X tg iter) (gOf X.K tt) (wTB X scope ifs) (wEB X scope elt) ((ownOf N scope).map (·.2)) σ H (fun x H1 => D.nx (σ.set k (some x)) H1) := comp_core F.f ok hset ht hsl hI hc he tk E R (takeNew E R h)
  cases hsw : swB sc scope x px pos with
  | true =>
    have hl : sc.names.lookup x = some .local := by
      unfold swB at hsw
      simp only [Bool.and_eq_true, beq_iff_eq] at hsw
      exact hsw.1.1
    refine ws (ps_setLc (g := gOf X.K tt) (te := wEB X scope elt) (tt := wTB X scope ifs) (wi := wI X tg iter) F.f.calm (by rw [F.f.hN]; exact F.f.nd) (by rw [F.f.hN]; exact hi) (by rw [F.f.hsc]; exact hl) (by rw [sw_comp (by rw [F.f.hsc]; exact F.f.kindF) F.f.hsc, hsw]) pI okX (fun s H C cl fp => tg_ok (F.f.blk ok s H C cl fp) (own_loc ok s H C cl fp) ht) (comp_pts hc) (fun s H C cl fp => ⟨fun pins s' σ H' Q' I q => q s H C cl fp pins s' I⟩) (set_iter hset)) core
  | false =>
    refine ws (ps_set (by rw [F.f.hN]; exact F.f.nd) (by rw [F.f.hN]; exact hi) (by rw [F.f.hsc]; exact (F.l x hx).1)
      (pe_lc (te := wEB X scope elt) (tt := wTB X scope ifs) (g := gOf X.K tt) (wi := wI X tg iter) F.f.calm (by rw [F.f.hN]; exact F.f.nd) pI okX (fun s H C cl fp => tg_ok (F.f.blk ok s H C cl fp) (own_loc ok s H C cl fp) ht) (comp_pts hc) (fun s H C cl fp => ⟨fun pins s' σ H' Q' I q => q s H C cl fp pins s' I⟩) (set_iter hset))
      (by rw [sw_comp (by rw [F.f.hsc]; exact F.f.kindF) F.f.hsc, hsw]) (by rw [F.f.hsc]; exact (F.l x hx).2)) core

/-- x = e, to be ours -/
theorem sndS_newN {e : Expr} {A : E} (F : FrS X ct tb Γ N sc loc) (hx : x ∈ loc) (hi : N[k]? = some x) (hc : isComp e = false) (ha : SndN X ct Γ e A) : SndS τ X ct Γ (.Assign [.Name x px] e pos') (.new k A) := by
  intro W ρ μ σ H M D tk E R h
  unfold runS at h
  have hN := takeNew E R h
  exact ws (ps_set (by rw [F.f.hN]; exact F.f.nd) (by rw [F.f.hN]; exact hi) (by rw [F.f.hsc]; exact (F.l x hx).1) pE (sw_plain hc) (by rw [F.f.hsc]; exact (F.l x hx).2)) (ha W ρ μ σ H M _ tk E R hN)

/-! ### replace -/
def SndR (X : Cx) (ct : CTab) (Γ : G) (e : Expr) (A : R) : Prop := ∀ (W : WX) (ρ : Rho) (μ : Mu) (σ : St) (H : Hp) (M : AM) (Q : VK), Takes X W → RelE X.K H M σ ρ → RelH X.K ct H μ M →
  Ok X.K ct (RD X.K) M H (evalR Γ A ρ μ) Q (fun c d H' => W c d σ H') → ∀ pins s, 1 ≤ s.toks → Inv X pins σ H s → wpAny (model X.prog X.w) X.A (eval e X.env) (EP X pins σ Q) X.xe s
theorem sndR_base (h : Snd X ct Γ e A) : SndR X ct Γ e (.base A) := fun W ρ μ σ H M Q tk E R k pins s _ I => h W ρ μ σ H M Q tk E R k pins s I
theorem sndR_repl {RA : PyI.R} {y z : Str} {j1 j2 : Nat} {c0 c1 apos : Pos} (h : SndR X ct Γ o RA) (hyz : (y == z) = false) (hp : plainO o = true) (hl : (apos.endLine == pos.line) = true) : SndR X ct Γ (.Call (.Attribute o "replace" apos) [.Constant (.str y) j1 c0, .Constant (.str z) j2 c1] [] pos) (.repl RA y z) := by
  intro W ρ μ σ H M Q tk E R k pins s h0 I
  let to : TE := fun σ H Q => ∀ pins s, 1 ≤ s.toks → Inv X pins σ H s → wpAny (model X.prog X.w) X.A (eval o X.env) (EP X pins σ Q) X.xe s
  have hto : PET X o to := fun pins s σ H Q h0 I q => q pins s h0 I
  refine CwR.pet_replT (to := to) hto hyz rfl (base_plain hp) hl pins s σ H Q h0 I ?_
  unfold evalR at k
  refine h W ρ μ σ H M _ tk E R (k.step fun d μ1 v H1 M1 e1 R1 r1 h1 => ?_)
  unfold replD at h1
  split at h1
  · cases r1
    obtain ⟨hz, h1⟩ := h1.needs
    exact ⟨_, rfl, hz, h1.ret R1 (.str _)⟩
  · exact h1.elim
theorem sndS_setR {RA : PyI.R} (F : FrS X ct tb Γ N sc loc) (hx : x ∈ loc) (hi : N[k]? = some x) (hc : isComp e = false) (he : SndR X ct Γ e RA) : SndS true X ct Γ (.Assign [.Name x px] e pos) (.setR k RA) := by
  intro W ρ μ σ H M D tk E R h
  unfold runS at h
  intro pins s h0 I
  refine wpAny_Assign_Name (thn (he W ρ μ σ H M (fun v H1 => D.nx (σ.set k (some v)) H1) tk E R (h.step E fun d μ1 v H1 M1 e1 R1 r1 h1 => h1.nxt R1 ((E.evo e1).set r1 k)) pins s (h0 rfl) I) fun v s1 ⟨y, H1, I1, r1, q1⟩ => ?_) (sw_plain hc)
  exact store_ok I1 (by rw [F.f.hN]; exact F.f.nd) (by rw [F.f.hN]; exact hi) (by rw [F.f.hsc]; exact (F.l x hx).1) r1 (fun s2 I2 => ⟨_, H1, I2, q1⟩) (by rw [F.f.hsc]; exact (F.l x hx).2)
/-- return 'pre' + e.replace(..).. + 'post' -/
theorem sndS_retR {RA : PyI.R} {pre post : Str} {j1 j2 : Nat} {p1 p2 p3 p4 : Pos} (he : SndR X ct Γ e RA) : SndS true X ct Γ (.Return (some (.BinOp (.BinOp (.Constant (.str pre) j1 p1) .Add e p2) .Add (.Constant (.str post) j2 p3) p4)) pos) (.retR pre RA post) := by
  intro W ρ μ σ H M D tk E R h
  unfold runS at h
  let to : TE := fun σ H Q => ∀ pins s, 1 ≤ s.toks → Inv X pins σ H s → wpAny (model X.prog X.w) X.A (eval e X.env) (EP X pins σ Q) X.xe s
  have hto : PET X e to := fun pins s σ H Q h0 I q => q pins s h0 I
  intro pins s h0 I
  refine CwR.pst_ret (CwR.pet_op op_add_str (CwR.pet_op op_add_str (CwR.PET.of pe_str) hto) (CwR.PET.of pe_str)) pins s σ H D (h0 rfl) I ?_
  show to σ H _
  refine he W ρ μ σ H M _ tk E R (h.step E fun d μ1 v H1 M1 e1 R1 r1 h1 => ?_)
  cases r1 with
  | str z =>
    unfold binD at h1
    simp only at h1
    have h2 : OkS X.K ct M1 H1 ((needs (pre.length + z.length ≤ 16777216) (Res.ok (PyI.D.str (pre ++ z)) μ1) |>.bind fun y μ => binD .add y (.str post) μ).then ρ fun d μ => .rt d μ) D W := h1
    unfold needs at h2
    by_cases hz : pre.length + z.length ≤ 16777216
    · rw [if_pos hz] at h2
      have h3 : OkS X.K ct M1 H1 ((needs ((pre ++ z).length + post.length ≤ 16777216) (Res.ok (PyI.D.str ((pre ++ z) ++ post)) μ1)).then ρ fun d μ => .rt d μ) D W := h2
      unfold needs at h3
      by_cases hz2 : (pre ++ z).length + post.length ≤ 16777216
      · rw [if_pos hz2] at h3
        refine ⟨pre, z, rfl, rfl, sl16 hz, pre ++ z, post, rfl, rfl, sl16 hz2, ?_⟩
        exact (h3 : OkS X.K ct M1 H1 (.rt _ μ1) D W) _ H1 M1 (Evo.refl _ _) R1 (.str _)
      · rw [if_neg hz2] at h3; exact (h3 : False).elim
    · rw [if_neg hz] at h2; exact (h2 : False).elim
  | _ => exact (h1 : False).elim
/-! ### blocks, loops -/
theorem sndB_nil : SndBk τ X ct Γ [] .nil := by
  intro W ρ μ σ H M D tk E R h
  unfold runB at h
  exact fun pins s _ I => pss_nil.run pins s σ H D I (h.nxt R E)
theorem sndB_cons (h1 : SndS τ X ct Γ st SA) (h2 : SndBk τ X ct Γ sts BA) : SndBk τ X ct Γ (st :: sts) (.cons SA BA) := by
  intro W ρ μ σ H M D tk E R h
  unfold runB at h
  intro pins s h0 I
  have key := h1 W ρ μ σ H M { D with nx := wB τ X sts D } tk E R (h.seq rfl rfl rfl fun ρ' μ' σ' H' M' e' R' E' k => h2 W ρ' μ' σ' H' M' D tk E' R' k) pins s h0 I
  refine wpAny_execs_cons (wpAny_mono (PySem.wpAny_toks key) (fun f s1 q => ?_) fun _ _ x => x.2)
  obtain ⟨hk, q⟩ := q
  cases f with
  | next =>
    obtain ⟨σ', H', I', q⟩ := q
    exact q pins s1 (fun t => Nat.le_trans (h0 t) hk) I'
  | ret v => exact q
  | brk => exact q
  | cont => exact q
theorem sndS_if (hc : SndT X ct Γ c t) (ha : SndBk τ X ct Γ sts BA) (hb : SndBk τ X ct Γ body BB) : SndS τ X ct Γ (.If c sts body pos) (.ifs t BA BB) := by
  intro W ρ μ σ H M D tk E R h
  unfold runS at h
  intro pins s h0 I
  have key := hc W ρ μ σ H M (fun k H1 => if k = true then wB τ X sts D σ H1 else wB τ X body D σ H1) tk E R (h.step E fun k μ1 v H1 M1 e1 R1 r1 h1 => by
    cases r1
    cases k with
    | true => exact ha W ρ μ1 σ H1 M1 D tk (E.evo e1) R1 h1
    | false => exact hb W ρ μ1 σ H1 M1 D tk (E.evo e1) R1 h1) pins s I
  refine wpAny_If (wpAny_mono (PySem.wpAny_toks key) (fun d s1 q => ?_) fun _ _ x => x.2)
  obtain ⟨hk, H1, I1, q⟩ := q
  cases d with
  | true => exact q pins s1 (fun t => Nat.le_trans (h0 t) hk) I1
  | false => exact q pins s1 (fun t => Nat.le_trans (h0 t) hk) I1
theorem sndS_while (F : FrS X ct tb Γ N sc loc) (hc : SndT X ct Γ c t) (hb : SndBk τ X ct Γ body BA) : SndS τ X ct Γ (.While c body [] pos) (.whl t BA) := by
  intro W ρ μ σ H M D tk E R h
  unfold runS at h
  intro pins s h0 I
  refine wpAny_While (codeAny_whileLoop (fun n s' => (τ = true → 1 ≤ s'.toks) ∧ ∃ (ρ' : Rho) (μ' : Mu) (σ' : St) (H' : Hp) (M' : AM), Inv X pins σ' H' s' ∧ RelE X.K H' M' σ' ρ' ∧ RelH X.K ct H' μ' M' ∧ OkS X.K ct M' H' (whileLoop (fun ρ μ => evalT Γ t ρ μ) (fun ρ μ => runB Γ BA ρ μ) n ρ' μ') D W) ?_ Γ.wf ⟨h0, ρ, μ, σ, H, M, I, E, R, h⟩)
  rintro n s1 ⟨h01, ρ1, μ1, σ1, H1, M1, I1, E1, R1, k1⟩
  cases n with
  | zero => exact (k1 : False).elim
  | succ n =>
    unfold whileLoop at k1
    have key := hc W ρ1 μ1 σ1 H1 M1 (fun k H2 => if k = true then wB τ X body { D with nx := fun σ' H' => ∃ ρ' μ' M', RelE X.K H' M' σ' ρ' ∧ RelH X.K ct H' μ' M' ∧ OkS X.K ct M' H' (whileLoop (fun ρ μ => evalT Γ t ρ μ) (fun ρ μ => runB Γ BA ρ μ) n ρ' μ') D W, ct := fun σ' H' => ∃ ρ' μ' M', RelE X.K H' M' σ' ρ' ∧ RelH X.K ct H' μ' M' ∧ OkS X.K ct M' H' (whileLoop (fun ρ μ => evalT Γ t ρ μ) (fun ρ μ => runB Γ BA ρ μ) n ρ' μ') D W, bk := D.nx } σ1 H2 else D.nx σ1 H2) tk E1 R1 (k1.step E1 fun k μ2 v H2 M2 e2 R2 r2 k2 => by
      cases r2
      cases k with
      | false => exact k2.nxt R2 (E1.evo e2)
      | true =>
        simp only [if_true] at k2 ⊢
        refine hb W ρ1 μ2 σ1 H2 M2 _ tk (E1.evo e2) R2 ?_
        cases hr : runB Γ BA ρ1 μ2 with
        | nx ρ' μ' => rw [hr] at k2; exact fun σ' H' M' e' R' E' => ⟨ρ', μ', M', E', R', OkS.evo e' k2⟩
        | ct ρ' μ' => rw [hr] at k2; exact fun σ' H' M' e' R' E' => ⟨ρ', μ', M', E', R', OkS.evo e' k2⟩
        | br ρ' μ' => rw [hr] at k2; exact k2
        | rt d μ' => rw [hr] at k2; exact k2
        | er c fs ρ' μ' => rw [hr] at k2; exact k2
        | stuck => rw [hr] at k2; exact k2) pins s1 I1
    refine wpAny_passesOwn F.po (wpAny_mono (PySem.wpAny_toks key) (fun b s2 q => ?_) fun _ _ x => x.2)
    obtain ⟨hk2, H2, I2, q2⟩ := q
    have h02 : τ = true → 1 ≤ s2.toks := fun t => Nat.le_trans (h01 t) hk2
    cases b with
    | true =>
      rw [if_pos rfl]
      simp only [if_true] at q2
      refine wpAny_passesOwn F.po (wpAny_mono (PySem.wpAny_toks (q2 pins s2 h02 I2)) (fun f s3 q3 => ?_) fun _ _ x => x.2)
      obtain ⟨hk3, q3⟩ := q3
      have h03 : τ = true → 1 ≤ s3.toks := fun t => Nat.le_trans (h02 t) hk3
      cases f with
      | next =>
        obtain ⟨σ3, H3, I3, ρ', μ', M', E', R', k'⟩ := q3
        exact ⟨n, Nat.lt_succ_self n, h03, ρ', μ', σ3, H3, M', I3, E', R', k'⟩
      | cont =>
        obtain ⟨σ3, H3, I3, ρ', μ', M', E', R', k'⟩ := q3
        exact ⟨n, Nat.lt_succ_self n, h03, ρ', μ', σ3, H3, M', I3, E', R', k'⟩
      | brk => exact q3
      | ret v => exact q3
    | false =>
      rw [if_neg Bool.false_ne_true]
      exact wpAny_execs_nil ⟨σ1, H2, I2, q2⟩
end
end PyI
/-! AP: objects of own classes, in statements. -/
namespace PyI
open PySem L2
section
variable {K : PySem.W.Frag} {ct : CTab} {H : Hp} {M : AM} {μ : Mu}
/-- an attribute of ours changes -/
theorem setF_rel (R : RelH K ct H μ M) {n c : Nat} {a dx : Addr} {fvs : List (Str × V)} {fs : List (Str × D)} {f : Str} {v : V} {d : D} (hn : μ[n]? = some (.ins c fs)) (ha : M.ix[n]? = some a) (h1 : H a = some (.ins (ct.cls c) dx fvs)) (h2 : FRep K H M fvs fs) (r : Rep K H M v d) :
    Evo M H M (upd H a (.ins (ct.cls c) dx (L2.putF f v fvs))) ∧ RelH K ct (upd H a (.ins (ct.cls c) dx (L2.putF f v fvs))) (μ.set n (.ins c (putFD f d fs))) M := by
  have hm : a ∈ M.ix := List.mem_of_getElem? ha
  have ev : Evo M H M (upd H a (.ins (ct.cls c) dx (L2.putF f v fvs))) := Evo.mut hm
  refine ⟨ev, RelH.mut R ha ⟨dx, _, upd_same, ?_⟩⟩
  exact paired_imp (fun _ _ q => ⟨q.1, q.2.evo ev⟩) (h2.putF r)
theorem setFD_ok {x : V} {d e : D} {c : Nat} {f : Str} {v : V} {α : Type} {β : Type} (R : RelH K ct H μ M) (r : Rep K H M x d) (rv : Rep K H M v e) {μ' : Mu} (h : setFD c d f e μ = .ok () μ') :
    ∃ a dx fvs, x = .ref a ∧ H a = some (.ins (ct.cls c) dx fvs) ∧ fvs.length < 1000 ∧ Evo M H M (upd H a (.ins (ct.cls c) dx (L2.putF f v fvs))) ∧ RelH K ct (upd H a (.ins (ct.cls c) dx (L2.putF f v fvs))) μ' M := by
  unfold setFD at h
  split at h
  · rename_i n
    cases r with
    | ref ha =>
      split at h
      · rename_i c' fs hn
        split at h
        · rename_i hc
          obtain ⟨rfl, hl⟩ := hc
          cases h
          obtain ⟨dx, fvs, h1, h2⟩ := ins_of R hn ha
          obtain ⟨e1, e2⟩ := setF_rel (f := f) R hn ha h1 h2 rv
          exact ⟨_, dx, fvs, rfl, h1, by rw [h2.len]; exact hl, e1, e2⟩
        · cases h
      · cases h
  · cases h
theorem augI_ints {b : Bop} {v y : D} {k : Int} (h : augI b v y = some k) : ∃ i j, v = .int i ∧ y = .int j := by
  unfold augI at h
  split at h
  · exact ⟨_, _, rfl, rfl⟩
  · exact ⟨_, _, rfl, rfl⟩
  · cases h
theorem setFD_err {c c' : Nat} {x d : D} {f : Str} {fs : List D} {μ' : Mu} : setFD c x f d μ ≠ .err c' fs μ' := by
  intro h
  unfold setFD at h
  repeat (first | split at h | cases h)
end
section
variable {τ : Bool} {X : Cx} {ct : CTab} {Γ : G} {N loc : List Str} {sc : Scope} {tb : Tb} {o v : Expr} {A C' : E} {f : Str} {w : Own} {pos px : Pos}
theorem sndS_setF (F : FrS X ct tb Γ N sc loc) (hw : w ∈ tb.owns) (hf : f ∈ w.attrs) (hc : isComp v = false) (hv : Snd X ct Γ v C') (ho : Snd X ct Γ o A) : SndS τ X ct Γ (.Assign [.Attribute o f px] v pos) (.setF w.c A f C') := by
  intro W ρ μ σ H M D tk E R h
  unfold runS at h
  have O := F.f.g.own w hw
  refine ws (ps_fld pE pE (sw_plain hc)) ?_
  refine hv W ρ μ σ H M _ tk E R (h.step E fun d μ1 vv H1 M1 e1 R1 r1 h1 => ?_)
  have E1 := E.evo e1
  refine ho W ρ μ1 σ H1 M1 _ tk E1 R1 (h1.step E1 fun d2 μ2 ov H2 M2 e2 R2 r2 h2 => ?_)
  cases hs : setFD w.c d2 f d μ2 with
  | stuck => rw [hs] at h2; exact (h2 : False).elim
  | err c fs μ' => exact absurd hs setFD_err
  | ok u μ3 =>
    obtain ⟨a, dx, fvs, rfl, h3, hl, ev, R3⟩ := setFD_ok (α := Unit) (β := Unit) R2 r2 (r1.evo e2) hs
    rw [hs] at h2
    exact ⟨a, _, dx, fvs, rfl, h3, O.cls, O.nos f hf, hl, (h2 : OkS X.K ct M2 H2 (.nx ρ μ3) D W) σ _ M2 ev R3 ((E1.evo e2).evo ev)⟩
theorem sndS_augF {op : Operator} {bo : Bop} (F : FrS X ct tb Γ N sc loc) (hw : w ∈ tb.owns) (hf : f ∈ w.attrs) (hb : (op = .Add ∧ bo = .add) ∨ (op = .Sub ∧ bo = .sub)) (hv : Snd X ct Γ v C') (ho : Snd X ct Γ o A) : SndS τ X ct Γ (.AugAssign (.Attribute o f px) op v pos) (.augF w.c A f bo C') := by
  intro W ρ μ σ H M D tk E R h
  unfold runS at h
  have O := F.f.g.own w hw
  have key : ∀ {rd : V → V → Hp → VK → Prop}, InOp X op rd → (∀ v y k i j H Q, augI bo v y = some k → v = .int i → y = .int j → Q (.int k) H → rd (.int i) (.int j) H Q) → wS τ X (.AugAssign (.Attribute o f px) op v pos) D σ H := by
    intro rd hop hrd
    refine ws (ps_fldaug pE pE hop) ?_
    refine ho W ρ μ σ H M _ tk E R (h.step E fun d μ1 ov H1 M1 e1 R1 r1 h1 => ?_)
    have E1 := E.evo e1
    obtain ⟨a, dx, fvs, u, rfl, h2, h3, _, n, fs, e0, rfl, ha, hn, rf, hl0, r0, hfd⟩ := fld_ok (μ' := μ1) (Q := fun _ _ => True) (W := fun _ _ _ => True) R1 r1 (by
      cases hfd : fldD w.c d f μ1 with
      | stuck => rw [hfd] at h1; exact (h1 : False)
      | err c fs μ' => exact fun _ _ _ _ _ _ _ => trivial
      | ok e μ' => exact fun _ _ _ _ _ _ => trivial)
    rw [hfd] at h1
    have h1 : OkS X.K ct M1 H1 ((evalE Γ C' ρ μ1).then ρ fun y μ => match augI bo e0 y with
        | some k => (setFD w.c (.ref n) f (.int k) μ).then ρ fun _ μ => .nx ρ μ
        | none => .stuck) D W := h1
    refine ⟨a, _, dx, fvs, u, rfl, h2, O.cls, O.nos f hf, h3, ?_⟩
    refine hv W ρ μ1 σ H1 M1 _ tk E1 R1 (h1.step E1 fun y μ2 yv H2 M2 e2 R2 r2 h4 => ?_)
    split at h4
    · rename_i k hk
      obtain ⟨i, j, rfl, rfl⟩ := augI_ints hk
      cases r0
      cases r2
      refine hrd _ _ k i j H2 _ hk rfl rfl ?_
      have r1' : Rep X.K H2 M2 (.ref a) (.ref n) := r1.evo e2
      cases hs : setFD w.c (.ref n) f (.int k) μ2 with
      | stuck => rw [hs] at h4; exact (h4 : False).elim
      | err c fs μ' => exact absurd hs setFD_err
      | ok u μ3 =>
        obtain ⟨a', dx', fvs', ea, h5, hl, ev, R3⟩ := setFD_ok (α := Unit) (β := Unit) R2 r1' (.int k) hs
        cases ea
        rw [hs] at h4
        exact ⟨dx', fvs', h5, hl, (h4 : OkS X.K ct M2 H2 (.nx ρ μ3) D W) σ _ M2 ev R3 ((E1.evo e2).evo ev)⟩
    · exact (h4 : False).elim
  rcases hb with ⟨rfl, rfl⟩ | ⟨rfl, rfl⟩
  · refine key in_add fun v y k i j H Q hk hv hy q => ⟨i, j, rfl, rfl, ?_⟩
    subst hv hy
    cases hk
    exact q
  · refine key in_sub fun v y k i j H Q hk hv hy q => ⟨i, j, rfl, rfl, ?_⟩
    subst hv hy
    cases hk
    exact q
end
end PyI
/-! X1: super().__init__(..) of an own error. -/
namespace PyI
open PySem PySem.Spec PyProof.Rows L2
/-- what the written part says of super() in the method at f of the class at C -/
structure SupK (K : PySem.W.Frag) (P : Program) (C f cda cc : Addr) : Prop where
  fn : ∃ oc od fd osl ar, K.lookup f = some ⟨oc, od, .func fd, osl⟩ ∧ (fd.params.posonlyargs ++ fd.params.args).head? = some ar ∧ ar.arg = "self"
  code : ∃ ccl cdd vs ccs file tf, K.lookup cda = some ⟨ccl, cdd, .fields vs, ccs⟩ ∧ vs[2]? = some (.str file tf) ∧ ((P.main.file : Str) == file) = true
  cell : ∃ cl cld csl, K.lookup cc = some ⟨cl, cld, .cell (some (.ref C)), csl⟩
  cls : ∃ cd, PySem.W.clsIn K C = some cd
  sub : PySem.W.mroIn K C (.ref C) = some true
  opq : PySem.W.nsIn K cStatics "thirdparty.any" = some none
  along : PySem.W.ks_superIn K C C "__init__" = some (some (.builtin "ValueError.__init__"))
  subV : PySem.W.subIn K (.ref C) (.type "ValueError") = some true
  top : (P.main.scope.names.lookup ("super" : Str)).isSome = false
section
variable {X : Cx} {pins : List (Addr × Obj)} {σ : L2.St} {H : Hp} {s : Shared} {C f cda cc a : Addr} {i : Nat} {ta : TA} {e : Expr} {es : List Expr} {Q : VK} {p0 p1 apos pos : Pos} {pl : Sem Bool} {body : List Stmt}
theorem cls_at {K : PySem.W.Frag} {h : Heap} (k : K.In h) {C : Addr} {cd : ClassData} (e : PySem.W.clsIn K C = some cd) : ∃ oD, h.get? C = some oD ∧ oD.data = .cls cd := by
  unfold PySem.W.clsIn at e
  split at e
  · rename_i ho
    cases e
    exact ⟨_, k _ _ ho, rfl⟩
  · cases e
theorem sup_init (I : Inv X pins σ H s) (S : SupK X.K X.prog C f cda cc) (T : OexC X.K C) (hfu : X.env.func = some f) (hco : X.env.code = .ref cda) (hcl : X.env.cells.lookup ("__class__" : Str) = some cc) (hks : X.env.kindOf "super" = some .globalImplicit)
    (hkc : X.env.kindOf "__class__" = some .free) (hka : X.env.kindOf "self" = some .local) (hN : X.N[i]? = some "self") (hσ : σ[i]? = some (some (.ref a))) (ea : H a = some (exo a C none)) (hm : X.mg "super" = none) (ha : PA X (e :: es) ta)
    (h : ta σ H fun vs H1 => H1 a = some (exo a C none) ∧ vs.length ≤ 1000 ∧ Q .non H1)
    (hc : eval (.Call (.Attribute (.Call (.Name "super" p0) [] [] p1) "__init__" apos) (e :: es) [] pos) X.env = (do
      let ov ← attributeBase (.Call (.Name "super" p0) [] [] p1) "__init__" X.env (eval (.Call (.Name "super" p0) [] [] p1) X.env)
      standAt apos.atName
      let (f, first) ← holding [ov] (getMethod ov "__init__" pl)
      callWith pos f first (backTo pos (starEach (e :: es) X.env)) []))
    (he : starEach (e :: es) X.env = (false, eval e X.env) :: starEach es X.env) (hpl : (backTo pos (starEach es X.env)).any (·.1) = false) :
    _root_.PySem.wpAt (model X.prog X.w) X.A (.func body X.env) (eval (.Call (.Attribute (.Call (.Name "super" p0) [] [] p1) "__init__" apos) (e :: es) [] pos) X.env) (EP X pins σ Q) X.xe s := by
  obtain ⟨oc, od, fd, osl, ar, lf, hp, har⟩ := S.fn
  obtain ⟨ccl, cdd, vs, ccs, file, tf, lc, hvs, hfile⟩ := S.code
  obtain ⟨cl, cld, csl, lcell⟩ := S.cell
  obtain ⟨cd, hcd⟩ := S.cls
  have KI := I.kIn
  obtain ⟨oD, hD1, hD2⟩ := cls_at KI hcd
  refine ks_wpAt_MethodCall (pl := pl) ?_ hc
  refine ks_wpAt_super_base hks hkc (by decide) hfu (KI _ _ lf) rfl hp hco (KI _ _ lc) rfl hvs hfile S.top ?_
  obtain ⟨t1, hx⟩ := exo_at I.hok ea
  obtain ⟨mb, hb1, hb2⟩ := I.mod.blt
  refine PySem.W.ks_loadName_global I.ok.kind hks (Calls.loadGlobal_builtin (by rw [I.ok.glob]; exact I.mod.glob.keeps I.bk) hm (by rw [I.ok.blt]; exact hb1.keeps I.bk) ((hb2 _ (by decide)).trans (show bootBuiltins "super" = some (.type "super") by first | boot_by_name | rfl | kernel_rfl)) ⟨rfl, ?_⟩)
  refine wpAny_loadName_free I.ok.kind hkc hcl ⟨_, KI _ _ lcell, rfl⟩ ?_
  rw [har]
  obtain ⟨m, hn, hl⟩ := I.loc
  obtain ⟨u, r, l⟩ := hl i "self" (.ref a) hN hσ (.inl hka)
  obtain rfl : u = Value.ref a := r
  obtain ⟨_, hma⟩ : X.env.kindOf "self" = some .local ∧ m "self" = some (.ref a) := by
    rcases l with ⟨hk, hm⟩ | ⟨hk, _⟩
    · exact ⟨hk, hm⟩
    · rcases hk with hk | hk <;> (rw [hka] at hk; cases hk)
  refine wpAny_loadName_local I.ok.kind hka hn hma ?_
  obtain ⟨hh, g, d, t, os⟩ := s
  refine ks_wpAny_isType_cls hD1 hD2 ⟨rfl, ?_⟩
  refine ks_wpAny_call_super hD1 hD2 hx rfl (fun c z => by cases z) (PySem.W.looks_mroIn KI S.sub) (fun h1 e1 k1 => ?_)
  have I1 : Inv X pins σ H ⟨h1, g, d, t, os⟩ := I.kept (t' := t) k1
  have KI1 := I1.kIn
  have hx1 := k1 _ _ hx
  have inst : PySem.W.InstAt h1 a (PySem.W.excObj C t1 none .none) C none := ⟨hx1, rfl, rfl, trivial⟩
  have hal : PySem.W.alongIn X.K "__init__" ((cd.mro.dropWhile (· != .ref C)).drop 1) = some (some (.builtin "ValueError.__init__")) := by
    have := S.along
    unfold PySem.W.ks_superIn at this
    rw [hcd] at this
    exact this
  refine PySem.W.kxs_getMethod PySem.W.kxs_ValueError e1 (PySem.W.looks_opaque KI1 S.opq) (l₀ := cd.mro) (fun A Q E s k q => wpAny_bind ((PySem.W.looks_clsIn KI1 hcd) A _ E s k (wpAny_pure q))) rfl KI1 hal (inst.type.andThen (PySem.W.looks_subIn KI1 S.subV)) (PySem.W.ks_ne KI1 inst hcd) (by decide) ?_
  have k2 : ∀ b o, h1.get? b = some o → (h1.push (PySem.W.kxs_mw "ValueError.__init__" a)).get? b = some o := fun b o e => Heap.get?_push_of_some _ e
  have I2 : Inv X pins σ H ⟨h1.push (PySem.W.kxs_mw "ValueError.__init__" a), g, d, t + 1, os⟩ := I1.kept (t' := t + 1) k2
  have hu : (h1.push (PySem.W.kxs_mw "ValueError.__init__" a)).get? h1.objs.size = some (PySem.W.kxs_mw "ValueError.__init__" a) := by heap_get
  have hnu : H h1.objs.size = none := I1.hok.fresh (Nat.le_refl _)
  have I3 : Inv X ((h1.objs.size, PySem.W.kxs_mw "ValueError.__init__" a) :: pins) σ H ⟨h1.push (PySem.W.kxs_mw "ValueError.__init__" a), g, d, t + 1, os⟩ := by
    refine { I2 with pin := fun q hq => ?_ }
    rcases List.mem_append.mp hq with hq | hq
    · exact I2.pin q (List.mem_append_left _ hq)
    · rcases List.mem_cons.mp hq with rfl | hq
      · refine ⟨hu, hnu, fun z => ?_, fun z => ?_, fun v z => by cases z⟩
        · exact Nat.ne_of_gt I1.lt z
        · exact I1.nofs (Nat.le_refl _) z
      · exact I2.pin q (List.mem_append_right _ hq)
  show wpAny _ _ (callWith pos (.ref h1.objs.size) [] (backTo pos (starEach (e :: es) X.env)) []) _ _ _
  have hsp : wpAny (model X.prog X.w) X.A (spliced (backTo pos (starEach (e :: es) X.env))) (fun us s1 => PySem.W.KxsAt "ValueError.__init__" h1.objs.size a s1.heap ∧ wpAny (model X.prog X.w) X.A (call (.ref h1.objs.size) us) (EP X pins σ Q) X.xe s1) X.xe ⟨h1.push (PySem.W.kxs_mw "ValueError.__init__" a), g, d, t + 1, os⟩ := by
    refine thn (ha.run pos _ _ σ H _ I3 h) fun us s1 ⟨vs, H1, I4, r1, ea1, hl1, q⟩ => ?_
    have pn := I4.pin _ (List.mem_append_right _ (List.mem_cons_self ..))
    refine ⟨pn.1, ?_⟩
    have I5 : Inv X pins σ H1 s1 := { I4 with pin := fun q hq => I4.pin q (by
      rcases List.mem_append.mp hq with hq | hq
      · exact List.mem_append_left _ hq
      · exact List.mem_append_right _ (List.mem_cons_of_mem _ hq)) }
    obtain ⟨nm, qn, N, bs, bm, sn, sub, ab, col, dd, k0, k1, k2, k3, k5, hC, hbm⟩ := T.cls
    obtain ⟨t2, hx2⟩ := exo_at I5.hok ea1
    have hu2 := pn.1
    have KI5 := I5.kIn
    obtain ⟨h5, g5, d5, tk5, os5⟩ := s1
    refine wpAny_call (codeAny_of_tree ?_)
    show wpAny _ X.A.in1 (callAny (.ref h1.objs.size) ⟨us, []⟩) _ _ _
    simp only [callAny]
    refine wpAny_bind (wpAny_load hu2 ?_)
    simp only [PySem.W.kxs_mw, show (Value.type "method-wrapper" == Value.type "method" || Value.type "method-wrapper" == Value.type "builtin_function_or_method" || Value.type "method-wrapper" == Value.type "method-wrapper") = true by decide, if_true]
    refine PySem.W.KFB.if_so (by decide) ?_
    have FB := F.excBase_ValueError
    refine wpAny_bind (PySem.W.check_bound_init FB.toExcCallFacts (KI5 _ _ hC) hx2 rfl ?_)
    refine wpAny_bind (wpAny_pure (wpAny_pure ?_))
    refine ⟨plainId_quiet FB.init.plain _, codeAny_builtin FB.initEntry ?_⟩
    have hlen : us.length ≤ sizeLine := by
      rw [← Paired.length r1, sizeLine_eq]
      omega
    refine PySem.W.exc_init_tree (cls := .ref C) (t0 := t2) (dv := none) (c2 := .none) (c3 := .none) (b4 := .bool false) hx2 hlen fun h6 k6 hx6 ht6 => ?_
    have J := I5.write (t' := tk5) (x := a) (e := a) (o := exo a C none) (by rw [ea1]; exact True.intro) (.inl rfl) k6 ⟨_, hx6⟩ (exo_ok hx6)
    have eu : upd H1 a (exo a C none) = H1 := by
      funext b
      by_cases hb : b = a
      · rw [hb, upd_same, ea1]
      · rw [upd_ne hb]
    rw [eu] at J
    exact ⟨.non, H1, J, rfl, q⟩
  rw [he] at hsp ⊢
  exact PySem.W.kxs_callWith (i := "ValueError.__init__") (x := a) (by show (false || (backTo pos (starEach es X.env)).any (·.1)) = false; rw [hpl]; rfl) (PySem.Calls.evalArgs_plain hsp)
end
end PyI
/-! AE: errors raised and caught. -/
namespace PyI
open PySem PySem.Spec PyProof.Rows L2
section
variable {K : PySem.W.Frag} {H : Hp} {M : AM}
theorem fmt_of : ∀ {vs : List V} {ds : List PyI.D}, Reps K H M vs ds → ds.all okArg = true → ∀ y ∈ vs, FmtV y
  | _, _, .nil, _, y, hy => nomatch hy
  | v :: vs, d :: ds, .cons h r, q, y, hy => by
    rw [List.all_cons, Bool.and_eq_true] at q
    rcases List.mem_cons.mp hy with rfl | hy
    · cases h <;> simp only [okArg, Bool.and_eq_true, decide_eq_true_eq, Bool.false_eq_true, false_and] at q
      · exact .inl ⟨_, rfl, q.1.1, q.1.2⟩
      · exact .inr ⟨_, rfl, q.1⟩
    · exact fmt_of r q.2 y hy
end
section
variable {τ : Bool} {X : Cx} {ct : CTab} {Γ : G} {N loc : List Str} {sc : Scope} {tb : Tb} {e : Expr} {es : List Expr} {As : Es} {c n : Nat} {x : Str} {p pos rpos : Pos}
theorem sndS_rse (F : FrS X ct tb Γ N sc loc) (hd : okName x = true) (hg : glB sc x = true) {fl : List Str} (hcl : tb.clss[c]? = some (x, fl)) (hfl : fl.length = n) (hs : (e :: es).all (fun e => !star e) = true) (hn : n ≤ 10) (ha : SndA X ct Γ (e :: es) As) :
    SndS τ X ct Γ (.Raise (some (.Call (.Name x p) (e :: es) [] pos)) none rpos) (.rse c n As) := by
  intro W ρ μ σ H M D tk E R h
  unfold runS at h
  by_cases hm : Γ.mkr = true
  · rw [if_pos hm] at h
    obtain ⟨CK, hct, hnd⟩ := F.f.g.cls c x fl hcl
    subst hct
    have hnl : n = (ct.flds c).length := hfl.symm
    obtain ⟨fI, fd, ps, i1, i2, i3, i4⟩ := CK.ini
    have hse : star e = false := by
      have := List.all_eq_true.mp hs e (List.mem_cons_self ..)
      simpa using this
    have hse2 : es.all (fun e => !star e) = true := by rw [List.all_cons, Bool.and_eq_true] at hs; exact hs.2
    refine ws (ps_raise F.f.calm tk (pmk_oex (CX := L2.CX X.prog X.w) CK.T i1 i2 (i4 X.base) (F.f.g.room hm) i3 .nil (passes_call tk fun _ _ _ _ z => z.elim) (gl_of F.f hg) CK.mgx pA (ok1 hd) (star_cons hse) (star_all hse2))) ?_
    refine ha W ρ μ σ H M _ tk E R (h.step E fun ds μ1 vs H1 M1 e1 R1 r1 h1 => ?_)
    by_cases hz : ds.length = n ∧ ds.all okArg = true
    · rw [if_pos hz] at h1
      have hlen := r1.length
      refine ⟨by rw [hlen, hz.1]; omega, fun a hna => ⟨a, vs ++ [], rfl, ?_, ?_, upd_same, fun dx hdx hne => ⟨rfl, dx, (ct.flds c).zip (vs ++ []).reverse, upd_same, ?_, ?_, ?_⟩⟩⟩
      · rw [List.append_nil, hlen, hz.1, hnl]
      · rw [List.append_nil]; exact fmt_of r1 hz.2
      · rw [upd_ne hne, upd_same]
      · rw [upd_ne hne] at hdx; exact hdx
      · rw [upd_ne hne] at hdx
        have eH : upd (del (upd (upd (upd H1 a (exo a (ct.cls c) none)) dx (exd dx ((ct.flds c).zip (vs ++ []).reverse))) a (exo a (ct.cls c) (some dx))) a) dx (.xd ((ct.flds c).zip (vs ++ []).reverse)) = upd H1 dx (.xd ((ct.flds c).zip (vs ++ []).reverse)) := by
          funext b
          by_cases hb : b = dx
          · rw [hb, upd_same, upd_same]
          · rw [upd_ne hb, upd_ne hb]
            by_cases hb2 : b = a
            · rw [hb2, del_same, hna]
            · rw [del_ne hb2, upd_ne hb2, upd_ne hb, upd_ne hb2]
        rw [eH]
        have ev : Evo M1 H1 M1 (upd H1 dx (.xd ((ct.flds c).zip (vs ++ []).reverse))) := Evo.new hdx
        refine (h1 : OkS X.K ct M1 H1 (.er c ds.reverse ρ μ1) D W) (.ref (ct.cls c)) (some dx) σ _ M1 ev (R1.new hdx) ((E.evo e1).evo ev) ⟨rfl, dx, _, rfl, upd_same, ?_, ?_⟩
        · rw [List.map_fst_zip]
          rw [List.append_nil, List.length_reverse, hlen, hz.1, hnl]; exact Nat.le_refl _
        · rw [List.map_snd_zip]
          · exact (congrArg (fun l => Reps X.K _ M1 l ds.reverse) (show (vs ++ []).reverse = vs.reverse by rw [List.append_nil])).mpr ((r1.rev).evo ev)
          · rw [List.append_nil, List.length_reverse, hlen, hz.1, hnl]; exact Nat.le_refl _
    · rw [if_neg hz] at h1
      exact (h1 : False).elim
  · rw [if_neg hm] at h
    exact (h : False).elim
end
end PyI
/-! AF: isinstance of a caught error that has its dict. -/
namespace PyI
open PySem PySem.Spec PySem.Calls PyProof.Rows L2
/-- isinstance(e, c), e the caught error -/
def rIsD (K : PySem.W.Frag) (D a dd : Addr) : List V → Hp → VK → Prop := fun xs H Q => ∃ (c : V) (cv : Value) (b : Bool), xs = [.ref a, c] ∧ (∀ u, RelV c u → u = cv) ∧ PySem.W.kitOne K (.ref D) cv = some b ∧ (∃ vs, H dd = some (.xd vs)) ∧ Q (.bl b) H
theorem call_isD {X : Cx} {a D dd : Addr} {oe : Obj} {pn : List (Addr × Obj)} (C : ExcC X.K D) (hz : Zc (.ref D) (some dd) oe) (hf : ∃ vs, oe.data = .fields vs) : CallR (X.suite a ((a, oe) :: pn)) (.builtin "isinstance") (rIsD X.K D a dd) := by
  intro pins s σ H xs us Q I r h
  obtain ⟨c, cv, b, rfl, hcv, e, ⟨vs, hdd⟩, q⟩ := h
  obtain ⟨u1, u2, rfl⟩ : ∃ u1 u2, us = [u1, u2] := by
    cases r with
    | cons _ r => cases r with
      | cons _ r => cases r; exact ⟨_, _, rfl⟩
  cases r with
  | cons rx r => cases r with
    | cons rt _ =>
      obtain rfl : u1 = Value.ref a := rx
      obtain rfl := hcv _ rt
      have pin := (I.pin (a, oe) (List.mem_append.mpr (.inl List.mem_cons_self))).1
      obtain ⟨flds, hfl⟩ := hf
      obtain ⟨mA, hns, _⟩ : ∃ mA, s.heap.Ns1 dd mA ∧ ∀ f, RelO (vs.lookup f) (mA f) := I.hok dd _ hdd
      obtain ⟨odd, hod, _⟩ := lookIn_ns hns
      have J : PySem.W.InstAt s.heap a oe D (some odd) := ⟨pin, hz.1, by unfold PySem.W.notCls; rw [hfl] <;> rfl, by rw [hz.2]; exact hod⟩
      exact PySem.W.kia_one (PySem.W.kitx_exc (od := some odd) (by obtain ⟨cd, q, _⟩ := PySem.W.any_some C.hd; rw [q]; rfl) C.hg C.hk C.hs C.ha C.hn C.ht C.hm) I.kIn J e (fun z => nomatch z) fun tk => ⟨.bl b, H, I.kept (t' := tk) fun _ _ z => z, rfl, q⟩
end PyI
/-! AG: try: return e; except C as n: a suite that tests kinds and hands back fields. -/
namespace PyI
open PySem PySem.Spec PyProof.Rows L2
/-- a literal, or a field of the error -/
def resXA (n : Str) (fl : List Str) : Expr → Option XA
  | .Constant (.int i) _ _ => some (.cst (.int i))
  | .Constant (.bool b) _ _ => some (.cst (.bl b))
  | .Constant .none _ _ => some (.cst .non)
  | .Constant (.str s) _ _ => some (.cst (.str s))
  | .Attribute (.Name y _) f _ => guardO (decide (y = n)) ((ixOf f fl).map .fld)
  | _ => none
def resXAs (n : Str) (fl : List Str) : List Expr → Option (List XA)
  | [] => some []
  | e :: es => guardO (!star e) ((resXA n fl e).bind fun a => (resXAs n fl es).map fun l => a :: l)
def resXR (n : Str) (fl : List Str) : Expr → Option XR
  | .Tuple es _ _ => (resXAs n fl es).map .tup
  | e => (resXA n fl e).map .one
-- what a test of kinds says
mutual
def resXT (tb : Tb) (sc : Scope) (c : Nat) (n : Str) : Nat → Expr → Option Bool
  | 0, _ => none
  | k + 1, e => match e with
    | .Call (.Name f _) [.Name y _, .Name x _] [] _ => guardO (decide (f = "isinstance") && decide (y = n) && glB sc f && okName y && okName x && glB sc x) ((tb.isx.find? fun p => p.1 == c && p.2.1 == x).map fun p => p.2.2)
    | .UnaryOp .Not a _ => (resXT tb sc c n k a).map fun b => !b
    | .BoolOp .And vs _ => resXAnd tb sc c n k vs
    | .BoolOp .Or vs _ => resXOr tb sc c n k vs
    | _ => none
def resXAnd (tb : Tb) (sc : Scope) (c : Nat) (n : Str) : Nat → List Expr → Option Bool
  | 0, _ => none
  | k + 1, vs => match vs with
    | [a] => resXT tb sc c n k a
    | a :: b :: r => (resXT tb sc c n k a).bind fun x => (resXAnd tb sc c n k (b :: r)).map fun y => x && y
    | [] => none
def resXOr (tb : Tb) (sc : Scope) (c : Nat) (n : Str) : Nat → List Expr → Option Bool
  | 0, _ => none
  | k + 1, vs => match vs with
    | [a] => resXT tb sc c n k a
    | a :: b :: r => (resXT tb sc c n k a).bind fun x => (resXOr tb sc c n k (b :: r)).map fun y => x || y
    | [] => none
end
def resXE (tb : Tb) (sc : Scope) (c : Nat) (n : Str) (fl : List Str) : Nat → Expr → Option XR
  | 0, _ => none
  | k + 1, e => match e with
    | .IfExp t a b _ => (resXT tb sc c n 40 t).bind fun v => if v then resXE tb sc c n fl k a else resXE tb sc c n fl k b
    | e => resXR n fl e
def resXS (tb : Tb) (sc : Scope) (c : Nat) (n : Str) (fl : List Str) : Nat → List Stmt → Option XR
  | 0, _ => none
  | k + 1, sts => match sts with
    | [.Return (some e) _] => resXE tb sc c n fl 10 e
    | .If t body [] _ :: rest => (resXT tb sc c n 40 t).bind fun b => if b then resXS tb sc c n fl k body else resXS tb sc c n fl k rest
    | _ => none
section
variable {X : Cx} {ct : CTab} {Γ : G} {N : List Str} {sc : Scope} {tb : Tb} {c i : Nat} {n x : Str} {a dd : Addr} {oe : Obj} {pn : List (Addr × Obj)} {vs : List (Str × V)}
/-- within the suite -/
structure InX (X : Cx) (ct : CTab) (Γ : G) (N : List Str) (sc : Scope) (tb : Tb) (c i : Nat) (n : Str) (a dd : Addr) (oe : Obj) : Prop where
  f : Fr X ct tb Γ N sc
  cls : ∃ x, ClsK X.prog X.w X.K X.mg (ct.cls c) x (ct.flds c)
  hi : N[i]? = some n
  vis : visB sc n = true
  okn : okName n = true
  hz : Zc (.ref (ct.cls c)) (some dd) oe
  hf : ∃ us, oe.data = .fields us
def Pre (i : Nat) (a dd : Addr) (vs : List (Str × V)) (σ : L2.St) (H : Hp) : Prop := σ[i]? = some (some (.ref a)) ∧ H dd = some (.xd vs)
theorem lookup_at : ∀ {vs : List (Str × V)} {fl : List Str} {j : Nat} {f : Str} {v : V}, vs.map (·.1) = fl → fl.Nodup → fl[j]? = some f → (vs.map (·.2))[j]? = some v → vs.lookup f = some v
  | [], _, _, _, _, e, _, h, _ => by subst e; cases h
  | (g, u) :: vs, _, 0, f, v, e, _, h, k => by
    subst e
    cases h
    cases k
    simp
  | (g, u) :: vs, _, j + 1, f, v, e, nd, h, k => by
    subst e
    rw [List.map_cons, List.nodup_cons] at nd
    have h2 : (vs.map (·.1))[j]? = some f := h
    have hne : (f == g) = false := beq_eq_false_iff_ne.mpr fun z => nd.1 (by rw [← z]; exact List.mem_of_getElem? h2)
    rw [List.lookup_cons, hne]
    exact lookup_at rfl nd.2 h2 k
theorem vis_of {X : Cx} (hsc : X.env.scope = sc) (hv : visB sc x = true) : Vis X.env.scope x := by
  rw [hsc]
  unfold visB at hv
  unfold Vis
  split at hv
  · rename_i q; exact .inl q
  · rename_i q; exact .inr (.inl q)
  · rename_i q; exact .inr (.inr q)
  · cases hv
theorem pe_err {p : Pos} (S : InX X ct Γ N sc tb c i n a dd oe) : PE (X.suite a ((a, oe) :: pn)) (.Name n p) (tVar i) :=
  pe_var (by show X.N[i]? = _; rw [S.f.hN]; exact S.hi) (vis_of (X := X.suite a ((a, oe) :: pn)) S.f.hsc S.vis) (ok1 S.okn) (by have := S.okn; simp [okName] at this ⊢; exact this.1.2)
theorem xa_ok {e : Expr} {A : XA} (S : InX X ct Γ N sc tb c i n a dd oe) (h : resXA n (ct.flds c) e = some A) {M : AM} {fs : List PyI.D} {d : PyI.D} (hd : A.val fs = some d) {σ : L2.St} {H : Hp} (pre : Pre i a dd vs σ H) (hn : vs.map (·.1) = ct.flds c) (hnd : (ct.flds c).Nodup) (r : Reps X.K H M (vs.map (·.2)) fs) {Q : VK}
    (q : ∀ v, Rep X.K H M v d → Q v H) : wE (X.suite a ((a, oe) :: pn)) e σ H Q := by
  unfold resXA at h
  split at h
  · cases h; cases hd; exact we pe_int (q _ (.int _))
  · cases h; cases hd; exact we pe_bl (q _ (.bl _))
  · cases h; cases hd; exact we pe_non (q _ .non)
  · cases h; cases hd; exact we pe_str (q _ (.str _))
  · rename_i y p f p2
    obtain ⟨hy, h2⟩ := guardO_some h
    obtain ⟨j, hj, rfl⟩ := Option.map_eq_some_iff.mp h2
    rw [of_decide_eq_true hy]
    have hj := ixOf_get hj
    obtain ⟨xc, C⟩ := S.cls
    obtain ⟨v, hv, rv⟩ := r.get hd
    have hlk : vs.lookup f = some v := lookup_at hn hnd hj hv
    refine we (pe_xf C.xf (C.nos f (List.mem_of_getElem? hj)) S.hz S.hf (pe_err S)) ?_
    exact ⟨.ref a, pre.1, rfl, rfl, dd, vs, v, rfl, pre.2, hlk, q _ rv⟩
  · cases h
theorem xas_ok (S : InX X ct Γ N sc tb c i n a dd oe) {M : AM} {fs : List PyI.D} {H : Hp} (hn : vs.map (·.1) = ct.flds c) (hnd : (ct.flds c).Nodup) (r : Reps X.K H M (vs.map (·.2)) fs) {σ : L2.St} (pre : Pre i a dd vs σ H) : ∀ {es : List Expr} {l : List XA} {ds : List PyI.D}, resXAs n (ct.flds c) es = some l → XA.vals fs l = some ds →
    ∀ {Q : List V → Hp → Prop}, (∀ us, Reps X.K H M us ds → Q us H) → wA (X.suite a ((a, oe) :: pn)) es σ H Q
  | [], l, ds, h, hv, Q, q => by
    cases h; cases hv
    exact wa pa_nil (q [] .nil)
  | e :: es, l, ds, h, hv, Q, q => by
    unfold resXAs at h
    obtain ⟨hs, h2⟩ := guardO_some h
    obtain ⟨A, hA, h3⟩ := Option.bind_eq_some_iff.mp h2
    obtain ⟨l', hl, rfl⟩ := Option.map_eq_some_iff.mp h3
    unfold XA.vals at hv
    split at hv
    · rename_i d ds' e1 e2
      cases hv
      refine wa (pa_cons pE pA (star_cons (by simpa using hs))) ?_
      exact xa_ok S hA e1 pre hn hnd r fun v rv => xas_ok S hn hnd r pre hl e2 fun us ru => q (v :: us) (.cons rv ru)
    · cases hv
theorem vals_len {fs : List PyI.D} : ∀ {l : List XA} {ds : List PyI.D}, XA.vals fs l = some ds → ds.length = l.length
  | [], ds, h => by cases h; rfl
  | a :: l, ds, h => by
    unfold XA.vals at h
    split at h
    · rename_i d ds' e1 e2
      cases h
      rw [List.length_cons, List.length_cons, vals_len e2]
    · cases h
structure SndX (X : Cx) (ct : CTab) (Γ : G) (N : List Str) (sc : Scope) (tb : Tb) (c i : Nat) (n : Str) (k : Nat) : Prop where
  t : ∀ (a dd : Addr) (oe : Obj) (pn : List (Addr × Obj)) (vs : List (Str × V)) (e : Expr) (b : Bool), InX X ct Γ N sc tb c i n a dd oe → resXT tb sc c n k e = some b → ∀ {σ : L2.St} {H : Hp} {Q : Bool → Hp → Prop}, Pre i a dd vs σ H → Q b H → wT (X.suite a ((a, oe) :: pn)) e σ H Q
  and : ∀ (a dd : Addr) (oe : Obj) (pn : List (Addr × Obj)) (vs : List (Str × V)) (es : List Expr) (p : Pos) (b : Bool), InX X ct Γ N sc tb c i n a dd oe → resXAnd tb sc c n k es = some b → ∀ {σ : L2.St} {H : Hp} {Q : Bool → Hp → Prop}, Pre i a dd vs σ H → Q b H → wW (X.suite a ((a, oe) :: pn)) (.BoolOp .And es p) σ H Q
  or : ∀ (a dd : Addr) (oe : Obj) (pn : List (Addr × Obj)) (vs : List (Str × V)) (es : List Expr) (p : Pos) (b : Bool), InX X ct Γ N sc tb c i n a dd oe → resXOr tb sc c n k es = some b → ∀ {σ : L2.St} {H : Hp} {Q : Bool → Hp → Prop}, Pre i a dd vs σ H → Q b H → wW (X.suite a ((a, oe) :: pn)) (.BoolOp .Or es p) σ H Q
theorem sndX : ∀ k, SndX X ct Γ N sc tb c i n k
  | 0 => ⟨fun _ _ _ _ _ _ _ _ h => (by unfold resXT at h; cases h), fun _ _ _ _ _ _ _ _ _ h => (by unfold resXAnd at h; cases h), fun _ _ _ _ _ _ _ _ _ h => (by unfold resXOr at h; cases h)⟩
  | k + 1 => by
    have ih := sndX k
    refine ⟨fun a dd oe pn vs e b S h => ?_, fun a dd oe pn vs es p b S h => ?_, fun a dd oe pn vs es p b S h => ?_⟩
    · intro σ H Q pre q
      unfold resXT at h
      split at h
      · rename_i f p1 y p2 x p3 p4
        obtain ⟨hg, h2⟩ := guardO_some h
        simp only [Bool.and_eq_true, decide_eq_true_eq] at hg
        obtain ⟨⟨⟨⟨⟨rfl, rfl⟩, g1⟩, g2⟩, g3⟩, g4⟩ := hg
        obtain ⟨⟨c', x', b'⟩, hm, hb⟩ := Option.map_eq_some_iff.mp h2
        have hp := List.find?_some hm
        simp only [Bool.and_eq_true, beq_iff_eq] at hp
        obtain ⟨rfl, rfl⟩ := hp
        subst hb
        obtain ⟨v, cv, m1, m2, m3, m4⟩ := S.f.g.isx _ _ _ (List.mem_of_find?_eq_some hm)
        obtain ⟨xc, C⟩ := S.cls
        have pc : PE (X.suite a ((a, oe) :: pn)) (.Name x' p3) (tC v) := by
          rcases m1 with m1 | ⟨m1, mb, mn⟩
          · exact pe_glob (gl_of (X := X) S.f g4) m1 m2 (ok1 g3)
          · exact pe_bltn (gl_of (X := X) S.f g4) m1 mb m2 mn (ok1 g3)
        have hbi : X.mg "isinstance" = none := S.f.g.bi _ (by decide +kernel)
        refine wt (pt_val (pe_callB (call_isD (dd := dd) C.ex S.hz S.hf) (gl_of (X := X) S.f g1) hbi (by first | boot_by_name | rfl | kernel_rfl) (pa_cons (pe_err S) (pa_cons pc pa_nil (star_cons rfl)) (star_cons rfl)) (by decide) (by decide) (star_cons rfl) rfl) (true_plain rfl)) ?_
        exact ⟨.ref a, pre.1, v, cv, _, rfl, m3, m4, ⟨vs, pre.2⟩, _, rfl, q⟩
      · obtain ⟨b', hb, rfl⟩ := Option.map_eq_some_iff.mp h
        refine wt (pt_not pT) ?_
        exact ih.t a dd oe pn vs _ _ S hb pre q
      · rename_i es p2
        exact fun pins s I => ih.and a dd oe pn vs es p2 b S h pre q _ pins s I
      · rename_i es p2
        exact fun pins s I => ih.or a dd oe pn vs es p2 b S h pre q _ pins s I
      · cases h
    · intro σ H Q pre q
      unfold resXAnd at h
      split at h
      · exact ww (pw_and1 pT) (ih.t a dd oe pn vs _ _ S h pre q)
      · obtain ⟨x1, h1, h2⟩ := Option.bind_eq_some_iff.mp h
        obtain ⟨y1, h3, rfl⟩ := Option.map_eq_some_iff.mp h2
        refine ww (pw_and pT pW) ?_
        refine ih.t a dd oe pn vs _ _ S h1 pre ?_
        cases x1
        · exact q
        · exact ih.and a dd oe pn vs _ p _ S h3 pre q
      · cases h
    · intro σ H Q pre q
      unfold resXOr at h
      split at h
      · exact ww (pw_or1 pT) (ih.t a dd oe pn vs _ _ S h pre q)
      · obtain ⟨x1, h1, h2⟩ := Option.bind_eq_some_iff.mp h
        obtain ⟨y1, h3, rfl⟩ := Option.map_eq_some_iff.mp h2
        refine ww (pw_or pT pW) ?_
        refine ih.t a dd oe pn vs _ _ S h1 pre ?_
        cases x1
        · exact ih.or a dd oe pn vs _ p _ S h3 pre q
        · exact q
      · cases h
theorem xr_ok {M : AM} {μ : Mu} {fs : List PyI.D} {H : Hp} (S : InX X ct Γ N sc tb c i n a dd oe) (hn : vs.map (·.1) = ct.flds c) (hnd : (ct.flds c).Nodup) (R : RelH X.K ct H μ M) (r : Reps X.K H M (vs.map (·.2)) fs) {σ : L2.St} (pre : Pre i a dd vs σ H) {d : PyI.D} {Q : VK} (q : ∀ v H' M', Evo M H M' H' → RelH X.K ct H' μ M' → Rep X.K H' M' v d → Q v H') {e : Expr} {A : XR} (h : resXR n (ct.flds c) e = some A) (hv : A.val fs = some d) : wE (X.suite a ((a, oe) :: pn)) e σ H Q := by
  unfold resXR at h
  split at h
  · rename_i es kk p2
    obtain ⟨l, hl, rfl⟩ := Option.map_eq_some_iff.mp h
    have hv' : (if l.length ≤ 100 then (XA.vals fs l).map PyI.D.tup else none) = some d := hv
    by_cases hl100 : l.length ≤ 100
    · rw [if_pos hl100] at hv'
      obtain ⟨ds, hds, rfl⟩ := Option.map_eq_some_iff.mp hv'
      refine we (pe_tup pA) (xas_ok S hn hnd r pre hl hds fun us ru => ⟨?_, fun p hp => ?_⟩)
      · have h1 := ru.length
        have h2 := vals_len hds
        rw [sizeLine_eq]; omega
      · exact q _ _ M (Evo.new hp) (R.new hp) (.tup ⟨upd_same, R.fresh hp⟩ (ru.evo (Evo.new hp)))
    · rw [if_neg hl100] at hv'; cases hv'
  · obtain ⟨A1, hA, rfl⟩ := Option.map_eq_some_iff.mp h
    exact xa_ok S hA hv pre hn hnd r fun v rv => q v H M (Evo.refl _ _) R rv
theorem xe_ok {M : AM} {μ : Mu} {fs : List PyI.D} {H : Hp} (S : InX X ct Γ N sc tb c i n a dd oe) (hn : vs.map (·.1) = ct.flds c) (hnd : (ct.flds c).Nodup) (R : RelH X.K ct H μ M) (r : Reps X.K H M (vs.map (·.2)) fs) {σ : L2.St} (pre : Pre i a dd vs σ H) {d : PyI.D} {A : XR} (hv : A.val fs = some d) {Q : VK} (q : ∀ v H' M', Evo M H M' H' → RelH X.K ct H' μ M' → Rep X.K H' M' v d → Q v H') : ∀ (k : Nat) {e : Expr}, resXE tb sc c n (ct.flds c) k e = some A → wE (X.suite a ((a, oe) :: pn)) e σ H Q
  | 0, e, h => by unfold resXE at h; cases h
  | k + 1, e, h => by
    unfold resXE at h
    split at h
    · rename_i t x y p
      obtain ⟨b, hb, h2⟩ := Option.bind_eq_some_iff.mp h
      refine we (pe_ifExp pT pE pE) ?_
      refine (sndX 40).t a dd oe pn vs t b S hb pre ?_
      cases b
      · exact xe_ok S hn hnd R r pre hv q k h2
      · exact xe_ok S hn hnd R r pre hv q k h2
    · exact xr_ok S hn hnd R r pre q h hv
theorem pss_w {X : Cx} {sts : List Stmt} : PSs X sts (wB false X sts) := ⟨fun pins s σ H D I q => q pins s (fun z => nomatch z) I⟩
theorem wbs {X : Cx} {sts : List Stmt} {t : TS} {D : Ends} {σ : L2.St} {H : Hp} (p : PSs X sts t) (h : t D σ H) : wB false X sts D σ H := fun pins s _ I => p.run pins s σ H D I h
theorem xs_ok {M : AM} {μ : Mu} {fs : List PyI.D} {H : Hp} (S : InX X ct Γ N sc tb c i n a dd oe) (hn : vs.map (·.1) = ct.flds c) (hnd : (ct.flds c).Nodup) (R : RelH X.K ct H μ M) (r : Reps X.K H M (vs.map (·.2)) fs) {σ : L2.St} (pre : Pre i a dd vs σ H) {d : PyI.D} : ∀ (k : Nat) {D : Ends} (q : ∀ v H' M', Evo M H M' H' → RelH X.K ct H' μ M' → Rep X.K H' M' v d → D.rt v H') {sts : List Stmt} {A : XR}, resXS tb sc c n (ct.flds c) k sts = some A → A.val fs = some d → wB false (X.suite a ((a, oe) :: pn)) sts D σ H
  | 0, D, q, sts, A, h, _ => by unfold resXS at h; cases h
  | k + 1, D, q, sts, A, h, hv => by
    unfold resXS at h
    split at h
    · rename_i e p
      refine wbs (pss_one (ps_ret pE)) ?_
      exact xe_ok S hn hnd R r pre hv q 10 h
    · rename_i t body p rest
      obtain ⟨b, hb, h2⟩ := Option.bind_eq_some_iff.mp h
      refine wbs (pss_cons (ps_if pT pss_w pss_nil) pss_w) ?_
      refine (sndX 40).t a dd oe pn vs t b S hb pre ?_
      cases b
      · exact xs_ok S hn hnd R r pre k (D := D) q h2 hv
      · exact xs_ok S hn hnd R r pre k (D := { nx := wB false (X.suite a ((a, oe) :: pn)) rest D, rt := D.rt, bk := D.bk, ct := D.ct }) q h2 hv
    · cases h
end
section
variable {τ : Bool} {X : Cx} {ct : CTab} {Γ : G} {N loc : List Str} {sc : Scope} {tb : Tb} {r : Expr} {A : E} {c i k : Nat} {n x : Str} {np rp pos pos' : Pos} {b₀ : Stmt} {suite : List Stmt} {RX : XR} {fl : List Str}
theorem sndS_tryR (F : FrS X ct tb Γ N sc loc) (hd : okName x = true) (hg : glB sc x = true) (hcl : tb.clss[c]? = some (x, fl)) (hi : N[i]? = some n) (hnl : sc.names.lookup n = some .local) (hon : okName n = true) (he : ∀ X', Fr X' ct tb Γ N sc → Snd X' ct Γ r A)
    (hs : resXS tb sc c n fl k (b₀ :: suite) = some RX) : SndS τ X ct Γ (.Try [.Return (some r) rp] [.ExceptHandler (some (.Name x np)) (some n) (b₀ :: suite) pos'] [] [] pos) (.tryR A c i RX) := by
  intro W ρ μ σ H M D tk E R h
  unfold runS at h
  obtain ⟨CK, hct, hnd⟩ := F.f.g.cls c x fl hcl
  subst hct
  refine ws (ps_try_as (c := .ref (ct.cls c)) (tb := fun W' => fun D σ H => ∀ pn xe, Takes (X.tr pn xe) W' → wB false (X.tr pn xe) [.Return (some r) rp] D σ H) (ts := fun a cls d => fun D σ H => ∀ oe pn, Zc cls d oe → (∃ vs, oe.data = .fields vs) → wB false (X.suite a ((a, oe) :: pn)) (b₀ :: suite) D σ H)
    F.hs F.hf (by rw [F.f.hN]; exact F.f.nd) (by rw [F.f.hN]; exact hi) (by show X.env.scope.names.lookup n = _; rw [F.f.hsc]; exact hnl) ⟨gl_of F.f hg, ok1 hd, .inl CK.mgx⟩ tk
    (fun W' pn xe tk' _ => ⟨fun pins s σ H D I q => q pn xe tk' pins s (fun z => nomatch z) I⟩)
    (fun a oe cls d pn hz hf => ⟨fun pins s σ H D I q => q oe pn hz hf pins s (fun z => nomatch z) I⟩)) ?_
  intro pn xe tk'
  refine wbs (pss_one (ps_ret pE)) ?_
  have Ft : Fr (X.tr pn xe) ct tb Γ N sc := ⟨F.f.hN, F.f.hsc, F.f.nd, F.f.calm, F.f.kindF, F.f.g⟩
  refine he (X.tr pn xe) Ft _ ρ μ σ H M _ tk' E R ?_
  cases hA : evalE Γ A ρ μ with
  | stuck => rw [hA] at h; exact h
  | ok d μ' => rw [hA] at h; exact h
  | err c' fs μ' =>
    rw [hA] at h
    simp only at h
    by_cases hc : c' = c
    · rw [if_pos hc] at h
      subst hc
      cases hv : RX.val fs with
      | none => rw [hv] at h; exact (h : False).elim
      | some d =>
        rw [hv] at h
        intro cls dd' H' M' ev R' re
        obtain ⟨rfl, dx, vs, rfl, hx, hnm, rr⟩ := re
        refine ⟨true, CK.exm, fun _ a hna oe pn' hz hf pins s ht I => ?_, fun z => by cases z⟩
        have hlen := I.len
        have hi' : i < σ.length := by
          have h1 : i < N.length := (List.getElem?_eq_some_iff.mp hi).1
          have h2 : (σ.set i (some (.ref a))).length = X.N.length := hlen
          rw [List.length_set, F.f.hN] at h2
          omega
        have S : InX X ct Γ N sc tb c' i n a dx oe := ⟨F.f, ⟨x, CK⟩, hi, by unfold visB; rw [hnl], hon, hz, hf⟩
        exact xs_ok S hnm hnd R' rr ⟨by rw [List.getElem?_set_self hi'], hx⟩ k (D := { nx := fun σ' H' => D.nx (σ'.set i none) H', rt := D.rt, bk := fun σ' H' => D.bk (σ'.set i none) H', ct := fun σ' H' => D.ct (σ'.set i none) H' }) (fun v H2 M2 e2 R2 r2 => (h : OkS X.K ct M H (.rt d μ') D W) v H2 M2 (ev.trans e2) R2 r2) hs hv pins s ht I
    · rw [if_neg hc] at h
      exact (h : False).elim
theorem sndS_tryE (hcr : isComp r = false) (F : FrS X ct tb Γ N sc loc) (hd : okName x = true) (hg : glB sc x = true) (hcl : tb.clss[c]? = some (x, fl)) (hi : N[i]? = some n) (hnl : sc.names.lookup n = some .local) (hon : okName n = true) (he : ∀ X', Fr X' ct tb Γ N sc → Snd X' ct Γ r A)
    (hs : resXS tb sc c n fl k (b₀ :: suite) = some RX) : SndS τ X ct Γ (.Try [.Expr r rp] [.ExceptHandler (some (.Name x np)) (some n) (b₀ :: suite) pos'] [] [] pos) (.tryE A c i RX) := by
  intro W ρ μ σ H M D tk E R h
  unfold runS at h
  obtain ⟨CK, hct, hnd⟩ := F.f.g.cls c x fl hcl
  subst hct
  refine ws (ps_try_as (c := .ref (ct.cls c)) (tb := fun W' => fun D σ H => ∀ pn xe, Takes (X.tr pn xe) W' → wB false (X.tr pn xe) [.Expr r rp] D σ H) (ts := fun a cls d => fun D σ H => ∀ oe pn, Zc cls d oe → (∃ vs, oe.data = .fields vs) → wB false (X.suite a ((a, oe) :: pn)) (b₀ :: suite) D σ H)
    F.hs F.hf (by rw [F.f.hN]; exact F.f.nd) (by rw [F.f.hN]; exact hi) (by show X.env.scope.names.lookup n = _; rw [F.f.hsc]; exact hnl) ⟨gl_of F.f hg, ok1 hd, .inl CK.mgx⟩ tk
    (fun W' pn xe tk' _ => ⟨fun pins s σ H D I q => q pn xe tk' pins s (fun z => nomatch z) I⟩)
    (fun a oe cls d pn hz hf => ⟨fun pins s σ H D I q => q oe pn hz hf pins s (fun z => nomatch z) I⟩)) ?_
  intro pn xe tk'
  refine wbs (pss_one (ps_expr pE (sw_plain hcr))) ?_
  have Ft : Fr (X.tr pn xe) ct tb Γ N sc := ⟨F.f.hN, F.f.hsc, F.f.nd, F.f.calm, F.f.kindF, F.f.g⟩
  refine he (X.tr pn xe) Ft _ ρ μ σ H M _ tk' E R ?_
  cases hA : evalE Γ A ρ μ with
  | stuck => rw [hA] at h; exact h
  | ok d μ' =>
    rw [hA] at h
    exact fun v H' M' e R' r' => (h : OkS X.K ct M H (.nx ρ μ') D W) σ H' M' e R' (E.evo e)
  | err c' fs μ' =>
    rw [hA] at h
    simp only at h
    by_cases hc : c' = c
    · rw [if_pos hc] at h
      subst hc
      cases hv : RX.val fs with
      | none => rw [hv] at h; exact (h : False).elim
      | some d =>
        rw [hv] at h
        intro cls dd' H' M' ev R' re
        obtain ⟨rfl, dx, vs, rfl, hx, hnm, rr⟩ := re
        refine ⟨true, CK.exm, fun _ a hna oe pn' hz hf pins s ht I => ?_, fun z => by cases z⟩
        have hlen := I.len
        have hi' : i < σ.length := by
          have h1 : i < N.length := (List.getElem?_eq_some_iff.mp hi).1
          have h2 : (σ.set i (some (.ref a))).length = X.N.length := hlen
          rw [List.length_set, F.f.hN] at h2
          omega
        have S : InX X ct Γ N sc tb c' i n a dx oe := ⟨F.f, ⟨x, CK⟩, hi, by unfold visB; rw [hnl], hon, hz, hf⟩
        exact xs_ok S hnm hnd R' rr ⟨by rw [List.getElem?_set_self hi'], hx⟩ k (D := { nx := fun σ' H' => D.nx (σ'.set i none) H', rt := D.rt, bk := fun σ' H' => D.bk (σ'.set i none) H', ct := fun σ' H' => D.ct (σ'.set i none) H' }) (fun v H2 M2 e2 R2 r2 => (h : OkS X.K ct M H (.rt d μ') D W) v H2 M2 (ev.trans e2) R2 r2) hs hv pins s ht I
    · rw [if_neg hc] at h
      exact (h : False).elim
end
end PyI
/-! A14: for; the resolver of statements; defs. -/
namespace PyI
open PySem L2
section
variable {τ : Bool} {X : Cx} {ct : CTab} {Γ : G} {N loc : List Str} {sc : Scope} {tb : Tb} {iter tg : Expr} {it : IT} {tt : Tg} {pos : Pos} {body : List Stmt} {BA : B}
theorem sndS_for (F : FrS X ct tb Γ N sc loc) (hset : isSet iter = false) (ht : resTg N loc tg = some tt) (hI : SndI X ct Γ tg iter it) (hb : SndBk τ X ct Γ body BA) : SndS τ X ct Γ (.For tg iter body [] pos) (.for_ tt it BA) := by
  intro W ρ μ σ H M D tk E R h
  unfold runS at h
  intro pins s h0 I
  have hg : PG X tg (gOf X.K tt) := tg_ok F.f F.l ht
  have hc := F.f.calm
  have hp := F.po
  generalize hf : (fun (d : PyI.D) (ρ : Rho) (μ : Mu) => match assignT tt d ρ with
      | some ρ' => runB Γ BA ρ' μ
      | none => Out.stuck) = f at h
  have key := hI W ρ μ σ H M (fun J H1 => ∃ (ds : List PyI.D) (src : Option (Nat × List PyI.D)) (μ1 : Mu) (M1 : AM), ItOk X.K ct M1 H1 J (ds, src) ∧ RelE X.K H1 M1 σ ρ ∧ RelH X.K ct H1 μ1 M1 ∧ OkS X.K ct M1 H1 (forLoop f (chkOf src) ds ρ μ1) D W) tk E R (h.step E fun its μ1 J H1 M1 e1 R1 J1 h1 => ⟨its.1, its.2, μ1, M1, J1, E.evo e1, R1, h1⟩) pins s I
  refine wpAny_For (wpAny_mono (PySem.wpAny_toks key) (fun v s1 h1 => wpAny_mono (PySem.wpAny_toks h1.2) (fun itv s2 h2 => ?_) fun _ _ x => x.2) fun _ _ x => x.2) (set_iter hset)
  obtain ⟨hk2, it, fp, tn, J, H2, e, I2, T, st2, f2, ds, src, μ2, M2, J2, E2, R2, k2⟩ := h2
  subst e
  have h02 : τ = true → 1 ≤ s2.toks := fun t => Nat.le_trans (Nat.le_trans (h0 t) h1.1) hk2
  have stat : ∀ {H' : Hp}, (∀ b ∈ fp, H' b = none) → ∀ b ∈ fp, FpOk X pins H' b := fun hn b hb => ⟨hn b hb, (f2 b hb).2⟩
  refine codeAny_forLoop_any (fun n s' => (τ = true → 1 ≤ s'.toks) ∧ ∃ (i : Nat) (ρ' : Rho) (μ' : Mu) (σ' : St) (H' : Hp) (M' : AM), Inv X pins σ' H' s' ∧ tn i s'.heap ∧ (∀ b ∈ fp, H' b = none) ∧ n = ds.length - i ∧ i ≤ ds.length ∧ RelE X.K H' M' σ' ρ' ∧ RelH X.K ct H' μ' M' ∧ Stay M2 H2 M' H' ∧ OkS X.K ct M' H' (forLoop f (chkOf src) (ds.drop i) ρ' μ') D W) ?_ ds.length ⟨h02, 0, ρ, μ2, σ, H2, M2, I2, st2, fun b hb => (f2 b hb).1, rfl, Nat.zero_le _, E2, R2, (Evo.refl _ _).stay, k2⟩
  rintro n s3 ⟨h03, i, ρ3, μ3, σ3, H3, M3, I3, st3, fr3, hn, hi, E3, R3, sty3, k3⟩
  rcases Nat.lt_or_ge i ds.length with hlt | hge
  · -- one more turn
    have hdi : ds[i]? = some ds[i] := List.getElem?_eq_getElem hlt
    rw [List.drop_eq_getElem_cons hlt] at k3
    unfold forLoop at k3
    by_cases hck : chkOf src μ3 = true
    · rw [if_pos hck] at k3
      obtain ⟨go, hy⟩ := J2.go M3 H3 μ3 i ds[i] sty3 R3 hck hdi
      refine wpAny_passesOwn hp (wpAny_mono (PySem.wpAny_toks (T.item X rfl rfl rfl hc i pins s3 σ3 H3 X.xe I3 (stat fr3) st3 go)) (fun r s4 z4 => ?_) fun _ _ x => x.2)
      obtain ⟨hk4, u, hr, h4⟩ := z4
      subst hr
      refine wpAny_passesOwn hp (wpAny_mono (PySem.wpAny_toks h4) (fun _ s5 z5 => ?_) fun _ _ x => x.2)
      obtain ⟨hk5, x, H5, I5, r5, y5, st5, fr5⟩ := z5
      obtain ⟨ev5, R5, rx⟩ := hy x H5 y5
      have E3 := E3.evo ev5
      have R3 := R5
      have sty3 := sty3.trans ev5.stay
      have k3 := OkS.evo ev5 k3
      have I5' := I5.pinned (stat fr5) (T.obj _ _ st5)
      have hfd : f ds[i] ρ3 μ3 = (match assignT tt ds[i] ρ3 with
        | some ρ' => runB Γ BA ρ' μ3
        | none => Out.stuck) := by rw [← hf]
      rw [hfd] at k3
      cases has : assignT tt ds[i] ρ3 with
      | none => simp only [has] at k3; exact (k3 : False).elim
      | some ρ5 =>
        simp only [has] at k3
        have gq : gOf X.K tt x σ3 H5 (fun σ6 H6 => H6 = H5 ∧ RelE X.K H5 M3 σ6 ρ5) := assign_ok rx E3 has fun σ' E' _ => ⟨rfl, E'⟩
        refine wpAny_passesOwn hp (wpAny_mono (PySem.wpAny_toks (hg.run _ s5 σ3 H5 x u _ I5' r5 gq)) (fun _ s6 z6 => ?_) fun _ _ x => x.2)
        obtain ⟨hk6, σ6, H6, I6, rfl, E6⟩ := z6
        have h06 : τ = true → 1 ≤ s6.toks := fun t => Nat.le_trans (Nat.le_trans (Nat.le_trans (h03 t) hk4) hk5) hk6
        let Nx : St → Hp → Prop := fun σ' H' => ∃ (ρ' : Rho) (μ' : Mu) (M' : AM), RelE X.K H' M' σ' ρ' ∧ RelH X.K ct H' μ' M' ∧ Stay M2 H2 M' H' ∧ OkS X.K ct M' H' (forLoop f (chkOf src) (ds.drop (i + 1)) ρ' μ') D W
        have bodyOk : OkS X.K ct M3 H6 (runB Γ BA ρ5 μ3) { D with nx := Nx, ct := Nx, bk := D.nx } W := by
          cases hr : runB Γ BA ρ5 μ3 with
          | nx ρ' μ' => rw [hr] at k3; exact fun σ' H' M' e' R' E' => ⟨ρ', μ', M', E', R', sty3.trans e'.stay, OkS.evo e' k3⟩
          | ct ρ' μ' => rw [hr] at k3; exact fun σ' H' M' e' R' E' => ⟨ρ', μ', M', E', R', sty3.trans e'.stay, OkS.evo e' k3⟩
          | br ρ' μ' => rw [hr] at k3; exact k3
          | rt d μ' => rw [hr] at k3; exact k3
          | er c fs ρ' μ' => rw [hr] at k3; exact k3
          | stuck => rw [hr] at k3; exact k3
        refine wpAny_passesOwn hp (wpAny_mono (PySem.wpAny_toks (hb W ρ5 μ3 σ6 H6 M3 _ tk E6 R3 bodyOk _ s6 h06 I6)) (fun f' s7 z7 => ?_) fun _ _ x => x.2)
        obtain ⟨hk7, q7⟩ := z7
        have h07 : τ = true → 1 ≤ s7.toks := fun t => Nat.le_trans (h06 t) hk7
        have again : ∀ {σ7 : St} {H7 : Hp}, Inv X (pins ++ pinsAt fp s5.heap) σ7 H7 s7 → Nx σ7 H7 → ∃ m, m < n ∧ (τ = true → 1 ≤ s7.toks) ∧ ∃ (i : Nat) (ρ' : Rho) (μ' : Mu) (σ' : St) (H' : Hp) (M' : AM), Inv X pins σ' H' s7 ∧ tn i s7.heap ∧ (∀ b ∈ fp, H' b = none) ∧ m = ds.length - i ∧ i ≤ ds.length ∧ RelE X.K H' M' σ' ρ' ∧ RelH X.K ct H' μ' M' ∧ Stay M2 H2 M' H' ∧ OkS X.K ct M' H' (forLoop f (chkOf src) (ds.drop i) ρ' μ') D W := fun {σ7 H7} I7 ⟨ρ', μ', M', E', R', sty', k'⟩ => by
          refine ⟨ds.length - (i + 1), by omega, h07, i + 1, ρ', μ', σ7, H7, M', I7.unpinned, T.keep _ _ _ st5 fun b hb o e => (I7.pin (b, o) (List.mem_append_right _ (List.mem_append_right _ (mem_pinsAt hb e)))).1, fun b hb => ?_, rfl, hlt, E', R', sty', k'⟩
          obtain ⟨o, e, d⟩ := T.obj _ _ st5 b hb
          exact (I7.pin (b, o) (List.mem_append_right _ (List.mem_append_right _ (mem_pinsAt hb e)))).2.1
        cases f' with
        | next => obtain ⟨σ7, H7, I7, n7⟩ := q7; exact again I7 n7
        | cont => obtain ⟨σ7, H7, I7, n7⟩ := q7; exact again I7 n7
        | brk => obtain ⟨σ7, H7, I7, q7⟩ := q7; exact ⟨σ7, H7, I7.unpinned, q7⟩
        | ret v => obtain ⟨x7, σ7, H7, I7, r7, q7⟩ := q7; exact ⟨x7, σ7, H7, I7.unpinned, r7, q7⟩
    · rw [if_neg hck] at k3; exact (k3 : False).elim
  · have hie : i = ds.length := Nat.le_antisymm hi hge
    subst hie
    rw [List.drop_length] at k3
    unfold forLoop at k3
    by_cases hck : chkOf src μ3 = true
    · rw [if_pos hck] at k3
      refine wpAny_passesOwn hp (thn (T.done X rfl rfl rfl hc _ pins s3 σ3 H3 X.xe I3 (stat fr3) st3 (J2.stop M3 H3 μ3 sty3 R3 hck)) fun r s4 ⟨hr, I4⟩ => ?_)
      subst hr
      exact wpAny_execs_nil ⟨σ3, H3, I4, k3.nxt R3 E3⟩
    · rw [if_neg hck] at k3; exact (k3 : False).elim
end


/-! ### the resolver of statements -/
structure RS where
  C : RC
  sc : Scope
  loc : List Str
  muts : List Str
  τ : Bool
  tdk : List Str
structure ReplOf where
  o : Expr
  y : Str
  z : Str
  apos : Pos
  pos : Pos
def replOf : Expr → Option ReplOf
  | .Call (.Attribute o m apos) [.Constant (.str y) _ _, .Constant (.str z) _ _] [] pos => if m = "replace" then some ⟨o, y, z, apos, pos⟩ else none
  | _ => none
theorem replOf_eq {e : Expr} {r : ReplOf} (h : replOf e = some r) : ∃ j1 c0 j2 c1, e = .Call (.Attribute r.o "replace" r.apos) [.Constant (.str r.y) j1 c0, .Constant (.str r.z) j2 c1] [] r.pos := by
  unfold replOf at h
  split at h
  · split at h
    · next hm => cases h; rw [hm]; exact ⟨_, _, _, _, rfl⟩
    · cases h
  · cases h
def resR : Nat → RC → Scope → Expr → Option R
  | 0, _, _, _ => none
  | n + 1, C, sc, e => match replOf e with
    | some r => guardO (!(r.y == r.z) && plainO r.o && r.apos.endLine == r.pos.line) ((resR n C sc r.o).map fun q => .repl q r.y r.z)
    | none => (resE n C sc e).map .base
/-- return 'a' + e.replace(..) + 'b' -/
structure RetOf where
  pre : Str
  e : Expr
  post : Str
def retOf : Expr → Option RetOf
  | .BinOp (.BinOp (.Constant (.str a) _ _) .Add e _) .Add (.Constant (.str b) _ _) _ => (replOf e).map fun _ => ⟨a, e, b⟩
  | _ => none
theorem retOf_eq {e : Expr} {r : RetOf} (h : retOf e = some r) : ∃ j1 p1 p2 j2 p3 p4, e = .BinOp (.BinOp (.Constant (.str r.pre) j1 p1) .Add r.e p2) .Add (.Constant (.str r.post) j2 p3) p4 := by
  unfold retOf at h
  split at h
  · obtain ⟨_, _, rfl⟩ := Option.map_eq_some_iff.mp h; exact ⟨_, _, _, _, _, _, rfl⟩
  · cases h
structure CompOf where
  elt : Expr
  tg : Expr
  iter : Expr
  ifs : List Expr
  scope : Scope
  pos : Pos
def compOf : Expr → Option CompOf
  | .ListComp elt [⟨tg, iter, ifs, 0⟩] scope pos => some ⟨elt, tg, iter, ifs, scope, pos⟩
  | _ => none
theorem compOf_eq {e : Expr} {r : CompOf} (h : compOf e = some r) : e = .ListComp r.elt [⟨r.tg, r.iter, r.ifs, 0⟩] r.scope r.pos := by
  unfold compOf at h
  split at h
  · cases h; rfl
  · cases h
def resComp (n : Nat) (C : RC) (sc : Scope) (r : CompOf) : Option (Tg × IT × T × E) :=
  guardO (blkC C.N sc r.scope (ownOf C.N r.scope) && !isSet r.iter) ((resTg C.N ((ownOf C.N r.scope).map Prod.fst) r.tg).bind fun t => guardO ((slotsOf t).all fun i => decide (i ∈ (ownOf C.N r.scope).map Prod.snd)) ((resI n C sc r.tg r.iter).bind fun it =>
    (match r.ifs with
      | [] => some T.yes
      | [c] => resT n C (relS r.scope sc) c
      | _ => none).bind fun c => (resE n C (relS r.scope sc) r.elt).map fun e => (t, it, c, e)))
def isLst : Expr → Option (List Expr)
  | .List es _ => some es
  | _ => none
theorem isLst_eq {e : Expr} {es : List Expr} (h : isLst e = some es) : ∃ p, e = .List es p := by
  unfold isLst at h
  split at h
  · cases h; exact ⟨_, rfl⟩
  · cases h
/-- what makes a new list, beside displays and comprehensions -/
def freshOf (n : Nat) (C : RC) (sc : Scope) : Expr → Option E
  | .IfExp c (.List es _) (.List es' _) _ => (resT n C sc c).bind fun T => (resEs n C sc es).bind fun A => (resEs n C sc es').map fun B => .ite T (.lst A) (.lst B)
  | .BinOp a .Add b _ => (resE n C sc a).bind fun A => (resE n C sc b).map fun B => .bin .add A B
  | _ => none
theorem freshOf_ok {X : Cx} {ct : CTab} {Γ : G} {C : RC} {sc : Scope} {n : Nat} {e : Expr} {A : E} (ie : SndAt ct Γ C n) (F : Fr X ct C.tb Γ C.N sc) (h : freshOf n C sc e = some A) : SndN X ct Γ e A ∧ isComp e = false := by
  unfold freshOf at h
  split at h
  · obtain ⟨T1, hT, h⟩ := Option.bind_eq_some_iff.mp h
    obtain ⟨A1, hA, h⟩ := Option.bind_eq_some_iff.mp h
    obtain ⟨B1, hB, rfl⟩ := Option.map_eq_some_iff.mp h
    exact ⟨sndN_ite (ie.t X sc _ _ F hT) (sndN_lst (ie.es X sc _ _ F hA).1) (sndN_lst (ie.es X sc _ _ F hB).1), rfl⟩
  · obtain ⟨A1, hA, h⟩ := Option.bind_eq_some_iff.mp h
    obtain ⟨B1, hB, rfl⟩ := Option.map_eq_some_iff.mp h
    exact ⟨sndN_add (ie.e X sc _ _ F hA) (ie.e X sc _ _ F hB), rfl⟩
  · cases h
def resAug : Operator → Option Bop
  | .Add => some .add
  | .Sub => some .sub
  | _ => none
def clsOf (x : Str) : List (Str × List Str) → Option (Nat × List Str)
  | [] => none
  | (y, fl) :: ys => if x = y then some (0, fl) else (clsOf x ys).map fun p => (p.1 + 1, p.2)
theorem clsOf_get {x : Str} : ∀ {l : List (Str × List Str)} {i : Nat} {fl : List Str}, clsOf x l = some (i, fl) → l[i]? = some (x, fl)
  | [], _, _, h => by cases h
  | (y, gl) :: ys, i, fl, h => by
    unfold clsOf at h
    by_cases e : x = y
    · rw [if_pos e] at h
      cases h
      subst e
      rfl
    · rw [if_neg e] at h
      obtain ⟨⟨j, m⟩, hj, q⟩ := Option.map_eq_some_iff.mp h
      cases q
      simpa using clsOf_get hj
def isDnew : Expr → Bool
  | .Dict [] [] _ => true
  | _ => false
theorem isDnew_eq {e : Expr} (h : isDnew e = true) : ∃ p, e = .Dict [] [] p := by
  unfold isDnew at h
  split at h
  · exact ⟨_, rfl⟩
  · cases h
/-- a, b = x, y -/
structure ParOf where
  x : Str
  y : Str
  px : Pos
  py : Pos
  a : Expr
  b : Expr
  k2 : Nat
  pt : Pos
def parOf : List Expr → Expr → Option ParOf
  | [.Name x px, .Name y py], .Tuple [a, b] k2 pt => some ⟨x, y, px, py, a, b, k2, pt⟩
  | _, _ => none
theorem parOf_eq {es : List Expr} {e : Expr} {r : ParOf} (h : parOf es e = some r) : es = [.Name r.x r.px, .Name r.y r.py] ∧ e = .Tuple [r.a, r.b] r.k2 r.pt := by
  unfold parOf at h
  split at h
  · cases h; exact ⟨rfl, rfl⟩
  · cases h
def tupOf : Expr → Option (List Expr)
  | .Tuple vs _ _ => some vs
  | _ => none
theorem tupOf_eq {e : Expr} {vs : List Expr} (h : tupOf e = some vs) : ∃ k p, e = .Tuple vs k p := by
  unfold tupOf at h
  split at h
  · cases h; exact ⟨_, _, rfl⟩
  · cases h
mutual
def resS : Nat → RS → Stmt → Option S
  | 0, _, _ => none
  | n + 1, c, st => match st with
    | .Assign [.Name x _] e _ => guardO (decide (x ∈ c.loc)) ((ixOf x c.C.N).bind fun k =>
        match replOf e with
        | some _ => guardO c.τ ((resR n c.C c.sc e).map (.setR k))
        | none => match compOf e with
          | some r => (resComp n c.C c.sc r).map fun q => if decide (x ∈ c.muts) then .new k (.comp ((ownOf c.C.N r.scope).map Prod.snd) q.1 q.2.1 q.2.2.1 q.2.2.2) else .set (.nm k) (.comp ((ownOf c.C.N r.scope).map Prod.snd) q.1 q.2.1 q.2.2.1 q.2.2.2)
          | none => if isDnew e && decide (x ∈ c.tdk) then some (.set (.nm k) (.dnew true)) else if decide (x ∈ c.muts) then (match isLst e with
              | some es => (resEs n c.C c.sc es).map fun As => .new k (.lst As)
              | none => match freshOf n c.C c.sc e with
                | some A => some (.new k A)
                | none => guardO (!isComp e) ((resE n c.C c.sc e).map (.set (.nm k)))) else guardO (!isComp e) ((resE n c.C c.sc e).map (.set (.nm k))))
    | .Assign [.Tuple es _ _] e _ => (match tupOf e with
        | none => guardO (!isComp e && !isTup e) ((resNames c.C.N c.loc es).bind fun l => (resE n c.C c.sc e).map (.set (.tp l)))
        | some vs => if vs.all (foldedForSure 8) then (resNames c.C.N c.loc es).bind fun l => (resE n c.C c.sc e).map (.set (.tp l)) else (parOf es e).bind fun r => guardO (swTwo c.sc r.x r.y r.px r.py [r.a, r.b]) ((ixOf r.x c.C.N).bind fun i => (ixOf r.y c.C.N).bind fun j => (resEn n c.C c.sc [r.a, r.b]).map (.par2 i j)))
    | .Assign [.Subscript o i _] v _ => guardO (!isSlc i && !isComp v) ((resE n c.C c.sc o).bind fun A => (resE n c.C c.sc i).bind fun B => (resE n c.C c.sc v).map fun C => .setIx A B C)
    | .Assign [.Attribute o f _] v _ => guardO (!isComp v) ((ownAttr f c.C.tb.owns).bind fun w => (resE n c.C c.sc o).bind fun A => (resE n c.C c.sc v).map fun C => .setF w.c A f C)
    | .AugAssign (.Attribute o f _) op e _ => (ownAttr f c.C.tb.owns).bind fun w => (resAug op).bind fun b => (resE n c.C c.sc o).bind fun A => (resE n c.C c.sc e).map fun C => .augF w.c A f b C
    | .AugAssign (.Subscript o i _) .Add e _ => guardO (!isSlc i) ((resE n c.C c.sc o).bind fun A => (resE n c.C c.sc i).bind fun B => (resE n c.C c.sc e).map fun C => .daug A B .add C)
    | .AugAssign (.Name x _) op e _ => guardO (decide (x ∈ c.loc)) ((ixOf x c.C.N).bind fun k => (resAug op).bind fun b => (resE n c.C c.sc e).map (.aug k b))
    | .Expr e _ => guardO (!isComp e) ((resE n c.C c.sc e).map .expr)
    | .If t a b _ => (resT n c.C c.sc t).bind fun T => (resB n c a).bind fun A => (resB n c b).map fun B => .ifs T A B
    | .For tg iter body [] _ => guardO (!isSet iter) ((resTg c.C.N c.loc tg).bind fun t => (resI n c.C c.sc tg iter).bind fun it => (resB n c body).map fun b => .for_ t it b)
    | .While t body [] _ => (resT n c.C c.sc t).bind fun T => (resB n c body).map fun b => .whl T b
    | .Return (some e) _ => (match retOf e with
        | some r => guardO c.τ ((resR n c.C c.sc r.e).map fun q => .retR r.pre q r.post)
        | none => (resE n c.C c.sc e).map .ret)
    | .Return none _ => some .retN
    | .Pass _ => some .pass
    | .Break _ => some .brk
    | .Continue _ => some .cnt
    | .Raise (some (.Call (.Name x _) (e :: es) [] _)) none _ => some (match clsOf x c.C.tb.clss with
        | some (k, fl) => if (okName x && glB c.sc x && decide (fl.length ≤ 10)) = true then (match resEs n c.C c.sc (e :: es) with
            | some A => .rse k fl.length A
            | none => .bad) else .bad
        | none => .bad)
    | .Raise _ _ _ => some .bad
    | .Try [.Return (some r) _] [.ExceptHandler (some (.Name x _)) (some nm) (b₀ :: suite) _] [] [] _ => guardO (okName x && glB c.sc x && okName nm && decide (c.sc.names.lookup nm = some .local)) ((clsOf x c.C.tb.clss).bind fun p => (ixOf nm c.C.N).bind fun i => (resE n c.C c.sc r).bind fun A => (resXS c.C.tb c.sc p.1 nm p.2 20 (b₀ :: suite)).map fun R => .tryR A p.1 i R)
    | .Try [.Expr r _] [.ExceptHandler (some (.Name x _)) (some nm) (b₀ :: suite) _] [] [] _ => guardO (okName x && glB c.sc x && okName nm && decide (c.sc.names.lookup nm = some .local) && !isComp r) ((clsOf x c.C.tb.clss).bind fun p => (ixOf nm c.C.N).bind fun i => (resE n c.C c.sc r).bind fun A => (resXS c.C.tb c.sc p.1 nm p.2 20 (b₀ :: suite)).map fun R => .tryE A p.1 i R)
    | _ => none
def resB : Nat → RS → List Stmt → Option B
  | 0, _, _ => none
  | n + 1, c, sts => match sts with
    | [] => some .nil
    | st :: r => (resS n c st).bind fun A => (resB n c r).map fun B => .cons A B
end
section
variable {ct : CTab} {Γ : G} {X : Cx} {c : RS}
theorem resR_ok : ∀ (n : Nat) {X : Cx} {C : RC} {sc : Scope} {e : Expr} {A : R}, Fr X ct C.tb Γ C.N sc → resR n C sc e = some A → SndR X ct Γ e A
  | 0, _, _, _, _, _, _, h => by unfold resR at h; cases h
  | n + 1, X, C, sc, e, A, F, h => by
    unfold resR at h
    split at h
    · next r hr =>
      obtain ⟨j1, c0, j2, c1, rfl⟩ := replOf_eq hr
      obtain ⟨hg, h⟩ := guardO_some h
      simp only [Bool.and_eq_true, Bool.not_eq_true'] at hg
      obtain ⟨q, hq, rfl⟩ := Option.map_eq_some_iff.mp h
      exact sndR_repl (resR_ok n F hq) hg.1.1 hg.1.2 hg.2
    · obtain ⟨q, hq, rfl⟩ := Option.map_eq_some_iff.mp h
      exact sndR_base ((sndAt ct Γ C n).e X sc e q F hq)
theorem comp_parts {n : Nat} {C : RC} {sc : Scope} {r : CompOf} {q : Tg × IT × T × E} (F : Fr X ct C.tb Γ C.N sc) (h : resComp n C sc r = some q) :
    BlkOk C.N sc r.scope (ownOf C.N r.scope) ∧ isSet r.iter = false ∧ resTg C.N ((ownOf C.N r.scope).map Prod.fst) r.tg = some q.1 ∧ (∀ i ∈ slotsOf q.1, i ∈ (ownOf C.N r.scope).map Prod.snd) ∧
      SndI X ct Γ r.tg r.iter q.2.1 ∧ SndTB X ct Γ r.scope r.ifs q.2.2.1 ∧ SndB X ct Γ r.scope r.elt q.2.2.2 := by
  unfold resComp at h
  obtain ⟨hb, h⟩ := guardO_some h
  simp only [Bool.and_eq_true, Bool.not_eq_true'] at hb
  obtain ⟨t, ht, h⟩ := Option.bind_eq_some_iff.mp h
  obtain ⟨hsl, h⟩ := guardO_some h
  obtain ⟨it, hit, h⟩ := Option.bind_eq_some_iff.mp h
  obtain ⟨c, hc, h⟩ := Option.bind_eq_some_iff.mp h
  obtain ⟨A1, hA, rfl⟩ := Option.map_eq_some_iff.mp h
  have ok := blkOk_by hb.1
  have ih := sndAt ct Γ C n
  refine ⟨ok, hb.2, ht, fun i hi => of_decide_eq_true (List.all_eq_true.mp hsl i hi), ih.i X sc _ _ _ F hit, ?_, fun s H C' cl fp => ih.e _ _ _ _ (F.blk ok s H C' cl fp) hA⟩
  split at hc
  · next hq => cases hc; exact .inl ⟨hq, rfl⟩
  · next e hq => exact .inr ⟨_, hq, fun s H C' cl fp => ih.t _ _ _ _ (F.blk ok s H C' cl fp) hc⟩
  · cases hc
theorem resS_ok : ∀ (n : Nat), (∀ {X : Cx} {st : Stmt} {A : S}, FrS X ct c.C.tb Γ c.C.N c.sc c.loc → resS n c st = some A → SndS c.τ X ct Γ st A) ∧ (∀ {X : Cx} {sts : List Stmt} {A : B}, FrS X ct c.C.tb Γ c.C.N c.sc c.loc → resB n c sts = some A → SndBk c.τ X ct Γ sts A)
  | 0 => ⟨fun _ h => by (unfold resS at h; cases h), fun _ h => by (unfold resB at h; cases h)⟩
  | n + 1 => by
    have ih := resS_ok n
    have ie := sndAt ct Γ c.C n
    refine ⟨fun {X st A} F h => ?_, fun {X sts A} F h => ?_⟩
    · unfold resS at h
      split at h
      · -- x = e
        next x px e pos =>
        obtain ⟨hx, h⟩ := guardO_some h
        have hx := of_decide_eq_true hx
        obtain ⟨k, hk, h⟩ := Option.bind_eq_some_iff.mp h
        have hk := ixOf_get hk
        split at h
        · next r hr =>
          obtain ⟨ht, h⟩ := guardO_some h
          obtain ⟨q, hq, rfl⟩ := Option.map_eq_some_iff.mp h
          obtain ⟨j1, c0, j2, c1, he⟩ := replOf_eq hr
          rw [ht]
          exact sndS_setR F hx hk (by rw [he]; rfl) (resR_ok n F.f hq)
        · split at h
          · next r hr =>
            obtain ⟨q, hq, rfl⟩ := Option.map_eq_some_iff.mp h
            obtain ⟨p1, p2, p3, p4, p5, p6, p7⟩ := comp_parts F.f hq
            rw [compOf_eq hr]
            split
            · exact sndS_newC F hx hk p1 p2 p3 p4 p5 p6 p7
            · exact sndS_setC F hx hk p1 p2 p3 p4 p5 p6 p7
          · have plain : ∀ {A : S}, guardO (!isComp e) ((resE n c.C c.sc e).map (S.set (.nm k))) = some A → SndS c.τ X ct Γ (.Assign [.Name x px] e pos) A := fun h => by
              obtain ⟨hc, h⟩ := guardO_some h
              obtain ⟨q, hq, rfl⟩ := Option.map_eq_some_iff.mp h
              exact sndS_set F hx hk (by simpa using hc) (ie.e X c.sc _ _ F.f hq)
            split at h
            · next hd =>
              cases h
              simp only [Bool.and_eq_true] at hd
              obtain ⟨p, he⟩ := isDnew_eq hd.1
              rw [he]
              exact sndS_set F hx hk rfl snd_dnewT
            split at h
            · split at h
              · next es hes =>
                obtain ⟨q, hq, rfl⟩ := Option.map_eq_some_iff.mp h
                obtain ⟨p, he⟩ := isLst_eq hes
                rw [he]
                exact sndS_newL F hx hk (ie.es X c.sc _ _ F.f hq).1
              · split at h
                · next A' hA' =>
                  cases h
                  obtain ⟨p1, p2⟩ := freshOf_ok ie F.f hA'
                  exact sndS_newN F hx hk p2 p1
                · exact plain h
            · exact plain h
      · split at h
        · obtain ⟨hc, h⟩ := guardO_some h
          simp only [Bool.and_eq_true, Bool.not_eq_true'] at hc
          obtain ⟨l, hl, h⟩ := Option.bind_eq_some_iff.mp h
          obtain ⟨q, hq, rfl⟩ := Option.map_eq_some_iff.mp h
          exact sndS_tup F hl hc.1 hc.2 (ie.e X c.sc _ _ F.f hq)
        · next vs hvs =>
          obtain ⟨k, p, he⟩ := tupOf_eq hvs
          split at h
          · next hf =>
            obtain ⟨l, hl, h⟩ := Option.bind_eq_some_iff.mp h
            obtain ⟨q, hq, rfl⟩ := Option.map_eq_some_iff.mp h
            rw [he] at hq ⊢
            exact sndS_tupF F hl hf (ie.e X c.sc _ _ F.f hq)
          · obtain ⟨r, hr, h⟩ := Option.bind_eq_some_iff.mp h
            obtain ⟨hg, h⟩ := guardO_some h
            obtain ⟨i, hi, h⟩ := Option.bind_eq_some_iff.mp h
            obtain ⟨j, hj, h⟩ := Option.bind_eq_some_iff.mp h
            obtain ⟨q, hq, rfl⟩ := Option.map_eq_some_iff.mp h
            obtain ⟨e1, e2⟩ := parOf_eq hr
            rw [e1, e2]
            exact sndS_par2 F (ixOf_get hi) (ixOf_get hj) hg (ie.en X c.sc _ _ F.f hq).2.1
      · obtain ⟨hc, h⟩ := guardO_some h
        simp only [Bool.and_eq_true, Bool.not_eq_true'] at hc
        obtain ⟨q1, hq1, h⟩ := Option.bind_eq_some_iff.mp h
        obtain ⟨q2, hq2, h⟩ := Option.bind_eq_some_iff.mp h
        obtain ⟨q3, hq3, rfl⟩ := Option.map_eq_some_iff.mp h
        exact sndS_setIx F hc.1 hc.2 (ie.e X c.sc _ _ F.f hq3) (ie.e X c.sc _ _ F.f hq1) (ie.e X c.sc _ _ F.f hq2)
      · obtain ⟨hc, h⟩ := guardO_some h
        obtain ⟨w, hw, h⟩ := Option.bind_eq_some_iff.mp h
        obtain ⟨q1, hq1, h⟩ := Option.bind_eq_some_iff.mp h
        obtain ⟨q2, hq2, rfl⟩ := Option.map_eq_some_iff.mp h
        exact sndS_setF F (ownAttr_get hw).1 (ownAttr_get hw).2 (by simpa using hc) (ie.e X c.sc _ _ F.f hq2) (ie.e X c.sc _ _ F.f hq1)
      · obtain ⟨w, hw, h⟩ := Option.bind_eq_some_iff.mp h
        obtain ⟨b, hb, h⟩ := Option.bind_eq_some_iff.mp h
        obtain ⟨q1, hq1, h⟩ := Option.bind_eq_some_iff.mp h
        obtain ⟨q2, hq2, rfl⟩ := Option.map_eq_some_iff.mp h
        refine sndS_augF F (ownAttr_get hw).1 (ownAttr_get hw).2 ?_ (ie.e X c.sc _ _ F.f hq2) (ie.e X c.sc _ _ F.f hq1)
        unfold resAug at hb
        split at hb
        · cases hb; exact .inl ⟨rfl, rfl⟩
        · cases hb; exact .inr ⟨rfl, rfl⟩
        · cases hb
      · obtain ⟨hs, h⟩ := guardO_some h
        obtain ⟨q1, hq1, h⟩ := Option.bind_eq_some_iff.mp h
        obtain ⟨q2, hq2, h⟩ := Option.bind_eq_some_iff.mp h
        obtain ⟨q3, hq3, rfl⟩ := Option.map_eq_some_iff.mp h
        exact sndS_daug F (by simpa using hs) (ie.e X c.sc _ _ F.f hq1) (ie.e X c.sc _ _ F.f hq2) (ie.e X c.sc _ _ F.f hq3)
      · obtain ⟨hx, h⟩ := guardO_some h
        obtain ⟨k, hk, h⟩ := Option.bind_eq_some_iff.mp h
        obtain ⟨b, hb, h⟩ := Option.bind_eq_some_iff.mp h
        obtain ⟨q, hq, rfl⟩ := Option.map_eq_some_iff.mp h
        refine sndS_aug F (of_decide_eq_true hx) (ixOf_get hk) ?_ (ie.e X c.sc _ _ F.f hq)
        unfold resAug at hb
        split at hb
        · cases hb; exact .inl ⟨rfl, rfl⟩
        · cases hb; exact .inr ⟨rfl, rfl⟩
        · cases hb
      · obtain ⟨hc, h⟩ := guardO_some h
        obtain ⟨q, hq, rfl⟩ := Option.map_eq_some_iff.mp h
        exact sndS_expr (by simpa using hc) (ie.e X c.sc _ _ F.f hq)
      · obtain ⟨q1, hq1, h⟩ := Option.bind_eq_some_iff.mp h
        obtain ⟨q2, hq2, h⟩ := Option.bind_eq_some_iff.mp h
        obtain ⟨q3, hq3, rfl⟩ := Option.map_eq_some_iff.mp h
        exact sndS_if (ie.t X c.sc _ _ F.f hq1) (ih.2 F hq2) (ih.2 F hq3)
      · obtain ⟨hs, h⟩ := guardO_some h
        obtain ⟨q1, hq1, h⟩ := Option.bind_eq_some_iff.mp h
        obtain ⟨q2, hq2, h⟩ := Option.bind_eq_some_iff.mp h
        obtain ⟨q3, hq3, rfl⟩ := Option.map_eq_some_iff.mp h
        exact sndS_for F (by simpa using hs) hq1 (ie.i X c.sc _ _ _ F.f hq2) (ih.2 F hq3)
      · obtain ⟨q1, hq1, h⟩ := Option.bind_eq_some_iff.mp h
        obtain ⟨q2, hq2, rfl⟩ := Option.map_eq_some_iff.mp h
        exact sndS_while F (ie.t X c.sc _ _ F.f hq1) (ih.2 F hq2)
      · split at h
        · next r hr =>
          obtain ⟨ht, h⟩ := guardO_some h
          obtain ⟨q, hq, rfl⟩ := Option.map_eq_some_iff.mp h
          obtain ⟨j1, p1, p2, j2, p3, p4, he⟩ := retOf_eq hr
          rw [ht, he]
          exact sndS_retR (resR_ok n F.f hq)
        · obtain ⟨q, hq, rfl⟩ := Option.map_eq_some_iff.mp h
          exact sndS_ret (ie.e X c.sc _ _ F.f hq)
      · cases h; exact sndS_retN
      · cases h; exact sndS_pass
      · cases h; exact sndS_brk
      · cases h; exact sndS_cnt
      · cases h
        split
        · rename_i k fl hk
          split
          · rename_i hg
            simp only [Bool.and_eq_true, decide_eq_true_eq] at hg
            split
            · rename_i A hA
              obtain ⟨s1, s2, _⟩ := ie.es X c.sc _ _ F.f hA
              exact sndS_rse F hg.1.1 hg.1.2 (clsOf_get hk) rfl s2 hg.2 s1
            · exact sndS_bad
          · exact sndS_bad
        · exact sndS_bad
      · cases h; exact sndS_bad
      · obtain ⟨hg, h⟩ := guardO_some h
        simp only [Bool.and_eq_true, decide_eq_true_eq] at hg
        obtain ⟨p, hp, h⟩ := Option.bind_eq_some_iff.mp h
        obtain ⟨i, hi, h⟩ := Option.bind_eq_some_iff.mp h
        obtain ⟨A, hA, h⟩ := Option.bind_eq_some_iff.mp h
        obtain ⟨R, hR, rfl⟩ := Option.map_eq_some_iff.mp h
        exact sndS_tryR F hg.1.1.1 hg.1.1.2 (clsOf_get hp) (ixOf_get hi) hg.2 hg.1.2 (fun X' F' => ie.e X' c.sc _ _ F' hA) hR
      · obtain ⟨hg, h⟩ := guardO_some h
        simp only [Bool.and_eq_true, decide_eq_true_eq, Bool.not_eq_true'] at hg
        obtain ⟨p, hp, h⟩ := Option.bind_eq_some_iff.mp h
        obtain ⟨i, hi, h⟩ := Option.bind_eq_some_iff.mp h
        obtain ⟨A, hA, h⟩ := Option.bind_eq_some_iff.mp h
        obtain ⟨R, hR, rfl⟩ := Option.map_eq_some_iff.mp h
        exact sndS_tryE hg.2 F hg.1.1.1.1 hg.1.1.1.2 (clsOf_get hp) (ixOf_get hi) hg.1.2 hg.1.1.2 (fun X' F' => ie.e X' c.sc _ _ F' hA) hR
      · cases h
    · unfold resB at h
      split at h
      · cases h; exact sndB_nil
      · obtain ⟨q1, hq1, h⟩ := Option.bind_eq_some_iff.mp h
        obtain ⟨q2, hq2, rfl⟩ := Option.map_eq_some_iff.mp h
        exact sndB_cons (ih.1 F hq1) (ih.2 F hq2)
end
end PyI
/-! A15: defs keep what the interpreter says. -/
namespace PyI
open PySem L2 PyProof.Rows
structure FnD where
  name : Str
  ps : List Str
  N : List Str
  st : Stmt
  muts : List Str
  τ : Bool
  body : B
  tdk : List Str := []
def locB (sc : Scope) (x : Str) : Bool := match sc.names.lookup x with
  | some .local => true
  | some .cell => true
  | _ => false
def locOf (sc : Scope) : List Str := (sc.names.map Prod.fst).filter (locB sc)
structure FnD.Ok (tb : Tb) (d : FnD) : Prop where
  res : resB 80 ⟨⟨d.N, tb⟩, defScope d.st, locOf (defScope d.st), d.muts, d.τ, d.tdk⟩ (defBody d.st) = some d.body
  sc : FnScope d.N d.ps (defScope d.st)
  tk : d.τ = true → (∀ y ∈ (defScope d.st).names, y.2 ≠ .cell) ∧ 1 ≤ d.ps.length
def FnD.fn (d : FnD) : Fn := ⟨d.ps.length, d.N.length, d.body⟩
/-- what a law's program gives -/
structure Prg where
  fds : List FnD
  tb : Tb
  con : Nat → Option D
  dic : Nat → List (Str × D)
  wf : Nat
def Prg.tab (p : Prg) : List Fn := p.fds.map FnD.fn
def Prg.G (p : Prg) (k : Nat) : G := ⟨callD p.tab p.con p.dic p.wf k, p.con, p.dic, p.wf, decide (2 ≤ k)⟩
structure Prg.Ok (p : Prg) : Prop where
  fns : p.tb.fns = p.fds.map fun d => (d.name, d.ps.length)
  ok : ∀ d ∈ p.fds, d.Ok p.tb
structure Prg.At (p : Prg) (P : Program) (w : World) (K : PySem.W.Frag) (mg : Str → Option Value) (ct : CTab) : Prop where
  bi : ∀ x ∈ bins, mg x = none
  con : ∀ g x d, p.tb.cons[g]? = some x → p.con g = some d → ∃ u v, mg x = some u ∧ RelV v u ∧ ∀ H M, Rep K H M v d
  dic : ∀ g x, p.tb.dics[g]? = some x → ∃ d, mg x = some (.ref d) ∧ DicAt K w d (p.dic g)
  cls : ∀ (c : Nat) (x : Str) (fl : List Str), p.tb.clss[c]? = some (x, fl) → ClsK P w K mg (ct.cls c) x fl ∧ ct.flds c = fl ∧ fl.Nodup
  isx : ∀ c x b, (c, x, b) ∈ p.tb.isx → ∃ (v : V) (cv : Value), ((mg x = some cv) ∨ (mg x = none ∧ bootBuiltins x = some cv ∧ x ≠ "__name__")) ∧ RelV v cv ∧ (∀ u, RelV v u → u = cv) ∧ PySem.W.kitOne K (.ref (ct.cls c)) cv = some b
  own : ∀ o ∈ p.tb.owns, OwnK K mg (ct.cls o.c) o
  met : ∀ d ∈ p.fds, ∀ c m, p.tb.mets.lookup d.name = some (c, m) → ∃ a fd qual nm, Fun K nm qual d.st a fd ∧ Meth K (ct.cls c) m a ∧ ∀ us : List Value, us.length = d.ps.length → bindArgs fd ⟨us, []⟩ = pure (d.ps.zip us)
  fn : ∀ d ∈ p.fds, p.tb.mets.lookup d.name = none → ∃ a fd qual, Fun K d.name qual d.st a fd ∧ mg d.name = some (.ref a) ∧ ∀ us : List Value, us.length = d.ps.length → bindArgs fd ⟨us, []⟩ = pure (d.ps.zip us)
section
variable {K : PySem.W.Frag} {ct : CTab} {H H' : Hp} {M M' : AM} {μ μ' : Mu} {Q : VK} {W : XK} {v : V} {d : D} {n : Nat}
theorem fin_ok (hn : M.ix.length = n) (h : PyI.Ok K ct (RD K) M H (fin n d μ') Q W) (e : Evo M H M' H') (R : RelH K ct H' μ' M') (r : Rep K H' M' v d) : Q v H' := by
  unfold fin at h
  by_cases h1 : μ'.length = n
  · rw [if_pos h1] at h; exact h v H' M' e R r
  · rw [if_neg h1] at h
    simp only at h
    -- the value, as it is handed back
    have key : ∀ d', (below n d' = true → Rep K H' (M'.cut n) v d') → PyI.Ok K ct (RD K) M H (if below n d' = true ∧ (μ'.take n).all (belowMO n) = true ∧ n ≤ μ'.length then Res.ok d' (μ'.take n) else .ok d μ') Q W → Q v H' := by
      intro d' hr hk
      by_cases h2 : below n d' = true ∧ (μ'.take n).all (belowMO n) = true ∧ n ≤ μ'.length
      · rw [if_pos h2] at hk
        exact hk v H' (M'.cut n) (by rw [← hn]; exact e.cut) (R.cut n h2.2.1) (hr h2.1)
      · rw [if_neg h2] at hk
        exact hk v H' M' e R r
    cases d with
    | ref k =>
      simp only at h
      by_cases h3 : n ≤ k
      · rw [if_pos h3] at h
        cases hk : μ'[k]? with
        | none => simp only [hk] at h; exact key _ (fun q => r.cut n q) h
        | some mo =>
          cases mo with
          | lst l =>
            simp only [hk] at h
            refine key _ (fun q => ?_) h
            cases r with
            | ref ha =>
              obtain ⟨xs, hx, rx⟩ := R.lst hk ha
              refine .lst ⟨.inl hx, fun z => ?_, fun z => (R.exs _ z).2 (List.mem_of_getElem? ha)⟩ (rx.cut n (by simpa only [below] using q))
              -- the place k is cut off
              have z : _ ∈ M'.ix.take n := z
              obtain ⟨j, hj, ej⟩ := List.getElem_of_mem z
              have hjn : j < n := by rw [List.length_take] at hj; omega
              have hjl : j < M'.ix.length := by rw [List.length_take] at hj; omega
              rw [List.getElem_take] at ej
              have e1 : M'.ix[j]? = M'.ix[k]? := by rw [ha, List.getElem?_eq_getElem hjl, ej]
              have := (List.getElem?_inj hjl R.nd).mp e1
              omega
          | dead => simp only [hk] at h; exact key _ (fun q => r.cut n q) h
          | ins _ _ => simp only [hk] at h; exact key _ (fun q => r.cut n q) h
          | dk _ => simp only [hk] at h; exact key _ (fun q => r.cut n q) h
          | dt _ => simp only [hk] at h; exact key _ (fun q => r.cut n q) h
      · rw [if_neg h3] at h; exact key _ (fun q => r.cut n q) h
    | non => exact key _ (fun q => r.cut n q) h
    | bl _ => exact key _ (fun q => r.cut n q) h
    | int _ => exact key _ (fun q => r.cut n q) h
    | str _ => exact key _ (fun q => r.cut n q) h
    | tup _ => exact key _ (fun q => r.cut n q) h
    | lst _ => exact key _ (fun q => r.cut n q) h
    | kl _ => exact key _ (fun q => r.cut n q) h
    | kt _ => exact key _ (fun q => r.cut n q) h
theorem finO_ok {o : Out} (hn : M.ix.length = n) (h : PyI.Ok K ct (RD K) M H (finO n o) Q W) : OkS K ct M H o { nx := fun _ H' => Q .non H', rt := Q } (fun cls d _ H' => W cls d H') := by
  cases o with
  | nx ρ μ => exact fun σ' H' M' e R E => fin_ok hn h e R .non
  | rt d μ => exact fun v H' M' e R r => fin_ok hn h e R r
  | br ρ μ => exact (h : False).elim
  | ct ρ μ => exact (h : False).elim
  | stuck => exact h
  | er c fs ρ μ =>
    intro cls d σ' H' M' e R E r
    have h : PyI.Ok K ct (RD K) M H (if μ.length = n then .err c fs μ else if belows n fs = true ∧ (μ.take n).all (belowMO n) = true ∧ n ≤ μ.length then .err c fs (μ.take n) else .err c fs μ) Q W := h
    by_cases h1 : μ.length = n
    · rw [if_pos h1] at h; exact h cls d H' M' e R r
    · rw [if_neg h1] at h
      by_cases h2 : belows n fs = true ∧ (μ.take n).all (belowMO n) = true ∧ n ≤ μ.length
      · rw [if_pos h2] at h
        obtain ⟨q1, dx, vs, q2, q3, q5, q4⟩ := r
        exact h cls d H' (M'.cut n) (by rw [← hn]; exact e.cut) (R.cut n h2.2.1) ⟨q1, dx, vs, q2, q3, q5, q4.cut n h2.1⟩
      · rw [if_neg h2] at h; exact h cls d H' M' e R r
theorem start_rel {N : List Str} {vs : List V} {ds : List D} (r : Reps K H M vs ds) : RelE K H M (L2.start N vs) (startR N.length ds) := by
  refine ⟨?_, fun i d h => ?_⟩
  · unfold L2.start startR
    rw [List.length_append, List.length_append, List.length_map, List.length_map, List.length_replicate, List.length_replicate, r.length]
  · unfold startR at h
    unfold L2.start
    rcases Nat.lt_or_ge i ds.length with z | z
    · rw [List.getElem?_append_left (by rw [List.length_map]; exact z), List.getElem?_map] at h
      obtain ⟨d', hd, e⟩ := Option.map_eq_some_iff.mp h
      cases e
      obtain ⟨v, hv, rv⟩ := r.get hd
      rw [List.getElem?_append_left (by rw [List.length_map, r.length]; exact z), List.getElem?_map, hv]
      exact ⟨v, rfl, rv⟩
    · rw [List.getElem?_append_right (by rw [List.length_map]; exact z)] at h
      rw [List.getElem?_replicate] at h
      split at h <;> cases h
end
section
variable {p : Prg} {P : Program} {w : World} {K : PySem.W.Frag} {mg : Str → Option Value} {base : Heap}
theorem call_stuck {f : Nat} {ds : List D} {μ : Mu} {k : Nat} {d : FnD} (hd : p.fds[f]? = some d) (h : ds.length ≠ d.ps.length) : callD p.tab p.con p.dic p.wf k f ds μ = .stuck := by
  cases k with
  | zero => rfl
  | succ k =>
    unfold callD
    have : p.tab[f]? = some d.fn := by unfold Prg.tab; rw [List.getElem?_map, hd]; rfl
    rw [this]
    exact if_neg h
theorem fns_get (ok : p.Ok) {f n : Nat} {x : Str} (h : p.tb.fns[f]? = some (x, n)) : ∃ d, p.fds[f]? = some d ∧ d.name = x ∧ d.ps.length = n := by
  rw [ok.fns, List.getElem?_map] at h
  obtain ⟨d, hd, e⟩ := Option.map_eq_some_iff.mp h
  cases e
  exact ⟨d, hd, rfl, rfl⟩
theorem all_ok (ok : p.Ok) (ct : CTab) (A0 : p.At P w K mg ct) : ∀ (k f : Nat) (d : FnD) (a : Addr) (fd : FuncData) (nm qual : Str), p.fds[f]? = some d → Fun K nm qual d.st a fd → FnOk P w K mg base (L2.CX P w) (2 * k) a fd d.ps (spF K ct (p.G k) f d.ps.length)
  | 0, f, d, a, fd, nm, qual, hd, F => by
    have no : ∀ vs H Q E, ¬ spF K ct (p.G 0) f d.ps.length vs H Q E := fun vs H Q E h => by
      obtain ⟨ds, μ, M, _, _, _, h⟩ := h
      exact h
    exact ⟨fun vs H Q E h => absurd h (no vs H Q E), fun A outer s H args us vs Q E _ _ _ _ h => absurd h (no vs H Q E)⟩
  | k + 1, f, d, a, fd, nm, qual, hd, F => by
    show FnOk P w K mg base (L2.CX P w) (2 * k + 1 + 1) a fd d.ps (spF K ct (p.G (k + 1)) f d.ps.length)
    have ih := all_ok ok ct A0 k
    have dok := ok.ok d (List.mem_of_getElem? hd)
    have hlen : ∀ vs H Q E, spF K ct (p.G (k + 1)) f d.ps.length vs H Q E → vs.length = d.ps.length := fun vs H Q E h => h.choose_spec.choose_spec.choose_spec.1
    have body : ∀ (cdv : Value) (A : Around) (outer : List Env) (s : Shared) (H : Hp) (vs : List V) (Q : VK) (E : XK), Room (2 * k + 1) (A.deeper (envOfC qual (defScope d.st) s.heap.objs.size a cdv)) → spF K ct (p.G (k + 1)) f d.ps.length vs H Q E →
        wB d.τ (cxOf (L2.CX P w) P w K mg base d.N qual (defScope d.st) a cdv A outer s H E) (defBody d.st) { nx := fun _ H' => Q .non H', rt := Q } (L2.start d.N vs) H := by
      intro cdv A outer s H vs Q E hr h
      obtain ⟨ds, μ, M, hl, R, r, h⟩ := h
      have ht : p.tab[f]? = some d.fn := by unfold Prg.tab; rw [List.getElem?_map, hd]; rfl
      have hdl : ds.length = d.ps.length := by rw [← r.length, hl]
      have h2 : PyI.Ok K ct (RD K) M H (finO μ.length (runB (p.G k) d.body (startR d.N.length ds) μ)) Q E := by
        have e : (p.G (k + 1)).call f ds μ = finO μ.length (runB (p.G k) d.body (startR d.N.length ds) μ) := by
          show callD p.tab p.con p.dic p.wf (k + 1) f ds μ = _
          unfold callD
          rw [ht]
          exact if_pos hdl
        rw [e] at h
        exact h
      let X := cxOf (L2.CX P w) P w K mg base d.N qual (defScope d.st) a cdv A outer s H E
      have fr : FrS X ct p.tb (p.G k) d.N (defScope d.st) (locOf (defScope d.st)) := by
        refine ⟨⟨rfl, rfl, dok.sc.nd, rfl, dok.sc.kind, ⟨hr.units, A0.bi, A0.own, fun f' x n c m hf hmt => ?_, fun f' x n hf hmt => ?_, fun f' x n ds μ hf hne => ?_, A0.con, A0.dic, A0.cls, fun hm => hr.mono (by have : 2 ≤ k := of_decide_eq_true hm; omega), A0.isx⟩⟩, fun x hx => ?_, passes_of rfl, rfl, rfl⟩
        · obtain ⟨d', hd', rfl, rfl⟩ := fns_get ok hf
          obtain ⟨a', fd', q', nm', F', hm, hb⟩ := A0.met d' (List.mem_of_getElem? hd') c m hmt
          exact ⟨2 * k, a', fd', d'.ps, ih f' d' a' fd' nm' q' hd' F', hr, hm, .all hb⟩
        · obtain ⟨d', hd', rfl, rfl⟩ := fns_get ok hf
          obtain ⟨a', fd', q', F', hm, hb⟩ := A0.fn d' (List.mem_of_getElem? hd') hmt
          exact ⟨2 * k, a', fd', d'.ps, ih f' d' a' fd' _ q' hd' F', hr.mono (Nat.le_succ _), hm, F'.kp, .all hb⟩
        · obtain ⟨d', hd', rfl, rfl⟩ := fns_get ok hf
          exact call_stuck hd' hne
        · have hb := (List.mem_filter.mp hx).2
          unfold locB at hb
          refine ⟨?_, .inl rfl⟩
          split at hb
          · next q => exact .inl q
          · next q => exact .inr q
          · cases hb
      exact (resS_ok (c := ⟨⟨d.N, p.tb⟩, defScope d.st, locOf (defScope d.st), d.muts, d.τ, d.tdk⟩) (ct := ct) (Γ := p.G k) 80).2 (X := X) fr dok.res (fun cls d _ H => E cls d H) (startR d.N.length ds) μ (L2.start d.N vs) H M _ (takes_of rfl rfl rfl rfl) (start_rel r) R (finO_ok R.len h2)
    cases ht : d.τ with
    | false =>
      refine F.okX dok.sc hlen (fun cdv A outer s H vs Q E hr h => ?_)
      have b := body cdv A outer s H vs Q E hr h
      rw [ht] at b
      exact ⟨wB false _ _, ⟨fun pins s σ H D I q => q pins s (fun z => by cases z) I⟩, b⟩
    | true =>
      obtain ⟨oc, od, kV, doc, pm, an, cdv, ct', osl, rfl, lk, hcd⟩ := F.ex
      obtain ⟨hnc, hps⟩ := dok.tk ht
      refine fn_ofT lk hcd dok.sc hnc hps hlen fun A outer s H vs Q E hr h => ?_
      have b := body cdv A outer s H vs Q E hr h
      rw [ht] at b
      exact ⟨wB true _ _, fun pins s σ H D h0 I q => q pins s (fun _ => h0) I, b⟩
end
end PyI
/-! A16: a law's end. -/
namespace PyI
open PySem L2
section
variable {K : PySem.W.Frag} {h : Heap} {mg : Str → Option Value} {w : World}
theorem defAt {name qual : Str} {st : Stmt} {ps : List Str} (X : K.In h) (G : h.Ns mainGlobals mg) {f : Addr} {od an : Option Addr} {sl : Array (Option Value)} {oc kV dc pm cd ct : Value}
    (hb : ∀ (kV doc pm : Value) (an : Option Addr) (cdv ct : Value) (us : List Value), us.length = ps.length → bindArgs (PySem.W.fnOf name qual (defArgs st) (defBody st) (defScope st) .none kV doc pm an cdv ct) ⟨us, []⟩ = pure (ps.zip us))
    (a : PySem.W.nsIn K mainGlobals name = some (some (.ref f)))
    (l : K.lookup f = some ⟨oc, od, .func (PySem.W.fnOf name qual (defArgs st) (defBody st) (defScope st) .none kV dc pm an cd ct), sl⟩) (c : PySem.W.codeIn K cd qual = true) (k : PySem.W.keepIn K (.ref f) = true) :
    ∃ a fd q, Fun K name q st a fd ∧ mg name = some (.ref a) ∧ ∀ us : List Value, us.length = ps.length → bindArgs fd ⟨us, []⟩ = pure (ps.zip us) :=
  ⟨f, _, qual, fun_mk l c k, PySem.W.mg_of X G a, hb _ _ _ _ _ _⟩
theorem metAt {C : Addr} {m name qual : Str} {st : Stmt} {ps : List Str} {f : Addr} {od an : Option Addr} {sl : Array (Option Value)} {oc kV dc pm cd ct : Value}
    (hb : ∀ (kV doc pm : Value) (an : Option Addr) (cdv ct : Value) (us : List Value), us.length = ps.length → bindArgs (PySem.W.fnOf name qual (defArgs st) (defBody st) (defScope st) .none kV doc pm an cdv ct) ⟨us, []⟩ = pure (ps.zip us))
    (a : PySem.W.findIn K (.ref C) m = some (some (.ref f))) (fn : PySem.W.isFn K (.ref f) = true)
    (l : K.lookup f = some ⟨oc, od, .func (PySem.W.fnOf name qual (defArgs st) (defBody st) (defScope st) .none kV dc pm an cd ct), sl⟩) (c : PySem.W.codeIn K cd qual = true) (k : PySem.W.keepIn K (.ref f) = true) :
    ∃ a fd q nm, Fun K nm q st a fd ∧ Meth K C m a ∧ ∀ us : List Value, us.length = ps.length → bindArgs fd ⟨us, []⟩ = pure (ps.zip us) :=
  ⟨f, _, qual, name, fun_mk l c k, ⟨a, fn, k⟩, hb _ _ _ _ _ _⟩
theorem biAll (X : K.In h) (G : h.Ns mainGlobals mg)
    (z0 : PySem.W.nsIn K mainGlobals "len" = some none)
    (z1 : PySem.W.nsIn K mainGlobals "int" = some none)
    (z2 : PySem.W.nsIn K mainGlobals "str" = some none)
    (z3 : PySem.W.nsIn K mainGlobals "tuple" = some none)
    (z4 : PySem.W.nsIn K mainGlobals "list" = some none)
    (z5 : PySem.W.nsIn K mainGlobals "sorted" = some none)
    (z6 : PySem.W.nsIn K mainGlobals "min" = some none)
    (z7 : PySem.W.nsIn K mainGlobals "max" = some none)
    (z8 : PySem.W.nsIn K mainGlobals "sum" = some none)
    (z9 : PySem.W.nsIn K mainGlobals "any" = some none)
    (z10 : PySem.W.nsIn K mainGlobals "all" = some none)
    (z11 : PySem.W.nsIn K mainGlobals "abs" = some none)
    (z12 : PySem.W.nsIn K mainGlobals "ord" = some none)
    (z13 : PySem.W.nsIn K mainGlobals "bool" = some none)
    (z14 : PySem.W.nsIn K mainGlobals "isinstance" = some none)
    (z15 : PySem.W.nsIn K mainGlobals "range" = some none)
    (z16 : PySem.W.nsIn K mainGlobals "enumerate" = some none)
    (z17 : PySem.W.nsIn K mainGlobals "zip" = some none)
    (z18 : PySem.W.nsIn K mainGlobals "set" = some none)
    (z19 : PySem.W.nsIn K mainGlobals "type" = some none)
    (z20 : PySem.W.nsIn K mainGlobals "reversed" = some none) :
    ∀ x ∈ bins, mg x = none := by
  intro x hx
  simp only [bins, List.mem_cons, List.not_mem_nil, or_false] at hx
  rcases hx with rfl | rfl | rfl | rfl | rfl | rfl | rfl | rfl | rfl | rfl | rfl | rfl | rfl | rfl | rfl | rfl | rfl | rfl | rfl | rfl | rfl
  · exact PySem.W.mg_none_of X G z0
  · exact PySem.W.mg_none_of X G z1
  · exact PySem.W.mg_none_of X G z2
  · exact PySem.W.mg_none_of X G z3
  · exact PySem.W.mg_none_of X G z4
  · exact PySem.W.mg_none_of X G z5
  · exact PySem.W.mg_none_of X G z6
  · exact PySem.W.mg_none_of X G z7
  · exact PySem.W.mg_none_of X G z8
  · exact PySem.W.mg_none_of X G z9
  · exact PySem.W.mg_none_of X G z10
  · exact PySem.W.mg_none_of X G z11
  · exact PySem.W.mg_none_of X G z12
  · exact PySem.W.mg_none_of X G z13
  · exact PySem.W.mg_none_of X G z14
  · exact PySem.W.mg_none_of X G z15
  · exact PySem.W.mg_none_of X G z16
  · exact PySem.W.mg_none_of X G z17
  · exact PySem.W.mg_none_of X G z18
  · exact PySem.W.mg_none_of X G z19
  · exact PySem.W.mg_none_of X G z20
theorem conInt {x : Str} {i : Int} {t : Tok} (X : K.In h) (G : h.Ns mainGlobals mg) (a : PySem.W.nsIn K mainGlobals x = some (some (.int i t))) : ∃ u v, mg x = some u ∧ RelV v u ∧ ∀ H M, Rep K H M v (.int i) := ⟨_, .int i, PySem.W.mg_of X G a, ⟨t, rfl⟩, fun _ _ => .int i⟩
theorem conStr {x : Str} {i : Str} {t : Tok} (X : K.In h) (G : h.Ns mainGlobals mg) (a : PySem.W.nsIn K mainGlobals x = some (some (.str i t))) : ∃ u v, mg x = some u ∧ RelV v u ∧ ∀ H M, Rep K H M v (.str i) := ⟨_, .str i, PySem.W.mg_of X G a, ⟨t, rfl⟩, fun _ _ => .str i⟩
/-- a tuple of ints of the module -/
theorem conTupI {x : Str} {l : List Int} {p : Addr} {o : Obj} {its : Array Value} {n : Nat} (X : K.In h) (G : h.Ns mainGlobals mg) (a : PySem.W.nsIn K mainGlobals x = some (some (.ref p))) (hl : K.lookup p = some o)
    (hc : o.cls = .type "tuple") (hd : o.data = .seq its n) (hz : its.size ≤ sizeLine) (hv : Vals (l.map V.int) its.toList) : ∃ u v, mg x = some u ∧ RelV v u ∧ ∀ H M, Rep K H M v (.kt (l.map D.int)) :=
  ⟨_, .ref p, PySem.W.mg_of X G a, rfl, fun _ _ => .kt (.inr ⟨o, its, n, hl, hc, hd, hz, hv⟩) (reps_ints l)⟩
theorem entTup {p : Addr} {o : Obj} {its : Array Value} {n : Nat} {vs : List V} {ds : List D} (hl : K.lookup p = some o) (hc : o.cls = .type "tuple") (hd : o.data = .seq its n) (hz : its.size ≤ sizeLine) (hv : Vals vs its.toList) (hr : ∀ H M, Reps K H M vs ds) : ∃ v, RelV v (.ref p) ∧ ∀ H M, Rep K H M v (.kt ds) :=
  ⟨.ref p, rfl, fun _ _ => .kt (.inr ⟨o, its, n, hl, hc, hd, hz, hv⟩) (hr _ _)⟩
/-- a written dict and its pairs -/
def EntRel (K : PySem.W.Frag) : List DictEntry → List (Str × D) → Prop := Paired fun e p => (∃ t, e.key = .str p.1 t) ∧ ∃ v, RelV v e.val ∧ ∀ H M, Rep K H M v p.2
theorem ent_find {d : Addr} : ∀ {es : List DictEntry} {l : List (Str × D)}, EntRel K es l → ∀ z, match l.lookup z with
    | none => es.find? (·.key.isStr z) = none ∧ es.any (·.refKey) = false
    | some dd => ∃ e v, es.find? (·.key.isStr z) = some e ∧ RelV v e.val ∧ ∀ H M, Rep K H M v dd
  | _, _, .nil, z => ⟨rfl, rfl⟩
  | _, _, .cons (a := e) (b := p) h r, z => by
    obtain ⟨⟨t, ht⟩, v, hv, hr⟩ := h
    have ih := ent_find (d := d) r z
    obtain ⟨x, dd⟩ := p
    by_cases e1 : z = x
    · subst e1
      simp only [List.lookup, beq_self_eq_true]
      refine ⟨e, v, ?_, hv, hr⟩
      rw [List.find?_cons, ht]
      have : (Value.str z t).isStr z = true := by simp [Value.isStr]
      rw [this]
    · have e2 : (z == x) = false := beq_eq_false_iff_ne.mpr e1
      simp only [List.lookup, e2]
      have e3 : e.key.isStr z = false := by rw [ht]; simp [Value.isStr]; exact fun q => e1 q.symm
      have e4 : e.refKey = false := by unfold DictEntry.refKey; rw [ht]
      rw [List.find?_cons, e3, List.any_cons, e4]
      simpa using ih
theorem dicAt {d : Addr} {es : Array DictEntry} {n : Nat} {l : List (Str × D)} {x : Str} (X : K.In h) (G : h.Ns mainGlobals mg) (a : PySem.W.nsIn K mainGlobals x = some (some (.ref d))) (lk : K.lookup d = some ⟨.type "dict", none, .dict es n, #[]⟩)
    (lit : PySem.W.KeysLit w.params es.toList) (low : (d == sysModules) = false) (er : EntRel K es.toList l) : ∃ d, mg x = some (.ref d) ∧ DicAt K w d l := by
  refine ⟨d, PySem.W.mg_of X G a, es, n, ⟨lk, lit, low⟩, fun z => ?_⟩
  have q := ent_find (d := d) er z
  cases hz : l.lookup z with
  | none =>
    rw [hz] at q
    show PySem.W.nsIn K d z = some none
    unfold PySem.W.nsIn
    rw [lk]
    simp only [q.1, q.2, Bool.false_eq_true, if_false]
  | some dd =>
    rw [hz] at q
    obtain ⟨e, v, q1, q2, q3⟩ := q
    refine ⟨e.val, v, ?_, q2, q3⟩
    unfold PySem.W.nsIn
    rw [lk]
    simp only [q1]
end
/-- a def called law, of one argument -/
theorem law_fn {p : Prg} {P : Program} {w : World} {K : PySem.W.Frag} {mg : Str → Option Value} (ok : p.Ok) (ct : CTab) (A0 : p.At P w K mg ct) {fa : Addr} {f : Nat} {d : FnD} (hfa : mg "law" = some (.ref fa)) (hd : p.fds[f]? = some d) (hn : d.name = "law") (hmt : p.tb.mets.lookup ("law" : Str) = none) (hps : d.ps = [("script" : Str)]) (k : Nat) :
    ∃ fd : FuncData, (∀ (s : Shared) (v : Value), BindsTo s fd ⟨[v], []⟩ [("script", v)]) ∧ ∀ base : Heap, FnOk P w K mg base (L2.CX P w) (2 * k) fa fd ["script"] (spF K ct (p.G k) f 1) := by
  obtain ⟨a, fd, q, F, hm, hb⟩ := A0.fn d (List.mem_of_getElem? hd) (by rw [hn]; exact hmt)
  rw [hn, hfa] at hm
  cases hm
  refine ⟨fd, fun s v => .of_eq (by have := hb [v] (by rw [hps]; rfl); rw [hps] at this; exact this), fun base => ?_⟩
  have := all_ok (base := base) ok ct A0 k f d fa fd _ q hd F
  rw [hps] at this
  exact this
theorem law_walk {p : Prg} {ct : CTab} {f kk : Nat} {l : PySem.W.OpenLaw} {q : Program} {loose : List Str} {XP : (Str → Option Value) → Heap → Prop} {YP : World → Heap → Prop} {d : DefRec} {K : Params → PySem.W.Frag} (hn : l.most = some 63) (hdf : d.params.defaults = []) (hr : Room (2 * kk) callerA)
    (hY : ∀ (w : World) (h : Heap), YP w h → (K w.params).In h)
    (main : ∀ ns : List Int, ns.length ≤ 63 → ∃ μ', callD p.tab p.con p.dic p.wf kk f [.kl (ns.map D.int)] [] = .ok (.bl true) μ')
    (F : ∀ (w : World) (mg : Str → Option Value) (fa : Addr) (h : Heap), (K w.params).In h → h.Ns mainGlobals mg → mg d.name = some (.ref fa) →
      ∃ fd : FuncData, (∀ (s : Shared) (u : Value), BindsTo s fd ⟨[u], []⟩ [("script", u)]) ∧ ∀ base : Heap, FnOk l.prog w (K w.params) mg base (L2.CX l.prog w) (2 * kk) fa fd ["script"] (spF (K w.params) ct (p.G kk) f 1)) :
    PySem.W.WalkO q loose XP YP l.row.toRowW d [] (fun f vs => PySem.call f vs) := by
  refine L2.walk_of (n := 63) (k := 2 * kk) (x := "script") (CX := fun w => L2.CX l.prog w) (sp := fun w => spF (K w.params) ct (p.G kk) f 1) hn (by decide) hdf hr hY (fun w mg fa h a b c => ?_) (fun w H a ns hl _ hS => ?_) fun w H s e s' z => ?_
  · obtain ⟨fd, h1, h2⟩ := F w mg fa h a b c
    exact ⟨fd, h1, fun base _ _ => h2 base⟩
  · obtain ⟨μ', hm⟩ := main ns hl
    refine ⟨[.kl (ns.map D.int)], [], ⟨[], []⟩, rfl, ⟨rfl, by show ([] : List Addr).Nodup; simp, fun n mo q => (by simp at q), fun a q => (by cases q)⟩, ?_, ?_⟩
    · refine .cons (.kl (xs := ns.map V.int) ?_ ?_) .nil
      · rcases hS with z | z
        · exact .inl ⟨z, ⟨fun q => (by cases q), fun q => (by cases q)⟩⟩
        · exact .inr (.inr z)
      · clear hl hS hm
        induction ns with
        | nil => exact .nil
        | cons n ns ih => exact .cons (.int n) ih
    · have e : (p.G kk).call f [.kl (ns.map D.int)] [] = .ok (.bl true) μ' := hm
      rw [e]
      intro v H' M' _ _ r
      cases r
      rfl
  · obtain ⟨_, _, _, _, _, _, _, _, _, _, _, _, x⟩ := z
    exact x
end PyI
/-! A17: texts as lists of codes; small facts of the interpreter. -/
namespace PyI
open PySem L2
def tx (l : List Nat) : Str := ⟨l.toArray⟩
theorem tx_l (l : List Nat) : (tx l).cps.toList = l := rfl
theorem tx_len (l : List Nat) : (tx l).length = l.length := by simp [tx, Str.length]
theorem tx_ext {x : Str} {l : List Nat} (h : x.cps.toList = l) : x = tx l := TL.ext_tl h
theorem tx_self (x : Str) : x = tx x.cps.toList := TL.ext_tl rfl
theorem tx_inj {a b : List Nat} : (tx a = tx b) ↔ a = b := ⟨fun h => congrArg (fun x : Str => x.cps.toList) h, fun h => by rw [h]⟩
theorem tx_add (a b : List Nat) : tx a ++ tx b = tx (a ++ b) := TL.ext_tl (by rw [TL.tl_append]; rfl)
theorem tx_beq (a b : List Nat) : (tx a == tx b) = (a == b) := by
  by_cases h : a = b
  · subst h; simp
  · rw [beq_eq_false_iff_ne.mpr h, beq_eq_false_iff_ne.mpr (fun e => h (tx_inj.mp e))]
theorem tx_all (l : List Nat) (p : Nat → Bool) : (tx l).cps.all p = l.all p := by simp [tx]
/-- a cut at numbers -/
theorem tx_cut (l : List Nat) {i j : Int} (a b : Nat) (hi : i = a) (hj : j = b) : cutS (tx l) (some i) (some j) = tx ((l.drop a).take (b - a)) := by
  subst hi hj
  refine tx_ext ?_
  show (l.drop _).take _ = _
  rw [HT.sIx_nat, HT.sIx_nat, tx_len]
  by_cases ha : a ≤ l.length
  · rw [Nat.min_eq_left ha]
    by_cases hb : b ≤ l.length
    · rw [Nat.min_eq_left hb]
    · rw [Nat.min_eq_right (by omega), List.take_of_length_le (by simp), List.take_of_length_le (by simp; omega)]
  · rw [List.drop_eq_nil_of_le (by omega), List.drop_eq_nil_of_le (by omega), List.take_nil, List.take_nil]
/-- text[at:at+1] -/
theorem cut_at (p : List Nat) (c : Nat) (r : List Nat) {i j : Int} (hi : i = p.length) (hj : j = p.length + 1) : cutS (tx (p ++ c :: r)) (some i) (some j) = tx [c] := by
  rw [tx_cut _ p.length (p.length + 1) hi (by omega)]
  simp
theorem cut_mid (p q r : List Nat) {i j : Int} (hi : i = p.length) (hj : j = p.length + q.length) : cutS (tx (p ++ (q ++ r))) (some i) (some j) = tx q := by
  rw [tx_cut _ p.length (p.length + q.length) hi (by omega)]
  simp
theorem cut_end (p : List Nat) {i j : Int} (hi : i = p.length) (hj : j = p.length + 1) : cutS (tx p) (some i) (some j) = tx [] := by
  rw [tx_cut _ p.length (p.length + 1) hi (by omega)]
  simp
theorem tx_in (c : Nat) (l : List Nat) : (!(Builtin.Str.occurrences (tx l) (tx [c]) 0 (tx l).length 1).isEmpty) = decide (c ∈ l) := PySem.StrLaws.found_one (tx l) c
theorem tx_repl (l y z : List Nat) (hy : y ≠ []) : Txt.replace (tx l) (tx y) (tx z) = tx (StrLaws.replL y z l) := tx_ext (StrLaws.replace_list (by
  rw [tx_len]
  cases y with
  | nil => exact absurd rfl hy
  | cons => simp))
theorem tx_join (y : List Nat) (ps : List (List Nat)) : Txt.join (tx y) (ps.map tx) = tx (TL.joinL y ps) := by
  refine tx_ext ?_
  rw [TL.join_eq]
  refine (TL.tl_join (tx y) (ps.map tx)).trans ?_
  rw [List.map_map]
  show TL.joinL y (ps.map (TL.tl ∘ tx)) = _
  congr 1
  exact List.map_id _
theorem tx_split (l y : List Nat) (hy : y ≠ []) (hk : y.all (· < 256) = true) : Txt.split (tx l) (tx y) = (TL.spl y 0 [] l).map tx := by
  refine TL.map_tl_inj ?_
  rw [TL.split_spl _ _ hy (TL.kind_ok (by rw [tx_all]; exact hk)), List.map_map]
  exact (List.map_id _).symm
theorem tx_find (a b r : List Nat) (c : Nat) {i : Int} (hi : i = a.length) (h : c ∉ b) : Txt.find3 (tx (a ++ (b ++ c :: r))) (tx [c]) i = ((a.length + b.length : Nat) : Int) := by
  have fi : fromIndex (tx (a ++ (b ++ c :: r))).length i = a.length := by
    subst hi
    unfold fromIndex
    rw [if_neg (by omega)]
    omega
  have g : ∀ v, (tx (a ++ (b ++ c :: r))).cps.getD v 0 = (a ++ (b ++ c :: r)).getD v 0 := fun v => by simp [tx]
  have hit : (a ++ (b ++ c :: r)).getD (a.length + b.length) 0 = c := by
    rw [← List.append_assoc]
    simp [List.getD]
  have low : ∀ v, a.length ≤ v → v < a.length + b.length → (a ++ (b ++ c :: r)).getD v 0 ≠ c := fun v h1 h2 e => by
    rw [List.getD, List.getElem?_append_right h1, List.getElem?_append_left (by omega), List.getElem?_eq_getElem (by omega)] at e
    exact h (e ▸ List.getElem_mem _)
  rcases StrLaws.find3_spec (tx (a ++ (b ++ c :: r))) c i with ⟨h1, hn⟩ | ⟨k, h1, hlo, hlt, hk, hn⟩
  · refine absurd ((g _).trans hit) (hn _ (by rw [fi]; omega) (by rw [tx_len]; simp))
  · rw [fi] at hlo hn
    have e : k = a.length + b.length := by
      rcases Nat.lt_trichotomy k (a.length + b.length) with q | q | q
      · exact absurd ((g k).symm.trans hk) (low k hlo q)
      · exact q
      · exact absurd ((g _).trans hit) (hn _ (by omega) q)
    rw [← e]
    exact h1

/-! ### the numbers' texts -/
/-- the codes of a number -/
def intL : Int → List Nat
  | .ofNat n => TL.numL n
  | .negSucc n => 45 :: TL.numL (n + 1)
theorem tx_int (i : Int) : (Str.ofString (toString i) : Str) = tx (intL i) := by
  cases i with
  | ofNat n => exact tx_ext (TL.tl_num n)
  | negSucc n =>
    refine tx_ext ?_
    have e : toString (Int.negSucc n) = "-" ++ toString ((n + 1 : Nat) : Int) := rfl
    rw [e]
    show TL.tl (Str.ofString ("-" ++ _)) = _
    rw [TL.tl_ofString, String.toList_append, List.map_append, ← TL.tl_ofString (toString ((n + 1 : Nat) : Int)), TL.tl_num]
    rfl
theorem int_back (i : Int) (h : (intL i).length ≤ 640) : intText? (tx (intL i)) = some i := by
  cases i with
  | ofNat n =>
    rw [← tx_int]
    exact TL.int_num (show (intL (Int.ofNat n)).length ≤ 4300 by omega)
  | negSucc n =>
    rw [intText_neg (cs := TL.numL (n + 1)) rfl (TL.numL_digits _) (TL.numL_ne _) (by rw [tx_len]; omega), TL.numL_val]
    rfl

/-! ### heaps -/
theorem fin_same {d : D} {μ : Mu} {n : Nat} (h : μ.length = n) : fin n d μ = .ok d μ := if_pos h
mutual
/-- no references -/
def pureD : D → Bool
  | .ref _ => false
  | .tup l => pureDs l
  | .lst l => pureDs l
  | .kl l => pureDs l
  | .kt l => pureDs l
  | _ => true
def pureDs : List D → Bool
  | [] => true
  | d :: ds => pureD d && pureDs ds
end
mutual
theorem pureD.below (n : Nat) : ∀ {d : D}, pureD d = true → below n d = true
  | .non, _ | .bl _, _ | .int _, _ | .str _, _ => rfl
  | .ref _, h => by cases h
  | .tup l, h => pureDs.belows n (l := l) h
  | .lst l, h => pureDs.belows n (l := l) h
  | .kl l, h => pureDs.belows n (l := l) h
  | .kt l, h => pureDs.belows n (l := l) h
theorem pureDs.belows (n : Nat) : ∀ {l : List D}, pureDs l = true → belows n l = true
  | [], _ => rfl
  | d :: l, h => by
    simp only [pureDs, Bool.and_eq_true] at h
    simp only [PyI.belows, Bool.and_eq_true]
    exact ⟨pureD.below n h.1, pureDs.belows n h.2⟩
end
theorem pureDs_append : ∀ {l m : List D}, pureDs (l ++ m) = (pureDs l && pureDs m)
  | [], m => by simp [pureDs]
  | d :: l, m => by simp [pureDs, pureDs_append, Bool.and_assoc]
theorem pureDs_map {α : Type} {f : α → D} (h : ∀ a, pureD (f a) = true) : ∀ l : List α, pureDs (l.map f) = true
  | [] => rfl
  | a :: l => by simp [pureDs, h a, pureDs_map h l]
/-- an object without references -/
def pureMO : MO → Bool
  | .lst l => pureDs l
  | .ins _ fs => fs.all fun p => pureD p.2
  | _ => false
/-- a heap of lists and own objects without references -/
def PureM (μ : Mu) : Prop := ∀ m ∈ μ, pureMO m = true
theorem PureM.all {μ : Mu} (h : PureM μ) (n : Nat) : μ.all (belowMO n) = true := List.all_eq_true.mpr fun m hm => by
  have := h m hm
  cases m with
  | lst l => exact pureDs.belows n this
  | ins c fs =>
    show (fs.all fun p => below n p.2) = true
    exact List.all_eq_true.mpr fun p hp => pureD.below n (List.all_eq_true.mp this p hp)
  | _ => cases this
theorem PureM.snoc {μ : Mu} (h : PureM μ) {l : List D} (hl : pureDs l = true) : PureM (μ ++ [.lst l]) := fun m hm => by
  rcases List.mem_append.mp hm with q | q
  · exact h m q
  · rw [List.mem_singleton.mp q]; exact hl
/-- one list of its own was made, and is forgotten -/
theorem fin_one {d : D} {μ : Mu} {l : MO} (h : PureM μ) (hd : pureD d = true) : fin μ.length d (μ ++ [l]) = .ok d μ := by
  have hb := pureD.below μ.length hd
  have hm : ((μ ++ [l]).take μ.length).all (belowMO μ.length) = true := by rw [List.take_left']; exact h.all _; rfl
  have ht : (μ ++ [l]).take μ.length = μ := List.take_left' rfl
  unfold fin
  rw [if_neg (by simp)]
  cases d with
  | ref k => cases hd
  | _ =>
    simp only []
    rw [if_pos ⟨hb, hm, by simp⟩, ht]
/-- one list of its own was made, and is handed back -/
theorem fin_ret {μ : Mu} {l : List D} (h : PureM μ) (hd : pureDs l = true) : fin μ.length (.ref μ.length) (μ ++ [.lst l]) = .ok (.lst l) μ := by
  unfold fin
  rw [if_neg (by simp)]
  have e : (μ ++ [MO.lst l])[μ.length]? = some (.lst l) := by simp
  simp only [e, Nat.le_refl, if_true]
  rw [if_pos ⟨pureDs.belows _ hd, by rw [List.take_left']; exact h.all _; rfl, by simp⟩, List.take_left']
  rfl
theorem snoc_get {μ : Mu} {m : MO} : (μ ++ [m])[μ.length]? = some m := by simp
theorem snoc_set {μ : Mu} {m m' : MO} : (μ ++ [m]).set μ.length m' = μ ++ [m'] := by simp

/-! ### stepping: only what stands first is looked at -/
theorem bind_ok {α β : Type} {a : α} {μ : Mu} {f : α → Mu → Res β} : (Res.ok a μ).bind f = f a μ := rfl
theorem then_ok {α : Type} {a : α} {μ : Mu} {ρ : Rho} {f : α → Mu → Out} : (Res.ok a μ).then ρ f = f a μ := rfl
theorem next_nx {ρ : Rho} {μ : Mu} {f : Rho → Mu → Out} : (Out.nx ρ μ).next f = f ρ μ := rfl
theorem next_rt {d : D} {μ : Mu} {f : Rho → Mu → Out} : (Out.rt d μ).next f = .rt d μ := rfl
theorem next_br {ρ : Rho} {μ : Mu} {f : Rho → Mu → Out} : (Out.br ρ μ).next f = .br ρ μ := rfl
theorem next_ct {ρ : Rho} {μ : Mu} {f : Rho → Mu → Out} : (Out.ct ρ μ).next f = .ct ρ μ := rfl
theorem finO_rt {n : Nat} {d : D} {μ : Mu} : finO n (.rt d μ) = fin n d μ := rfl
theorem finO_nx {n : Nat} {ρ : Rho} {μ : Mu} : finO n (.nx ρ μ) = fin n .non μ := rfl

theorem run_nx {Γ : G} {s : PyI.S} {b : B} {ρ ρ' : Rho} {μ μ' : Mu} {o : Out} (h : runS Γ s ρ μ = .nx ρ' μ') (h2 : runB Γ b ρ' μ' = o) : runB Γ (.cons s b) ρ μ = o := by
  rw [runB, h]
  exact h2
theorem run_rt {Γ : G} {s : PyI.S} {b : B} {ρ : Rho} {μ μ' : Mu} {d : D} (h : runS Γ s ρ μ = .rt d μ') : runB Γ (.cons s b) ρ μ = .rt d μ' := by
  rw [runB, h]
  rfl
theorem for_rng {f : D → Rho → Mu → Out} {lo : Int} (I : Nat → Rho → Mu → Prop) : ∀ (m n : Nat) {ρ : Rho} {μ : Mu}, I n ρ μ →
    (∀ i, n ≤ i → i < n + m → ∀ ρ μ, I i ρ μ → (∃ ρ' μ', f (.int (lo + (i : Int))) ρ μ = .nx ρ' μ' ∧ I (i + 1) ρ' μ') ∨ (∃ ρ' μ', f (.int (lo + (i : Int))) ρ μ = .br ρ' μ' ∧ I (n + m) ρ' μ')) →
    ∃ ρ' μ', forLoop f (chkOf none) ((List.range' n m).map fun (i : Nat) => D.int (lo + (i : Int))) ρ μ = .nx ρ' μ' ∧ I (n + m) ρ' μ'
  | 0, n, ρ, μ, h0, _ => ⟨ρ, μ, rfl, h0⟩
  | m + 1, n, ρ, μ, h0, hs => by
    rw [List.range'_succ, List.map_cons]
    unfold forLoop
    rw [if_pos (show chkOf none μ = true from rfl)]
    rcases hs n (Nat.le_refl _) (by omega) ρ μ h0 with ⟨ρ', μ', e, h1⟩ | ⟨ρ', μ', e, h1⟩
    · rw [e]
      have r := for_rng I m (n + 1) h1 fun i h2 h3 ρ μ hi => by
        have z := hs i (by omega) (by omega) ρ μ hi
        rw [show n + (m + 1) = n + 1 + m by omega] at z
        exact z
      rw [show n + (m + 1) = n + 1 + m by omega]
      exact r
    · rw [e]
      exact ⟨ρ', μ', rfl, h1⟩
/-- for k in range(lo, lo + n) -/
theorem for_range {f : D → Rho → Mu → Out} {lo : Int} {n : Nat} {ρ : Rho} {μ : Mu} (I : Nat → Rho → Mu → Prop) (h0 : I 0 ρ μ)
    (hs : ∀ i, i < n → ∀ ρ μ, I i ρ μ → (∃ ρ' μ', f (.int (lo + (i : Int))) ρ μ = .nx ρ' μ' ∧ I (i + 1) ρ' μ') ∨ (∃ ρ' μ', f (.int (lo + (i : Int))) ρ μ = .br ρ' μ' ∧ I n ρ' μ')) :
    ∃ ρ' μ', forLoop f (chkOf none) (rngD lo n) ρ μ = .nx ρ' μ' ∧ I n ρ' μ' := by
  have r := for_rng (f := f) (lo := lo) I n 0 h0 (fun i _ h3 ρ μ hi => by
    have z := hs i (by omega) ρ μ hi
    rw [Nat.zero_add]
    exact z)
  rw [Nat.zero_add] at r
  unfold rngD
  rw [List.range_eq_range']
  exact r
/-- a comprehension whose items change nothing -/
theorem comp_map {f : D → Mu → Res (Option D)} {g : D → D} {μ : Mu} : ∀ {ds acc : List D}, (∀ d ∈ ds, f d μ = .ok (some (g d)) μ) → acc.length + ds.length ≤ 16777216 → compLoop f (chkOf none) acc ds μ = .ok (acc ++ ds.map g) μ
  | [], acc, _, _ => by
    unfold compLoop
    rw [if_pos (show chkOf none μ = true from rfl), List.map_nil, List.append_nil]
  | d :: ds, acc, h, hl => by
    rw [List.length_cons] at hl
    unfold compLoop
    rw [if_pos (show chkOf none μ = true from rfl), h d (List.mem_cons_self ..)]
    simp only []
    rw [needs_pos (by omega), comp_map (fun e he => h e (List.mem_cons_of_mem _ he)) (by simp; omega)]
    simp
theorem comp_inv {f : D → Mu → Res (Option D)} (I : Mu → Prop) (P : D → Prop) : ∀ {ds acc : List D} {μ : Mu}, (∀ d ∈ ds, ∀ μ, I μ → ∃ y μ', f d μ = .ok (some y) μ' ∧ P y ∧ I μ') → acc.length + ds.length ≤ 16777216 →
    (∀ y ∈ acc, P y) → I μ → ∃ l μ', compLoop f (chkOf none) acc ds μ = .ok l μ' ∧ (∀ y ∈ l, P y) ∧ l.length = acc.length + ds.length ∧ I μ'
  | [], acc, μ, _, _, ha, hi => by
    unfold compLoop
    rw [if_pos (show chkOf none μ = true from rfl)]
    exact ⟨acc, μ, rfl, ha, rfl, hi⟩
  | d :: ds, acc, μ, h, hl, ha, hi => by
    rw [List.length_cons] at hl
    obtain ⟨y, μ', e, hy, hi'⟩ := h d (List.mem_cons_self ..) μ hi
    unfold compLoop
    rw [if_pos (show chkOf none μ = true from rfl), e]
    simp only []
    rw [needs_pos (by omega)]
    obtain ⟨l, μ2, r1, r2, r3, r4⟩ := comp_inv I P (ds := ds) (acc := acc ++ [y]) (μ := μ') (fun e he => h e (List.mem_cons_of_mem _ he)) (by simp; omega) (fun z hz => by
      rcases List.mem_append.mp hz with q | q
      · exact ha z q
      · rw [List.mem_singleton.mp q]; exact hy) hi'
    refine ⟨l, μ2, r1, r2, ?_, r4⟩
    rw [r3]
    simp
    omega
theorem strs_map (l : List Str) : strsOf (l.map D.str) = some l := by
  induction l with
  | nil => rfl
  | cons a l ih => simp only [List.map_cons, strsOf, ih]; rfl
theorem for_inv {f : D → Rho → Mu → Out} (I : List D → Rho → Mu → Prop) : ∀ {ds : List D} {ρ : Rho} {μ : Mu}, I ds ρ μ →
    (∀ d ds ρ μ, I (d :: ds) ρ μ → ∃ ρ' μ', f d ρ μ = .nx ρ' μ' ∧ I ds ρ' μ') → ∃ ρ' μ', forLoop f (chkOf none) ds ρ μ = .nx ρ' μ' ∧ I [] ρ' μ'
  | [], ρ, μ, h, _ => ⟨ρ, μ, by unfold forLoop; rw [if_pos (show chkOf none μ = true from rfl)], h⟩
  | d :: ds, ρ, μ, h, hs => by
    obtain ⟨ρ', μ', e, h1⟩ := hs d ds ρ μ h
    unfold forLoop
    rw [if_pos (show chkOf none μ = true from rfl), e]
    exact for_inv I h1 hs
/-- m more rounds -/
theorem whl_inv {c : Rho → Mu → Res Bool} {f : Rho → Mu → Out} (I : Nat → Rho → Mu → Prop) (hs : ∀ m ρ μ, I (m + 1) ρ μ → c ρ μ = .ok true μ ∧ ∃ ρ' μ', f ρ μ = .nx ρ' μ' ∧ I m ρ' μ') (h0 : ∀ ρ μ, I 0 ρ μ → c ρ μ = .ok false μ) :
    ∀ {m n : Nat} {ρ : Rho} {μ : Mu}, m < n → I m ρ μ → ∃ ρ' μ', whileLoop c f n ρ μ = .nx ρ' μ' ∧ I 0 ρ' μ'
  | m, 0, _, _, h, _ => absurd h (Nat.not_lt_zero _)
  | 0, n + 1, ρ, μ, _, hi => ⟨ρ, μ, by
    unfold whileLoop
    rw [h0 _ _ hi]
    rfl, hi⟩
  | m + 1, n + 1, ρ, μ, h, hi => by
    obtain ⟨e, ρ', μ', e2, h1⟩ := hs m ρ μ hi
    unfold whileLoop
    rw [e]
    show ∃ a b, (match f ρ μ with
      | .nx ρ' μ' => whileLoop c f n ρ' μ'
      | .ct ρ' μ' => whileLoop c f n ρ' μ'
      | .br ρ' μ' => .nx ρ' μ'
      | o => o) = .nx a b ∧ _
    rw [e2]
    exact whl_inv I hs h0 (Nat.lt_of_succ_lt_succ h) h1
theorem lt_one (a b : Nat) : ltS (tx [a]) (tx [b]) = decide (a < b) := by
  unfold ltS
  rw [tx_l, tx_l]
  refine decide_eq_decide.mpr ?_
  rw [List.cons_lt_cons_iff]
  constructor
  · rintro (h | ⟨_, h⟩)
    · exact h
    · exact absurd h (List.not_lt_nil _)
  · exact Or.inl
theorem lt_none (b : Nat) : ltS (tx []) (tx [b]) = true := by
  unfold ltS
  rw [tx_l, tx_l]
  exact decide_eq_true (List.nil_lt_cons _ _)
theorem tyf : (Ty.str == Ty.str) = true ∧ (Ty.str == Ty.int) = false ∧ (Ty.str == Ty.bool) = false ∧ (Ty.str == Ty.tuple) = false ∧ (Ty.str == Ty.list) = false ∧ (Ty.int == Ty.str) = false ∧ (Ty.int == Ty.int) = true ∧ (Ty.int == Ty.bool) = false ∧ (Ty.int == Ty.tuple) = false ∧ (Ty.int == Ty.list) = false ∧ (Ty.bool == Ty.str) = false ∧ (Ty.bool == Ty.int) = false ∧ (Ty.bool == Ty.bool) = true ∧ (Ty.bool == Ty.tuple) = false ∧ (Ty.bool == Ty.list) = false ∧ (Ty.tuple == Ty.str) = false ∧ (Ty.tuple == Ty.int) = false ∧ (Ty.tuple == Ty.bool) = false ∧ (Ty.tuple == Ty.tuple) = true ∧ (Ty.tuple == Ty.list) = false ∧ (Ty.list == Ty.str) = false ∧ (Ty.list == Ty.int) = false ∧ (Ty.list == Ty.bool) = false ∧ (Ty.list == Ty.tuple) = false ∧ (Ty.list == Ty.list) = true := by decide
theorem lim_nat {n : Nat} (h : n ≤ 1000000) : lim62 (n : Int) :=
  ⟨Int.le_trans (by decide +kernel : -(2 ^ 62) ≤ (0 : Int)) (Int.natCast_nonneg n), Int.lt_of_le_of_lt (Int.ofNat_le.mpr h) (by decide +kernel : ((1000000 : Nat) : Int) < 2 ^ 62)⟩
theorem it_rng1 {Γ : G} {a : E} {ρ : Rho} {μ μ' : Mu} {i : Int} {n : Nat} (h : evalE Γ a ρ μ = .ok (.int i) μ') (hi : i = n) (hn : n ≤ 1000000) : evalIt Γ (.rng1 a) ρ μ = .ok (rngD 0 n, none) μ' := by
  subst hi
  rw [evalIt, h, bind_ok]
  show needs (lim62 (n : Int)) _ = _
  rw [needs_pos (lim_nat hn)]
  rfl
theorem it_rng2 {Γ : G} {a b : E} {ρ : Rho} {μ μ1 μ2 : Mu} {i j : Int} {n m : Nat} (h : evalE Γ a ρ μ = .ok (.int i) μ1) (h2 : evalE Γ b ρ μ1 = .ok (.int j) μ2) (hi : i = n) (hj : j = (n + m : Nat)) (hn : n + m ≤ 1000000) : evalIt Γ (.rng2 a b) ρ μ = .ok (rngD i m, none) μ2 := by
  subst hi hj
  rw [evalIt, h, bind_ok, h2, bind_ok]
  show needs (lim62 (n : Int) ∧ lim62 ((n + m : Nat) : Int)) _ = _
  rw [needs_pos ⟨lim_nat (by omega), lim_nat hn⟩]
  have : (((n + m : Nat) : Int) - (n : Int)).toNat = m := by omega
  rw [this]
theorem for_run {Γ : G} {tg : Tg} {it : IT} {b : B} {ρ : Rho} {μ μ' : Mu} {ds : List D} {o : Out} (h : evalIt Γ it ρ μ = .ok (ds, none) μ')
    (h2 : forLoop (fun d ρ μ => match assignT tg d ρ with
      | some ρ' => runB Γ b ρ' μ
      | none => .stuck) (chkOf none) ds ρ μ' = o) : runS Γ (.for_ tg it b) ρ μ = o := by
  rw [runS, h, then_ok]
  exact h2
/-- one round of a loop -/
def fbody (Γ : G) (tg : Tg) (b : B) (d : D) (ρ : Rho) (μ : Mu) : Out := match assignT tg d ρ with
  | some ρ' => runB Γ b ρ' μ
  | none => .stuck
theorem for_run' {Γ : G} {tg : Tg} {it : IT} {b : B} {ρ : Rho} {μ μ' : Mu} {ds : List D} {o : Out} (h : evalIt Γ it ρ μ = .ok (ds, none) μ') (h2 : forLoop (fbody Γ tg b) (chkOf none) ds ρ μ' = o) : runS Γ (.for_ tg it b) ρ μ = o := for_run h h2
theorem fbody_nm {Γ : G} {i : Nat} {b : B} {d : D} {ρ : Rho} {μ : Mu} : fbody Γ (.nm i) b d ρ μ = runB Γ b (ρ.set i (some d)) μ := rfl
/-- one item of a comprehension -/
def cbody (Γ : G) (own : List Nat) (tg : Tg) (c : T) (e : E) (ρ : Rho) (d : D) (μ : Mu) : Res (Option D) := match assignT tg d (wipeR ρ own) with
  | none => .stuck
  | some ρ' => (evalT Γ c ρ' μ).bind fun k μ => if k then (evalE Γ e ρ' μ).bind fun y μ => .ok (some y) μ else .ok none μ
theorem comp_run {Γ : G} {own : List Nat} {tg : Tg} {it : IT} {c : T} {e : E} {ρ : Rho} {μ μ1 μ2 : Mu} {ds l : List D} (h : evalIt Γ it ρ μ = .ok (ds, none) μ1) (h2 : compLoop (cbody Γ own tg c e ρ) (chkOf none) [] ds μ1 = .ok l μ2) :
    evalE Γ (.comp own tg it c e) ρ μ = .ok (.lst l) μ2 := by
  rw [evalE, h, bind_ok]
  exact congrArg (fun r : Res (List D) => r.bind fun (l : List D) (μ : Mu) => Res.ok (D.lst l) μ) h2
theorem cbody_nm {Γ : G} {own : List Nat} {i : Nat} {e : E} {ρ : Rho} {d y : D} {μ μ' : Mu} (h : evalE Γ e ((wipeR ρ own).set i (some d)) μ = .ok y μ') : cbody Γ own (.nm i) .yes e ρ d μ = .ok (some y) μ' := by
  unfold cbody
  simp only [assignT, evalT, bind_ok, if_true, h]
end PyI
/-! X2: the __init__ of an own error keeps its promise. -/
namespace PyI
open PySem PySem.Spec PyProof.Rows L2 NdefX
section
variable {CX : CXT} {P : Program} {w : World} {K : PySem.W.Frag} {mg : Str → Option Value} {base : Heap} {N ps : List Str} {k : Nat} {sp : Sp} {name qual : Str} {params : Arguments} {scope : Scope} {doc pm ct oc : Value} {od : Option Addr} {osl : Array (Option Value)} {C fI cda cc : Addr} {e : Expr} {rest : List Stmt} {p0 p1 apos pos epos : Pos}
abbrev iNF (name qual : Str) (params : Arguments) (body : List Stmt) (scope : Scope) (cc cda : Addr) : NF := ⟨name, qual, params, body, scope, [("__class__", cc)], cda⟩
theorem init_ok {F : NF} (hF : F = iNF name qual params (.Expr (.Call (.Attribute (.Call (.Name "super" p0) [] [] p1) "__init__" apos) [e] [] pos) epos :: rest) scope cc cda)
    (lk : K.lookup fI = some ⟨oc, od, .func (F.fd doc pm ct), osl⟩) (hcd : PySem.W.codeIn K (.ref cda) qual = true) (S : NScope N ps ["__class__"] scope) (SK : SupK K P C fI cda cc) (T : OexC K C) (hm : mg "super" = none)
    (hs0 : ps.head? = some "self") (hks : scope.names.lookup ("super" : Str) = some .globalImplicit) (he : ∀ env, starEach [e] env = [(false, eval e env)])
    (hc : ∀ env : Env, ∃ pl : Sem Bool, eval (.Call (.Attribute (.Call (.Name "super" p0) [] [] p1) "__init__" apos) [e] [] pos) env = (do
      let ov ← attributeBase (.Call (.Name "super" p0) [] [] p1) "__init__" env (eval (.Call (.Name "super" p0) [] [] p1) env)
      standAt apos.atName
      let (f, first) ← holding [ov] (getMethod ov "__init__" pl)
      callWith pos f first (backTo pos (starEach [e] env)) []))
    (hsw : ∀ env : Env, swapsWith (.Call (.Attribute (.Call (.Name "super" p0) [] [] p1) "__init__" apos) [e] [] pos) none epos.line env = pure false)
    (len : ∀ vs H Q E, sp vs H Q E → vs.length = ps.length)
    (hbody : ∀ (A : Around) (outer : List Env) (s : Shared) (H : Hp) (vs : List V) (Q : VK) (E : XK), Room k (A.deeper (envF F fI s.heap.objs.size)) → sp vs H Q E →
      ∃ (a : Addr) (vs' : List V) (ta : TA) (t : TS), vs = .ref a :: vs' ∧ H a = some (exo a C none) ∧ PA (ncx CX P w K mg base N F fI A outer s H E) [e] ta ∧ PSs (ncx CX P w K mg base N F fI A outer s H E) rest t ∧
        ta (startF N vs [none]) H (fun us H1 => H1 a = some (exo a C none) ∧ us.length ≤ 1000 ∧ t { nx := fun _ H' => Q .non H', rt := Q } (startF N vs [none]) H1)) :
    FnOk P w K mg base CX (k + 1) fI (F.fd doc pm ct) ps sp := by
  refine ⟨len, fun A outer s H args us vs Q E hr e0 hb r hsp => ?_⟩
  subst hF
  have hl := len _ _ _ _ hsp
  have KX : K.In s.heap := e0.mod.kin.keeps fun b o e => (e0.bs b o e).1
  have lim : s.heap.NoLimit := e0.mod.nolimit.keeps fun b o e => (e0.bs b o e).1
  obtain ⟨cl, cld, csl, lcell⟩ := SK.cell
  have hcc : H cc = none := (e0.bs cc _ (e0.mod.kin _ _ lcell)).2
  have hcell : s.heap.IsCell cc (some (.ref C)) := ⟨_, KX _ _ lcell, rfl⟩
  have lkc : ∀ (y : Str) (c : Addr), [(("__class__" : Str), cc)].lookup y = some c → y = "__class__" ∧ c = cc := fun y c h => by
    rw [List.lookup_cons] at h
    cases hy : (y == ("__class__" : Str)) with
    | true => rw [hy] at h; exact ⟨beq_iff_eq.mp hy, (Option.some.inj h).symm⟩
    | false => rw [hy] at h; cases h
  have CA : CellsAt [("__class__", cc)] ["__class__"] [none] s.heap H := by
    refine ⟨rfl, fun y c h => ?_, fun x y c h1 h2 => by rw [(lkc x c h1).1, (lkc y c h2).1], fun i y h => ?_⟩
    · rw [(lkc y c h).2]; exact ⟨hcc, _, hcell⟩
    · rcases i with _ | i
      · cases h; exact ⟨cc, rfl, fun v z => by cases z⟩
      · cases h
  obtain ⟨a, vs', ta, t, rfl, ea, pa, pss, hq⟩ := hbody A outer s H vs Q E (hr.deeper _) hsp
  refine codeAny_call_function hr.depth (KX _ _ lk) rfl S.co S.gen rfl (PySem.W.codeRec_of KX hcd) (hb _ _ _ _ ?_)
  refine wpAny_newFunctionEnv S.nocell (fun ⟨n, _⟩ hy => S.par n (List.of_mem_zip hy).1) (fun h₁ hns hsb => ⟨lim.fresh _ hsb, ?_⟩) S.kind
  show codeAny _ _ (.func (iNF name qual params (.Expr (.Call (.Attribute (.Call (.Name "super" p0) [] [] p1) "__init__" apos) [e] [] pos) epos :: rest) scope cc cda).body (envF (iNF name qual params (.Expr (.Call (.Attribute (.Call (.Name "super" p0) [] [] p1) "__init__" apos) [e] [] pos) epos :: rest) scope cc cda) fI s.heap.objs.size)) _ _
  refine ks_codeAny_funcAt ?_
  have kp : ∀ b o, s.heap.get? b = some o → h₁.get? b = some o := fun b o e => hsb.extBut b o (Nat.ne_of_lt (Heap.lt_size e)) (Heap.get?_push_of_some _ e)
  let F : NF := iNF name qual params (.Expr (.Call (.Attribute (.Call (.Name "super" p0) [] [] p1) "__init__" apos) [e] [] pos) epos :: rest) scope cc cda
  have I : Inv (ncx CX P w K mg base N F fI A outer s H E) [] (startF N (.ref a :: vs') [none]) H { s with heap := h₁, toks := s.toks + (ps.zip us).length } := inv_startN S hr.hd e0 hl r CA hns kp
  have hN0 : N[0]? = some ("self" : Str) := by
    have h1 := S.pre
    cases ps with
    | nil => cases hs0
    | cons x ps =>
      cases hs0
      cases N with
      | nil => simp at h1
      | cons y N => simp at h1; rw [h1.1]; rfl
  have hself : ("self" : Str) ∈ ps := by
    cases ps with
    | nil => cases hs0
    | cons x ps => cases hs0; exact List.mem_cons_self ..
  obtain ⟨pl, hpl⟩ := hc (envF F fI s.heap.objs.size)
  have si := sup_init (body := F.body) (pos := pos) (apos := apos) (p0 := p0) (p1 := p1) (i := 0) I SK T rfl rfl rfl hks (S.frk _ (List.mem_cons_self ..)) (S.par _ hself) hN0 rfl ea hm pa (Q := fun _ H1 => t { nx := fun _ H' => Q .non H', rt := Q } (startF N (.ref a :: vs') [none]) H1) hq hpl (he _) rfl
  refine ks_wpAt_execs_cons (ks_wpAt_Expr_any (ks_wpAt_mono si (fun u s' h => ?_) fun _ _ h => h) (by unfold interactive; simp [S.kind]) (hsw _))
  obtain ⟨v, H1, J, rv, q⟩ := h
  refine wpAt_of_wpAny (wpAny_mono (pss.run [] s' _ H1 _ J q) (fun fl s'' hs => ?_) fun _ _ h => h)
  have fin : ∀ {σ' : L2.St} {H' : Hp} {v : V} {u : Value}, Inv (ncx CX P w K mg base N F fI A outer s H E) [] σ' H' s'' → L2.RelV v u → Q v H' → CE outer P w H s Q u s'' :=
    fun {σ' H' v u} J rv q => ⟨v, H', J.os, J.bare, J.base, J.hok, rv, q⟩
  cases fl with
  | ret u =>
    obtain ⟨v, σ', H', J, rv, q⟩ := hs
    exact fin J rv q
  | next =>
    obtain ⟨σ', H', J, q⟩ := hs
    exact fin (v := V.non) (u := Value.none) J rfl q
  | brk =>
    obtain ⟨_, _, _, q⟩ := hs
    exact False.elim q
  | cont =>
    obtain ⟨_, _, _, q⟩ := hs
    exact False.elim q
end
end PyI
/-! X3: an error of one field, told as f"..{field}". -/
namespace PyI
open PySem PySem.Spec PyProof.Rows L2 NdefX
section
variable {P : Program} {w : World} {K : PySem.W.Frag} {mg : Str → Option Value} {base : Heap} {name qual x c0 : Str} {params : Arguments} {scope : Scope} {doc pm ct oc : Value} {od : Option Addr} {osl : Array (Option Value)} {C fI cda cc : Addr} {p0 p1 apos pos epos q3 q4 q5 q6 r0 r1 r2 r3 : Pos} {j : Nat}
theorem fmt_len {i : Int} (h0 : 0 ≤ i) (h : i < 1000000000000000000) : (Str.ofString (toString i)).length ≤ 18 := by
  have := PyProof.Rows.toString_length_le (v := i) (k := 18) h0 (by decide) (by simpa using h)
  simpa using this
theorem ini1_ok {F : NF} (hF : F = iNF name qual params (.Expr (.Call (.Attribute (.Call (.Name "super" p0) [] [] p1) "__init__" apos) [.JoinedStr [.Constant (.str c0) j q3, .FormattedValue (.Name x q4) (-1) none q5] q6] [] pos) epos :: [.Assign [.Attribute (.Name "self" r0) x r1] (.Name x r2) r3]) scope cc cda)
    (lk : K.lookup fI = some ⟨oc, od, .func (F.fd doc pm ct), osl⟩) (hcd : PySem.W.codeIn K (.ref cda) qual = true) (S : NScope ["self", x, "__class__"] ["self", x] ["__class__"] scope) (SK : SupK K P C fI cda cc) (T : OexC K C) (hm : mg "super" = none)
    (hks : scope.names.lookup ("super" : Str) = some .globalImplicit) (hno : PySem.W.findIn K (.ref C) x = some none) (hx1 : (x == ("__debug__" : Str)) = false) (hx2 : (x == ("__classdict__" : Str)) = false) (hz : c0.length ≤ 1000)
    (hc : ∀ env : Env, ∃ pl : Sem Bool, eval (.Call (.Attribute (.Call (.Name "super" p0) [] [] p1) "__init__" apos) [.JoinedStr [.Constant (.str c0) j q3, .FormattedValue (.Name x q4) (-1) none q5] q6] [] pos) env = (do
      let ov ← attributeBase (.Call (.Name "super" p0) [] [] p1) "__init__" env (eval (.Call (.Name "super" p0) [] [] p1) env)
      standAt apos.atName
      let (f, first) ← holding [ov] (getMethod ov "__init__" pl)
      callWith pos f first (backTo pos (starEach [.JoinedStr [.Constant (.str c0) j q3, .FormattedValue (.Name x q4) (-1) none q5] q6] env)) []))
    (hsw : ∀ env : Env, swapsWith (.Call (.Attribute (.Call (.Name "super" p0) [] [] p1) "__init__" apos) [.JoinedStr [.Constant (.str c0) j q3, .FormattedValue (.Name x q4) (-1) none q5] q6] [] pos) none epos.line env = pure false) :
    FnOk P w K mg base (L2.CX P w) 1 fI (F.fd doc pm ct) ["self", x] (iniS C [x]) := by
  refine init_ok (k := 0) hF lk hcd S SK T hm rfl hks (fun _ => rfl) hc hsw (fun vs H Q E h => ?_) (fun A outer s H vs Q E hr h => ?_)
  · obtain ⟨a, ws, rfl, hl, _⟩ := h
    rw [List.length_cons, hl]; rfl
  · obtain ⟨a, ws, rfl, hl, hf, ea, q⟩ := h
    obtain ⟨y, rfl⟩ : ∃ y, ws = [y] := by
      match ws, hl with
      | [y], _ => exact ⟨y, rfl⟩
    let X := ncx (L2.CX P w) P w K mg base ["self", x, "__class__"] F fI A outer s H E
    have hsc : X.env.scope = scope := by show F.scope = scope; rw [hF]
    have vx : Vis X.env.scope x := .inl (by rw [hsc]; exact S.par _ (List.mem_cons_of_mem _ (List.mem_cons_self ..)))
    have vs : Vis X.env.scope "self" := .inl (by rw [hsc]; exact S.par _ (List.mem_cons_self ..))
    have px : ∀ {p : Pos}, PE X (.Name x p) (tVar 1) := fun {p} => pe_var rfl vx hx1 hx2
    have ps : ∀ {p : Pos}, PE X (.Name "self" p) (tVar 0) := fun {p} => pe_var rfl vs
    refine ⟨a, [y], _, _, rfl, ea, pa_cons (pe_joined (.cons pe_str (.cons (pe_fmt px) .nil))) pa_nil (star_cons rfl), pss_one (ps_ost ps px (sw_plain rfl)), ?_⟩
    have fin : tOst K x (tVar 0) (tVar 1) { nx := fun _ H' => Q .non H', rt := Q } (startF ["self", x, "__class__"] [.ref a, y] [none]) H :=
      ⟨y, rfl, .ref a, rfl, a, C, rfl, T, hno, .inl ⟨ea, fun dx h1 h2 => q dx h1 h2⟩⟩
    have hz0 : (Str.empty ++ c0).length ≤ sizeLine := by
      have : (Str.empty ++ c0).length = 0 + c0.length := by
        show (Array.append _ _).size = _
        simp [Str.empty, Str.length]
      rw [this, sizeLine_eq]; omega
    have happ : ∀ z : Str, z.length ≤ 1000000 → ((Str.empty ++ c0) ++ z).length ≤ sizeLine := fun z hzl => by
      have : ((Str.empty ++ c0) ++ z).length = 0 + c0.length + z.length := by
        show (Array.append (Array.append _ _) _).size = _
        simp [Str.empty, Str.length]
      rw [this, sizeLine_eq]; omega
    rcases hf y (List.mem_singleton_self _) with ⟨i, rfl, h0, h1⟩ | ⟨z, rfl, h1⟩
    · have h2 := fmt_len h0 h1
      have hlog : i.natAbs.log2 < 1920 := by
        rcases Nat.eq_zero_or_pos i.natAbs with e | e
        · rw [e]; decide
        · exact Nat.lt_trans ((Nat.log2_lt (by omega)).mpr (show i.natAbs < 2 ^ 60 by
            have : (2 : Nat) ^ 60 = 1152921504606846976 := by decide
            omega)) (by decide)
      exact ⟨c0, rfl, hz0, .int i, rfl, .inr ⟨i, rfl, hlog, _, rfl, happ _ (by omega), ea, (by show (1 : Nat) ≤ 1000; decide), fin⟩⟩
    · exact ⟨c0, rfl, hz0, .str z, rfl, .inl ⟨z, rfl, by rw [sizeLine_eq]; omega, _, rfl, happ _ h1, ea, (by show (1 : Nat) ≤ 1000; decide), fin⟩⟩
end
end PyI
/-! X4: the facts of an own error, of one field, from the written part. -/
namespace PyI
open PySem PySem.Spec PyProof.Rows L2 NdefX
/-- the body of an __init__ of one field -/
abbrev ini1B (x c0 : Str) (j : Nat) (p0 p1 apos pos epos q3 q4 q5 q6 r0 r1 r2 r3 : Pos) : List Stmt := .Expr (.Call (.Attribute (.Call (.Name "super" p0) [] [] p1) "__init__" apos) [.JoinedStr [.Constant (.str c0) j q3, .FormattedValue (.Name x q4) (-1) none q5] q6] [] pos) epos :: [.Assign [.Attribute (.Name "self" r0) x r1] (.Name x r2) r3]
section
variable {P : Program} {w : World} {K : PySem.W.Frag} {mg : Str → Option Value} {h : Heap} {C N fI cda cc : Addr} {nm q : Str} {bs bm : List Value} {sn : List Str} {sub : List Value} {ab : Bool} {col : Option Bool} {dd : Option Addr} {k0 k1 k2 k3 k5 : Option Value}
theorem oexC_by (lC : K.lookup C = some (excClassObj nm q C N bs bm true sn sub ab col dd k0 k1 k2 k3 k5 "ValueError.__new__")) (hbm : PySem.HandSPX.refsVE bm = true) (sa : PySem.W.findIn K (.ref C) "__setattr__" = some (some (.builtin "object.__setattr__"))) (exC : PySem.W.subIn K (.ref C) (.type "BaseException") = some true)
    (tyC : PySem.W.typeIn K (.ref C) = some (.type "type")) (kC : PySem.W.keepIn K (.ref C) = true) : OexC K C := ⟨⟨_, _, _, _, _, _, _, _, _, _, _, _, _, _, _, lC, hbm⟩, sa, exC, tyC, kC⟩
theorem excC_by (exC : PySem.W.subIn K (.ref C) (.type "BaseException") = some true) (ga : PySem.W.findIn K (.ref C) "__getattribute__" = some (some (.builtin "BaseException.__getattribute__"))) (gg : PySem.W.findIn K (.ref C) "__getattr__" = some none) (hd : PySem.W.hasDictIn K C = true)
    (ha : PySem.W.findIn K (.ref C) "__class__" = some (some (.builtin "object.__class__"))) (hn : PySem.W.specialIn K (.builtin "object.__class__") "__get__" = some (some (.builtin "getset_descriptor.__get__"))) (ht : PySem.W.takesIn K (.builtin "object.__class__") = some true) (hm : PySem.W.mroIn K C (.type "object") = some true) : ExcC K C := ⟨ga, gg, exC, hd, ha, hn, ht, hm⟩
theorem supK_by {cd : ClassData} {oc ccl cl : Value} {od cdd cld : Option Addr} {fd : FuncData} {osl ccs csl : Array (Option Value)} {ar : Arg} {vs : Array Value} {file : Str} {tf : Tok}
    (lI : K.lookup fI = some ⟨oc, od, .func fd, osl⟩) (hp : (fd.params.posonlyargs ++ fd.params.args).head? = some ar) (har : ar.arg = "self") (lD : K.lookup cda = some ⟨ccl, cdd, .fields vs, ccs⟩) (hf : vs[2]? = some (.str file tf)) (hpf : ((P.main.file : Str) == file) = true)
    (lc : K.lookup cc = some ⟨cl, cld, .cell (some (.ref C)), csl⟩) (hc : PySem.W.clsIn K C = some cd) (hs : PySem.W.mroIn K C (.ref C) = some true) (ho : PySem.W.nsIn K cStatics "thirdparty.any" = some none) (hal : PySem.W.ks_superIn K C C "__init__" = some (some (.builtin "ValueError.__init__")))
    (hv : PySem.W.subIn K (.ref C) (.type "ValueError") = some true) (ht : (P.main.scope.names.lookup ("super" : Str)).isSome = false) : SupK K P C fI cda cc :=
  ⟨⟨_, _, _, _, _, lI, hp, har⟩, ⟨_, _, _, _, _, _, lD, hf, hpf⟩, ⟨_, _, _, lc⟩, ⟨_, hc⟩, hs, ho, hal, hv, ht⟩
theorem clsK_by {x : Str} {fl ps : List Str} {fd : FuncData} (KX : K.In h) (G : h.Ns mainGlobals mg) (a : PySem.W.nsIn K mainGlobals x = some (some (.ref C))) (T : OexC K C) (E : ExcC K C) (ifi : PySem.W.findIn K (.ref C) "__init__" = some (some (.ref fI))) (ity : PySem.W.typeIn K (.ref fI) = some (.type "function"))
    (hb : ∀ us : List Value, us.length = ps.length → bindArgs fd ⟨us, []⟩ = pure (ps.zip us)) (hi : ∀ base, FnOk P w K mg base (L2.CX P w) 1 fI fd ps (iniS C fl)) (hno : ∀ f ∈ fl, PySem.W.findIn K (.ref C) f = some none) (hs : PySem.W.subIn K (.ref C) (.ref C) = some true) : ClsK P w K mg C x fl :=
  ⟨T, ⟨E.hg, E.hk, E.hs, E.hd⟩, E, ⟨fI, fd, ps, ifi, ity, Binds.all hb, hi⟩, PySem.W.mg_of KX G a, hno, PySem.W.exm_ref T.exC E.hd T.tyC hs⟩
/-- an error of one field, told as f"text{field}" -/
theorem cls1_all {x f c0 qual name nm q : Str} {params : Arguments} {scope : Scope} {j : Nat} {p0 p1 apos pos epos q3 q4 q5 q6 r0 r1 r2 r3 : Pos} {cd : ClassData} {oc ccl cl doc pm ctv : Value} {od cdd cld : Option Addr} {osl ccs csl : Array (Option Value)} {ar : Arg} {vs : Array Value} {file : Str} {tf : Tok}
    (KX : K.In h) (G : h.Ns mainGlobals mg) (a : PySem.W.nsIn K mainGlobals x = some (some (.ref C)))
    (lC : K.lookup C = some (excClassObj nm q C N bs bm true sn sub ab col dd k0 k1 k2 k3 k5 "ValueError.__new__")) (hbm : PySem.HandSPX.refsVE bm = true) (sa : PySem.W.findIn K (.ref C) "__setattr__" = some (some (.builtin "object.__setattr__"))) (exC : PySem.W.subIn K (.ref C) (.type "BaseException") = some true)
    (tyC : PySem.W.typeIn K (.ref C) = some (.type "type")) (kC : PySem.W.keepIn K (.ref C) = true)
    (ga : PySem.W.findIn K (.ref C) "__getattribute__" = some (some (.builtin "BaseException.__getattribute__"))) (gg : PySem.W.findIn K (.ref C) "__getattr__" = some none) (hd : PySem.W.hasDictIn K C = true)
    (ha : PySem.W.findIn K (.ref C) "__class__" = some (some (.builtin "object.__class__"))) (hn : PySem.W.specialIn K (.builtin "object.__class__") "__get__" = some (some (.builtin "getset_descriptor.__get__"))) (ht : PySem.W.takesIn K (.builtin "object.__class__") = some true) (hm : PySem.W.mroIn K C (.type "object") = some true)
    (ifi : PySem.W.findIn K (.ref C) "__init__" = some (some (.ref fI))) (ity : PySem.W.typeIn K (.ref fI) = some (.type "function"))
    (lI : K.lookup fI = some ⟨oc, od, .func (PySem.W.fnX name qual params (ini1B f c0 j p0 p1 apos pos epos q3 q4 q5 q6 r0 r1 r2 r3) scope [("__class__", cc)] .none .none doc pm none (.ref cda) ctv), osl⟩)
    (hcd : PySem.W.codeIn K (.ref cda) qual = true) (lD : K.lookup cda = some ⟨ccl, cdd, .fields vs, ccs⟩) (lc : K.lookup cc = some ⟨cl, cld, .cell (some (.ref C)), csl⟩) (hc : PySem.W.clsIn K C = some cd) (hs : PySem.W.mroIn K C (.ref C) = some true) (ho : PySem.W.nsIn K cStatics "thirdparty.any" = some none)
    (hal : PySem.W.ks_superIn K C C "__init__" = some (some (.builtin "ValueError.__init__"))) (hv : PySem.W.subIn K (.ref C) (.type "ValueError") = some true) (sup : PySem.W.nsIn K mainGlobals "super" = some none) (hno : PySem.W.findIn K (.ref C) f = some none) (hss : PySem.W.subIn K (.ref C) (.ref C) = some true)
    (hp : (params.posonlyargs ++ params.args).head? = some ar) (har : ar.arg = "self") (hf : vs[2]? = some (.str file tf)) (hpf : ((P.main.file : Str) == file) = true) (htp : (P.main.scope.names.lookup ("super" : Str)).isSome = false)
    (hb : ∀ us : List Value, us.length = 2 → bindArgs (PySem.W.fnX name qual params (ini1B f c0 j p0 p1 apos pos epos q3 q4 q5 q6 r0 r1 r2 r3) scope [("__class__", cc)] .none .none doc pm none (.ref cda) ctv) ⟨us, []⟩ = pure ((["self", f] : List Str).zip us))
    (S : nscB ["self", f, "__class__"] ["self", f] ["__class__"] scope = true) (hks : scope.names.lookup ("super" : Str) = some .globalImplicit) (hx1 : (f == ("__debug__" : Str)) = false) (hx2 : (f == ("__classdict__" : Str)) = false) (hz : c0.length ≤ 1000)
    (hce : ∀ env : Env, ∃ pl : Sem Bool, eval (.Call (.Attribute (.Call (.Name "super" p0) [] [] p1) "__init__" apos) [.JoinedStr [.Constant (.str c0) j q3, .FormattedValue (.Name f q4) (-1) none q5] q6] [] pos) env = (do
      let ov ← attributeBase (.Call (.Name "super" p0) [] [] p1) "__init__" env (eval (.Call (.Name "super" p0) [] [] p1) env)
      standAt apos.atName
      let (fn, first) ← holding [ov] (getMethod ov "__init__" pl)
      callWith pos fn first (backTo pos (starEach [.JoinedStr [.Constant (.str c0) j q3, .FormattedValue (.Name f q4) (-1) none q5] q6] env)) []))
    (hsw : ∀ env : Env, swapsWith (.Call (.Attribute (.Call (.Name "super" p0) [] [] p1) "__init__" apos) [.JoinedStr [.Constant (.str c0) j q3, .FormattedValue (.Name f q4) (-1) none q5] q6] [] pos) none epos.line env = pure false) : ClsK P w K mg C x [f] := by
  have T := oexC_by lC hbm sa exC tyC kC
  exact clsK_by (ps := ["self", f]) KX G a T (excC_by exC ga gg hd ha hn ht hm) ifi ity hb (fun base => ini1_ok (F := iNF name qual params (ini1B f c0 j p0 p1 apos pos epos q3 q4 q5 q6 r0 r1 r2 r3) scope cc cda) rfl lI hcd (nscope_by S) (supK_by lI hp har lD hf hpf lc hc hs ho hal hv htp) T (PySem.W.mg_none_of KX G sup) hks hno hx1 hx2 hz hce hsw) (fun g hg => by rw [List.mem_singleton.mp hg]; exact hno) hss
theorem isxR (KX : K.In h) (G : h.Ns mainGlobals mg) {x : Str} {c D : Addr} {b : Bool} {cd : ClassData} (a : PySem.W.nsIn K mainGlobals x = some (some (.ref D))) (hc : PySem.W.clsIn K D = some cd) (ht : PySem.W.typeIn K (.ref D) = some (.type "type")) (hs : PySem.W.subIn K (.ref c) (.ref D) = some b) (hne : (Value.ref c == Value.ref D) = false) :
    ∃ (v : V) (cv : Value), ((mg x = some cv) ∨ (mg x = none ∧ bootBuiltins x = some cv ∧ x ≠ "__name__")) ∧ RelV v cv ∧ (∀ u, RelV v u → u = cv) ∧ PySem.W.kitOne K (.ref c) cv = some b := by
  refine ⟨.ref D, .ref D, .inl (PySem.W.mg_of KX G a), rfl, fun u h => h, ?_⟩
  have e2 : ((PySem.W.clsIn K D).isSome && PySem.W.typeIn K (.ref D) == some (.type "type")) = true := by rw [hc, ht]; rfl
  unfold PySem.W.kitOne PySem.W.kitCls
  rw [if_neg (by rw [hne]; decide)]
  simp only
  rw [if_pos e2, hs]
theorem isxB (KX : K.In h) (G : h.Ns mainGlobals mg) {x : Str} {c : Addr} {T : String} {b : Bool} (a : PySem.W.nsIn K mainGlobals x = some none) (hb : bootBuiltins x = some (.type T)) (hx : x ≠ "__name__") (hm : PySem.W.kitMeta T = true) (hs : PySem.W.subIn K (.ref c) (.type T) = some b) :
    ∃ (v : V) (cv : Value), ((mg x = some cv) ∨ (mg x = none ∧ bootBuiltins x = some cv ∧ x ≠ "__name__")) ∧ RelV v cv ∧ (∀ u, RelV v u → u = cv) ∧ PySem.W.kitOne K (.ref c) cv = some b := by
  refine ⟨.ty T, .type T, .inr ⟨PySem.W.mg_none_of KX G a, hb, hx⟩, rfl, fun u h => h, ?_⟩
  unfold PySem.W.kitOne PySem.W.kitCls
  rw [if_neg (fun z => by have := eq_of_beq z; cases this)]
  simp only
  rw [if_pos hm, hs]
end
end PyI
/-! X5: an error of two fields, told as f"{second}..{first}". -/
namespace PyI
open PySem PySem.Spec PyProof.Rows L2 NdefX
theorem fmtv {v : V} (hf : FmtV v) : (∃ z : Str, v = .str z ∧ z.length ≤ 1000000) ∨ ∃ i : Int, v = .int i ∧ i.natAbs.log2 < 1920 ∧ (Str.ofString (toString i)).length ≤ 1000000 := by
  rcases hf with ⟨i, rfl, h0, h1⟩ | ⟨z, rfl, h1⟩
  · have h2 := fmt_len h0 h1
    have hlog : i.natAbs.log2 < 1920 := by
      rcases Nat.eq_zero_or_pos i.natAbs with e | e
      · rw [e]; decide
      · exact Nat.lt_trans ((Nat.log2_lt (by omega)).mpr (show i.natAbs < 2 ^ 60 by
          have : (2 : Nat) ^ 60 = 1152921504606846976 := by decide
          omega)) (by decide)
    exact .inr ⟨i, rfl, hlog, by omega⟩
  · exact .inl ⟨z, rfl, h1⟩
theorem app_len (a b : Str) : (a ++ b).length = a.length + b.length := by
  show (Array.append _ _).size = _
  simp [Str.length]
section
variable {P : Program} {w : World} {K : PySem.W.Frag} {mg : Str → Option Value} {base : Heap} {name qual x y c0 : Str} {params : Arguments} {scope : Scope} {doc pm ct oc : Value} {od : Option Addr} {osl : Array (Option Value)} {C fI cda cc : Addr} {p0 p1 apos pos epos q3 q4 q5 q6 q7 q8 r0 r1 r2 r3 r4 r5 r6 r7 : Pos} {j : Nat}
/-- the body of an __init__ of two fields -/
abbrev ini2B (x y c0 : Str) (j : Nat) (p0 p1 apos pos epos q3 q4 q5 q6 q7 q8 r0 r1 r2 r3 r4 r5 r6 r7 : Pos) : List Stmt := .Expr (.Call (.Attribute (.Call (.Name "super" p0) [] [] p1) "__init__" apos) [.JoinedStr [.FormattedValue (.Name y q3) (-1) none q4, .Constant (.str c0) j q5, .FormattedValue (.Name x q6) (-1) none q7] q8] [] pos) epos :: [.Assign [.Attribute (.Name "self" r0) x r1] (.Name x r2) r3, .Assign [.Attribute (.Name "self" r4) y r5] (.Name y r6) r7]
theorem ini2_ok {F : NF} (hF : F = iNF name qual params (ini2B x y c0 j p0 p1 apos pos epos q3 q4 q5 q6 q7 q8 r0 r1 r2 r3 r4 r5 r6 r7) scope cc cda)
    (lk : K.lookup fI = some ⟨oc, od, .func (F.fd doc pm ct), osl⟩) (hcd : PySem.W.codeIn K (.ref cda) qual = true) (S : NScope ["self", x, y, "__class__"] ["self", x, y] ["__class__"] scope) (SK : SupK K P C fI cda cc) (T : OexC K C) (hm : mg "super" = none)
    (hks : scope.names.lookup ("super" : Str) = some .globalImplicit) (hno : PySem.W.findIn K (.ref C) x = some none) (hno2 : PySem.W.findIn K (.ref C) y = some none) (hx1 : (x == ("__debug__" : Str)) = false) (hx2 : (x == ("__classdict__" : Str)) = false) (hy1 : (y == ("__debug__" : Str)) = false) (hy2 : (y == ("__classdict__" : Str)) = false) (hz : c0.length ≤ 1000)
    (hc : ∀ env : Env, ∃ pl : Sem Bool, eval (.Call (.Attribute (.Call (.Name "super" p0) [] [] p1) "__init__" apos) [.JoinedStr [.FormattedValue (.Name y q3) (-1) none q4, .Constant (.str c0) j q5, .FormattedValue (.Name x q6) (-1) none q7] q8] [] pos) env = (do
      let ov ← attributeBase (.Call (.Name "super" p0) [] [] p1) "__init__" env (eval (.Call (.Name "super" p0) [] [] p1) env)
      standAt apos.atName
      let (f, first) ← holding [ov] (getMethod ov "__init__" pl)
      callWith pos f first (backTo pos (starEach [.JoinedStr [.FormattedValue (.Name y q3) (-1) none q4, .Constant (.str c0) j q5, .FormattedValue (.Name x q6) (-1) none q7] q8] env)) []))
    (hsw : ∀ env : Env, swapsWith (.Call (.Attribute (.Call (.Name "super" p0) [] [] p1) "__init__" apos) [.JoinedStr [.FormattedValue (.Name y q3) (-1) none q4, .Constant (.str c0) j q5, .FormattedValue (.Name x q6) (-1) none q7] q8] [] pos) none epos.line env = pure false) :
    FnOk P w K mg base (L2.CX P w) 1 fI (F.fd doc pm ct) ["self", x, y] (iniS C [y, x]) := by
  refine init_ok (k := 0) hF lk hcd S SK T hm rfl hks (fun _ => rfl) hc hsw (fun vs H Q E h => ?_) (fun A outer s H vs Q E hr h => ?_)
  · obtain ⟨a, ws, rfl, hl, _⟩ := h
    rw [List.length_cons, hl]; rfl
  · obtain ⟨a, ws, rfl, hl, hf, ea, q⟩ := h
    obtain ⟨u, v, rfl⟩ : ∃ u v, ws = [u, v] := by
      match ws, hl with
      | [u, v], _ => exact ⟨u, v, rfl⟩
    let X := ncx (L2.CX P w) P w K mg base ["self", x, y, "__class__"] F fI A outer s H E
    have hsc : X.env.scope = scope := by show F.scope = scope; rw [hF]
    have vx : Vis X.env.scope x := .inl (by rw [hsc]; exact S.par _ (List.mem_cons_of_mem _ (List.mem_cons_self ..)))
    have vy : Vis X.env.scope y := .inl (by rw [hsc]; exact S.par _ (List.mem_cons_of_mem _ (List.mem_cons_of_mem _ (List.mem_cons_self ..))))
    have vs : Vis X.env.scope "self" := .inl (by rw [hsc]; exact S.par _ (List.mem_cons_self ..))
    have px : ∀ {p : Pos}, PE X (.Name x p) (tVar 1) := fun {p} => pe_var rfl vx hx1 hx2
    have py : ∀ {p : Pos}, PE X (.Name y p) (tVar 2) := fun {p} => pe_var rfl vy hy1 hy2
    have ps : ∀ {p : Pos}, PE X (.Name "self" p) (tVar 0) := fun {p} => pe_var rfl vs
    refine ⟨a, [u, v], _, _, rfl, ea, pa_cons (pe_joined (.cons (pe_fmt py) (.cons pe_str (.cons (pe_fmt px) .nil)))) pa_nil (star_cons rfl), pss_cons (ps_ost ps px (sw_plain rfl)) (pss_one (ps_ost ps py (sw_plain rfl))), ?_⟩
    have fin : tSeq (tOst K x (tVar 0) (tVar 1)) (tOst K y (tVar 0) (tVar 2)) { nx := fun _ H' => Q .non H', rt := Q } (startF ["self", x, y, "__class__"] [.ref a, u, v] [none]) H := by
      refine ⟨u, rfl, .ref a, rfl, a, C, rfl, T, hno, .inl ⟨ea, fun dx h1 h2 => ?_⟩⟩
      refine ⟨v, rfl, .ref a, rfl, a, C, rfl, T, hno2, .inr ⟨dx, [(x, u)], upd_same, by rw [upd_ne h2, upd_same], (by show 1 ≤ 900; decide), ?_⟩⟩
      have e : upd (upd (upd H dx (exd dx [(x, u)])) a (exo a C (some dx))) dx (exd dx ((y, v) :: [(x, u)])) = upd (upd H dx (exd dx (([y, x] : List Str).zip [u, v].reverse))) a (exo a C (some dx)) := by
        funext b
        by_cases hb : b = dx
        · rw [hb, upd_same, upd_ne h2, upd_same]; rfl
        · rw [upd_ne hb]
          by_cases hb2 : b = a
          · rw [hb2, upd_same, upd_same]
          · rw [upd_ne hb2, upd_ne hb2, upd_ne hb, upd_ne hb]
      show Q .non _
      rw [e]
      exact q dx h1 h2
    have h0 : Str.empty.length = 0 := rfl
    have hv := fmtv (hf v (by simp))
    have hu := fmtv (hf u (by simp))
    have one : ∀ z1 : Str, z1.length ≤ 1000000 → (Str.empty ++ z1).length ≤ sizeLine := fun z1 h1 => by rw [app_len, h0, sizeLine_eq]; omega
    have two : ∀ z1 : Str, z1.length ≤ 1000000 → ((Str.empty ++ z1) ++ c0).length ≤ sizeLine := fun z1 h1 => by rw [app_len, app_len, h0, sizeLine_eq]; omega
    have thr : ∀ z1 z2 : Str, z1.length ≤ 1000000 → z2.length ≤ 1000000 → (((Str.empty ++ z1) ++ c0) ++ z2).length ≤ sizeLine := fun z1 z2 h1 h2 => by rw [app_len, app_len, app_len, h0, sizeLine_eq]; omega
    have sl : ∀ z : Str, z.length ≤ 1000000 → z.length ≤ sizeLine := fun z h => by rw [sizeLine_eq]; omega
    rcases hv with ⟨z, rfl, h1⟩ | ⟨i, rfl, hl1, h1⟩ <;> rcases hu with ⟨z2, rfl, h2⟩ | ⟨i2, rfl, hl2, h2⟩
    · exact ⟨_, rfl, .inl ⟨z, rfl, sl _ h1, _, rfl, one _ h1, c0, rfl, two _ h1, _, rfl, .inl ⟨z2, rfl, sl _ h2, _, rfl, thr _ _ h1 h2, ea, (by show (1 : Nat) ≤ 1000; decide), fin⟩⟩⟩
    · exact ⟨_, rfl, .inl ⟨z, rfl, sl _ h1, _, rfl, one _ h1, c0, rfl, two _ h1, _, rfl, .inr ⟨i2, rfl, hl2, _, rfl, thr _ _ h1 h2, ea, (by show (1 : Nat) ≤ 1000; decide), fin⟩⟩⟩
    · exact ⟨_, rfl, .inr ⟨i, rfl, hl1, _, rfl, one _ h1, c0, rfl, two _ h1, _, rfl, .inl ⟨z2, rfl, sl _ h2, _, rfl, thr _ _ h1 h2, ea, (by show (1 : Nat) ≤ 1000; decide), fin⟩⟩⟩
    · exact ⟨_, rfl, .inr ⟨i, rfl, hl1, _, rfl, one _ h1, c0, rfl, two _ h1, _, rfl, .inr ⟨i2, rfl, hl2, _, rfl, thr _ _ h1 h2, ea, (by show (1 : Nat) ≤ 1000; decide), fin⟩⟩⟩
end
section
variable {P : Program} {w : World} {K : PySem.W.Frag} {mg : Str → Option Value} {h : Heap} {C N fI cda cc : Addr} {nm q : Str} {bs bm : List Value} {sn : List Str} {sub : List Value} {ab : Bool} {col : Option Bool} {dd : Option Addr} {k0 k1 k2 k3 k5 : Option Value}
/-- an error of two fields -/
theorem cls2_all {x f g c0 qual name nm q : Str} {params : Arguments} {scope : Scope} {j : Nat} {p0 p1 apos pos epos q3 q4 q5 q6 q7 q8 r0 r1 r2 r3 r4 r5 r6 r7 : Pos} {cd : ClassData} {oc ccl cl doc pm ctv : Value} {od cdd cld : Option Addr} {osl ccs csl : Array (Option Value)} {ar : Arg} {vs : Array Value} {file : Str} {tf : Tok}
    (KX : K.In h) (G : h.Ns mainGlobals mg) (a : PySem.W.nsIn K mainGlobals x = some (some (.ref C)))
    (lC : K.lookup C = some (excClassObj nm q C N bs bm true sn sub ab col dd k0 k1 k2 k3 k5 "ValueError.__new__")) (hbm : PySem.HandSPX.refsVE bm = true) (sa : PySem.W.findIn K (.ref C) "__setattr__" = some (some (.builtin "object.__setattr__"))) (exC : PySem.W.subIn K (.ref C) (.type "BaseException") = some true)
    (tyC : PySem.W.typeIn K (.ref C) = some (.type "type")) (kC : PySem.W.keepIn K (.ref C) = true)
    (ga : PySem.W.findIn K (.ref C) "__getattribute__" = some (some (.builtin "BaseException.__getattribute__"))) (gg : PySem.W.findIn K (.ref C) "__getattr__" = some none) (hd : PySem.W.hasDictIn K C = true)
    (ha : PySem.W.findIn K (.ref C) "__class__" = some (some (.builtin "object.__class__"))) (hn : PySem.W.specialIn K (.builtin "object.__class__") "__get__" = some (some (.builtin "getset_descriptor.__get__"))) (ht : PySem.W.takesIn K (.builtin "object.__class__") = some true) (hm : PySem.W.mroIn K C (.type "object") = some true)
    (ifi : PySem.W.findIn K (.ref C) "__init__" = some (some (.ref fI))) (ity : PySem.W.typeIn K (.ref fI) = some (.type "function"))
    (lI : K.lookup fI = some ⟨oc, od, .func (PySem.W.fnX name qual params (ini2B f g c0 j p0 p1 apos pos epos q3 q4 q5 q6 q7 q8 r0 r1 r2 r3 r4 r5 r6 r7) scope [("__class__", cc)] .none .none doc pm none (.ref cda) ctv), osl⟩)
    (hcd : PySem.W.codeIn K (.ref cda) qual = true) (lD : K.lookup cda = some ⟨ccl, cdd, .fields vs, ccs⟩) (lc : K.lookup cc = some ⟨cl, cld, .cell (some (.ref C)), csl⟩) (hc : PySem.W.clsIn K C = some cd) (hs : PySem.W.mroIn K C (.ref C) = some true) (ho : PySem.W.nsIn K cStatics "thirdparty.any" = some none)
    (hal : PySem.W.ks_superIn K C C "__init__" = some (some (.builtin "ValueError.__init__"))) (hv : PySem.W.subIn K (.ref C) (.type "ValueError") = some true) (sup : PySem.W.nsIn K mainGlobals "super" = some none) (hno : PySem.W.findIn K (.ref C) f = some none) (hno2 : PySem.W.findIn K (.ref C) g = some none) (hss : PySem.W.subIn K (.ref C) (.ref C) = some true)
    (hp : (params.posonlyargs ++ params.args).head? = some ar) (har : ar.arg = "self") (hf : vs[2]? = some (.str file tf)) (hpf : ((P.main.file : Str) == file) = true) (htp : (P.main.scope.names.lookup ("super" : Str)).isSome = false)
    (hb : ∀ us : List Value, us.length = 3 → bindArgs (PySem.W.fnX name qual params (ini2B f g c0 j p0 p1 apos pos epos q3 q4 q5 q6 q7 q8 r0 r1 r2 r3 r4 r5 r6 r7) scope [("__class__", cc)] .none .none doc pm none (.ref cda) ctv) ⟨us, []⟩ = pure ((["self", f, g] : List Str).zip us))
    (S : nscB ["self", f, g, "__class__"] ["self", f, g] ["__class__"] scope = true) (hks : scope.names.lookup ("super" : Str) = some .globalImplicit) (hx1 : (f == ("__debug__" : Str)) = false) (hx2 : (f == ("__classdict__" : Str)) = false) (hy1 : (g == ("__debug__" : Str)) = false) (hy2 : (g == ("__classdict__" : Str)) = false) (hz : c0.length ≤ 1000)
    (hce : ∀ env : Env, ∃ pl : Sem Bool, eval (.Call (.Attribute (.Call (.Name "super" p0) [] [] p1) "__init__" apos) [.JoinedStr [.FormattedValue (.Name g q3) (-1) none q4, .Constant (.str c0) j q5, .FormattedValue (.Name f q6) (-1) none q7] q8] [] pos) env = (do
      let ov ← attributeBase (.Call (.Name "super" p0) [] [] p1) "__init__" env (eval (.Call (.Name "super" p0) [] [] p1) env)
      standAt apos.atName
      let (fn, first) ← holding [ov] (getMethod ov "__init__" pl)
      callWith pos fn first (backTo pos (starEach [.JoinedStr [.FormattedValue (.Name g q3) (-1) none q4, .Constant (.str c0) j q5, .FormattedValue (.Name f q6) (-1) none q7] q8] env)) []))
    (hsw : ∀ env : Env, swapsWith (.Call (.Attribute (.Call (.Name "super" p0) [] [] p1) "__init__" apos) [.JoinedStr [.FormattedValue (.Name g q3) (-1) none q4, .Constant (.str c0) j q5, .FormattedValue (.Name f q6) (-1) none q7] q8] [] pos) none epos.line env = pure false) : ClsK P w K mg C x [g, f] := by
  have T := oexC_by lC hbm sa exC tyC kC
  exact clsK_by (ps := ["self", f, g]) KX G a T (excC_by exC ga gg hd ha hn ht hm) ifi ity hb (fun base => ini2_ok (F := iNF name qual params (ini2B f g c0 j p0 p1 apos pos epos q3 q4 q5 q6 q7 q8 r0 r1 r2 r3 r4 r5 r6 r7) scope cc cda) rfl lI hcd (nscope_by S) (supK_by lI hp har lD hf hpf lc hc hs ho hal hv htp) T (PySem.W.mg_none_of KX G sup) hks hno hno2 hx1 hx2 hy1 hy2 hz hce hsw) (fun z hz => by
    rcases List.mem_cons.mp hz with rfl | hz
    · exact hno2
    · rw [List.mem_singleton.mp hz]; exact hno) hss
end
end PyI
/-! R1: steps of the interpreter. -/
namespace PyI
open PySem L2 PyProof.Rows
abbrev nD (n : Nat) : D := .int (n : Int)
/-! ### expressions, step by step -/
section
variable {Γ : G} {ρ : Rho} {μ μ1 μ2 μ3 : Mu} {a b c e : E} {x y z d : D}
theorem ev_var {i : Nat} (h : ρ[i]? = some (some d)) : evalE Γ (.var i) ρ μ = .ok d μ := by
  rw [evalE, h]
theorem ev_cst : evalE Γ (.cst d) ρ μ = .ok d μ := by rw [evalE]
theorem ev_glob {g : Nat} (h : Γ.con g = some d) : evalE Γ (.glob g) ρ μ = .ok d μ := by rw [evalE, h]
theorem ev_bin {o : Bop} {r : Res D} (ha : evalE Γ a ρ μ = .ok x μ1) (hb : evalE Γ b ρ μ1 = .ok y μ2) (h : binD o x y μ2 = r) : evalE Γ (.bin o a b) ρ μ = r := by
  rw [evalE, ha, bind_ok, hb, bind_ok, h]
theorem ev_idx {r : Res D} (ha : evalE Γ a ρ μ = .ok x μ1) (hb : evalE Γ b ρ μ1 = .ok y μ2) (h : idxA x y μ2 = r) : evalE Γ (.idx a b) ρ μ = r := by
  rw [evalE, ha, bind_ok, hb, bind_ok, h]
theorem ev_call1 {f : Nat} {r : Res D} (ha : evalE Γ a ρ μ = .ok x μ1) (h : Γ.call f [x] μ1 = r) : evalE Γ (.call f (.cons a .nil)) ρ μ = r := by
  rw [evalE, evalEs, ha, bind_ok, evalEs, bind_ok, bind_ok, h]
theorem ev_call2 {f : Nat} {r : Res D} (ha : evalE Γ a ρ μ = .ok x μ1) (hb : evalE Γ b ρ μ1 = .ok y μ2) (h : Γ.call f [x, y] μ2 = r) : evalE Γ (.call f (.cons a (.cons b .nil))) ρ μ = r := by
  rw [evalE, evalEs, ha, bind_ok, evalEs, hb, bind_ok, evalEs, bind_ok, bind_ok, bind_ok, h]
theorem ev_call3 {f : Nat} {r : Res D} (ha : evalE Γ a ρ μ = .ok x μ1) (hb : evalE Γ b ρ μ1 = .ok y μ2) (hc : evalE Γ c ρ μ2 = .ok z μ3) (h : Γ.call f [x, y, z] μ3 = r) : evalE Γ (.call f (.cons a (.cons b (.cons c .nil)))) ρ μ = r := by
  rw [evalE, evalEs, ha, bind_ok, evalEs, hb, bind_ok, evalEs, hc, bind_ok, evalEs, bind_ok, bind_ok, bind_ok, bind_ok, h]
theorem ev_bif1 {f : Bif} {r : Res D} (ha : evalE Γ a ρ μ = .ok x μ1) (h : bifD f [x] μ1 = r) : evalE Γ (.bif f (.cons a .nil)) ρ μ = r := by
  rw [evalE, evalEs, ha, bind_ok, evalEs, bind_ok, bind_ok, h]
theorem ev_bif2 {f : Bif} {r : Res D} (ha : evalE Γ a ρ μ = .ok x μ1) (hb : evalE Γ b ρ μ1 = .ok y μ2) (h : bifD f [x, y] μ2 = r) : evalE Γ (.bif f (.cons a (.cons b .nil))) ρ μ = r := by
  rw [evalE, evalEs, ha, bind_ok, evalEs, hb, bind_ok, evalEs, bind_ok, bind_ok, bind_ok, h]
theorem ev_cmp {o : Cop} {k : Bool} (ha : evalE Γ a ρ μ = .ok x μ1) (hb : evalE Γ b ρ μ1 = .ok y μ2) (h : cmpD o x y μ2 = .ok k μ2) : evalE Γ (.cmp o a b) ρ μ = .ok (.bl k) μ2 := by
  rw [evalE, ha, bind_ok, hb, bind_ok, h, bind_ok]
theorem ev_bits {i : Int} (ha : evalE Γ a ρ μ = .ok (.int i) μ1) : evalE Γ (.bits a) ρ μ = .ok (.int (Builtin.Int.intBits i : Nat)) μ1 := by
  rw [evalE, ha, bind_ok]
theorem ev_tup2 (ha : evalE Γ a ρ μ = .ok x μ1) (hb : evalE Γ b ρ μ1 = .ok y μ2) : evalE Γ (.tup (.cons a (.cons b .nil))) ρ μ = .ok (.tup [x, y]) μ2 := by
  rw [evalE, evalEs, ha, bind_ok, evalEs, hb, bind_ok, evalEs, bind_ok, bind_ok, bind_ok, needs_pos (by simp)]
theorem ev_tup4 {μ4 : Mu} {x4 : D} {d4 : E} (ha : evalE Γ a ρ μ = .ok x μ1) (hb : evalE Γ b ρ μ1 = .ok y μ2) (hc : evalE Γ c ρ μ2 = .ok z μ3) (hd : evalE Γ d4 ρ μ3 = .ok x4 μ4) : evalE Γ (.tup (.cons a (.cons b (.cons c (.cons d4 .nil))))) ρ μ = .ok (.tup [x, y, z, x4]) μ4 := by
  rw [evalE, evalEs, ha, bind_ok, evalEs, hb, bind_ok, evalEs, hc, bind_ok, evalEs, hd, bind_ok, evalEs, bind_ok, bind_ok, bind_ok, bind_ok, bind_ok, needs_pos (by simp)]
theorem st_set {i : Nat} (h : evalE Γ e ρ μ = .ok d μ1) : runS Γ (.set (.nm i) e) ρ μ = .nx (ρ.set i (some d)) μ1 := by
  rw [runS, h, then_ok, assignT]
theorem st_ret (h : evalE Γ e ρ μ = .ok d μ1) : runS Γ (.ret e) ρ μ = .rt d μ1 := by
  rw [runS, h, then_ok]
theorem tv_bl {k : Bool} (h : evalE Γ e ρ μ = .ok (.bl k) μ1) : evalT Γ (.val e) ρ μ = .ok k μ1 := by
  rw [evalT, h, bind_ok, truD]
theorem tv_not {t : T} {k : Bool} (h : evalT Γ t ρ μ = .ok k μ1) : evalT Γ (.not t) ρ μ = .ok (!k) μ1 := by
  rw [evalT, h, bind_ok]
end
theorem st_append {Γ : G} {ρ : Rho} {μ μ1 μ2 μ3 : Mu} {o a : E} {d : D} {n : Nat} {l : List D} (ho : evalE Γ o ρ μ = .ok (.ref n) μ1) (ha : evalE Γ a ρ μ1 = .ok d μ2) (hl : μ2[n]? = some (.lst l)) (hz : l.length < 16777216) (he : μ2.set n (.lst (l ++ [d])) = μ3) (hl1 : μ1[n]? = some (.lst l) := by assumption) : runS Γ (.expr (.met .append o (.cons a .nil))) ρ μ = .nx ρ μ3 := by
  rw [runS, evalE, ho, bind_ok]
  have ht : tyD .append (.ref n) μ1 = true := by unfold tyD; simp only [hl1]
  rw [needs_pos ht, evalEs, ha, bind_ok, evalEs, bind_ok, bind_ok]
  have : metD .append (.ref n) [d] μ2 = .ok .non (μ2.set n (.lst (l ++ [d]))) := by
    unfold metD
    simp only [hl]
    exact needs_pos hz
  rw [this, then_ok, he]
theorem ev_ite_true {Γ : G} {ρ : Rho} {μ μ1 : Mu} {t : T} {a b : E} {r : Res D} (h : evalT Γ t ρ μ = .ok true μ1) (ha : evalE Γ a ρ μ1 = r) : evalE Γ (.ite t a b) ρ μ = r := by
  rw [evalE, h, bind_ok, if_pos rfl, ha]
theorem ev_ite_false {Γ : G} {ρ : Rho} {μ μ1 : Mu} {t : T} {a b : E} {r : Res D} (h : evalT Γ t ρ μ = .ok false μ1) (hb : evalE Γ b ρ μ1 = r) : evalE Γ (.ite t a b) ρ μ = r := by
  rw [evalE, h, bind_ok, if_neg (by decide), hb]
theorem run_nx_rt {Γ : G} {s : PyI.S} {b : B} {ρ : Rho} {μ μ' : Mu} {d : D} (h : runS Γ s ρ μ = .rt d μ') : runB Γ (.cons s b) ρ μ = .rt d μ' := run_rt h
theorem ifs_true {Γ : G} {t : T} {a b : B} {ρ : Rho} {μ μ' : Mu} {o : Out} (h : evalT Γ t ρ μ = .ok true μ') (h2 : runB Γ a ρ μ' = o) : runS Γ (.ifs t a b) ρ μ = o := by
  rw [runS, h, then_ok, if_pos rfl]
  exact h2
theorem ifs_false {Γ : G} {t : T} {a b : B} {ρ : Rho} {μ μ' : Mu} {o : Out} (h : evalT Γ t ρ μ = .ok false μ') (h2 : runB Γ b ρ μ' = o) : runS Γ (.ifs t a b) ρ μ = o := by
  rw [runS, h, then_ok, if_neg (by decide)]
  exact h2
theorem run_nil {Γ : G} {ρ : Rho} {μ : Mu} : runB Γ .nil ρ μ = .nx ρ μ := by rw [runB]
theorem run_br {Γ : G} {s : PyI.S} {b : B} {ρ ρ' : Rho} {μ μ' : Mu} (h : runS Γ s ρ μ = .br ρ' μ') : runB Γ (.cons s b) ρ μ = .br ρ' μ' := by
  rw [runB, h]
  rfl
theorem atI_nat (l : List D) (n : Nat) : atI l (n : Int) = l[n]? := by
  unfold atI ixN
  rw [if_pos (Int.natCast_nonneg n)]
  by_cases h : (n : Int) < (l.length : Int)
  · rw [if_pos h]; rfl
  · rw [if_neg h, List.getElem?_eq_none (by omega)]; rfl
theorem atI_natG {α : Type} (l : List α) (n : Nat) : atI l (n : Int) = l[n]? := by
  unfold atI ixN
  rw [if_pos (Int.natCast_nonneg n)]
  by_cases h : (n : Int) < (l.length : Int)
  · rw [if_pos h]; rfl
  · rw [if_neg h, List.getElem?_eq_none (by omega)]; rfl
theorem ix_tup {l : List D} {n : Nat} {d : D} {μ : Mu} (h : l[n]? = some d) : idxA (.tup l) (.int (n : Int)) μ = .ok d μ := by
  show (match seqD μ (.tup l) with
    | some l => match atI l (n : Int) with
      | some d => Res.ok d μ
      | none => .stuck
    | none => .stuck) = _
  simp only [seqD, atI_nat, h]
theorem ix_lst {l : List D} {n : Nat} {d : D} {μ : Mu} (h : l[n]? = some d) : idxA (.lst l) (.int (n : Int)) μ = .ok d μ := by
  show (match seqD μ (.lst l) with
    | some l => match atI l (n : Int) with
      | some d => Res.ok d μ
      | none => .stuck
    | none => .stuck) = _
  simp only [seqD, atI_nat, h]
theorem ix0 {a : D} {l : List D} {μ : Mu} : idxA (.tup (a :: l)) (.int 0) μ = .ok a μ := ix_tup (n := 0) rfl
theorem ix1 {a b : D} {l : List D} {μ : Mu} : idxA (.tup (a :: b :: l)) (.int 1) μ = .ok b μ := ix_tup (n := 1) rfl
theorem ix2 {a b c : D} {l : List D} {μ : Mu} : idxA (.tup (a :: b :: c :: l)) (.int 2) μ = .ok c μ := ix_tup (n := 2) rfl
theorem ix3 {a b c d : D} {l : List D} {μ : Mu} : idxA (.tup (a :: b :: c :: d :: l)) (.int 3) μ = .ok d μ := ix_tup (n := 3) rfl
theorem il0 {a : D} {l : List D} {μ : Mu} : idxA (.lst (a :: l)) (.int 0) μ = .ok a μ := ix_lst (n := 0) rfl
theorem il1 {a b : D} {l : List D} {μ : Mu} : idxA (.lst (a :: b :: l)) (.int 1) μ = .ok b μ := ix_lst (n := 1) rfl
theorem tv_str {Γ : G} {ρ : Rho} {μ μ1 : Mu} {e : E} {l : List Nat} (hz : l.length ≤ 16777216) (h : evalE Γ e ρ μ = .ok (.str (tx l)) μ1) : evalT Γ (.val e) ρ μ = .ok (l.length != 0) μ1 := by
  rw [evalT, h, bind_ok, truD, needs_pos (by rw [tx_len]; exact hz), tx_len]
theorem tv_ref {Γ : G} {ρ : Rho} {μ μ1 : Mu} {e : E} {n : Nat} {l : List D} (h : evalE Γ e ρ μ = .ok (.ref n) μ1) (hl : μ1[n]? = some (.lst l)) : evalT Γ (.val e) ρ μ = .ok (!l.isEmpty) μ1 := by
  rw [evalT, h, bind_ok]
  unfold truD
  simp only [hl]
theorem ev_lst1 {Γ : G} {ρ : Rho} {μ μ1 : Mu} {e : E} {d : D} (h : evalE Γ e ρ μ = .ok d μ1) : evalE Γ (.lst (.cons e .nil)) ρ μ = .ok (.lst [d]) μ1 := by
  rw [evalE, evalEs, h, bind_ok, evalEs, bind_ok, bind_ok, needs_pos (by simp)]
theorem ev_or_t {Γ : G} {ρ : Rho} {μ μ1 : Mu} {a b : E} {x : D} (ha : evalE Γ a ρ μ = .ok x μ1) (ht : truD μ1 x μ1 = .ok true μ1) : evalE Γ (.or a b) ρ μ = .ok x μ1 := by
  rw [evalE, ha, bind_ok, ht, bind_ok, if_pos rfl]
theorem ev_or_f {Γ : G} {ρ : Rho} {μ μ1 : Mu} {a b : E} {x : D} {r : Res D} (ha : evalE Γ a ρ μ = .ok x μ1) (ht : truD μ1 x μ1 = .ok false μ1) (hb : evalE Γ b ρ μ1 = r) : evalE Γ (.or a b) ρ μ = r := by
  rw [evalE, ha, bind_ok, ht, bind_ok, if_neg (by decide), hb]
theorem ev_and_t {Γ : G} {ρ : Rho} {μ μ1 : Mu} {a b : E} {x : D} {r : Res D} (ha : evalE Γ a ρ μ = .ok x μ1) (ht : truD μ1 x μ1 = .ok true μ1) (hb : evalE Γ b ρ μ1 = r) : evalE Γ (.and a b) ρ μ = r := by
  rw [evalE, ha, bind_ok, ht, bind_ok, if_pos rfl, hb]
theorem ev_and_f {Γ : G} {ρ : Rho} {μ μ1 : Mu} {a b : E} {x : D} (ha : evalE Γ a ρ μ = .ok x μ1) (ht : truD μ1 x μ1 = .ok false μ1) : evalE Γ (.and a b) ρ μ = .ok x μ1 := by
  rw [evalE, ha, bind_ok, ht, bind_ok, if_neg (by decide)]
theorem add_tx {x y : List Nat} {μ : Mu} (hz : x.length + y.length ≤ 16777216) : binD .add (.str (tx x)) (.str (tx y)) μ = .ok (.str (tx (x ++ y))) μ := by
  show needs ((tx x).length + (tx y).length ≤ 16777216) _ = _
  rw [needs_pos (by rw [tx_len, tx_len]; exact hz), tx_add]
theorem ev_add {Γ : G} {ρ : Rho} {μ μ1 μ2 : Mu} {a b : E} {x y : List Nat} (ha : evalE Γ a ρ μ = .ok (.str (tx x)) μ1) (hb : evalE Γ b ρ μ1 = .ok (.str (tx y)) μ2) (hz : x.length + y.length ≤ 16777216) : evalE Γ (.bin .add a b) ρ μ = .ok (.str (tx (x ++ y))) μ2 :=
  ev_bin ha hb (add_tx hz)
theorem isi_eq {Γ : G} {ρ : Rho} {μ : Mu} {a : E} {d : D} {t : Ty} {v : Bool} (ha : evalE Γ a ρ μ = .ok d μ) (h : isiD d t μ = .ok (.bl v) μ) : evalE Γ (.isi a t) ρ μ = .ok (.bl v) μ := by
  rw [evalE, ha, bind_ok, h]
theorem cbody_no {Γ : G} {own : List Nat} {i : Nat} {t : T} {e : E} {ρ : Rho} {d : D} {μ : Mu} (ht : evalT Γ t ((wipeR ρ own).set i (some d)) μ = .ok false μ) : cbody Γ own (.nm i) t e ρ d μ = .ok none μ := by
  unfold cbody
  simp only [assignT, ht, bind_ok]
  rfl
theorem ev_notv {Γ : G} {ρ : Rho} {μ μ1 : Mu} {a : E} {v : Bool} (h : evalE Γ a ρ μ = .ok (.bl v) μ1) : evalE Γ (.notv (.val a)) ρ μ = .ok (.bl (!v)) μ1 := by
  rw [evalE, tv_bl h, bind_ok]
theorem ev_lst2 {Γ : G} {ρ : Rho} {μ μ1 μ2 : Mu} {a b : E} {x y : D} (h : evalE Γ a ρ μ = .ok x μ1) (h2 : evalE Γ b ρ μ1 = .ok y μ2) : evalE Γ (.lst (.cons a (.cons b .nil))) ρ μ = .ok (.lst [x, y]) μ2 := by
  rw [evalE, evalEs, h, bind_ok, evalEs, h2, bind_ok, evalEs, bind_ok, bind_ok, bind_ok, needs_pos (by simp)]
theorem ev_m1 {Γ : G} {ρ : Rho} {μ : Mu} : evalE Γ (.neg (.cst (.int 1))) ρ μ = .ok (.int (-1)) μ := by
  rw [evalE, ev_cst, bind_ok]
theorem ev_lst3 {Γ : G} {ρ : Rho} {μ μ1 μ2 μ3 : Mu} {a b c : E} {x y z : D} (h : evalE Γ a ρ μ = .ok x μ1) (h2 : evalE Γ b ρ μ1 = .ok y μ2) (h3 : evalE Γ c ρ μ2 = .ok z μ3) : evalE Γ (.lst (.cons a (.cons b (.cons c .nil)))) ρ μ = .ok (.lst [x, y, z]) μ3 := by
  rw [evalE, evalEs, h, bind_ok, evalEs, h2, bind_ok, evalEs, h3, bind_ok, evalEs, bind_ok, bind_ok, bind_ok, bind_ok, needs_pos (by simp)]
theorem ev_tup3 {Γ : G} {ρ : Rho} {μ μ1 μ2 μ3 : Mu} {a b c : E} {x y z : D} (h : evalE Γ a ρ μ = .ok x μ1) (h2 : evalE Γ b ρ μ1 = .ok y μ2) (h3 : evalE Γ c ρ μ2 = .ok z μ3) : evalE Γ (.tup (.cons a (.cons b (.cons c .nil)))) ρ μ = .ok (.tup [x, y, z]) μ3 := by
  rw [evalE, evalEs, h, bind_ok, evalEs, h2, bind_ok, evalEs, h3, bind_ok, evalEs, bind_ok, bind_ok, bind_ok, bind_ok, needs_pos (by simp)]
theorem tv_or_ff {Γ : G} {ρ : Rho} {μ μ1 μ2 : Mu} {t u : T} (ht : evalT Γ t ρ μ = .ok false μ1) (hu : evalT Γ u ρ μ1 = .ok false μ2) : evalT Γ (.or t u) ρ μ = .ok false μ2 := by
  rw [evalT, ht, bind_ok, if_neg (by decide), hu]
theorem ev_lst4 {Γ : G} {ρ : Rho} {μ μ1 μ2 μ3 μ4 : Mu} {a b c d : E} {x y z w : D} (h : evalE Γ a ρ μ = .ok x μ1) (h2 : evalE Γ b ρ μ1 = .ok y μ2) (h3 : evalE Γ c ρ μ2 = .ok z μ3) (h4 : evalE Γ d ρ μ3 = .ok w μ4) : evalE Γ (.lst (.cons a (.cons b (.cons c (.cons d .nil))))) ρ μ = .ok (.lst [x, y, z, w]) μ4 := by
  rw [evalE, evalEs, h, bind_ok, evalEs, h2, bind_ok, evalEs, h3, bind_ok, evalEs, h4, bind_ok, evalEs, bind_ok, bind_ok, bind_ok, bind_ok, bind_ok, needs_pos (by simp)]
theorem st_tp2l {Γ : G} {ρ : Rho} {μ μ1 : Mu} {i j : Nat} {e : E} {a b : D} (h : evalE Γ e ρ μ = .ok (.lst [a, b]) μ1) : runS Γ (.set (.tp [i, j]) e) ρ μ = .nx ((ρ.set i (some a)).set j (some b)) μ1 := by
  rw [runS, h, then_ok, assignT]
  rfl
theorem it_tup {Γ : G} {e : E} {ρ : Rho} {μ μ' : Mu} {l : List D} (h : evalE Γ e ρ μ = .ok (.tup l) μ') : evalIt Γ (.seq e) ρ μ = .ok (l, none) μ' := by
  rw [evalIt, h, bind_ok, itD]
theorem it_lst {Γ : G} {e : E} {ρ : Rho} {μ μ' : Mu} {l : List D} (h : evalE Γ e ρ μ = .ok (.lst l) μ') : evalIt Γ (.seq e) ρ μ = .ok (l, none) μ' := by
  rw [evalIt, h, bind_ok, itD]
theorem st_new {Γ : G} {ρ : Rho} {μ μ1 : Mu} {i : Nat} {e : E} {l : List D} (h : evalE Γ e ρ μ = .ok (.lst l) μ1) : runS Γ (.new i e) ρ μ = .nx (ρ.set i (some (.ref μ1.length))) (μ1 ++ [.lst l]) := by
  rw [runS, h, then_ok]
theorem ev_lst0 {Γ : G} {ρ : Rho} {μ : Mu} : evalE Γ (.lst .nil) ρ μ = .ok (.lst []) μ := by
  rw [evalE, evalEs, bind_ok, needs_pos (by simp)]
theorem st_whl {Γ : G} {t : T} {b : B} {ρ : Rho} {μ : Mu} {o : Out} (h : whileLoop (fun ρ μ => evalT Γ t ρ μ) (fun ρ μ => runB Γ b ρ μ) Γ.wf ρ μ = o) : runS Γ (.whl t b) ρ μ = o := by
  rw [runS]; exact h
theorem tv_int {Γ : G} {ρ : Rho} {μ μ1 : Mu} {e : E} {i : Int} (h : evalE Γ e ρ μ = .ok (.int i) μ1) : evalT Γ (.val e) ρ μ = .ok (i != 0) μ1 := by
  rw [evalT, h, bind_ok, truD]
theorem tuple_ref {μ : Mu} {n : Nat} {l : List D} (h : μ[n]? = some (.lst l)) : bifD .tuple [.ref n] μ = .ok (.tup l) μ := by
  show (match seqD μ (.ref n) with
    | some l => Res.ok (D.tup l) μ
    | none => .stuck) = _
  have : seqD μ (.ref n) = some l := by unfold seqD; simp only [h]
  rw [this]
theorem tuple_lst {μ : Mu} {l : List D} : bifD .tuple [.lst l] μ = .ok (.tup l) μ := rfl
theorem cbody_if {Γ : G} {own : List Nat} {i : Nat} {t : T} {e : E} {ρ : Rho} {d y : D} {μ : Mu} {v : Bool} (ht : evalT Γ t ((wipeR ρ own).set i (some d)) μ = .ok v μ) (h : evalE Γ e ((wipeR ρ own).set i (some d)) μ = .ok y μ) : cbody Γ own (.nm i) t e ρ d μ = .ok (if v then some y else none) μ := by
  unfold cbody
  simp only [assignT, ht, bind_ok]
  cases v
  · rfl
  · rw [if_pos rfl, h, bind_ok]; rfl
theorem rng0 (n : Nat) : rngD 0 n = (List.range n).map nD := by
  unfold rngD nD
  exact List.map_congr_left fun i _ => by rw [Int.zero_add]
theorem rngN (lo n : Nat) : rngD (lo : Int) n = (List.range' lo n).map nD := by
  unfold rngD nD
  rw [List.range'_eq_map_range, List.map_map]
  exact List.map_congr_left fun i _ => by
    show D.int ((lo : Int) + (i : Int)) = D.int ((lo + i : Nat) : Int)
    rw [Int.natCast_add]
theorem st_tp2 {Γ : G} {ρ : Rho} {μ μ1 : Mu} {i j : Nat} {e : E} {a b : D} (h : evalE Γ e ρ μ = .ok (.tup [a, b]) μ1) : runS Γ (.set (.tp [i, j]) e) ρ μ = .nx ((ρ.set i (some a)).set j (some b)) μ1 := by
  rw [runS, h, then_ok, assignT]
  rfl
theorem fbody_tp2 {Γ : G} {i j : Nat} {b : B} {x y : D} {ρ : Rho} {μ : Mu} : fbody Γ (.tp [i, j]) b (.tup [x, y]) ρ μ = runB Γ b ((ρ.set i (some x)).set j (some y)) μ := rfl
theorem cbody_tp2 {Γ : G} {own : List Nat} {i j : Nat} {e : E} {ρ : Rho} {x y z : D} {μ : Mu} (h : evalE Γ e (((wipeR ρ own).set i (some x)).set j (some y)) μ = .ok z μ) : cbody Γ own (.tp [i, j]) .yes e ρ (.tup [x, y]) μ = .ok (some z) μ := by
  have : assignT (.tp [i, j]) (.tup [x, y]) (wipeR ρ own) = some (((wipeR ρ own).set i (some x)).set j (some y)) := rfl
  unfold cbody
  simp only [this, evalT, bind_ok, if_true, h]
theorem ev_chn_le {Γ : G} {ρ : Rho} {μ μ1 μ2 : Mu} {a b c : E} {i j l : Int} (ha : evalE Γ a ρ μ = .ok (.int i) μ1) (hb : evalE Γ b ρ μ1 = .ok (.int j) μ2) (hc : evalE Γ c ρ μ2 = .ok (.int l) μ2) : evalE Γ (.chn .le .le a b c) ρ μ = .ok (.bl (decide (i ≤ j) && decide (j ≤ l))) μ2 := by
  have e : ∀ {i j : Int} {μ : Mu}, cmpD .le (.int i) (.int j) μ = .ok (decide (i ≤ j)) μ := rfl
  rw [evalE, ha, bind_ok, hb, bind_ok, e, bind_ok]
  cases decide (i ≤ j) with
  | false => rfl
  | true => rw [if_pos rfl, hc, bind_ok, e, bind_ok]; rfl
theorem for_cons_rt {f : D → Rho → Mu → Out} {d x : D} {ds : List D} {ρ : Rho} {μ μ' : Mu} (h : f d ρ μ = .rt x μ') : forLoop f (chkOf none) (d :: ds) ρ μ = .rt x μ' := by
  unfold forLoop
  rw [if_pos (show chkOf none μ = true from rfl), h]
theorem for_cons_nx {f : D → Rho → Mu → Out} {d : D} {ds : List D} {ρ ρ' : Rho} {μ μ' : Mu} {o : Out} (h : f d ρ μ = .nx ρ' μ') (h2 : forLoop f (chkOf none) ds ρ' μ' = o) : forLoop f (chkOf none) (d :: ds) ρ μ = o := by
  unfold forLoop
  rw [if_pos (show chkOf none μ = true from rfl), h]
  exact h2
theorem for_nil {f : D → Rho → Mu → Out} {ρ : Rho} {μ : Mu} : forLoop f (chkOf none) [] ρ μ = .nx ρ μ := by
  unfold forLoop
  rw [if_pos (show chkOf none μ = true from rfl)]
theorem eq_int {i j : Int} {μ : Mu} : cmpD .eq (.int i) (.int j) μ = .ok (i == j) μ := by
  show needs _ _ = _
  rw [needs_pos ⟨rfl, rfl⟩]
  rfl
theorem whl_dec {c : Rho → Mu → Res Bool} {f : Rho → Mu → Out} (I : Nat → Rho → Mu → Prop) (P : Rho → Mu → Prop)
    (hs : ∀ m ρ μ, I m ρ μ → (c ρ μ = .ok false μ ∧ P ρ μ) ∨ (c ρ μ = .ok true μ ∧ ∃ ρ' μ' m', f ρ μ = .nx ρ' μ' ∧ m' < m ∧ I m' ρ' μ')) :
    ∀ (n m : Nat) {ρ : Rho} {μ : Mu}, m < n → I m ρ μ → ∃ ρ' μ', whileLoop c f n ρ μ = .nx ρ' μ' ∧ P ρ' μ'
  | 0, m, _, _, h, _ => absurd h (Nat.not_lt_zero _)
  | n + 1, m, ρ, μ, h, hi => by
    rcases hs m ρ μ hi with ⟨e, hp⟩ | ⟨e, ρ', μ', m', e2, hm, hi'⟩
    · refine ⟨ρ, μ, ?_, hp⟩
      unfold whileLoop
      rw [e]
      rfl
    · obtain ⟨ρ2, μ2, e3, hp⟩ := whl_dec I P hs n m' (by omega) hi'
      refine ⟨ρ2, μ2, ?_, hp⟩
      unfold whileLoop
      rw [e, then_ok, if_pos rfl, e2]
      exact e3
theorem tv_lst {Γ : G} {ρ : Rho} {μ μ1 : Mu} {e : E} {l : List D} (h : evalE Γ e ρ μ = .ok (.lst l) μ1) : evalT Γ (.val e) ρ μ = .ok (!l.isEmpty) μ1 := by
  rw [evalT, h, bind_ok, truD]
theorem tv_tup {Γ : G} {ρ : Rho} {μ μ1 : Mu} {e : E} {l : List D} (h : evalE Γ e ρ μ = .ok (.tup l) μ1) : evalT Γ (.val e) ρ μ = .ok (!l.isEmpty) μ1 := by
  rw [evalT, h, bind_ok, truD]
theorem eq_str {x y : Str} {μ : Mu} (hx : x.cps.all (· < 0x110000) = true) (hy : y.cps.all (· < 0x110000) = true) : cmpD .eq (.str x) (.str y) μ = .ok (x == y) μ := by
  show needs _ _ = _
  rw [needs_pos ⟨hx, hy⟩]
  rfl
theorem ne_str {x y : Str} {μ : Mu} (hx : x.cps.all (· < 0x110000) = true) (hy : y.cps.all (· < 0x110000) = true) : cmpD .ne (.str x) (.str y) μ = .ok (!(x == y)) μ := by
  show needs _ _ = _
  rw [needs_pos ⟨hx, hy⟩]
  rfl
theorem ev_orb {Γ : G} {ρ : Rho} {μ : Mu} {a b : E} {u v : Bool} (ha : evalE Γ a ρ μ = .ok (.bl u) μ) (hb : evalE Γ b ρ μ = .ok (.bl v) μ) : evalE Γ (.or a b) ρ μ = .ok (.bl (u || v)) μ := by
  cases u with
  | true => exact ev_or_t ha rfl
  | false => exact ev_or_f ha rfl hb
theorem ev_andb {Γ : G} {ρ : Rho} {μ : Mu} {a b : E} {u v : Bool} (ha : evalE Γ a ρ μ = .ok (.bl u) μ) (hb : evalE Γ b ρ μ = .ok (.bl v) μ) : evalE Γ (.and a b) ρ μ = .ok (.bl (u && v)) μ := by
  cases u with
  | true => exact ev_and_t ha rfl hb
  | false => exact ev_and_f ha rfl
theorem comp_filter {f : D → Mu → Res (Option D)} {α : Type} {a : α → D} {c : α → Bool} {g : α → D} {μ : Mu} : ∀ {ds : List α} {acc : List D}, (∀ d ∈ ds, f (a d) μ = .ok (if c d then some (g d) else none) μ) → acc.length + ds.length ≤ 16777216 →
    compLoop f (chkOf none) acc (ds.map a) μ = .ok (acc ++ (ds.filter c).map g) μ
  | [], acc, _, _ => by
    unfold compLoop
    rw [List.map_nil]
    simp only
    rw [if_pos (show chkOf none μ = true from rfl), List.filter_nil, List.map_nil, List.append_nil]
  | d :: ds, acc, h, hl => by
    rw [List.length_cons] at hl
    rw [List.map_cons]
    unfold compLoop
    rw [if_pos (show chkOf none μ = true from rfl), h d (List.mem_cons_self ..), List.filter_cons]
    cases hc : c d with
    | false =>
      simp only [Bool.false_eq_true, if_false]
      exact comp_filter (fun e he => h e (List.mem_cons_of_mem _ he)) (by omega)
    | true =>
      simp only [if_true]
      rw [needs_pos (by omega), comp_filter (fun e he => h e (List.mem_cons_of_mem _ he)) (by simp; omega)]
      simp
theorem ev_comp {Γ : G} {own : List Nat} {tg : Tg} {it : IT} {c : T} {e : E} {ρ : Rho} {μ μ1 μ2 : Mu} {ds l : List D} (h : evalIt Γ it ρ μ = .ok (ds, none) μ1) (h2 : compLoop (cbody Γ own tg c e ρ) (chkOf none) [] ds μ1 = .ok l μ2) : evalE Γ (.comp own tg it c e) ρ μ = .ok (.lst l) μ2 := comp_run h h2
theorem comp_all {f : D → Mu → Res (Option D)} {α : Type} {a : α → D} {g : α → D} {μ : Mu} {ds : List α} (h : ∀ d ∈ ds, f (a d) μ = .ok (some (g d)) μ) (hl : ds.length ≤ 16777216) : compLoop f (chkOf none) [] (ds.map a) μ = .ok (ds.map g) μ := by
  have := comp_filter (f := f) (a := a) (c := fun _ => true) (g := g) (μ := μ) (ds := ds) (acc := []) (fun d hd => by rw [h d hd]; rfl) (by simpa using hl)
  rw [this, List.nil_append, List.filter_eq_self.mpr fun _ _ => rfl]
theorem comp_empty {Γ : G} {own : List Nat} {tg : Tg} {it : IT} {c : T} {e : E} {ρ : Rho} {μ : Mu} {α : Type} {a : α → D} {ds : List α} (h : evalIt Γ it ρ μ = .ok (ds.map a, none) μ) (h2 : ∀ d ∈ ds, cbody Γ own tg c e ρ (a d) μ = .ok none μ) (hl : ds.length ≤ 16777216) : evalE Γ (.comp own tg it c e) ρ μ = .ok (.lst []) μ := by
  refine ev_comp h ?_
  have := comp_filter (f := cbody Γ own tg c e ρ) (a := a) (c := fun _ => false) (g := a) (μ := μ) (ds := ds) (acc := []) (fun d hd => (h2 d hd).trans rfl) (by simpa using hl)
  rw [this]
  simp
/-! ### errors -/
section
variable {Γ : G} {ρ ρ' : Rho} {μ μ1 μ2 μ3 μ4 : Mu} {a b c d e : E} {x y z w v : D} {t u : T} {s : PyI.S} {fs : List D} {n : Nat}
theorem bind_err {α β : Type} {f : α → Mu → Res β} : (Res.err n fs μ : Res α).bind f = .err n fs μ := rfl
theorem then_err {α : Type} {f : α → Mu → Out} : (Res.err n fs μ : Res α).then ρ f = .er n fs ρ μ := rfl
theorem run_er {bb : B} (h : runS Γ s ρ μ = .er n fs ρ' μ1) : runB Γ (.cons s bb) ρ μ = .er n fs ρ' μ1 := by
  rw [runB, h]
  rfl
theorem st_rse {i : Nat} (hm : Γ.mkr = true) (h : evalE Γ e ρ μ = .ok (nD i) μ1) (hi : i < 1000000000000000000) : runS Γ (.rse n 1 (.cons e .nil)) ρ μ = .er n [nD i] ρ μ1 := by
  have hk : ([nD i] : List D).length = 1 ∧ ([nD i] : List D).all okArg = true := ⟨rfl, by
    have h1 : decide ((0 : Int) ≤ (i : Int)) = true := decide_eq_true (Int.natCast_nonneg i)
    have h2 : decide ((i : Int) < 1000000000000000000) = true := decide_eq_true (by omega)
    show ((decide ((0 : Int) ≤ (i : Int)) && decide ((i : Int) < 1000000000000000000)) && true) = true
    rw [h1, h2]; rfl⟩
  rw [runS, if_pos hm, evalEs, h, bind_ok, evalEs, bind_ok, then_ok, if_pos hk]
  rfl
theorem st_set_err {tg : Tg} (h : evalE Γ e ρ μ = .err n fs μ1) : runS Γ (.set tg e) ρ μ = .er n fs ρ μ1 := by
  rw [runS, h, then_err]
theorem st_ret_err (h : evalE Γ e ρ μ = .err n fs μ1) : runS Γ (.ret e) ρ μ = .er n fs ρ μ1 := by
  rw [runS, h, then_err]
theorem ev_tup2_err (ha : evalE Γ a ρ μ = .ok x μ1) (hb : evalE Γ b ρ μ1 = .err n fs μ2) : evalE Γ (.tup (.cons a (.cons b .nil))) ρ μ = .err n fs μ2 := by
  rw [evalE, evalEs, ha, bind_ok, evalEs, hb, bind_err, bind_err, bind_err]
theorem ev_call4 {f : Nat} {r : Res D} (ha : evalE Γ a ρ μ = .ok x μ1) (hb : evalE Γ b ρ μ1 = .ok y μ2) (hc : evalE Γ c ρ μ2 = .ok z μ3) (hd : evalE Γ d ρ μ3 = .ok w μ4) (h : Γ.call f [x, y, z, w] μ4 = r) : evalE Γ (.call f (.cons a (.cons b (.cons c (.cons d .nil))))) ρ μ = r := by
  rw [evalE, evalEs, ha, bind_ok, evalEs, hb, bind_ok, evalEs, hc, bind_ok, evalEs, hd, bind_ok, evalEs, bind_ok, bind_ok, bind_ok, bind_ok, bind_ok, h]
theorem try_ok {i k : Nat} {h : XR} (he : evalE Γ e ρ μ = .ok x μ1) : runS Γ (.tryR e k i h) ρ μ = .rt x μ1 := by
  rw [runS, he]
theorem try_er {i k : Nat} {h : XR} (he : evalE Γ e ρ μ = .err k fs μ1) (hv : h.val fs = some v) : runS Γ (.tryR e k i h) ρ μ = .rt v μ1 := by
  rw [runS, he]
  simp only [if_true, hv]
theorem ev_idx0 {r : Res D} (ha : evalE Γ a ρ μ = .ok x μ1) (hb : evalE Γ b ρ μ1 = .ok y μ2) (h : idxA x y μ2 = r) : evalE Γ (.idx a b) ρ μ = r := ev_idx ha hb h
theorem ev_tup0 : evalE Γ (.tup .nil) ρ μ = .ok (.tup []) μ := by
  rw [evalE, evalEs, bind_ok, needs_pos (by simp)]
theorem ev_tup1 (ha : evalE Γ a ρ μ = .ok x μ1) : evalE Γ (.tup (.cons a .nil)) ρ μ = .ok (.tup [x]) μ1 := by
  rw [evalE, evalEs, ha, bind_ok, evalEs, bind_ok, bind_ok, needs_pos (by simp)]
theorem ev_cs {q : Str} {l : List Nat} (h : q = tx l) : evalE Γ (.cst (.str q)) ρ μ = .ok (.str (tx l)) μ := by rw [evalE, h]
theorem ev_add1 {k : Nat} (ha : evalE Γ a ρ μ = .ok (nD k) μ1) : evalE Γ (.bin .add a (.cst (.int 1))) ρ μ = .ok (nD (k + 1)) μ1 := ev_bin ha ev_cst rfl
theorem ev_add2 {k : Nat} (ha : evalE Γ a ρ μ = .ok (nD k) μ1) : evalE Γ (.bin .add a (.cst (.int 2))) ρ μ = .ok (nD (k + 2)) μ1 := ev_bin ha ev_cst rfl
theorem ev_slc {i j : Int} (ha : evalE Γ a ρ μ = .ok x μ1) (hb : evalE Γ b ρ μ1 = .ok (.int i) μ2) (hc : evalE Γ c ρ μ2 = .ok (.int j) μ3) {r : Res D} (h : slcD x (some i) (some j) μ3 = r) : evalE Γ (.slc a (.some b) (.some c)) ρ μ = r := by
  rw [evalE, ha, bind_ok, evalO, hb, bind_ok, bind_ok, evalO, hc, bind_ok, bind_ok, h]
theorem ev_slc_hi {j : Int} (ha : evalE Γ a ρ μ = .ok x μ1) (hc : evalE Γ c ρ μ1 = .ok (.int j) μ3) {r : Res D} (h : slcD x none (some j) μ3 = r) : evalE Γ (.slc a .none (.some c)) ρ μ = r := by
  rw [evalE, ha, bind_ok, evalO, bind_ok, evalO, hc, bind_ok, bind_ok, h]
theorem ev_slc_lo {i : Int} (ha : evalE Γ a ρ μ = .ok x μ1) (hb : evalE Γ b ρ μ1 = .ok (.int i) μ2) {r : Res D} (h : slcD x (some i) none μ2 = r) : evalE Γ (.slc a (.some b) .none) ρ μ = r := by
  rw [evalE, ha, bind_ok, evalO, hb, bind_ok, bind_ok, evalO, bind_ok, h]
theorem ev_chn_f {o o' : Cop} (ha : evalE Γ a ρ μ = .ok x μ1) (hb : evalE Γ b ρ μ1 = .ok y μ2) (h : cmpD o x y μ2 = .ok false μ2) : evalE Γ (.chn o o' a b c) ρ μ = .ok (.bl false) μ2 := by
  rw [evalE, ha, bind_ok, hb, bind_ok, h, bind_ok, if_neg (by decide)]
theorem ev_chn_t {o o' : Cop} {k : Bool} (ha : evalE Γ a ρ μ = .ok x μ1) (hb : evalE Γ b ρ μ1 = .ok y μ2) (h : cmpD o x y μ2 = .ok true μ2) (hc : evalE Γ c ρ μ2 = .ok z μ3) (h2 : cmpD o' y z μ3 = .ok k μ3) : evalE Γ (.chn o o' a b c) ρ μ = .ok (.bl k) μ3 := by
  rw [evalE, ha, bind_ok, hb, bind_ok, h, bind_ok, if_pos rfl, hc, bind_ok, h2, bind_ok]
theorem tv_and_f (ht : evalT Γ t ρ μ = .ok false μ1) : evalT Γ (.and t u) ρ μ = .ok false μ1 := by
  rw [evalT, ht, bind_ok, if_neg (by decide)]
theorem tv_and_t {r : Res Bool} (ht : evalT Γ t ρ μ = .ok true μ1) (hu : evalT Γ u ρ μ1 = r) : evalT Γ (.and t u) ρ μ = r := by
  rw [evalT, ht, bind_ok, if_pos rfl, hu]
theorem tv_or_t (ht : evalT Γ t ρ μ = .ok true μ1) : evalT Γ (.or t u) ρ μ = .ok true μ1 := by
  rw [evalT, ht, bind_ok, if_pos rfl]
theorem tv_or_f {r : Res Bool} (ht : evalT Γ t ρ μ = .ok false μ1) (hu : evalT Γ u ρ μ1 = r) : evalT Γ (.or t u) ρ μ = r := by
  rw [evalT, ht, bind_ok, if_neg (by decide), hu]
theorem st_aug {i : Nat} {j k : Int} (hi : ρ[i]? = some (some (.int j))) (h : evalE Γ e ρ μ = .ok (.int k) μ1) : runS Γ (.aug i .add e) ρ μ = .nx (ρ.set i (some (.int (j + k)))) μ1 := by
  rw [runS]
  simp only [hi]
  rw [h, then_ok]
theorem ev_met0 {m : Met} {r : Res D} (ho : evalE Γ a ρ μ = .ok x μ1) (ht : tyD m x μ1 = true) (h : metD m x [] μ1 = r) : evalE Γ (.met m a .nil) ρ μ = r := by
  rw [evalE, ho, bind_ok, needs_pos ht, evalEs, bind_ok, h]
theorem ev_met1 {m : Met} {r : Res D} (ho : evalE Γ a ρ μ = .ok x μ1) (ht : tyD m x μ1 = true) (hb : evalE Γ b ρ μ1 = .ok y μ2) (h : metD m x [y] μ2 = r) : evalE Γ (.met m a (.cons b .nil)) ρ μ = r := by
  rw [evalE, ho, bind_ok, needs_pos ht, evalEs, hb, bind_ok, evalEs, bind_ok, bind_ok, h]
theorem ev_met2 {m : Met} {r : Res D} (ho : evalE Γ a ρ μ = .ok x μ1) (ht : tyD m x μ1 = true) (hb : evalE Γ b ρ μ1 = .ok y μ2) (hc : evalE Γ c ρ μ2 = .ok z μ3) (h : metD m x [y, z] μ3 = r) : evalE Γ (.met m a (.cons b (.cons c .nil))) ρ μ = r := by
  rw [evalE, ho, bind_ok, needs_pos ht, evalEs, hb, bind_ok, evalEs, hc, bind_ok, evalEs, bind_ok, bind_ok, bind_ok, h]
end
/-! ### whiles -/
section
variable {c : Rho → Mu → Res Bool} {f : Rho → Mu → Out} {n k : Nat} {ρ ρ' : Rho} {μ μ' : Mu} {o : Out} {d : D} {fs : List D}
theorem whl_nx (h : c ρ μ = .ok true μ) (h2 : f ρ μ = .nx ρ' μ') (h3 : whileLoop c f n ρ' μ' = o) : whileLoop c f (n + 1) ρ μ = o := by
  rw [whileLoop, h, then_ok, if_pos rfl, h2]
  exact h3
theorem whl_stop (h : c ρ μ = .ok false μ) : whileLoop c f (n + 1) ρ μ = .nx ρ μ := by
  rw [whileLoop, h, then_ok, if_neg (by decide)]
theorem whl_rt (h : c ρ μ = .ok true μ) (h2 : f ρ μ = .rt d μ') : whileLoop c f (n + 1) ρ μ = .rt d μ' := by
  rw [whileLoop, h, then_ok, if_pos rfl, h2]
theorem whl_er (h : c ρ μ = .ok true μ) (h2 : f ρ μ = .er k fs ρ' μ') : whileLoop c f (n + 1) ρ μ = .er k fs ρ' μ' := by
  rw [whileLoop, h, then_ok, if_pos rfl, h2]
end
/-! ### texts -/
abbrev uni (c : Nat) : Bool := decide (c < 0x110000)
section
variable {t l : List Nat} {c d n : Nat} {q : Str} {μ : Mu}
theorem len_tx (h : t.length ≤ 16777216) : bifD .len [.str (tx t)] μ = .ok (nD t.length) μ := by
  show needs ((tx t).length ≤ 16777216) (Res.ok (D.int ((tx t).length : Nat)) μ) = _
  rw [tx_len, needs_pos h]
theorem ix_str (h : t.length ≤ 16777216) (hc : t[n]? = some c) : idxA (.str (tx t)) (nD n) μ = .ok (.str (tx [c])) μ := by
  have : atI (tx t).cps.toList (n : Int) = some c := (atI_natG _ n).trans hc
  unfold idxA getDic idxD nD
  simp only [this]
  exact needs_pos (by rw [tx_len]; exact h)
theorem slc_tx {i j : Int} (h : t.length ≤ 16777216) : slcD (.str (tx t)) (some i) (some j) μ = .ok (.str (cutS (tx t) (some i) (some j))) μ := needs_pos (by rw [tx_len]; exact h)
theorem eq_tx {a b : List Nat} (ha : a.all uni = true) (hb : b.all uni = true) : cmpD .eq (.str (tx a)) (.str (tx b)) μ = .ok (a == b) μ := by
  rw [eq_str (by rw [tx_all]; exact ha) (by rw [tx_all]; exact hb), tx_beq]
theorem ne_tx {a b : List Nat} (ha : a.all uni = true) (hb : b.all uni = true) : cmpD .ne (.str (tx a)) (.str (tx b)) μ = .ok (!(a == b)) μ := by
  rw [ne_str (by rw [tx_all]; exact ha) (by rw [tx_all]; exact hb), tx_beq]
theorem one_beq (c d : Nat) : ([c] == [d]) = (c == d) := by simp
theorem uni1 (h : uni c = true) : ([c] : List Nat).all uni = true := by simpa using h
theorem eq_c (hq : q = tx [d]) (hc : uni c = true) (hd : uni d = true) : cmpD .eq (.str (tx [c])) (.str q) μ = .ok (c == d) μ := by
  rw [hq, eq_tx (uni1 hc) (uni1 hd), one_beq]
theorem ne_c (hq : q = tx [d]) (hc : uni c = true) (hd : uni d = true) : cmpD .ne (.str (tx [c])) (.str q) μ = .ok (!(c == d)) μ := by
  rw [hq, ne_tx (uni1 hc) (uni1 hd), one_beq]
theorem eq_e (hq : q = tx [d]) (hd : uni d = true) : cmpD .eq (.str (tx [])) (.str q) μ = .ok false μ := by
  rw [hq, eq_tx rfl (uni1 hd)]; rfl
theorem ne_e (hq : q = tx [d]) (hd : uni d = true) : cmpD .ne (.str (tx [])) (.str q) μ = .ok true μ := by
  rw [hq, ne_tx rfl (uni1 hd)]; rfl
theorem in_c (hq : q = tx l) : cmpD .in_ (.str (tx [c])) (.str q) μ = .ok (decide (c ∈ l)) μ := by
  rw [hq]
  show Res.ok (!(Builtin.Str.occurrences (tx l) (tx [c]) 0 (tx l).length 1).isEmpty) μ = _
  rw [tx_in]
theorem notin_c (hq : q = tx l) : cmpD .notin (.str (tx [c])) (.str q) μ = .ok (!decide (c ∈ l)) μ := by
  rw [hq]
  show Res.ok (!(!(Builtin.Str.occurrences (tx l) (tx [c]) 0 (tx l).length 1).isEmpty)) μ = _
  rw [tx_in]
theorem lt_c (hq : q = tx [d]) : cmpD .lt (.str (tx [c])) (.str q) μ = .ok (decide (c < d)) μ := by
  rw [hq]
  show Res.ok (ltS (tx [c]) (tx [d])) μ = _
  rw [lt_one]
theorem gt_c (hq : q = tx [d]) : cmpD .gt (.str (tx [c])) (.str q) μ = .ok (decide (d < c)) μ := by
  rw [hq]
  show Res.ok (ltS (tx [d]) (tx [c])) μ = _
  rw [lt_one]
theorem le_cl (hq : q = tx [d]) : cmpD .le (.str q) (.str (tx [c])) μ = .ok (decide (d ≤ c)) μ := by
  rw [hq]
  show Res.ok (!ltS (tx [c]) (tx [d])) μ = _
  rw [lt_one]
  congr 1
  by_cases h : c < d
  · rw [decide_eq_true h, decide_eq_false (by omega)]; rfl
  · rw [decide_eq_false h, decide_eq_true (by omega)]; rfl
theorem le_cr (hq : q = tx [d]) : cmpD .le (.str (tx [c])) (.str q) μ = .ok (decide (c ≤ d)) μ := by
  rw [hq]
  show Res.ok (!ltS (tx [d]) (tx [c])) μ = _
  rw [lt_one]
  congr 1
  by_cases h : d < c
  · rw [decide_eq_true h, decide_eq_false (by omega)]; rfl
  · rw [decide_eq_false h, decide_eq_true (by omega)]; rfl
theorem le_el (hq : q = tx [d]) : cmpD .le (.str q) (.str (tx [])) μ = .ok false μ := by
  rw [hq]
  show Res.ok (!ltS (tx []) (tx [d])) μ = _
  rw [lt_none]; rfl
theorem lt_n {a b : Nat} : cmpD .lt (nD a) (nD b) μ = .ok (decide (a < b)) μ := congrArg (fun b => Res.ok b μ) (decide_eq_decide.mpr Int.ofNat_lt)
theorem gt_n {a b : Nat} : cmpD .gt (nD a) (nD b) μ = .ok (decide (b < a)) μ := congrArg (fun b => Res.ok b μ) (decide_eq_decide.mpr Int.ofNat_lt)
theorem ge_n {a b : Nat} : cmpD .ge (nD a) (nD b) μ = .ok (decide (b ≤ a)) μ := congrArg (fun b => Res.ok b μ) (decide_eq_decide.mpr Int.ofNat_le)
theorem eq_n {a b : Nat} : cmpD .eq (nD a) (nD b) μ = .ok (decide (a = b)) μ := by
  rw [eq_int]
  refine congrArg (fun b => Res.ok b μ) ?_
  by_cases h : a = b
  · subst h; simp
  · refine (beq_eq_false_iff_ne.mpr fun z => h (Int.ofNat.inj z)).trans (decide_eq_false h).symm
theorem eq_nm1 {a : Nat} : cmpD .eq (nD a) (.int (-1)) μ = .ok false μ := by
  rw [eq_int]
  exact congrArg (fun b => Res.ok b μ) (beq_eq_false_iff_ne.mpr (by omega))
end
/-! ### replacing -/
section
variable {Γ : G} {ρ : Rho} {μ μ1 : Mu} {e : E} {d : D} {r : R} {l y z : List Nat} {ys zs : Str}
theorem st_setR {i : Nat} (h : evalR Γ r ρ μ = .ok d μ1) : runS Γ (.setR i r) ρ μ = .nx (ρ.set i (some d)) μ1 := by
  rw [runS, h, then_ok]
theorem evr_base (h : evalE Γ e ρ μ = .ok d μ1) : evalR Γ (.base e) ρ μ = .ok d μ1 := by
  rw [evalR, h]
theorem evr_repl (h : evalR Γ r ρ μ = .ok (.str (tx l)) μ1) (hy : ys = tx y) (hz : zs = tx z) (ne : y ≠ []) (hb : l.length + (l.length + 1) * z.length ≤ 16777216) : evalR Γ (.repl r ys zs) ρ μ = .ok (.str (tx (StrLaws.replL y z l))) μ1 := by
  rw [evalR, h, bind_ok, hy, hz]
  show needs ((tx l).length + ((tx l).length + 1) * (tx z).length ≤ 16777216) _ = _
  rw [needs_pos (by rw [tx_len, tx_len]; exact hb), tx_repl _ _ _ ne]
end
/-! ### pieces of bodies -/
def nthS : B → Nat → PyI.S
  | .nil, _ => .pass
  | .cons s _, 0 => s
  | .cons _ b, n + 1 => nthS b n
def forB : PyI.S → B
  | .for_ _ _ b => b
  | .whl _ b => b
  | _ => .nil
def whlT : PyI.S → T
  | .whl t _ => t
  | _ => .yes
def thenB : PyI.S → B
  | .ifs _ b _ => b
  | _ => .nil
def elseB : PyI.S → B
  | .ifs _ _ b => b
  | _ => .nil
theorem finO_er {n c : Nat} {fs : List D} {ρ : Rho} {μ : Mu} (h : μ.length = n) : finO n (.er c fs ρ μ) = .err c fs μ := by
  unfold finO
  simp only
  rw [if_pos h]
/-- lists of its own were made, and are forgotten -/
theorem finO_er_more {c : Nat} {fs : List D} {ρ : Rho} {μ ν : Mu} (h : PureM μ) (hd : pureDs fs = true) : finO μ.length (.er c fs ρ (μ ++ ν)) = .err c fs μ := by
  have hb := pureDs.belows μ.length hd
  have ht : (μ ++ ν).take μ.length = μ := List.take_left' rfl
  unfold finO
  simp only
  by_cases z : (μ ++ ν).length = μ.length
  · have : ν = [] := List.length_eq_zero_iff.mp (by simp at z; exact z ▸ rfl)
    subst this
    rw [if_pos z, List.append_nil]
  · rw [if_neg z, ht, if_pos ⟨hb, h.all _, by simp⟩]
end PyI
/-! R2: steps: dicts, heaps with a frame, numbers. -/
namespace PyI
open PySem L2 PyProof.Rows
/-! ### numbers, lengths -/
section
variable {μ : Mu}
theorem int_int {i : Int} : bifD .int [.int i] μ = .ok (.int i) μ := rfl
theorem int_bl {b : Bool} : bifD .int [.bl b] μ = .ok (nD (if b then 1 else 0)) μ := by cases b <;> rfl
theorem mul_int {i j : Int} (h : lim64 i ∨ lim64 j) : binD .mul (.int i) (.int j) μ = .ok (.int (i * j)) μ := by
  show needs _ _ = _
  rw [needs_pos (.inl h)]
theorem mod_int {i j : Int} (h : 0 < j) : binD .mod (.int i) (.int j) μ = .ok (.int (i % j)) μ := by
  show needs _ _ = _
  rw [needs_pos h]
theorem mod_n {i j : Nat} (h : 0 < j) : binD .mod (nD i) (nD j) μ = .ok (nD (i % j)) μ := by
  rw [nD, nD, mod_int (by omega)]
  rfl
theorem fdiv_int {i j : Int} (h : 0 < j) (h2 : j < 1073741824) : binD .fdiv (.int i) (.int j) μ = .ok (.int (i / j)) μ := by
  show needs _ _ = _
  rw [needs_pos ⟨h, .inl h2⟩]
theorem gt_int {i j : Int} : cmpD .gt (.int i) (.int j) μ = .ok (decide (j < i)) μ := rfl
theorem lt_int {i j : Int} : cmpD .lt (.int i) (.int j) μ = .ok (decide (i < j)) μ := rfl
theorem ge_int {i j : Int} : cmpD .ge (.int i) (.int j) μ = .ok (decide (j ≤ i)) μ := rfl
theorem len_tup {l : List D} : bifD .len [.tup l] μ = .ok (nD l.length) μ := rfl
theorem len_lst {l : List D} : bifD .len [.lst l] μ = .ok (nD l.length) μ := rfl
theorem len_kl {l : List D} : bifD .len [.kl l] μ = .ok (nD l.length) μ := rfl
theorem len_ref {n : Nat} {l : List D} (h : μ[n]? = some (.lst l)) : bifD .len [.ref n] μ = .ok (nD l.length) μ := by
  show (match seqD μ (.ref n) with
    | some l => Res.ok (D.int (l.length : Int)) μ
    | none => .stuck) = _
  have : seqD μ (.ref n) = some l := by unfold seqD; simp only [h]
  rw [this]
theorem add_n {a b : Nat} : binD .add (nD a) (nD b) μ = .ok (nD (a + b)) μ := by
  show Res.ok (D.int ((a : Int) + (b : Int))) μ = _
  rw [← Int.natCast_add]
theorem sub_n {a b : Nat} (h : b ≤ a) : binD .sub (nD a) (nD b) μ = .ok (nD (a - b)) μ := by
  show Res.ok (D.int ((a : Int) - (b : Int))) μ = _
  rw [← Int.ofNat_sub h]
theorem ix_kl {l : List D} {n : Nat} {d : D} (h : l[n]? = some d) : idxA (.kl l) (.int (n : Int)) μ = .ok d μ := by
  show (match seqD μ (.kl l) with
    | some l => match atI l (n : Int) with
      | some d => Res.ok d μ
      | none => .stuck
    | none => .stuck) = _
  simp only [seqD, atI_nat, h]
theorem gd_lst {n : Nat} {l : List D} {k : D} (h : μ[n]? = some (.lst l)) : getDic μ (.ref n) k = none := by
  unfold getDic
  simp only [h]
theorem ix_ref {l : List D} {n m : Nat} {d : D} (hm : μ[m]? = some (.lst l)) (h : l[n]? = some d) : idxA (.ref m) (.int (n : Int)) μ = .ok d μ := by
  have e : seqD μ (.ref m) = some l := by unfold seqD; simp only [hm]
  unfold idxA
  rw [gd_lst hm]
  show (match seqD μ (.ref m) with
    | some l => match atI l (n : Int) with
      | some d => Res.ok d μ
      | none => .stuck
    | none => .stuck) = _
  simp only [e, atI_nat, h]
theorem atI_last {l : List D} {d : D} : atI (l ++ [d]) (-1) = some d := by
  unfold atI ixN
  rw [if_neg (by decide), if_pos (by simp; omega)]
  have e : (-1 + ((l ++ [d]).length : Int)).toNat = l.length := by simp; omega
  show (l ++ [d])[(-1 + ((l ++ [d]).length : Int)).toNat]? = some d
  rw [e]
  simp
theorem ix_last {l : List D} {m : Nat} {d : D} (hm : μ[m]? = some (.lst (l ++ [d]))) : idxA (.ref m) (.int (-1)) μ = .ok d μ := by
  have e : seqD μ (.ref m) = some (l ++ [d]) := by unfold seqD; simp only [hm]
  unfold idxA
  rw [gd_lst hm]
  show (match seqD μ (.ref m) with
    | some l => match atI l (-1) with
      | some d => Res.ok d μ
      | none => .stuck
    | none => .stuck) = _
  simp only [e, atI_last]
end
/-! ### dicts -/
section
variable {Γ : G} {ρ : Rho} {μ μ1 μ2 μ3 μ4 : Mu} {a b c o k e : E} {x y z d : D} {n : Nat}
theorem gd_dt {kvs : List (List Key × D)} {ks : List Key} (h : μ[n]? = some (.dt kvs)) (hk : keysD d = some ks) : getDic μ (.ref n) d = some (valD kvs ks) := by
  unfold getDic
  simp only [h, hk, Option.map_some]
theorem gd_dk {kvs : List (Key × D)} {ks : Key} (h : μ[n]? = some (.dk kvs)) (hk : keyD d = some ks) : getDic μ (.ref n) d = some (valD kvs ks) := by
  unfold getDic
  simp only [h, hk, Option.map_some]
theorem pd_dt {kvs : List (List Key × D)} {ks : List Key} (h : μ[n]? = some (.dt kvs)) (hk : keysD d = some ks) : putDic μ (.ref n) d x = some (kvs.length, μ.set n (.dt (putD kvs ks x))) := by
  unfold putDic
  simp only [h, hk, Option.map_some]
theorem pd_dk {kvs : List (Key × D)} {ks : Key} (h : μ[n]? = some (.dk kvs)) (hk : keyD d = some ks) : putDic μ (.ref n) d x = some (kvs.length, μ.set n (.dk (putD kvs ks x))) := by
  unfold putDic
  simp only [h, hk, Option.map_some]
theorem ix_dt {kvs : List (List Key × D)} {ks : List Key} (h : μ[n]? = some (.dt kvs)) (hk : keysD d = some ks) (hv : valD kvs ks = some x) : idxA (.ref n) d μ = .ok x μ := by
  unfold idxA
  rw [gd_dt h hk, hv]
theorem ix_dk {kvs : List (Key × D)} {ks : Key} (h : μ[n]? = some (.dk kvs)) (hk : keyD d = some ks) (hv : valD kvs ks = some x) : idxA (.ref n) d μ = .ok x μ := by
  unfold idxA
  rw [gd_dk h hk, hv]
theorem put_dt {kvs : List (List Key × D)} {ks : List Key} (h : μ[n]? = some (.dt kvs)) (hk : keysD d = some ks) (hz : kvs.length < 16777216) : putA (.ref n) d x μ = .ok () (μ.set n (.dt (putD kvs ks x))) := by
  unfold putA
  rw [pd_dt h hk]
  exact needs_pos hz
theorem notin_dt {kvs : List (List Key × D)} {ks : List Key} {l : List D} (h : μ[n]? = some (.dt kvs)) (hk : keysD (.tup l) = some ks) : cmpD .notin (.tup l) (.ref n) μ = .ok (!(valD kvs ks).isSome) μ := by
  show (match getDic μ (.ref n) (.tup l) with
    | some r => Res.ok (!r.isSome) μ
    | none => match seqD μ (.ref n) with
      | some l' => _
      | none => .stuck) = _
  rw [gd_dt h hk]
theorem ev_get2 {r : Option D} (ho : evalE Γ o ρ μ = .ok x μ1) (hd : isDic μ1 x = true) (hk : evalE Γ k ρ μ1 = .ok y μ2) (hz : evalE Γ e ρ μ2 = .ok z μ3) (h : getDicS μ3 x y = some r) : evalE Γ (.get2 o k e) ρ μ = .ok (r.getD z) μ3 := by
  rw [evalE, ho, bind_ok, needs_pos hd, hk, bind_ok, hz, bind_ok, h]
theorem st_setIx (hv : evalE Γ e ρ μ = .ok x μ1) (ho : evalE Γ o ρ μ1 = .ok y μ2) (hk : evalE Γ k ρ μ2 = .ok z μ3) (h : putA y z x μ3 = .ok () μ4) : runS Γ (.setIx o k e) ρ μ = .nx ρ μ4 := by
  rw [runS, hv, then_ok, ho, then_ok, hk, then_ok, h, then_ok]
theorem st_daug {i j : Int} (ho : evalE Γ o ρ μ = .ok x μ1) (hk : evalE Γ k ρ μ1 = .ok y μ2) (hg : getDic μ2 x y = some (some (.int i))) (he : evalE Γ e ρ μ2 = .ok (.int j) μ3) (hp : putDic μ3 x y (.int (i + j)) = some (n, μ4)) (hn : n < 16777216) : runS Γ (.daug o k .add e) ρ μ = .nx ρ μ4 := by
  rw [runS, ho, then_ok, hk, then_ok]
  simp only [hg]
  rw [he, then_ok]
  simp only [hp, hn, if_true]
theorem st_par2 {i j : Nat} (h : evalE Γ a ρ μ = .ok x μ1) (h2 : evalE Γ b ρ μ1 = .ok y μ2) : runS Γ (.par2 i j (.cons a (.cons b .nil))) ρ μ = .nx ((ρ.set i (some x)).set j (some y)) μ2 := by
  rw [runS, evalEs, h, bind_ok, evalEs, h2, bind_ok, evalEs, bind_ok, bind_ok, then_ok]
theorem ev_newL {l : List D} (h : evalE Γ e ρ μ = .ok (.lst l) μ1) (hn : μ1.length = n) : evalE Γ (.newL e) ρ μ = .ok (.ref n) (μ1 ++ [.lst l]) := by
  rw [evalE, h, bind_ok, hn]
theorem ev_dnewT (hn : μ.length = n) : evalE Γ (.dnew true) ρ μ = .ok (.ref n) (μ ++ [.dt []]) := by
  rw [evalE, hn]; rfl
theorem ev_dnewK (hn : μ.length = n) : evalE Γ (.dnew false) ρ μ = .ok (.ref n) (μ ++ [.dk []]) := by
  rw [evalE, hn]; rfl
theorem ev_disp2 {s t : Str} (ha : evalE Γ a ρ μ = .ok x μ1) (hb : evalE Γ b ρ μ1 = .ok y μ2) (hn : μ2.length = n) : evalE Γ (.disp [s, t] (.cons a (.cons b .nil))) ρ μ = .ok (.ref n) (μ2 ++ [.dk (mergeD [] [(.inr s, x), (.inr t, y)])]) := by
  rw [evalE, evalEs, ha, bind_ok, evalEs, hb, bind_ok, evalEs, bind_ok, bind_ok, bind_ok, needs_pos ⟨rfl, by show 2 ≤ 15; decide⟩, hn]
  rfl
theorem ev_revT {l : List D} (h : evalE Γ e ρ μ = .ok (.tup l) μ1) : evalE Γ (.revs e) ρ μ = .ok (.tup l.reverse) μ1 := by
  rw [evalE, h, bind_ok]; rfl
theorem ev_revL {l : List D} (h : evalE Γ e ρ μ = .ok x μ1) (hl : lstD μ1 x = some l) : evalE Γ (.revs e) ρ μ = .ok (.lst l.reverse) μ1 := by
  rw [evalE, h, bind_ok]
  unfold revD
  split
  · cases hl
  · rw [hl]
theorem lstD_ref {l : List D} (h : μ[n]? = some (.lst l)) : lstD μ (.ref n) = some l := by
  unfold lstD; simp only [h]
theorem it_down {i j : Nat} (ha : evalE Γ a ρ μ = .ok (.int i) μ1) (hb : evalE Γ b ρ μ1 = .ok (.int (-1)) μ2) (hc : evalE Γ c ρ μ2 = .ok (.int (-1)) μ3) (hi : i ≤ 1000000) (hj : j = i + 1) : evalIt Γ (.rng3 a b c) ρ μ = .ok (rngDown i j, none) μ3 := by
  subst hj
  rw [evalIt, ha, bind_ok, hb, bind_ok, hc, bind_ok]
  show needs _ _ = _
  have h1 : lim62 (-1) := by unfold lim62; exact ⟨by decide, by decide⟩
  rw [needs_pos ⟨rfl, lim_nat hi, h1⟩]
  have : ((i : Int) - -1).toNat = i + 1 := by omega
  rw [this]
theorem rngDown_cons {i j : Nat} : rngDown ((i + 1 : Nat) : Int) (j + 1) = nD (i + 1) :: rngDown (i : Nat) j := by
  unfold rngDown
  rw [List.range_succ_eq_map, List.map_cons, List.map_map]
  refine congr (congrArg List.cons ?_) ?_
  · show D.int _ = D.int _
    congr 1
  · refine List.map_congr_left fun k _ => ?_
    show D.int _ = D.int _
    congr 1
    show ((i + 1 : Nat) : Int) + ((k + 1 : Nat) : Int) * (-1) = (i : Int) + (k : Int) * (-1)
    omega
theorem it_enumT {l : List D} (h : evalE Γ e ρ μ = .ok (.tup l) μ1) : evalIt Γ (.enum e) ρ μ = .ok (enumL l, none) μ1 := by
  rw [evalIt, h, bind_ok]; rfl
/-- either way of a test -/
theorem ifs_by {t : T} {p q : B} {v : Bool} {out : Out} (h : evalT Γ t ρ μ = .ok v μ1) (h1 : v = true → runB Γ p ρ μ1 = out) (h2 : v = false → runB Γ q ρ μ1 = out) : runS Γ (.ifs t p q) ρ μ = out := by
  cases v with
  | true => exact ifs_true h (h1 rfl)
  | false => exact ifs_false h (h2 rfl)
end
/-! ### heaps with a frame -/
section
variable {μ ν : Mu} {i : Nat} {m : MO}
theorem fr_get : (μ ++ ν)[μ.length + i]? = ν[i]? := by
  rw [List.getElem?_append_right (by omega)]
  congr 1
  omega
theorem fr_set : (μ ++ ν).set (μ.length + i) m = μ ++ ν.set i m := by
  rw [List.set_append_right _ _ (by omega)]
  congr 2
  omega
theorem fr_app : (μ ++ ν) ++ [m] = μ ++ (ν ++ [m]) := List.append_assoc ..
theorem fr_len : (μ ++ ν).length = μ.length + ν.length := List.length_append
/-- objects of its own were made, and are forgotten -/
theorem fin_more {d : D} (h : PureM μ) (hd : pureD d = true) : fin μ.length d (μ ++ ν) = .ok d μ := by
  have hb := pureD.below μ.length hd
  have ht : (μ ++ ν).take μ.length = μ := List.take_left' rfl
  unfold fin
  by_cases z : (μ ++ ν).length = μ.length
  · have : ν = [] := List.length_eq_zero_iff.mp (by simp at z; exact z ▸ rfl)
    subst this
    rw [if_pos z, List.append_nil]
  · rw [if_neg z]
    cases d with
    | ref k => cases hd
    | _ =>
      simp only []
      rw [if_pos ⟨hb, by rw [ht]; exact h.all _, by simp⟩, ht]
/-- a dict of its own is handed back -/
theorem fin_dic (hm : ∀ l, ν[i]? ≠ some (.lst l)) (hi : i < ν.length) : fin μ.length (.ref (μ.length + i)) (μ ++ ν) = .ok (.ref (μ.length + i)) (μ ++ ν) := by
  have hl : ¬ (μ ++ ν).length = μ.length := fun z => by
    rw [fr_len] at z
    have : ν.length = 0 := Nat.add_left_cancel (z.trans (Nat.add_zero _).symm)
    omega
  have hk : μ.length ≤ μ.length + i := by omega
  have hb : below μ.length (.ref (μ.length + i)) = false := decide_eq_false (by omega)
  unfold fin
  rw [if_neg hl]
  simp only [fr_get, hk, if_true]
  cases e : ν[i]? with
  | none => simp only [hb, Bool.false_eq_true, false_and, if_false]
  | some mo =>
    cases mo with
    | lst l => exact absurd e (hm l)
    | _ => simp only [hb, Bool.false_eq_true, false_and, if_false]
end
/-! ### tables -/
section
variable {κ : Type} [DecidableEq κ] {kvs : List (κ × D)} {k j : κ} {d : D}
theorem valD_nil : valD ([] : List (κ × D)) k = none := rfl
theorem valD_cons {p : κ × D} : valD (p :: kvs) k = if p.1 = k then some p.2 else valD kvs k := by
  unfold valD
  rw [List.find?_cons]
  by_cases h : p.1 = k
  · simp [h]
  · simp [h]
theorem valD_app : ∀ {kvs : List (κ × D)}, valD (kvs ++ [(k, d)]) j = match valD kvs j with
    | some x => some x
    | none => if k = j then some d else none
  | [] => by rw [List.nil_append, valD_cons]; rfl
  | p :: kvs => by
    rw [List.cons_append, valD_cons, valD_cons]
    by_cases h : p.1 = j
    · rw [if_pos h, if_pos h]
    · rw [if_neg h, if_neg h, valD_app]
theorem valD_any : ∀ {kvs : List (κ × D)}, (kvs.any fun kv => decide (kv.1 = k)) = (valD kvs k).isSome
  | [] => rfl
  | p :: kvs => by
    rw [List.any_cons, valD_cons, valD_any]
    by_cases h : p.1 = k
    · simp [h]
    · simp [h]
theorem valD_map : ∀ {kvs : List (κ × D)}, valD (kvs.map fun kv => if kv.1 = k then (kv.1, d) else kv) j = if k = j then (valD kvs j).map fun _ => d else valD kvs j
  | [] => by rw [List.map_nil, valD_nil]; split <;> rfl
  | p :: kvs => by
    rw [List.map_cons, valD_cons, valD_cons, valD_map]
    by_cases h : p.1 = k
    · rw [if_pos h]
      by_cases h2 : p.1 = j
      · rw [if_pos h2, if_pos h2, if_pos (h.symm.trans h2)]; rfl
      · rw [if_neg h2, if_neg h2]
    · rw [if_neg h]
      by_cases h2 : p.1 = j
      · rw [if_pos h2, if_pos h2, if_neg (fun z => h (h2.trans z.symm))]
      · rw [if_neg h2, if_neg h2]
theorem valD_put : valD (putD kvs k d) j = if k = j then some d else valD kvs j := by
  unfold putD
  rw [valD_any]
  by_cases h : (valD kvs k).isSome = true
  · rw [if_pos h, valD_map]
    by_cases h2 : k = j
    · subst h2
      rw [if_pos rfl, if_pos rfl]
      obtain ⟨v, hv⟩ := Option.isSome_iff_exists.mp h
      rw [hv]; rfl
    · rw [if_neg h2, if_neg h2]
  · rw [if_neg h, valD_app]
    by_cases h2 : k = j
    · subst h2
      have : valD kvs k = none := by simpa using h
      rw [this, if_pos rfl]
    · rw [if_neg h2, if_neg h2]
      cases valD kvs j <;> rfl
theorem putD_len : (putD kvs k d).length ≤ kvs.length + 1 := by
  unfold putD
  split
  · rw [List.length_map]; omega
  · rw [List.length_append]; exact Nat.le_refl _
end
end PyI
/-! W1: what is read, told over the rest of the text. -/
namespace PyI.K12
open PySem L2
inductive PR (α : Type) where
  | ok (a : α) (r : List Nat)
  | er (q : Nat) (s : Str)
  | no
def PR.bind {α β : Type} (x : PR α) (f : α → List Nat → PR β) : PR β := match x with
  | .ok a r => f a r
  | .er q s => .er q s
  | .no => .no
def SIGNS : List Nat := [32, 33, 34, 35, 36, 38, 39, 40, 41, 42, 43, 44, 45, 46, 47, 48, 58, 59, 60, 61, 62, 63, 64, 65, 66, 67, 68, 69, 70, 71, 72, 73, 74, 75, 76, 77, 78, 79, 80, 81, 82, 83, 84, 85, 86, 87, 88, 89, 90, 91, 92, 93, 94, 95, 96, 97, 98, 99, 100, 101, 102, 103, 104, 105, 106, 107, 108, 109, 110, 111, 112, 113, 114, 115, 116, 117, 118, 119, 120, 121, 122, 123, 124, 125, 126]
def SPEC : List Nat := [46, 91, 93, 40, 41, 60, 62, 124, 38, 33, 42, 43, 63, 123, 125, 92]
def OPEN : List Nat := [46, 91, 60, 40, 33, 92]
def beg : List Nat → Bool
  | [] => false
  | c :: _ => decide (c ∈ OPEN) || (decide (c ∈ SIGNS) && !decide (c ∈ SPEC))
def rep : List Nat → Bool
  | [] => false
  | c :: _ => decide (c ∈ [42, 43, 63, 123])
def le1 (c : Nat) : List Nat → Bool
  | [] => false
  | d :: _ => decide (c ≤ d)
/-- the sign that is due -/
def due (c : Nat) (s : Str) : List Nat → PR Unit
  | [] => .er 0 s
  | d :: r => if d = c then .ok () r else .er (r.length + 1) s
def memF (bf : List Nat) : List Nat → PR (List Nat)
  | [] => .no
  | c :: r => if le1 c bf then .er (r.length + 1) "class" else .ok [c] r
def mem (bf : List Nat) : List Nat → PR (List Nat)
  | [] => .er 0 "class"
  | c :: r => if c = 92 then (match r with
      | [] => .er 0 "escape"
      | d :: r2 => if d ∈ [93, 94, 45, 92] then memF bf (d :: r2) else .er (r2.length + 1) "escape") else if c ∈ [93, 94, 45] ∨ c ∉ SIGNS then .er (r.length + 1) "class" else memF bf (c :: r)
abbrev sp (a b : List Nat) : D := .tup [.str (tx a), .str (tx b)]
def isC (c : Nat) : List Nat → Bool
  | [] => false
  | d :: _ => decide (d = c)
def grpL (w : Str) : Nat → List D → List Nat → List Nat → PR D
  | 0, _, _, _ => .no
  | n + 1, ds, bf, r => if isC 93 r = false ∨ ds = [] then (if ds.length = 12 then .er r.length "class" else (mem bf r).bind fun lo r1 =>
      if isC 45 r1 then (mem lo r1.tail).bind fun hi r3 => grpL w n (ds ++ [sp lo hi]) hi r3 else grpL w n (ds ++ [sp lo lo]) lo r1) else .ok (.tup [.str w, .tup ds]) r.tail
def grp (r : List Nat) : PR D := if isC 94 r then grpL "other" 20 [] [] r.tail else grpL "class" 20 [] [] r
def dig : List Nat → PR Nat
  | [] => .er 0 "repeat"
  | c :: r => if 128 ≤ c then .no else if 48 ≤ c ∧ c ≤ 57 then .ok (c - 48) r else .er (r.length + 1) "repeat"
/-- the bounds, behind their first sign c -/
def bnd (c : Nat) (r : List Nat) : PR (Bool × D × D) :=
  if c = 42 then .ok (true, .int 0, .non) r else if c = 43 then .ok (true, .int 1, .non) r else if c = 63 then .ok (true, .int 0, .int 1) r else if c = 123 then
    (dig r).bind fun lo r1 => if isC 125 r1 then (if lo = 0 then .er (r1.length + 1) "repeat" else .ok (false, nD lo, nD lo) r1.tail) else
      (due 44 "repeat" r1).bind fun _ r2 => if isC 125 r2 then .ok (false, nD lo, .non) r2.tail else
        (dig r2).bind fun hi r3 => if hi < lo ∨ hi = 0 then .er (r3.length + 1) "repeat" else (due 125 "repeat" r3).bind fun _ r4 => .ok (false, nD lo, nD hi) r4
  else .no
def mk1 (w : Str) : List D → D
  | [p] => p
  | ps => .tup [.str w, .tup ps]
abbrev Rd := List Nat → Nat → PR D
def rowL (f : Rd) (b : Nat) : Nat → List D → List Nat → PR (List D)
  | 0, _, _ => .no
  | n + 1, ps, r => if beg r then (f r b).bind fun p r1 => rowL f b n (ps ++ [p]) r1 else .ok ps r
def rowP (f : Rd) : Rd := fun r b => (f r b).bind fun p r1 => (rowL f b 70 [p] r1).bind fun ps r2 => .ok (mk1 "row" ps) r2
def sepL (c : Nat) (g : Rd) (b : Nat) : Nat → List D → List Nat → PR (List D)
  | 0, _, _ => .no
  | n + 1, ps, r => if isC c r then (g r.tail b).bind fun p r1 => sepL c g b n (ps ++ [p]) r1 else .ok ps r
def sepP (c : Nat) (w : Str) (g : Rd) : Rd := fun r b => (g r b).bind fun p r1 => (sepL c g b 70 [p] r1).bind fun ps r2 => .ok (mk1 w ps) r2
abbrev bothP (f : Rd) : Rd := sepP 38 "and" (rowP f)
abbrev choP (f : Rd) : Rd := sepP 124 "or" (bothP f)
/-- behind ( -/
def brkP (f : Rd) : Rd := fun r b => if b = 6 then .er (r.length + 1) "deep" else if isC 41 r then .ok (.tup [.str "row", .tup []]) r.tail else (choP f r (b + 1)).bind fun p r1 => if isC 41 r1 then .ok p r1.tail else .er r1.length (if r1 = [] then "bracket" else "part")
def escP : List Nat → PR D
  | [] => .er 0 "escape"
  | d :: r2 => if d ∈ SPEC then .ok (.tup [.str "sign", .str (tx [d])]) r2 else .er (r2.length + 1) "escape"
def sgl1 (f : Rd) (c : Nat) (r1 : List Nat) (b : Nat) : PR D := if c = 40 then brkP f r1 b else if c = 46 then .ok (.tup [.str "any"]) r1 else if c = 91 then grp r1 else if c = 60 then (due 116 "slot" r1).bind fun _ r2 => (due 62 "slot" r2).bind fun _ r3 => .ok (.tup [.str "slot"]) r3
    else if c = 92 then escP r1 else .ok (.tup [.str "sign", .str (tx [c])]) r1
def sgl (f : Rd) : Rd := fun r b => if beg r then (match r with
  | [] => .no
  | c :: r1 => sgl1 f c r1 b) else .er r.length "part"
/-- behind a part: its bounds -/
def bndP (p : D) : List Nat → PR D
  | [] => .no
  | c :: r2 => (bnd c r2).bind fun q r3 => if rep r3 then .er r3.length "repeat" else .ok (.tup [.str "times", p, q.2.1, q.2.2]) r3
def denF (g f : Rd) : Rd := fun r b => if isC 33 r then (g r.tail b).bind fun p r1 => .ok (.tup [.str "not", p]) r1 else (sgl f r b).bind fun p r1 => if rep r1 then bndP p r1 else .ok p r1
def den : Nat → Rd
  | n + 6 => denF (den (n + 5)) (den n)
  | _ => fun _ _ => .no
def whl (n : Nat) (r : List Nat) : PR D := (choP (den n) r 0).bind fun p r1 => if isC 41 r1 then .er r1.length "bracket" else if r1 = [] then .ok p [] else .er r1.length "part"
def erOf : PR D → Option (Nat × Str)
  | .er q s => some (q, s)
  | _ => none
end PyI.K12
/-! the defs of sensekept_k12_rules_wrong_texts; printed by gen.py -/
namespace PyI.K12
open PySem L2
def top (i : Nat) : Stmt := PySem.Challenge.pw_sensekept_k12_rules_wrong_texts.main.body.getD i (.Pass ⟨0, 0, 0, 0⟩)
def meth (i j : Nat) : Stmt := match top i with | .ClassDef _ _ _ b _ _ _ _ _ _ _ => b.getD j (.Pass ⟨0, 0, 0, 0⟩) | _ => .Pass ⟨0, 0, 0, 0⟩
def tb : Tb := ⟨("is_leaf", 1) :: ("parts_in", 1) :: ("deep_of", 1) :: ("read_pattern", 1) :: ("escaped", 2) :: ("spans_text", 1) :: ("leaf_text", 1) :: ("repeat_text", 2) :: ("part_written", 2) :: ("written", 1) :: ("write_pattern", 1) :: ("_law_cell", 2) :: ("_law_digits", 3) :: ("_law_draw", 2) :: ("_law_pick", 2) :: ("_law_like", 2) :: ("_law_table", 0) :: ("_law_good", 0) :: ("_law_told", 1) :: ("law", 1) :: ("Reader.__init__", 2) :: ("Reader.sign", 1) :: ("Reader.refuse", 2) :: ("Reader.whole", 1) :: ("Reader.choice", 1) :: ("Reader.both", 1) :: ("Reader.row", 1) :: ("Reader.begins", 1) :: ("Reader.denied", 1) :: ("Reader.repeats", 1) :: ("Reader.bounds", 1) :: ("Reader.digit", 1) :: ("Reader.due", 3) :: ("Reader.single", 1) :: ("Reader.bracket", 1) :: ("Reader.group", 1) :: ("Reader.member", 2) :: [], ["SIGNS", "SPECIAL", "OPENING", "MOST_BRACKETS", "MOST_SPANS", "MOST_SIGNS", "MOST_DEEP"], ["REPEATS"], [("BadText", ["reason", "place"])], [(0, "SenseError", true), (0, "ValueError", true), (0, "BadRules", false), (0, "BadPlain", false)], [⟨100, "Reader", ["signs", "at", "brackets"], "Reader.__init__"⟩], [("Reader.__init__", 100, "__init__"), ("Reader.sign", 100, "sign"), ("Reader.refuse", 100, "refuse"), ("Reader.whole", 100, "whole"), ("Reader.choice", 100, "choice"), ("Reader.both", 100, "both"), ("Reader.row", 100, "row"), ("Reader.begins", 100, "begins"), ("Reader.denied", 100, "denied"), ("Reader.repeats", 100, "repeats"), ("Reader.bounds", 100, "bounds"), ("Reader.digit", 100, "digit"), ("Reader.due", 100, "due"), ("Reader.single", 100, "single"), ("Reader.bracket", 100, "bracket"), ("Reader.group", 100, "group"), ("Reader.member", 100, "member")]⟩
def con : Nat → Option D
  | 0 => some (.str " !\"#$&'()*+,-./0:;<=>?@ABCDEFGHIJKLMNOPQRSTUVWXYZ[\\]^_`abcdefghijklmnopqrstuvwxyz{|}~")
  | 1 => some (.str ".[]()<>|&!*+?{}\\")
  | 2 => some (.str ".[<(!\\")
  | 3 => some (.int 6)
  | 4 => some (.int 12)
  | 5 => some (.int 60)
  | 6 => some (.int 12)
  | _ => none
def dic : Nat → List (Str × D)
  | 0 => [("*", (.kt [(.int 0), .non])), ("+", (.kt [(.int 1), .non])), ("?", (.kt [(.int 0), (.int 1)]))]
  | _ => []
def b_is_leaf : B := (.cons (.ret (.cmp .in_ (.idx (.var 0) (.cst (.int 0))) (.tup (.cons (.cst (.str "sign")) (.cons (.cst (.str "any")) (.cons (.cst (.str "slot")) (.cons (.cst (.str "class")) (.cons (.cst (.str "other")) .nil))))))))
    .nil)
def f_is_leaf : FnD := ⟨"is_leaf", ["pattern"], ["pattern"], top 2, [], false, b_is_leaf, []⟩
theorem r_is_leaf : resB 80 ⟨⟨f_is_leaf.N, tb⟩, defScope f_is_leaf.st, locOf (defScope f_is_leaf.st), f_is_leaf.muts, f_is_leaf.τ, f_is_leaf.tdk⟩ (defBody f_is_leaf.st) = some b_is_leaf := by kernel_rfl
theorem o_is_leaf : f_is_leaf.Ok tb := ⟨r_is_leaf, ⟨rfl, rfl, rfl, by decide +kernel, rfl, by decide +kernel, by decide +kernel⟩, fun h => nomatch h⟩
def b_parts_in : B := (.cons (.ret (.ite (.val (.cmp .in_ (.idx (.var 0) (.cst (.int 0))) (.tup (.cons (.cst (.str "row")) (.cons (.cst (.str "and")) (.cons (.cst (.str "or")) .nil)))))) (.idx (.var 0) (.cst (.int 1))) (.tup (.cons (.idx (.var 0) (.cst (.int 1))) .nil))))
    .nil)
def f_parts_in : FnD := ⟨"parts_in", ["pattern"], ["pattern"], top 3, [], false, b_parts_in, []⟩
theorem r_parts_in : resB 80 ⟨⟨f_parts_in.N, tb⟩, defScope f_parts_in.st, locOf (defScope f_parts_in.st), f_parts_in.muts, f_parts_in.τ, f_parts_in.tdk⟩ (defBody f_parts_in.st) = some b_parts_in := by kernel_rfl
theorem o_parts_in : f_parts_in.Ok tb := ⟨r_parts_in, ⟨rfl, rfl, rfl, by decide +kernel, rfl, by decide +kernel, by decide +kernel⟩, fun h => nomatch h⟩
def b_deep_of : B := (.cons (.ifs (.val (.call 0 (.cons (.var 0) .nil))) (.cons (.ret (.cst (.int 1)))
    .nil) .nil)
    (.cons (.ret (.bin .add (.cst (.int 1)) (.maxd (.comp [1] (.nm 1) (.seq (.call 1 (.cons (.var 0) .nil))) .yes (.call 2 (.cons (.var 1) .nil))) (.cst (.int 0)))))
    .nil))
def f_deep_of : FnD := ⟨"deep_of", ["pattern"], ["pattern", "part"], top 19, [], false, b_deep_of, []⟩
theorem r_deep_of : resB 80 ⟨⟨f_deep_of.N, tb⟩, defScope f_deep_of.st, locOf (defScope f_deep_of.st), f_deep_of.muts, f_deep_of.τ, f_deep_of.tdk⟩ (defBody f_deep_of.st) = some b_deep_of := by kernel_rfl
theorem o_deep_of : f_deep_of.Ok tb := ⟨r_deep_of, ⟨rfl, rfl, rfl, by decide +kernel, rfl, by decide +kernel, by decide +kernel⟩, fun h => nomatch h⟩
def b_read_pattern : B := (.cons (.ifs (.val (.cmp .gt (.bif .len (.cons (.var 0) .nil)) (.glob 5))) (.cons (.rse 0 2 (.cons (.cst (.int 0)) (.cons (.cst (.str "long")) .nil)))
    .nil) .nil)
    (.cons (.set (.nm 1) (.mcl 23 100 "whole" (.mk 20 100 (.cons (.var 0) .nil)) .nil))
    (.cons (.ifs (.val (.cmp .gt (.call 2 (.cons (.var 1) .nil)) (.glob 6))) (.cons (.rse 0 2 (.cons (.cst (.int 0)) (.cons (.cst (.str "deep")) .nil)))
    .nil) .nil)
    (.cons (.ret (.var 1))
    .nil))))
def f_read_pattern : FnD := ⟨"read_pattern", ["text"], ["text", "pattern"], top 20, [], false, b_read_pattern, []⟩
theorem r_read_pattern : resB 80 ⟨⟨f_read_pattern.N, tb⟩, defScope f_read_pattern.st, locOf (defScope f_read_pattern.st), f_read_pattern.muts, f_read_pattern.τ, f_read_pattern.tdk⟩ (defBody f_read_pattern.st) = some b_read_pattern := by kernel_rfl
theorem o_read_pattern : f_read_pattern.Ok tb := ⟨r_read_pattern, ⟨rfl, rfl, rfl, by decide +kernel, rfl, by decide +kernel, by decide +kernel⟩, fun h => nomatch h⟩
def b_escaped : B := (.cons (.ret (.ite (.val (.cmp .in_ (.var 0) (.var 1))) (.bin .add (.cst (.str "\\")) (.var 0)) (.var 0)))
    .nil)
def f_escaped : FnD := ⟨"escaped", ["sign", "signs"], ["sign", "signs"], top 21, [], false, b_escaped, []⟩
theorem r_escaped : resB 80 ⟨⟨f_escaped.N, tb⟩, defScope f_escaped.st, locOf (defScope f_escaped.st), f_escaped.muts, f_escaped.τ, f_escaped.tdk⟩ (defBody f_escaped.st) = some b_escaped := by kernel_rfl
theorem o_escaped : f_escaped.Ok tb := ⟨r_escaped, ⟨rfl, rfl, rfl, by decide +kernel, rfl, by decide +kernel, by decide +kernel⟩, fun h => nomatch h⟩
def b_spans_text : B := (.cons (.new 1 (.lst .nil))
    (.cons (.for_ (.tp [2, 3]) (.seq (.var 0)) (.cons (.expr (.met .append (.var 1) (.cons (.call 4 (.cons (.var 2) (.cons (.cst (.str "]^-\\")) .nil))) .nil)))
    (.cons (.ifs (.val (.cmp .ne (.var 3) (.var 2))) (.cons (.expr (.met .append (.var 1) (.cons (.bin .add (.cst (.str "-")) (.call 4 (.cons (.var 3) (.cons (.cst (.str "]^-\\")) .nil)))) .nil)))
    .nil) .nil)
    .nil)))
    (.cons (.ret (.met .join (.cst (.str "")) (.cons (.var 1) .nil)))
    .nil)))
def f_spans_text : FnD := ⟨"spans_text", ["spans"], ["spans", "told", "low", "last"], top 22, ["told"], false, b_spans_text, []⟩
theorem r_spans_text : resB 80 ⟨⟨f_spans_text.N, tb⟩, defScope f_spans_text.st, locOf (defScope f_spans_text.st), f_spans_text.muts, f_spans_text.τ, f_spans_text.tdk⟩ (defBody f_spans_text.st) = some b_spans_text := by kernel_rfl
theorem o_spans_text : f_spans_text.Ok tb := ⟨r_spans_text, ⟨rfl, rfl, rfl, by decide +kernel, rfl, by decide +kernel, by decide +kernel⟩, fun h => nomatch h⟩
def b_leaf_text : B := (.cons (.ifs (.val (.cmp .eq (.idx (.var 0) (.cst (.int 0))) (.cst (.str "sign")))) (.cons (.ret (.call 4 (.cons (.idx (.var 0) (.cst (.int 1))) (.cons (.glob 1) .nil))))
    .nil) .nil)
    (.cons (.ifs (.val (.cmp .eq (.idx (.var 0) (.cst (.int 0))) (.cst (.str "any")))) (.cons (.ret (.cst (.str ".")))
    .nil) .nil)
    (.cons (.ifs (.val (.cmp .eq (.idx (.var 0) (.cst (.int 0))) (.cst (.str "slot")))) (.cons (.ret (.cst (.str "<t>")))
    .nil) .nil)
    (.cons (.ret (.bin .add (.bin .add (.ite (.val (.cmp .eq (.idx (.var 0) (.cst (.int 0))) (.cst (.str "class")))) (.cst (.str "[")) (.cst (.str "[^"))) (.call 5 (.cons (.idx (.var 0) (.cst (.int 1))) .nil))) (.cst (.str "]"))))
    .nil))))
def f_leaf_text : FnD := ⟨"leaf_text", ["pattern"], ["pattern"], top 23, [], false, b_leaf_text, []⟩
theorem r_leaf_text : resB 80 ⟨⟨f_leaf_text.N, tb⟩, defScope f_leaf_text.st, locOf (defScope f_leaf_text.st), f_leaf_text.muts, f_leaf_text.τ, f_leaf_text.tdk⟩ (defBody f_leaf_text.st) = some b_leaf_text := by kernel_rfl
theorem o_leaf_text : f_leaf_text.Ok tb := ⟨r_leaf_text, ⟨rfl, rfl, rfl, by decide +kernel, rfl, by decide +kernel, by decide +kernel⟩, fun h => nomatch h⟩
def b_repeat_text : B := (.cons (.ifs (.val (.cmp .is_ (.var 1) (.cst .non))) (.cons (.ret (.ite (.val (.cmp .eq (.var 0) (.cst (.int 0)))) (.cst (.str "*")) (.ite (.val (.cmp .eq (.var 0) (.cst (.int 1)))) (.cst (.str "+")) (.fs (.cons (.cst (.str "{")) (.cons (.fmt (.var 0)) (.cons (.cst (.str ",}")) .nil)))))))
    .nil) .nil)
    (.cons (.ifs (.val (.cmp .eq (.tup (.cons (.var 0) (.cons (.var 1) .nil))) (.tup (.cons (.cst (.int 0)) (.cons (.cst (.int 1)) .nil))))) (.cons (.ret (.cst (.str "?")))
    .nil) .nil)
    (.cons (.ret (.ite (.val (.cmp .eq (.var 0) (.var 1))) (.fs (.cons (.cst (.str "{")) (.cons (.fmt (.var 0)) (.cons (.cst (.str "}")) .nil)))) (.fs (.cons (.cst (.str "{")) (.cons (.fmt (.var 0)) (.cons (.cst (.str ",")) (.cons (.fmt (.var 1)) (.cons (.cst (.str "}")) .nil))))))))
    .nil)))
def f_repeat_text : FnD := ⟨"repeat_text", ["low", "high"], ["low", "high"], top 24, [], false, b_repeat_text, []⟩
theorem r_repeat_text : resB 80 ⟨⟨f_repeat_text.N, tb⟩, defScope f_repeat_text.st, locOf (defScope f_repeat_text.st), f_repeat_text.muts, f_repeat_text.τ, f_repeat_text.tdk⟩ (defBody f_repeat_text.st) = some b_repeat_text := by kernel_rfl
theorem o_repeat_text : f_repeat_text.Ok tb := ⟨r_repeat_text, ⟨rfl, rfl, rfl, by decide +kernel, rfl, by decide +kernel, by decide +kernel⟩, fun h => nomatch h⟩
def b_part_written : B := (.cons (.set (.tp [2, 3]) (.call 9 (.cons (.var 0) .nil)))
    (.cons (.ifs (.and (.val (.cmp .in_ (.idx (.var 0) (.cst (.int 0))) (.var 1))) (.val (.cmp .ne (.var 0) (.tup (.cons (.cst (.str "row")) (.cons (.tup .nil) .nil)))))) (.cons (.ret (.tup (.cons (.bin .add (.bin .add (.cst (.str "(")) (.var 2)) (.cst (.str ")"))) (.cons (.bin .add (.var 3) (.cst (.int 1))) .nil))))
    .nil) .nil)
    (.cons (.ret (.tup (.cons (.var 2) (.cons (.var 3) .nil))))
    .nil)))
def f_part_written : FnD := ⟨"part_written", ["pattern", "words"], ["pattern", "words", "text", "brackets"], top 25, [], false, b_part_written, []⟩
theorem r_part_written : resB 80 ⟨⟨f_part_written.N, tb⟩, defScope f_part_written.st, locOf (defScope f_part_written.st), f_part_written.muts, f_part_written.τ, f_part_written.tdk⟩ (defBody f_part_written.st) = some b_part_written := by kernel_rfl
theorem o_part_written : f_part_written.Ok tb := ⟨r_part_written, ⟨rfl, rfl, rfl, by decide +kernel, rfl, by decide +kernel, by decide +kernel⟩, fun h => nomatch h⟩
def b_written : B := (.cons (.set (.nm 1) (.idx (.var 0) (.cst (.int 0))))
    (.cons (.ifs (.val (.call 0 (.cons (.var 0) .nil))) (.cons (.ret (.tup (.cons (.call 6 (.cons (.var 0) .nil)) (.cons (.cst (.int 0)) .nil))))
    .nil) .nil)
    (.cons (.ifs (.val (.cmp .eq (.var 0) (.tup (.cons (.cst (.str "row")) (.cons (.tup .nil) .nil))))) (.cons (.ret (.tup (.cons (.cst (.str "()")) (.cons (.cst (.int 1)) .nil))))
    .nil) .nil)
    (.cons (.ifs (.val (.cmp .eq (.var 1) (.cst (.str "not")))) (.cons (.set (.tp [2, 3]) (.call 8 (.cons (.idx (.var 0) (.cst (.int 1))) (.cons (.tup (.cons (.cst (.str "row")) (.cons (.cst (.str "and")) (.cons (.cst (.str "or")) .nil)))) .nil))))
    (.cons (.ret (.tup (.cons (.bin .add (.cst (.str "!")) (.var 2)) (.cons (.var 3) .nil))))
    .nil)) .nil)
    (.cons (.ifs (.val (.cmp .eq (.var 1) (.cst (.str "times")))) (.cons (.set (.tp [2, 3]) (.call 8 (.cons (.idx (.var 0) (.cst (.int 1))) (.cons (.tup (.cons (.cst (.str "row")) (.cons (.cst (.str "and")) (.cons (.cst (.str "or")) (.cons (.cst (.str "not")) (.cons (.cst (.str "times")) .nil)))))) .nil))))
    (.cons (.ret (.tup (.cons (.bin .add (.var 2) (.call 7 (.cons (.idx (.var 0) (.cst (.int 2))) (.cons (.idx (.var 0) (.cst (.int 3))) .nil)))) (.cons (.var 3) .nil))))
    .nil)) .nil)
    (.cons (.set (.nm 4) (.tup (.cons (.cst (.str "or")) .nil)))
    (.cons (.ifs (.val (.cmp .ne (.var 1) (.cst (.str "or")))) (.cons (.set (.nm 4) (.ite (.val (.cmp .eq (.var 1) (.cst (.str "and")))) (.tup (.cons (.cst (.str "and")) (.cons (.cst (.str "or")) .nil))) (.tup (.cons (.cst (.str "and")) (.cons (.cst (.str "or")) (.cons (.cst (.str "row")) .nil))))))
    .nil) .nil)
    (.cons (.set (.nm 5) (.comp [7] (.nm 7) (.seq (.idx (.var 0) (.cst (.int 1)))) .yes (.call 8 (.cons (.var 7) (.cons (.var 4) .nil)))))
    (.cons (.set (.nm 6) (.ite (.val (.cmp .eq (.var 1) (.cst (.str "row")))) (.cst (.str "")) (.ite (.val (.cmp .eq (.var 1) (.cst (.str "and")))) (.cst (.str "&")) (.cst (.str "|")))))
    (.cons (.set (.nm 2) (.met .join (.var 6) (.cons (.comp [8, 3] (.tp [8, 3]) (.seq (.var 5)) .yes (.var 8)) .nil)))
    (.cons (.ret (.tup (.cons (.var 2) (.cons (.bif .max (.cons (.comp [8, 3] (.tp [8, 3]) (.seq (.var 5)) .yes (.var 3)) .nil)) .nil))))
    .nil)))))))))))
def f_written : FnD := ⟨"written", ["pattern"], ["pattern", "word", "text", "brackets", "inner", "parts", "between", "part", "told"], top 26, [], false, b_written, []⟩
theorem r_written : resB 80 ⟨⟨f_written.N, tb⟩, defScope f_written.st, locOf (defScope f_written.st), f_written.muts, f_written.τ, f_written.tdk⟩ (defBody f_written.st) = some b_written := by kernel_rfl
theorem o_written : f_written.Ok tb := ⟨r_written, ⟨rfl, rfl, rfl, by decide +kernel, rfl, by decide +kernel, by decide +kernel⟩, fun h => nomatch h⟩
def b_write_pattern : B := (.cons (.ret (.idx (.call 9 (.cons (.var 0) .nil)) (.cst (.int 0))))
    .nil)
def f_write_pattern : FnD := ⟨"write_pattern", ["pattern"], ["pattern"], top 27, [], false, b_write_pattern, []⟩
theorem r_write_pattern : resB 80 ⟨⟨f_write_pattern.N, tb⟩, defScope f_write_pattern.st, locOf (defScope f_write_pattern.st), f_write_pattern.muts, f_write_pattern.τ, f_write_pattern.tdk⟩ (defBody f_write_pattern.st) = some b_write_pattern := by kernel_rfl
theorem o_write_pattern : f_write_pattern.Ok tb := ⟨r_write_pattern, ⟨rfl, rfl, rfl, by decide +kernel, rfl, by decide +kernel, by decide +kernel⟩, fun h => nomatch h⟩
def b_law_cell : B := (.cons (.ifs (.val (.cmp .lt (.var 1) (.bif .len (.cons (.var 0) .nil)))) (.cons (.ret (.idx (.var 0) (.var 1)))
    .nil) .nil)
    (.cons (.ret (.cst (.int 0)))
    .nil))
def f_law_cell : FnD := ⟨"_law_cell", ["script", "k"], ["script", "k"], top 29, [], false, b_law_cell, []⟩
theorem r_law_cell : resB 80 ⟨⟨f_law_cell.N, tb⟩, defScope f_law_cell.st, locOf (defScope f_law_cell.st), f_law_cell.muts, f_law_cell.τ, f_law_cell.tdk⟩ (defBody f_law_cell.st) = some b_law_cell := by kernel_rfl
theorem o_law_cell : f_law_cell.Ok tb := ⟨r_law_cell, ⟨rfl, rfl, rfl, by decide +kernel, rfl, by decide +kernel, by decide +kernel⟩, fun h => nomatch h⟩
def b_law_digits : B := (.cons (.new 3 (.lst .nil))
    (.cons (.for_ (.nm 4) (.rng2 (.var 1) (.var 2)) (.cons (.set (.nm 5) (.call 11 (.cons (.var 0) (.cons (.var 4) .nil))))
    (.cons (.ifs (.val (.cmp .lt (.var 5) (.cst (.int 0)))) (.cons (.set (.nm 5) (.bin .sub (.cst (.int 1)) (.bin .mul (.cst (.int 2)) (.var 5))))
    .nil) .nil)
    (.cons (.ifs (.val (.cmp .gt (.bif .len (.cons (.var 3) .nil)) (.cst (.int 1500)))) (.cons .brk
    .nil) .nil)
    (.cons (.ifs (.val (.cmp .ge (.var 5) (.bin .pow (.cst (.int 10)) (.cst (.int 18))))) (.cons (.for_ (.nm 6) (.rng1 (.cst (.int 60))) (.cons (.ifs (.val (.cmp .gt (.var 5) (.cst (.int 0)))) (.cons (.expr (.met .append (.var 3) (.cons (.bin .mod (.bif .int (.cons (.var 5) .nil)) (.cst (.int 1000))) .nil)))
    (.cons (.set (.nm 5) (.bin .fdiv (.var 5) (.cst (.int 1000))))
    .nil)) .nil)
    .nil))
    .nil) (.cons (.set (.nm 7) (.bin .mod (.bif .int (.cons (.bin .add (.bin .add (.bin .mul (.var 5) (.cst (.int 48271))) (.bin .mul (.var 4) (.cst (.int 69621)))) (.cst (.int 11))) .nil)) (.cst (.int 2147483647))))
    (.cons (.for_ (.nm 6) (.rng1 (.cst (.int 12))) (.cons (.set (.nm 7) (.bin .mod (.bif .int (.cons (.bin .add (.bin .add (.bin .mul (.var 7) (.cst (.int 16807))) (.bin .mul (.cst (.int 7)) (.var 6))) (.cst (.int 1))) .nil)) (.cst (.int 2147483647))))
    (.cons (.expr (.met .append (.var 3) (.cons (.bin .mod (.bif .int (.cons (.bin .fdiv (.var 7) (.cst (.int 997))) .nil)) (.cst (.int 1000))) .nil)))
    .nil)))
    .nil)))
    .nil)))))
    (.cons (.ret (.var 3))
    .nil)))
def f_law_digits : FnD := ⟨"_law_digits", ["script", "first", "last"], ["script", "first", "last", "digits", "k", "cell", "turn", "seed"], top 30, ["digits"], false, b_law_digits, []⟩
theorem r_law_digits : resB 80 ⟨⟨f_law_digits.N, tb⟩, defScope f_law_digits.st, locOf (defScope f_law_digits.st), f_law_digits.muts, f_law_digits.τ, f_law_digits.tdk⟩ (defBody f_law_digits.st) = some b_law_digits := by kernel_rfl
theorem o_law_digits : f_law_digits.Ok tb := ⟨r_law_digits, ⟨rfl, rfl, rfl, by decide +kernel, rfl, by decide +kernel, by decide +kernel⟩, fun h => nomatch h⟩
def b_law_draw : B := (.cons (.set (.nm 2) (.idx (.var 0) (.cst (.int 1))))
    (.cons (.setIx (.var 0) (.cst (.int 1)) (.bin .add (.var 2) (.cst (.int 1))))
    (.cons (.ifs (.val (.cmp .lt (.var 2) (.bif .len (.cons (.idx (.var 0) (.cst (.int 0))) .nil)))) (.cons (.ret (.bin .mod (.bif .int (.cons (.idx (.idx (.var 0) (.cst (.int 0))) (.var 2)) .nil)) (.var 1)))
    .nil) .nil)
    (.cons (.ret (.bin .mod (.bif .int (.cons (.bin .mul (.var 2) (.cst (.int 7))) .nil)) (.var 1)))
    .nil))))
def f_law_draw : FnD := ⟨"_law_draw", ["box", "many"], ["box", "many", "at"], top 31, ["box"], false, b_law_draw, []⟩
theorem r_law_draw : resB 80 ⟨⟨f_law_draw.N, tb⟩, defScope f_law_draw.st, locOf (defScope f_law_draw.st), f_law_draw.muts, f_law_draw.τ, f_law_draw.tdk⟩ (defBody f_law_draw.st) = some b_law_draw := by kernel_rfl
theorem o_law_draw : f_law_draw.Ok tb := ⟨r_law_draw, ⟨rfl, rfl, rfl, by decide +kernel, rfl, by decide +kernel, by decide +kernel⟩, fun h => nomatch h⟩
def b_law_pick : B := (.cons (.ret (.idx (.var 1) (.bin .mod (.bif .int (.cons (.call 13 (.cons (.var 0) (.cons (.cst (.int 900)) .nil))) .nil)) (.bif .len (.cons (.var 1) .nil)))))
    .nil)
def f_law_pick : FnD := ⟨"_law_pick", ["box", "things"], ["box", "things"], top 32, [], false, b_law_pick, []⟩
theorem r_law_pick : resB 80 ⟨⟨f_law_pick.N, tb⟩, defScope f_law_pick.st, locOf (defScope f_law_pick.st), f_law_pick.muts, f_law_pick.τ, f_law_pick.tdk⟩ (defBody f_law_pick.st) = some b_law_pick := by kernel_rfl
theorem o_law_pick : f_law_pick.Ok tb := ⟨r_law_pick, ⟨rfl, rfl, rfl, by decide +kernel, rfl, by decide +kernel, by decide +kernel⟩, fun h => nomatch h⟩
def b_law_like : B := (.cons (.ifs (.val (.isi (.var 1) .tuple)) (.cons (.ifs (.or (.not (.val (.isi (.var 0) .tuple))) (.val (.cmp .ne (.bif .len (.cons (.var 0) .nil)) (.bif .len (.cons (.var 1) .nil))))) (.cons (.ret (.cst (.bl false)))
    .nil) .nil)
    (.cons (.ret (.cmp .eq (.comp [2] (.nm 2) (.rng1 (.bif .len (.cons (.var 1) .nil))) (.not (.val (.call 15 (.cons (.idx (.var 0) (.var 2)) (.cons (.idx (.var 1) (.var 2)) .nil))))) (.cst (.int 1))) (.lst .nil)))
    .nil)) .nil)
    (.cons (.ifs (.val (.cmp .is_ (.var 1) (.cst .non))) (.cons (.ret (.cmp .is_ (.var 0) (.cst .non)))
    .nil) .nil)
    (.cons (.ifs (.val (.cmp .is_ (.var 1) (.cst (.bl true)))) (.cons (.ret (.cmp .is_ (.var 0) (.cst (.bl true))))
    .nil) .nil)
    (.cons (.ifs (.val (.cmp .is_ (.var 1) (.cst (.bl false)))) (.cons (.ret (.cmp .is_ (.var 0) (.cst (.bl false))))
    .nil) .nil)
    (.cons (.ifs (.val (.isi (.var 1) .str)) (.cons (.ret (.and (.isi (.var 0) .str) (.cmp .eq (.met .join (.cst (.str "")) (.cons (.lst (.cons (.var 0) .nil)) .nil)) (.var 1))))
    .nil) .nil)
    (.cons (.ret (.and (.isi (.var 0) .int) (.and (.notv (.val (.isi (.var 0) .bool))) (.cmp .eq (.var 0) (.var 1)))))
    .nil))))))
def f_law_like : FnD := ⟨"_law_like", ["told", "due"], ["told", "due", "k"], top 33, [], false, b_law_like, []⟩
theorem r_law_like : resB 80 ⟨⟨f_law_like.N, tb⟩, defScope f_law_like.st, locOf (defScope f_law_like.st), f_law_like.muts, f_law_like.τ, f_law_like.tdk⟩ (defBody f_law_like.st) = some b_law_like := by kernel_rfl
theorem o_law_like : f_law_like.Ok tb := ⟨r_law_like, ⟨rfl, rfl, rfl, by decide +kernel, rfl, by decide +kernel, by decide +kernel⟩, fun h => nomatch h⟩
def b_law_table : B := (.cons (.set (.nm 0) (.lst (.cons (.tup (.cons (.cst (.str "")) (.cons (.cst (.int 1)) (.cons (.cst (.str "part")) .nil)))) (.cons (.tup (.cons (.cst (.str "a|")) (.cons (.cst (.int 3)) (.cons (.cst (.str "part")) .nil)))) (.cons (.tup (.cons (.cst (.str "|a")) (.cons (.cst (.int 1)) (.cons (.cst (.str "part")) .nil)))) (.cons (.tup (.cons (.cst (.str "*a")) (.cons (.cst (.int 1)) (.cons (.cst (.str "part")) .nil)))) (.cons (.tup (.cons (.cst (.str "a]")) (.cons (.cst (.int 2)) (.cons (.cst (.str "part")) .nil)))) (.cons (.tup (.cons (.cst (.str "a5")) (.cons (.cst (.int 2)) (.cons (.cst (.str "part")) .nil)))) (.cons (.tup (.cons (.cst (.str "a}")) (.cons (.cst (.int 2)) (.cons (.cst (.str "part")) .nil)))) .nil)))))))))
    (.cons (.set (.nm 0) (.bin .add (.var 0) (.lst (.cons (.tup (.cons (.cst (.str ">a")) (.cons (.cst (.int 1)) (.cons (.cst (.str "part")) .nil)))) (.cons (.tup (.cons (.cst (.str "a&")) (.cons (.cst (.int 3)) (.cons (.cst (.str "part")) .nil)))) (.cons (.tup (.cons (.cst (.str "!")) (.cons (.cst (.int 2)) (.cons (.cst (.str "part")) .nil)))) (.cons (.tup (.cons (.cst (.str "a&|b")) (.cons (.cst (.int 3)) (.cons (.cst (.str "part")) .nil)))) .nil)))))))
    (.cons (.set (.nm 0) (.bin .add (.var 0) (.lst (.cons (.tup (.cons (.cst (.str "a\\q")) (.cons (.cst (.int 3)) (.cons (.cst (.str "escape")) .nil)))) (.cons (.tup (.cons (.cst (.str "\\")) (.cons (.cst (.int 2)) (.cons (.cst (.str "escape")) .nil)))) (.cons (.tup (.cons (.cst (.str "\\0")) (.cons (.cst (.int 2)) (.cons (.cst (.str "escape")) .nil)))) (.cons (.tup (.cons (.cst (.str "<x>")) (.cons (.cst (.int 2)) (.cons (.cst (.str "slot")) .nil)))) (.cons (.tup (.cons (.cst (.str "a<t")) (.cons (.cst (.int 4)) (.cons (.cst (.str "slot")) .nil)))) (.cons (.tup (.cons (.cst (.str "<tt>")) (.cons (.cst (.int 3)) (.cons (.cst (.str "slot")) .nil)))) (.cons (.tup (.cons (.cst (.str "<")) (.cons (.cst (.int 2)) (.cons (.cst (.str "slot")) .nil)))) .nil))))))))))
    (.cons (.set (.nm 0) (.bin .add (.var 0) (.lst (.cons (.tup (.cons (.cst (.str "[")) (.cons (.cst (.int 2)) (.cons (.cst (.str "class")) .nil)))) (.cons (.tup (.cons (.cst (.str "[]")) (.cons (.cst (.int 2)) (.cons (.cst (.str "class")) .nil)))) (.cons (.tup (.cons (.cst (.str "[^]")) (.cons (.cst (.int 3)) (.cons (.cst (.str "class")) .nil)))) (.cons (.tup (.cons (.cst (.str "[b-a]")) (.cons (.cst (.int 4)) (.cons (.cst (.str "class")) .nil)))) (.cons (.tup (.cons (.cst (.str "[ba]")) (.cons (.cst (.int 3)) (.cons (.cst (.str "class")) .nil)))) (.cons (.tup (.cons (.cst (.str "[a-cb]")) (.cons (.cst (.int 5)) (.cons (.cst (.str "class")) .nil)))) .nil)))))))))
    (.cons (.set (.nm 0) (.bin .add (.var 0) (.lst (.cons (.tup (.cons (.cst (.str "[1]")) (.cons (.cst (.int 2)) (.cons (.cst (.str "class")) .nil)))) (.cons (.tup (.cons (.cst (.str "[a")) (.cons (.cst (.int 3)) (.cons (.cst (.str "class")) .nil)))) (.cons (.tup (.cons (.cst (.str "[a-]")) (.cons (.cst (.int 4)) (.cons (.cst (.str "class")) .nil)))) (.cons (.tup (.cons (.cst (.str "[a-a]")) (.cons (.cst (.int 4)) (.cons (.cst (.str "class")) .nil)))) (.cons (.tup (.cons (.cst (.str "[abcdefghijklm]")) (.cons (.cst (.int 14)) (.cons (.cst (.str "class")) .nil)))) .nil))))))))
    (.cons (.set (.nm 0) (.bin .add (.var 0) (.lst (.cons (.tup (.cons (.cst (.str "a**")) (.cons (.cst (.int 3)) (.cons (.cst (.str "repeat")) .nil)))) (.cons (.tup (.cons (.cst (.str "a{")) (.cons (.cst (.int 3)) (.cons (.cst (.str "repeat")) .nil)))) (.cons (.tup (.cons (.cst (.str "a{x")) (.cons (.cst (.int 3)) (.cons (.cst (.str "repeat")) .nil)))) (.cons (.tup (.cons (.cst (.str "a{2")) (.cons (.cst (.int 4)) (.cons (.cst (.str "repeat")) .nil)))) (.cons (.tup (.cons (.cst (.str "a{2x")) (.cons (.cst (.int 4)) (.cons (.cst (.str "repeat")) .nil)))) .nil))))))))
    (.cons (.set (.nm 0) (.bin .add (.var 0) (.lst (.cons (.tup (.cons (.cst (.str "a{3,1}")) (.cons (.cst (.int 5)) (.cons (.cst (.str "repeat")) .nil)))) (.cons (.tup (.cons (.cst (.str "a{0}")) (.cons (.cst (.int 3)) (.cons (.cst (.str "repeat")) .nil)))) (.cons (.tup (.cons (.cst (.str "a{0,0}")) (.cons (.cst (.int 5)) (.cons (.cst (.str "repeat")) .nil)))) (.cons (.tup (.cons (.cst (.str "a{2,x}")) (.cons (.cst (.int 5)) (.cons (.cst (.str "repeat")) .nil)))) (.cons (.tup (.cons (.cst (.str "a{2,3")) (.cons (.cst (.int 6)) (.cons (.cst (.str "repeat")) .nil)))) .nil))))))))
    (.cons (.set (.nm 0) (.bin .add (.var 0) (.lst (.cons (.tup (.cons (.cst (.str "a{12}")) (.cons (.cst (.int 4)) (.cons (.cst (.str "repeat")) .nil)))) (.cons (.tup (.cons (.cst (.str "a*?")) (.cons (.cst (.int 3)) (.cons (.cst (.str "repeat")) .nil)))) .nil)))))
    (.cons (.ret (.var 0))
    .nil)))))))))
def f_law_table : FnD := ⟨"_law_table", [], ["rows"], top 34, [], false, b_law_table, []⟩
theorem r_law_table : resB 80 ⟨⟨f_law_table.N, tb⟩, defScope f_law_table.st, locOf (defScope f_law_table.st), f_law_table.muts, f_law_table.τ, f_law_table.tdk⟩ (defBody f_law_table.st) = some b_law_table := by kernel_rfl
theorem o_law_table : f_law_table.Ok tb := ⟨r_law_table, ⟨rfl, rfl, rfl, by decide +kernel, rfl, by decide +kernel, by decide +kernel⟩, fun h => nomatch h⟩
def b_law_good : B := (.cons (.ret (.lst (.cons (.cst (.str "a")) (.cons (.cst (.str "()")) (.cons (.cst (.str "a?")) (.cons (.cst (.str "a{2}")) (.cons (.cst (.str "[a-cx]")) (.cons (.cst (.str "[^0]")) (.cons (.cst (.str "\\.")) (.cons (.cst (.str "!a")) (.cons (.cst (.str "!!a")) (.cons (.cst (.str "a&b|c")) (.cons (.cst (.str "<t>")) (.cons (.cst (.str "a{3,}")) (.cons (.cst (.str ".")) (.cons (.cst (.str "(a|b)c")) (.cons (.cst (.str "[\\-\\]]")) (.cons (.cst (.str "0")) .nil))))))))))))))))))
    .nil)
def f_law_good : FnD := ⟨"_law_good", [], [], top 35, [], false, b_law_good, []⟩
theorem r_law_good : resB 80 ⟨⟨f_law_good.N, tb⟩, defScope f_law_good.st, locOf (defScope f_law_good.st), f_law_good.muts, f_law_good.τ, f_law_good.tdk⟩ (defBody f_law_good.st) = some b_law_good := by kernel_rfl
theorem o_law_good : f_law_good.Ok tb := ⟨r_law_good, ⟨rfl, rfl, rfl, by decide +kernel, rfl, by decide +kernel, by decide +kernel⟩, fun h => nomatch h⟩
def b_law_told : B := (.cons (.tryE (.call 3 (.cons (.var 0) .nil)) 0 1 (.tup [(.fld 1), (.fld 0)]))
    (.cons (.ret (.cst .non))
    .nil))
def f_law_told : FnD := ⟨"_law_told", ["text"], ["text", "e"], top 36, [], false, b_law_told, []⟩
theorem r_law_told : resB 80 ⟨⟨f_law_told.N, tb⟩, defScope f_law_told.st, locOf (defScope f_law_told.st), f_law_told.muts, f_law_told.τ, f_law_told.tdk⟩ (defBody f_law_told.st) = some b_law_told := by kernel_rfl
theorem o_law_told : f_law_told.Ok tb := ⟨r_law_told, ⟨rfl, rfl, rfl, by decide +kernel, rfl, by decide +kernel, by decide +kernel⟩, fun h => nomatch h⟩
def b_law : B := (.cons (.new 1 (.lst (.cons (.call 12 (.cons (.var 0) (.cons (.cst (.int 0)) (.cons (.cst (.int 63)) .nil)))) (.cons (.cst (.int 0)) .nil))))
    (.cons (.for_ (.nm 2) (.rng1 (.cst (.int 8))) (.cons (.set (.tp [3, 4, 5]) (.call 14 (.cons (.var 1) (.cons (.call 16 .nil) .nil))))
    (.cons (.set (.nm 6) (.met .join (.cst (.str "|")) (.cons (.comp [10] (.nm 10) (.rng1 (.call 13 (.cons (.var 1) (.cons (.cst (.int 5)) .nil)))) .yes (.call 14 (.cons (.var 1) (.cons (.call 17 .nil) .nil)))) .nil)))
    (.cons (.set (.nm 6) (.ite (.val (.cmp .ne (.var 6) (.cst (.str "")))) (.bin .add (.var 6) (.cst (.str "|"))) (.cst (.str ""))))
    (.cons (.ifs (.not (.val (.call 15 (.cons (.call 18 (.cons (.bin .add (.var 6) (.var 3)) .nil)) (.cons (.tup (.cons (.bin .add (.bif .len (.cons (.var 6) .nil)) (.var 4)) (.cons (.var 5) .nil))) .nil))))) (.cons (.ret (.cst (.bl false)))
    .nil) .nil)
    (.cons (.set (.nm 7) (.call 13 (.cons (.var 1) (.cons (.cst (.int 6)) .nil))))
    (.cons (.ifs (.and (.val (.cmp .le (.var 4) (.bif .len (.cons (.var 3) .nil)))) (.not (.val (.call 15 (.cons (.call 18 (.cons (.bin .add (.bin .add (.bin .mul (.cst (.str "(")) (.var 7)) (.var 3)) (.bin .mul (.cst (.str ")")) (.var 7))) .nil)) (.cons (.tup (.cons (.bin .add (.var 7) (.var 4)) (.cons (.var 5) .nil))) .nil)))))) (.cons (.ret (.cst (.bl false)))
    .nil) .nil)
    (.cons (.set (.nm 8) (.call 14 (.cons (.var 1) (.cons (.call 17 .nil) .nil))))
    (.cons (.ifs (.or (.val (.cmp .isnot (.call 18 (.cons (.bin .add (.var 6) (.var 8)) .nil)) (.cst .non))) (.val (.cmp .isnot (.call 18 (.cons (.bin .add (.bin .add (.bin .mul (.cst (.str "(")) (.var 7)) (.var 8)) (.bin .mul (.cst (.str ")")) (.var 7))) .nil)) (.cst .non)))) (.cons (.ret (.cst (.bl false)))
    .nil) .nil)
    (.cons (.ifs (.not (.val (.call 15 (.cons (.call 10 (.cons (.call 3 (.cons (.bin .add (.bin .add (.bin .mul (.cst (.str "(")) (.var 7)) (.var 8)) (.bin .mul (.cst (.str ")")) (.var 7))) .nil)) .nil)) (.cons (.var 8) .nil))))) (.cons (.ret (.cst (.bl false)))
    .nil) .nil)
    .nil))))))))))
    (.cons (.set (.nm 9) (.bin .add (.cst (.int 1)) (.call 13 (.cons (.var 1) (.cons (.cst (.int 5)) .nil)))))
    (.cons (.ifs (.or (.not (.val (.call 15 (.cons (.call 18 (.cons (.cst (.str "a)")) .nil)) (.cons (.tup (.cons (.cst (.int 2)) (.cons (.cst (.str "bracket")) .nil))) .nil))))) (.not (.val (.call 15 (.cons (.call 18 (.cons (.bin .add (.bin .mul (.cst (.str "(")) (.var 9)) (.cst (.str "a"))) .nil)) (.cons (.tup (.cons (.bin .add (.var 9) (.cst (.int 2))) (.cons (.cst (.str "bracket")) .nil))) .nil)))))) (.cons (.ret (.cst (.bl false)))
    .nil) .nil)
    (.cons (.ifs (.or (.not (.val (.call 15 (.cons (.call 18 (.cons (.bin .add (.bin .mul (.cst (.str "(")) (.bin .add (.cst (.int 6)) (.var 9))) (.cst (.str "a"))) .nil)) (.cons (.tup (.cons (.cst (.int 7)) (.cons (.cst (.str "deep")) .nil))) .nil))))) (.or (.not (.val (.call 15 (.cons (.call 18 (.cons (.bin .mul (.cst (.str "a")) (.cst (.int 61))) .nil)) (.cons (.tup (.cons (.cst (.int 0)) (.cons (.cst (.str "long")) .nil))) .nil))))) (.val (.cmp .isnot (.call 18 (.cons (.bin .mul (.cst (.str "a")) (.cst (.int 60))) .nil)) (.cst .non))))) (.cons (.ret (.cst (.bl false)))
    .nil) .nil)
    (.cons (.ret (.and (.cmp .is_ (.call 18 (.cons (.bin .add (.bin .mul (.cst (.str "!")) (.cst (.int 11))) (.cst (.str "a"))) .nil)) (.cst .non)) (.call 15 (.cons (.call 18 (.cons (.bin .add (.bin .mul (.cst (.str "!")) (.bin .add (.cst (.int 11)) (.var 9))) (.cst (.str "a"))) .nil)) (.cons (.tup (.cons (.cst (.int 0)) (.cons (.cst (.str "deep")) .nil))) .nil)))))
    .nil))))))
def f_law : FnD := ⟨"law", ["script"], ["script", "box", "turn", "text", "place", "reason", "front", "deep", "good", "many", "k"], top 37, ["box"], false, b_law, []⟩
theorem r_law : resB 80 ⟨⟨f_law.N, tb⟩, defScope f_law.st, locOf (defScope f_law.st), f_law.muts, f_law.τ, f_law.tdk⟩ (defBody f_law.st) = some b_law := by kernel_rfl
theorem o_law : f_law.Ok tb := ⟨r_law, ⟨rfl, rfl, rfl, by decide +kernel, rfl, by decide +kernel, by decide +kernel⟩, fun h => nomatch h⟩
def b_Reader___init__ : B := (.cons (.setF 100 (.var 0) "signs" (.var 1))
    (.cons (.setF 100 (.var 0) "at" (.cst (.int 0)))
    (.cons (.setF 100 (.var 0) "brackets" (.cst (.int 0)))
    .nil)))
def f_Reader___init__ : FnD := ⟨"Reader.__init__", ["self", "text"], ["self", "text"], meth 15 0, [], false, b_Reader___init__, []⟩
theorem r_Reader___init__ : resB 80 ⟨⟨f_Reader___init__.N, tb⟩, defScope f_Reader___init__.st, locOf (defScope f_Reader___init__.st), f_Reader___init__.muts, f_Reader___init__.τ, f_Reader___init__.tdk⟩ (defBody f_Reader___init__.st) = some b_Reader___init__ := by kernel_rfl
theorem o_Reader___init__ : f_Reader___init__.Ok tb := ⟨r_Reader___init__, ⟨rfl, rfl, rfl, by decide +kernel, rfl, by decide +kernel, by decide +kernel⟩, fun h => nomatch h⟩
def b_Reader_sign : B := (.cons (.ret (.slc (.fld 100 (.var 0) "signs") (.some (.fld 100 (.var 0) "at")) (.some (.bin .add (.fld 100 (.var 0) "at") (.cst (.int 1))))))
    .nil)
def f_Reader_sign : FnD := ⟨"Reader.sign", ["self"], ["self"], meth 15 1, [], false, b_Reader_sign, []⟩
theorem r_Reader_sign : resB 80 ⟨⟨f_Reader_sign.N, tb⟩, defScope f_Reader_sign.st, locOf (defScope f_Reader_sign.st), f_Reader_sign.muts, f_Reader_sign.τ, f_Reader_sign.tdk⟩ (defBody f_Reader_sign.st) = some b_Reader_sign := by kernel_rfl
theorem o_Reader_sign : f_Reader_sign.Ok tb := ⟨r_Reader_sign, ⟨rfl, rfl, rfl, by decide +kernel, rfl, by decide +kernel, by decide +kernel⟩, fun h => nomatch h⟩
def b_Reader_refuse : B := (.cons (.rse 0 2 (.cons (.bin .add (.fld 100 (.var 0) "at") (.cst (.int 1))) (.cons (.var 1) .nil)))
    .nil)
def f_Reader_refuse : FnD := ⟨"Reader.refuse", ["self", "reason"], ["self", "reason"], meth 15 2, [], false, b_Reader_refuse, []⟩
theorem r_Reader_refuse : resB 80 ⟨⟨f_Reader_refuse.N, tb⟩, defScope f_Reader_refuse.st, locOf (defScope f_Reader_refuse.st), f_Reader_refuse.muts, f_Reader_refuse.τ, f_Reader_refuse.tdk⟩ (defBody f_Reader_refuse.st) = some b_Reader_refuse := by kernel_rfl
theorem o_Reader_refuse : f_Reader_refuse.Ok tb := ⟨r_Reader_refuse, ⟨rfl, rfl, rfl, by decide +kernel, rfl, by decide +kernel, by decide +kernel⟩, fun h => nomatch h⟩
def b_Reader_whole : B := (.cons (.set (.nm 1) (.mcl 24 100 "choice" (.var 0) .nil))
    (.cons (.ifs (.val (.cmp .eq (.mcl 21 100 "sign" (.var 0) .nil) (.cst (.str ")")))) (.cons (.expr (.mcl 22 100 "refuse" (.var 0) (.cons (.cst (.str "bracket")) .nil)))
    .nil) .nil)
    (.cons (.ifs (.val (.cmp .ne (.mcl 21 100 "sign" (.var 0) .nil) (.cst (.str "")))) (.cons (.expr (.mcl 22 100 "refuse" (.var 0) (.cons (.cst (.str "part")) .nil)))
    .nil) .nil)
    (.cons (.ret (.var 1))
    .nil))))
def f_Reader_whole : FnD := ⟨"Reader.whole", ["self"], ["self", "pattern"], meth 15 3, [], false, b_Reader_whole, []⟩
theorem r_Reader_whole : resB 80 ⟨⟨f_Reader_whole.N, tb⟩, defScope f_Reader_whole.st, locOf (defScope f_Reader_whole.st), f_Reader_whole.muts, f_Reader_whole.τ, f_Reader_whole.tdk⟩ (defBody f_Reader_whole.st) = some b_Reader_whole := by kernel_rfl
theorem o_Reader_whole : f_Reader_whole.Ok tb := ⟨r_Reader_whole, ⟨rfl, rfl, rfl, by decide +kernel, rfl, by decide +kernel, by decide +kernel⟩, fun h => nomatch h⟩
def b_Reader_choice : B := (.cons (.new 1 (.lst (.cons (.mcl 25 100 "both" (.var 0) .nil) .nil)))
    (.cons (.whl (.val (.cmp .eq (.mcl 21 100 "sign" (.var 0) .nil) (.cst (.str "|")))) (.cons (.augF 100 (.var 0) "at" .add (.cst (.int 1)))
    (.cons (.expr (.met .append (.var 1) (.cons (.mcl 25 100 "both" (.var 0) .nil) .nil)))
    .nil)))
    (.cons (.ret (.ite (.val (.cmp .eq (.bif .len (.cons (.var 1) .nil)) (.cst (.int 1)))) (.idx (.var 1) (.cst (.int 0))) (.tup (.cons (.cst (.str "or")) (.cons (.bif .tuple (.cons (.var 1) .nil)) .nil)))))
    .nil)))
def f_Reader_choice : FnD := ⟨"Reader.choice", ["self"], ["self", "parts"], meth 15 4, ["parts"], false, b_Reader_choice, []⟩
theorem r_Reader_choice : resB 80 ⟨⟨f_Reader_choice.N, tb⟩, defScope f_Reader_choice.st, locOf (defScope f_Reader_choice.st), f_Reader_choice.muts, f_Reader_choice.τ, f_Reader_choice.tdk⟩ (defBody f_Reader_choice.st) = some b_Reader_choice := by kernel_rfl
theorem o_Reader_choice : f_Reader_choice.Ok tb := ⟨r_Reader_choice, ⟨rfl, rfl, rfl, by decide +kernel, rfl, by decide +kernel, by decide +kernel⟩, fun h => nomatch h⟩
def b_Reader_both : B := (.cons (.new 1 (.lst (.cons (.mcl 26 100 "row" (.var 0) .nil) .nil)))
    (.cons (.whl (.val (.cmp .eq (.mcl 21 100 "sign" (.var 0) .nil) (.cst (.str "&")))) (.cons (.augF 100 (.var 0) "at" .add (.cst (.int 1)))
    (.cons (.expr (.met .append (.var 1) (.cons (.mcl 26 100 "row" (.var 0) .nil) .nil)))
    .nil)))
    (.cons (.ret (.ite (.val (.cmp .eq (.bif .len (.cons (.var 1) .nil)) (.cst (.int 1)))) (.idx (.var 1) (.cst (.int 0))) (.tup (.cons (.cst (.str "and")) (.cons (.bif .tuple (.cons (.var 1) .nil)) .nil)))))
    .nil)))
def f_Reader_both : FnD := ⟨"Reader.both", ["self"], ["self", "parts"], meth 15 5, ["parts"], false, b_Reader_both, []⟩
theorem r_Reader_both : resB 80 ⟨⟨f_Reader_both.N, tb⟩, defScope f_Reader_both.st, locOf (defScope f_Reader_both.st), f_Reader_both.muts, f_Reader_both.τ, f_Reader_both.tdk⟩ (defBody f_Reader_both.st) = some b_Reader_both := by kernel_rfl
theorem o_Reader_both : f_Reader_both.Ok tb := ⟨r_Reader_both, ⟨rfl, rfl, rfl, by decide +kernel, rfl, by decide +kernel, by decide +kernel⟩, fun h => nomatch h⟩
def b_Reader_row : B := (.cons (.new 1 (.lst (.cons (.mcl 28 100 "denied" (.var 0) .nil) .nil)))
    (.cons (.whl (.val (.mcl 27 100 "begins" (.var 0) .nil)) (.cons (.expr (.met .append (.var 1) (.cons (.mcl 28 100 "denied" (.var 0) .nil) .nil)))
    .nil))
    (.cons (.ret (.ite (.val (.cmp .eq (.bif .len (.cons (.var 1) .nil)) (.cst (.int 1)))) (.idx (.var 1) (.cst (.int 0))) (.tup (.cons (.cst (.str "row")) (.cons (.bif .tuple (.cons (.var 1) .nil)) .nil)))))
    .nil)))
def f_Reader_row : FnD := ⟨"Reader.row", ["self"], ["self", "parts"], meth 15 6, ["parts"], false, b_Reader_row, []⟩
theorem r_Reader_row : resB 80 ⟨⟨f_Reader_row.N, tb⟩, defScope f_Reader_row.st, locOf (defScope f_Reader_row.st), f_Reader_row.muts, f_Reader_row.τ, f_Reader_row.tdk⟩ (defBody f_Reader_row.st) = some b_Reader_row := by kernel_rfl
theorem o_Reader_row : f_Reader_row.Ok tb := ⟨r_Reader_row, ⟨rfl, rfl, rfl, by decide +kernel, rfl, by decide +kernel, by decide +kernel⟩, fun h => nomatch h⟩
def b_Reader_begins : B := (.cons (.set (.nm 1) (.mcl 21 100 "sign" (.var 0) .nil))
    (.cons (.ret (.and (.cmp .ne (.var 1) (.cst (.str ""))) (.or (.cmp .in_ (.var 1) (.glob 2)) (.and (.cmp .in_ (.var 1) (.glob 0)) (.cmp .notin (.var 1) (.glob 1))))))
    .nil))
def f_Reader_begins : FnD := ⟨"Reader.begins", ["self"], ["self", "sign"], meth 15 7, [], false, b_Reader_begins, []⟩
theorem r_Reader_begins : resB 80 ⟨⟨f_Reader_begins.N, tb⟩, defScope f_Reader_begins.st, locOf (defScope f_Reader_begins.st), f_Reader_begins.muts, f_Reader_begins.τ, f_Reader_begins.tdk⟩ (defBody f_Reader_begins.st) = some b_Reader_begins := by kernel_rfl
theorem o_Reader_begins : f_Reader_begins.Ok tb := ⟨r_Reader_begins, ⟨rfl, rfl, rfl, by decide +kernel, rfl, by decide +kernel, by decide +kernel⟩, fun h => nomatch h⟩
def b_Reader_denied : B := (.cons (.ifs (.val (.cmp .eq (.mcl 21 100 "sign" (.var 0) .nil) (.cst (.str "!")))) (.cons (.augF 100 (.var 0) "at" .add (.cst (.int 1)))
    (.cons (.ret (.tup (.cons (.cst (.str "not")) (.cons (.mcl 28 100 "denied" (.var 0) .nil) .nil))))
    .nil)) .nil)
    (.cons (.set (.nm 1) (.mcl 33 100 "single" (.var 0) .nil))
    (.cons (.ifs (.not (.val (.mcl 29 100 "repeats" (.var 0) .nil))) (.cons (.ret (.var 1))
    .nil) .nil)
    (.cons (.set (.tp [2, 3]) (.mcl 30 100 "bounds" (.var 0) .nil))
    (.cons (.ifs (.val (.mcl 29 100 "repeats" (.var 0) .nil)) (.cons (.expr (.mcl 22 100 "refuse" (.var 0) (.cons (.cst (.str "repeat")) .nil)))
    .nil) .nil)
    (.cons (.ret (.tup (.cons (.cst (.str "times")) (.cons (.var 1) (.cons (.var 2) (.cons (.var 3) .nil))))))
    .nil))))))
def f_Reader_denied : FnD := ⟨"Reader.denied", ["self"], ["self", "part", "low", "high"], meth 15 8, [], false, b_Reader_denied, []⟩
theorem r_Reader_denied : resB 80 ⟨⟨f_Reader_denied.N, tb⟩, defScope f_Reader_denied.st, locOf (defScope f_Reader_denied.st), f_Reader_denied.muts, f_Reader_denied.τ, f_Reader_denied.tdk⟩ (defBody f_Reader_denied.st) = some b_Reader_denied := by kernel_rfl
theorem o_Reader_denied : f_Reader_denied.Ok tb := ⟨r_Reader_denied, ⟨rfl, rfl, rfl, by decide +kernel, rfl, by decide +kernel, by decide +kernel⟩, fun h => nomatch h⟩
def b_Reader_repeats : B := (.cons (.ret (.and (.cmp .ne (.mcl 21 100 "sign" (.var 0) .nil) (.cst (.str ""))) (.cmp .in_ (.mcl 21 100 "sign" (.var 0) .nil) (.cst (.str "*+?{")))))
    .nil)
def f_Reader_repeats : FnD := ⟨"Reader.repeats", ["self"], ["self"], meth 15 9, [], false, b_Reader_repeats, []⟩
theorem r_Reader_repeats : resB 80 ⟨⟨f_Reader_repeats.N, tb⟩, defScope f_Reader_repeats.st, locOf (defScope f_Reader_repeats.st), f_Reader_repeats.muts, f_Reader_repeats.τ, f_Reader_repeats.tdk⟩ (defBody f_Reader_repeats.st) = some b_Reader_repeats := by kernel_rfl
theorem o_Reader_repeats : f_Reader_repeats.Ok tb := ⟨r_Reader_repeats, ⟨rfl, rfl, rfl, by decide +kernel, rfl, by decide +kernel, by decide +kernel⟩, fun h => nomatch h⟩
def b_Reader_bounds : B := (.cons (.set (.nm 1) (.mcl 21 100 "sign" (.var 0) .nil))
    (.cons (.augF 100 (.var 0) "at" .add (.cst (.int 1)))
    (.cons (.ifs (.val (.cmp .ne (.var 1) (.cst (.str "{")))) (.cons (.ret (.gdict 0 (.var 1)))
    .nil) .nil)
    (.cons (.set (.nm 2) (.mcl 31 100 "digit" (.var 0) .nil))
    (.cons (.ifs (.val (.cmp .eq (.mcl 21 100 "sign" (.var 0) .nil) (.cst (.str "}")))) (.cons (.ifs (.val (.cmp .eq (.var 2) (.cst (.int 0)))) (.cons (.rse 0 2 (.cons (.fld 100 (.var 0) "at") (.cons (.cst (.str "repeat")) .nil)))
    .nil) .nil)
    (.cons (.augF 100 (.var 0) "at" .add (.cst (.int 1)))
    (.cons (.ret (.tup (.cons (.var 2) (.cons (.var 2) .nil))))
    .nil))) .nil)
    (.cons (.expr (.mcl 32 100 "due" (.var 0) (.cons (.cst (.str ",")) (.cons (.cst (.str "repeat")) .nil))))
    (.cons (.ifs (.val (.cmp .eq (.mcl 21 100 "sign" (.var 0) .nil) (.cst (.str "}")))) (.cons (.augF 100 (.var 0) "at" .add (.cst (.int 1)))
    (.cons (.ret (.tup (.cons (.var 2) (.cons (.cst .non) .nil))))
    .nil)) .nil)
    (.cons (.set (.nm 3) (.mcl 31 100 "digit" (.var 0) .nil))
    (.cons (.ifs (.or (.val (.cmp .lt (.var 3) (.var 2))) (.val (.cmp .eq (.var 3) (.cst (.int 0))))) (.cons (.rse 0 2 (.cons (.fld 100 (.var 0) "at") (.cons (.cst (.str "repeat")) .nil)))
    .nil) .nil)
    (.cons (.expr (.mcl 32 100 "due" (.var 0) (.cons (.cst (.str "}")) (.cons (.cst (.str "repeat")) .nil))))
    (.cons (.ret (.tup (.cons (.var 2) (.cons (.var 3) .nil))))
    .nil)))))))))))
def f_Reader_bounds : FnD := ⟨"Reader.bounds", ["self"], ["self", "sign", "low", "high"], meth 15 10, [], false, b_Reader_bounds, []⟩
theorem r_Reader_bounds : resB 80 ⟨⟨f_Reader_bounds.N, tb⟩, defScope f_Reader_bounds.st, locOf (defScope f_Reader_bounds.st), f_Reader_bounds.muts, f_Reader_bounds.τ, f_Reader_bounds.tdk⟩ (defBody f_Reader_bounds.st) = some b_Reader_bounds := by kernel_rfl
theorem o_Reader_bounds : f_Reader_bounds.Ok tb := ⟨r_Reader_bounds, ⟨rfl, rfl, rfl, by decide +kernel, rfl, by decide +kernel, by decide +kernel⟩, fun h => nomatch h⟩
def b_Reader_digit : B := (.cons (.set (.nm 1) (.mcl 21 100 "sign" (.var 0) .nil))
    (.cons (.ifs (.not (.val (.met .isdigit (.var 1) .nil))) (.cons (.expr (.mcl 22 100 "refuse" (.var 0) (.cons (.cst (.str "repeat")) .nil)))
    .nil) .nil)
    (.cons (.augF 100 (.var 0) "at" .add (.cst (.int 1)))
    (.cons (.ret (.bif .int (.cons (.var 1) .nil)))
    .nil))))
def f_Reader_digit : FnD := ⟨"Reader.digit", ["self"], ["self", "sign"], meth 15 11, [], false, b_Reader_digit, []⟩
theorem r_Reader_digit : resB 80 ⟨⟨f_Reader_digit.N, tb⟩, defScope f_Reader_digit.st, locOf (defScope f_Reader_digit.st), f_Reader_digit.muts, f_Reader_digit.τ, f_Reader_digit.tdk⟩ (defBody f_Reader_digit.st) = some b_Reader_digit := by kernel_rfl
theorem o_Reader_digit : f_Reader_digit.Ok tb := ⟨r_Reader_digit, ⟨rfl, rfl, rfl, by decide +kernel, rfl, by decide +kernel, by decide +kernel⟩, fun h => nomatch h⟩
def b_Reader_due : B := (.cons (.ifs (.val (.cmp .ne (.mcl 21 100 "sign" (.var 0) .nil) (.var 1))) (.cons (.expr (.mcl 22 100 "refuse" (.var 0) (.cons (.var 2) .nil)))
    .nil) .nil)
    (.cons (.augF 100 (.var 0) "at" .add (.cst (.int 1)))
    .nil))
def f_Reader_due : FnD := ⟨"Reader.due", ["self", "sign", "reason"], ["self", "sign", "reason"], meth 15 12, [], false, b_Reader_due, []⟩
theorem r_Reader_due : resB 80 ⟨⟨f_Reader_due.N, tb⟩, defScope f_Reader_due.st, locOf (defScope f_Reader_due.st), f_Reader_due.muts, f_Reader_due.τ, f_Reader_due.tdk⟩ (defBody f_Reader_due.st) = some b_Reader_due := by kernel_rfl
theorem o_Reader_due : f_Reader_due.Ok tb := ⟨r_Reader_due, ⟨rfl, rfl, rfl, by decide +kernel, rfl, by decide +kernel, by decide +kernel⟩, fun h => nomatch h⟩
def b_Reader_single : B := (.cons (.set (.nm 1) (.mcl 21 100 "sign" (.var 0) .nil))
    (.cons (.ifs (.not (.val (.mcl 27 100 "begins" (.var 0) .nil))) (.cons (.expr (.mcl 22 100 "refuse" (.var 0) (.cons (.cst (.str "part")) .nil)))
    .nil) .nil)
    (.cons (.ifs (.val (.cmp .eq (.var 1) (.cst (.str "(")))) (.cons (.ret (.mcl 34 100 "bracket" (.var 0) .nil))
    .nil) .nil)
    (.cons (.augF 100 (.var 0) "at" .add (.cst (.int 1)))
    (.cons (.ifs (.val (.cmp .eq (.var 1) (.cst (.str ".")))) (.cons (.ret (.tup (.cons (.cst (.str "any")) .nil)))
    .nil) .nil)
    (.cons (.ifs (.val (.cmp .eq (.var 1) (.cst (.str "[")))) (.cons (.ret (.mcl 35 100 "group" (.var 0) .nil))
    .nil) .nil)
    (.cons (.ifs (.val (.cmp .eq (.var 1) (.cst (.str "<")))) (.cons (.expr (.mcl 32 100 "due" (.var 0) (.cons (.cst (.str "t")) (.cons (.cst (.str "slot")) .nil))))
    (.cons (.expr (.mcl 32 100 "due" (.var 0) (.cons (.cst (.str ">")) (.cons (.cst (.str "slot")) .nil))))
    (.cons (.ret (.tup (.cons (.cst (.str "slot")) .nil)))
    .nil))) .nil)
    (.cons (.ifs (.val (.cmp .eq (.var 1) (.cst (.str "\\")))) (.cons (.set (.nm 1) (.mcl 21 100 "sign" (.var 0) .nil))
    (.cons (.ifs (.or (.val (.cmp .eq (.var 1) (.cst (.str "")))) (.val (.cmp .notin (.var 1) (.glob 1)))) (.cons (.expr (.mcl 22 100 "refuse" (.var 0) (.cons (.cst (.str "escape")) .nil)))
    .nil) .nil)
    (.cons (.augF 100 (.var 0) "at" .add (.cst (.int 1)))
    .nil))) .nil)
    (.cons (.ret (.tup (.cons (.cst (.str "sign")) (.cons (.var 1) .nil))))
    .nil)))))))))
def f_Reader_single : FnD := ⟨"Reader.single", ["self"], ["self", "sign"], meth 15 13, [], false, b_Reader_single, []⟩
theorem r_Reader_single : resB 80 ⟨⟨f_Reader_single.N, tb⟩, defScope f_Reader_single.st, locOf (defScope f_Reader_single.st), f_Reader_single.muts, f_Reader_single.τ, f_Reader_single.tdk⟩ (defBody f_Reader_single.st) = some b_Reader_single := by kernel_rfl
theorem o_Reader_single : f_Reader_single.Ok tb := ⟨r_Reader_single, ⟨rfl, rfl, rfl, by decide +kernel, rfl, by decide +kernel, by decide +kernel⟩, fun h => nomatch h⟩
def b_Reader_bracket : B := (.cons (.ifs (.val (.cmp .eq (.fld 100 (.var 0) "brackets") (.glob 3))) (.cons (.expr (.mcl 22 100 "refuse" (.var 0) (.cons (.cst (.str "deep")) .nil)))
    .nil) .nil)
    (.cons (.augF 100 (.var 0) "brackets" .add (.cst (.int 1)))
    (.cons (.augF 100 (.var 0) "at" .add (.cst (.int 1)))
    (.cons (.ifs (.val (.cmp .eq (.mcl 21 100 "sign" (.var 0) .nil) (.cst (.str ")")))) (.cons (.set (.nm 1) (.tup (.cons (.cst (.str "row")) (.cons (.tup .nil) .nil))))
    .nil) (.cons (.set (.nm 1) (.mcl 24 100 "choice" (.var 0) .nil))
    (.cons (.ifs (.val (.cmp .ne (.mcl 21 100 "sign" (.var 0) .nil) (.cst (.str ")")))) (.cons (.expr (.mcl 22 100 "refuse" (.var 0) (.cons (.ite (.val (.cmp .eq (.mcl 21 100 "sign" (.var 0) .nil) (.cst (.str "")))) (.cst (.str "bracket")) (.cst (.str "part"))) .nil)))
    .nil) .nil)
    .nil)))
    (.cons (.augF 100 (.var 0) "at" .add (.cst (.int 1)))
    (.cons (.augF 100 (.var 0) "brackets" .sub (.cst (.int 1)))
    (.cons (.ret (.var 1))
    .nil)))))))
def f_Reader_bracket : FnD := ⟨"Reader.bracket", ["self"], ["self", "part"], meth 15 14, [], false, b_Reader_bracket, []⟩
theorem r_Reader_bracket : resB 80 ⟨⟨f_Reader_bracket.N, tb⟩, defScope f_Reader_bracket.st, locOf (defScope f_Reader_bracket.st), f_Reader_bracket.muts, f_Reader_bracket.τ, f_Reader_bracket.tdk⟩ (defBody f_Reader_bracket.st) = some b_Reader_bracket := by kernel_rfl
theorem o_Reader_bracket : f_Reader_bracket.Ok tb := ⟨r_Reader_bracket, ⟨rfl, rfl, rfl, by decide +kernel, rfl, by decide +kernel, by decide +kernel⟩, fun h => nomatch h⟩
def b_Reader_group : B := (.cons (.set (.nm 1) (.cst (.str "class")))
    (.cons (.ifs (.val (.cmp .eq (.mcl 21 100 "sign" (.var 0) .nil) (.cst (.str "^")))) (.cons (.set (.nm 1) (.cst (.str "other")))
    (.cons (.augF 100 (.var 0) "at" .add (.cst (.int 1)))
    .nil)) .nil)
    (.cons (.new 2 (.lst .nil))
    (.cons (.set (.nm 3) (.cst (.str "")))
    (.cons (.whl (.or (.val (.cmp .ne (.mcl 21 100 "sign" (.var 0) .nil) (.cst (.str "]")))) (.not (.val (.var 2)))) (.cons (.ifs (.val (.cmp .eq (.bif .len (.cons (.var 2) .nil)) (.glob 4))) (.cons (.expr (.mcl 22 100 "refuse" (.var 0) (.cons (.cst (.str "class")) .nil)))
    .nil) .nil)
    (.cons (.set (.nm 4) (.mcl 36 100 "member" (.var 0) (.cons (.var 3) .nil)))
    (.cons (.set (.nm 3) (.var 4))
    (.cons (.ifs (.val (.cmp .eq (.mcl 21 100 "sign" (.var 0) .nil) (.cst (.str "-")))) (.cons (.augF 100 (.var 0) "at" .add (.cst (.int 1)))
    (.cons (.set (.nm 3) (.mcl 36 100 "member" (.var 0) (.cons (.var 4) .nil)))
    .nil)) .nil)
    (.cons (.expr (.met .append (.var 2) (.cons (.tup (.cons (.var 4) (.cons (.var 3) .nil))) .nil)))
    .nil))))))
    (.cons (.augF 100 (.var 0) "at" .add (.cst (.int 1)))
    (.cons (.ret (.tup (.cons (.var 1) (.cons (.bif .tuple (.cons (.var 2) .nil)) .nil))))
    .nil)))))))
def f_Reader_group : FnD := ⟨"Reader.group", ["self"], ["self", "word", "spans", "before", "low"], meth 15 15, ["spans"], false, b_Reader_group, []⟩
theorem r_Reader_group : resB 80 ⟨⟨f_Reader_group.N, tb⟩, defScope f_Reader_group.st, locOf (defScope f_Reader_group.st), f_Reader_group.muts, f_Reader_group.τ, f_Reader_group.tdk⟩ (defBody f_Reader_group.st) = some b_Reader_group := by kernel_rfl
theorem o_Reader_group : f_Reader_group.Ok tb := ⟨r_Reader_group, ⟨rfl, rfl, rfl, by decide +kernel, rfl, by decide +kernel, by decide +kernel⟩, fun h => nomatch h⟩
def b_Reader_member : B := (.cons (.ifs (.val (.cmp .eq (.mcl 21 100 "sign" (.var 0) .nil) (.cst (.str "\\")))) (.cons (.augF 100 (.var 0) "at" .add (.cst (.int 1)))
    (.cons (.ifs (.or (.val (.cmp .eq (.mcl 21 100 "sign" (.var 0) .nil) (.cst (.str "")))) (.val (.cmp .notin (.mcl 21 100 "sign" (.var 0) .nil) (.cst (.str "]^-\\"))))) (.cons (.expr (.mcl 22 100 "refuse" (.var 0) (.cons (.cst (.str "escape")) .nil)))
    .nil) .nil)
    .nil)) (.cons (.ifs (.or (.val (.cmp .eq (.mcl 21 100 "sign" (.var 0) .nil) (.cst (.str "")))) (.or (.val (.cmp .in_ (.mcl 21 100 "sign" (.var 0) .nil) (.cst (.str "]^-")))) (.val (.cmp .notin (.mcl 21 100 "sign" (.var 0) .nil) (.glob 0))))) (.cons (.expr (.mcl 22 100 "refuse" (.var 0) (.cons (.cst (.str "class")) .nil)))
    .nil) .nil)
    .nil))
    (.cons (.set (.nm 2) (.mcl 21 100 "sign" (.var 0) .nil))
    (.cons (.ifs (.val (.cmp .le (.var 2) (.var 1))) (.cons (.expr (.mcl 22 100 "refuse" (.var 0) (.cons (.cst (.str "class")) .nil)))
    .nil) .nil)
    (.cons (.augF 100 (.var 0) "at" .add (.cst (.int 1)))
    (.cons (.ret (.var 2))
    .nil)))))
def f_Reader_member : FnD := ⟨"Reader.member", ["self", "before"], ["self", "before", "sign"], meth 15 16, [], false, b_Reader_member, []⟩
theorem r_Reader_member : resB 80 ⟨⟨f_Reader_member.N, tb⟩, defScope f_Reader_member.st, locOf (defScope f_Reader_member.st), f_Reader_member.muts, f_Reader_member.τ, f_Reader_member.tdk⟩ (defBody f_Reader_member.st) = some b_Reader_member := by kernel_rfl
theorem o_Reader_member : f_Reader_member.Ok tb := ⟨r_Reader_member, ⟨rfl, rfl, rfl, by decide +kernel, rfl, by decide +kernel, by decide +kernel⟩, fun h => nomatch h⟩
def prg : Prg := ⟨f_is_leaf :: f_parts_in :: f_deep_of :: f_read_pattern :: f_escaped :: f_spans_text :: f_leaf_text :: f_repeat_text :: f_part_written :: f_written :: f_write_pattern :: f_law_cell :: f_law_digits :: f_law_draw :: f_law_pick :: f_law_like :: f_law_table :: f_law_good :: f_law_told :: f_law :: f_Reader___init__ :: f_Reader_sign :: f_Reader_refuse :: f_Reader_whole :: f_Reader_choice :: f_Reader_both :: f_Reader_row :: f_Reader_begins :: f_Reader_denied :: f_Reader_repeats :: f_Reader_bounds :: f_Reader_digit :: f_Reader_due :: f_Reader_single :: f_Reader_bracket :: f_Reader_group :: f_Reader_member :: [], tb, con, dic, 100000⟩
theorem prg_ok : prg.Ok := ⟨rfl, fun d h => by
  simp only [prg, List.mem_cons, List.not_mem_nil, or_false] at h
  rcases h with rfl | rfl | rfl | rfl | rfl | rfl | rfl | rfl | rfl | rfl | rfl | rfl | rfl | rfl | rfl | rfl | rfl | rfl | rfl | rfl | rfl | rfl | rfl | rfl | rfl | rfl | rfl | rfl | rfl | rfl | rfl | rfl | rfl | rfl | rfl | rfl | rfl
  · exact o_is_leaf
  · exact o_parts_in
  · exact o_deep_of
  · exact o_read_pattern
  · exact o_escaped
  · exact o_spans_text
  · exact o_leaf_text
  · exact o_repeat_text
  · exact o_part_written
  · exact o_written
  · exact o_write_pattern
  · exact o_law_cell
  · exact o_law_digits
  · exact o_law_draw
  · exact o_law_pick
  · exact o_law_like
  · exact o_law_table
  · exact o_law_good
  · exact o_law_told
  · exact o_law
  · exact o_Reader___init__
  · exact o_Reader_sign
  · exact o_Reader_refuse
  · exact o_Reader_whole
  · exact o_Reader_choice
  · exact o_Reader_both
  · exact o_Reader_row
  · exact o_Reader_begins
  · exact o_Reader_denied
  · exact o_Reader_repeats
  · exact o_Reader_bounds
  · exact o_Reader_digit
  · exact o_Reader_due
  · exact o_Reader_single
  · exact o_Reader_bracket
  · exact o_Reader_group
  · exact o_Reader_member⟩
abbrev n_is_leaf : Nat := 0
abbrev n_parts_in : Nat := 1
abbrev n_deep_of : Nat := 2
abbrev n_read_pattern : Nat := 3
abbrev n_escaped : Nat := 4
abbrev n_spans_text : Nat := 5
abbrev n_leaf_text : Nat := 6
abbrev n_repeat_text : Nat := 7
abbrev n_part_written : Nat := 8
abbrev n_written : Nat := 9
abbrev n_write_pattern : Nat := 10
abbrev n_law_cell : Nat := 11
abbrev n_law_digits : Nat := 12
abbrev n_law_draw : Nat := 13
abbrev n_law_pick : Nat := 14
abbrev n_law_like : Nat := 15
abbrev n_law_table : Nat := 16
abbrev n_law_good : Nat := 17
abbrev n_law_told : Nat := 18
abbrev n_law : Nat := 19
abbrev n_Reader___init__ : Nat := 20
abbrev n_Reader_sign : Nat := 21
abbrev n_Reader_refuse : Nat := 22
abbrev n_Reader_whole : Nat := 23
abbrev n_Reader_choice : Nat := 24
abbrev n_Reader_both : Nat := 25
abbrev n_Reader_row : Nat := 26
abbrev n_Reader_begins : Nat := 27
abbrev n_Reader_denied : Nat := 28
abbrev n_Reader_repeats : Nat := 29
abbrev n_Reader_bounds : Nat := 30
abbrev n_Reader_digit : Nat := 31
abbrev n_Reader_due : Nat := 32
abbrev n_Reader_single : Nat := 33
abbrev n_Reader_bracket : Nat := 34
abbrev n_Reader_group : Nat := 35
abbrev n_Reader_member : Nat := 36
abbrev cl (k f : Nat) (ds : List D) (μ : Mu) : Res D := callD prg.tab prg.con prg.dic prg.wf k f ds μ
abbrev gg (k : Nat) : G := ⟨callD prg.tab prg.con prg.dic prg.wf k, con, dic, 100000, decide (2 ≤ k)⟩
theorem c_is_leaf {k : Nat} {x0 : D} {μ : Mu} : callD prg.tab prg.con prg.dic prg.wf (k + 1) n_is_leaf [x0] μ = finO μ.length (runB (gg k) b_is_leaf (startR f_is_leaf.N.length [x0]) μ) := rfl
theorem c_parts_in {k : Nat} {x0 : D} {μ : Mu} : callD prg.tab prg.con prg.dic prg.wf (k + 1) n_parts_in [x0] μ = finO μ.length (runB (gg k) b_parts_in (startR f_parts_in.N.length [x0]) μ) := rfl
theorem c_deep_of {k : Nat} {x0 : D} {μ : Mu} : callD prg.tab prg.con prg.dic prg.wf (k + 1) n_deep_of [x0] μ = finO μ.length (runB (gg k) b_deep_of (startR f_deep_of.N.length [x0]) μ) := rfl
theorem c_read_pattern {k : Nat} {x0 : D} {μ : Mu} : callD prg.tab prg.con prg.dic prg.wf (k + 1) n_read_pattern [x0] μ = finO μ.length (runB (gg k) b_read_pattern (startR f_read_pattern.N.length [x0]) μ) := rfl
theorem c_escaped {k : Nat} {x0 x1 : D} {μ : Mu} : callD prg.tab prg.con prg.dic prg.wf (k + 1) n_escaped [x0, x1] μ = finO μ.length (runB (gg k) b_escaped (startR f_escaped.N.length [x0, x1]) μ) := rfl
theorem c_spans_text {k : Nat} {x0 : D} {μ : Mu} : callD prg.tab prg.con prg.dic prg.wf (k + 1) n_spans_text [x0] μ = finO μ.length (runB (gg k) b_spans_text (startR f_spans_text.N.length [x0]) μ) := rfl
theorem c_leaf_text {k : Nat} {x0 : D} {μ : Mu} : callD prg.tab prg.con prg.dic prg.wf (k + 1) n_leaf_text [x0] μ = finO μ.length (runB (gg k) b_leaf_text (startR f_leaf_text.N.length [x0]) μ) := rfl
theorem c_repeat_text {k : Nat} {x0 x1 : D} {μ : Mu} : callD prg.tab prg.con prg.dic prg.wf (k + 1) n_repeat_text [x0, x1] μ = finO μ.length (runB (gg k) b_repeat_text (startR f_repeat_text.N.length [x0, x1]) μ) := rfl
theorem c_part_written {k : Nat} {x0 x1 : D} {μ : Mu} : callD prg.tab prg.con prg.dic prg.wf (k + 1) n_part_written [x0, x1] μ = finO μ.length (runB (gg k) b_part_written (startR f_part_written.N.length [x0, x1]) μ) := rfl
theorem c_written {k : Nat} {x0 : D} {μ : Mu} : callD prg.tab prg.con prg.dic prg.wf (k + 1) n_written [x0] μ = finO μ.length (runB (gg k) b_written (startR f_written.N.length [x0]) μ) := rfl
theorem c_write_pattern {k : Nat} {x0 : D} {μ : Mu} : callD prg.tab prg.con prg.dic prg.wf (k + 1) n_write_pattern [x0] μ = finO μ.length (runB (gg k) b_write_pattern (startR f_write_pattern.N.length [x0]) μ) := rfl
theorem c_law_cell {k : Nat} {x0 x1 : D} {μ : Mu} : callD prg.tab prg.con prg.dic prg.wf (k + 1) n_law_cell [x0, x1] μ = finO μ.length (runB (gg k) b_law_cell (startR f_law_cell.N.length [x0, x1]) μ) := rfl
theorem c_law_digits {k : Nat} {x0 x1 x2 : D} {μ : Mu} : callD prg.tab prg.con prg.dic prg.wf (k + 1) n_law_digits [x0, x1, x2] μ = finO μ.length (runB (gg k) b_law_digits (startR f_law_digits.N.length [x0, x1, x2]) μ) := rfl
theorem c_law_draw {k : Nat} {x0 x1 : D} {μ : Mu} : callD prg.tab prg.con prg.dic prg.wf (k + 1) n_law_draw [x0, x1] μ = finO μ.length (runB (gg k) b_law_draw (startR f_law_draw.N.length [x0, x1]) μ) := rfl
theorem c_law_pick {k : Nat} {x0 x1 : D} {μ : Mu} : callD prg.tab prg.con prg.dic prg.wf (k + 1) n_law_pick [x0, x1] μ = finO μ.length (runB (gg k) b_law_pick (startR f_law_pick.N.length [x0, x1]) μ) := rfl
theorem c_law_like {k : Nat} {x0 x1 : D} {μ : Mu} : callD prg.tab prg.con prg.dic prg.wf (k + 1) n_law_like [x0, x1] μ = finO μ.length (runB (gg k) b_law_like (startR f_law_like.N.length [x0, x1]) μ) := rfl
theorem c_law_table {k : Nat} {μ : Mu} : callD prg.tab prg.con prg.dic prg.wf (k + 1) n_law_table [] μ = finO μ.length (runB (gg k) b_law_table (startR f_law_table.N.length []) μ) := rfl
theorem c_law_good {k : Nat} {μ : Mu} : callD prg.tab prg.con prg.dic prg.wf (k + 1) n_law_good [] μ = finO μ.length (runB (gg k) b_law_good (startR f_law_good.N.length []) μ) := rfl
theorem c_law_told {k : Nat} {x0 : D} {μ : Mu} : callD prg.tab prg.con prg.dic prg.wf (k + 1) n_law_told [x0] μ = finO μ.length (runB (gg k) b_law_told (startR f_law_told.N.length [x0]) μ) := rfl
theorem c_law {k : Nat} {x0 : D} {μ : Mu} : callD prg.tab prg.con prg.dic prg.wf (k + 1) n_law [x0] μ = finO μ.length (runB (gg k) b_law (startR f_law.N.length [x0]) μ) := rfl
theorem c_Reader___init__ {k : Nat} {x0 x1 : D} {μ : Mu} : callD prg.tab prg.con prg.dic prg.wf (k + 1) n_Reader___init__ [x0, x1] μ = finO μ.length (runB (gg k) b_Reader___init__ (startR f_Reader___init__.N.length [x0, x1]) μ) := rfl
theorem c_Reader_sign {k : Nat} {x0 : D} {μ : Mu} : callD prg.tab prg.con prg.dic prg.wf (k + 1) n_Reader_sign [x0] μ = finO μ.length (runB (gg k) b_Reader_sign (startR f_Reader_sign.N.length [x0]) μ) := rfl
theorem c_Reader_refuse {k : Nat} {x0 x1 : D} {μ : Mu} : callD prg.tab prg.con prg.dic prg.wf (k + 1) n_Reader_refuse [x0, x1] μ = finO μ.length (runB (gg k) b_Reader_refuse (startR f_Reader_refuse.N.length [x0, x1]) μ) := rfl
theorem c_Reader_whole {k : Nat} {x0 : D} {μ : Mu} : callD prg.tab prg.con prg.dic prg.wf (k + 1) n_Reader_whole [x0] μ = finO μ.length (runB (gg k) b_Reader_whole (startR f_Reader_whole.N.length [x0]) μ) := rfl
theorem c_Reader_choice {k : Nat} {x0 : D} {μ : Mu} : callD prg.tab prg.con prg.dic prg.wf (k + 1) n_Reader_choice [x0] μ = finO μ.length (runB (gg k) b_Reader_choice (startR f_Reader_choice.N.length [x0]) μ) := rfl
theorem c_Reader_both {k : Nat} {x0 : D} {μ : Mu} : callD prg.tab prg.con prg.dic prg.wf (k + 1) n_Reader_both [x0] μ = finO μ.length (runB (gg k) b_Reader_both (startR f_Reader_both.N.length [x0]) μ) := rfl
theorem c_Reader_row {k : Nat} {x0 : D} {μ : Mu} : callD prg.tab prg.con prg.dic prg.wf (k + 1) n_Reader_row [x0] μ = finO μ.length (runB (gg k) b_Reader_row (startR f_Reader_row.N.length [x0]) μ) := rfl
theorem c_Reader_begins {k : Nat} {x0 : D} {μ : Mu} : callD prg.tab prg.con prg.dic prg.wf (k + 1) n_Reader_begins [x0] μ = finO μ.length (runB (gg k) b_Reader_begins (startR f_Reader_begins.N.length [x0]) μ) := rfl
theorem c_Reader_denied {k : Nat} {x0 : D} {μ : Mu} : callD prg.tab prg.con prg.dic prg.wf (k + 1) n_Reader_denied [x0] μ = finO μ.length (runB (gg k) b_Reader_denied (startR f_Reader_denied.N.length [x0]) μ) := rfl
theorem c_Reader_repeats {k : Nat} {x0 : D} {μ : Mu} : callD prg.tab prg.con prg.dic prg.wf (k + 1) n_Reader_repeats [x0] μ = finO μ.length (runB (gg k) b_Reader_repeats (startR f_Reader_repeats.N.length [x0]) μ) := rfl
theorem c_Reader_bounds {k : Nat} {x0 : D} {μ : Mu} : callD prg.tab prg.con prg.dic prg.wf (k + 1) n_Reader_bounds [x0] μ = finO μ.length (runB (gg k) b_Reader_bounds (startR f_Reader_bounds.N.length [x0]) μ) := rfl
theorem c_Reader_digit {k : Nat} {x0 : D} {μ : Mu} : callD prg.tab prg.con prg.dic prg.wf (k + 1) n_Reader_digit [x0] μ = finO μ.length (runB (gg k) b_Reader_digit (startR f_Reader_digit.N.length [x0]) μ) := rfl
theorem c_Reader_due {k : Nat} {x0 x1 x2 : D} {μ : Mu} : callD prg.tab prg.con prg.dic prg.wf (k + 1) n_Reader_due [x0, x1, x2] μ = finO μ.length (runB (gg k) b_Reader_due (startR f_Reader_due.N.length [x0, x1, x2]) μ) := rfl
theorem c_Reader_single {k : Nat} {x0 : D} {μ : Mu} : callD prg.tab prg.con prg.dic prg.wf (k + 1) n_Reader_single [x0] μ = finO μ.length (runB (gg k) b_Reader_single (startR f_Reader_single.N.length [x0]) μ) := rfl
theorem c_Reader_bracket {k : Nat} {x0 : D} {μ : Mu} : callD prg.tab prg.con prg.dic prg.wf (k + 1) n_Reader_bracket [x0] μ = finO μ.length (runB (gg k) b_Reader_bracket (startR f_Reader_bracket.N.length [x0]) μ) := rfl
theorem c_Reader_group {k : Nat} {x0 : D} {μ : Mu} : callD prg.tab prg.con prg.dic prg.wf (k + 1) n_Reader_group [x0] μ = finO μ.length (runB (gg k) b_Reader_group (startR f_Reader_group.N.length [x0]) μ) := rfl
theorem c_Reader_member {k : Nat} {x0 x1 : D} {μ : Mu} : callD prg.tab prg.con prg.dic prg.wf (k + 1) n_Reader_member [x0, x1] μ = finO μ.length (runB (gg k) b_Reader_member (startR f_Reader_member.N.length [x0, x1]) μ) := rfl
theorem t_0 : (" !\"#$&'()*+,-./0:;<=>?@ABCDEFGHIJKLMNOPQRSTUVWXYZ[\\]^_`abcdefghijklmnopqrstuvwxyz{|}~" : Str) = tx [32, 33, 34, 35, 36, 38, 39, 40, 41, 42, 43, 44, 45, 46, 47, 48, 58, 59, 60, 61, 62, 63, 64, 65, 66, 67, 68, 69, 70, 71, 72, 73, 74, 75, 76, 77, 78, 79, 80, 81, 82, 83, 84, 85, 86, 87, 88, 89, 90, 91, 92, 93, 94, 95, 96, 97, 98, 99, 100, 101, 102, 103, 104, 105, 106, 107, 108, 109, 110, 111, 112, 113, 114, 115, 116, 117, 118, 119, 120, 121, 122, 123, 124, 125, 126] := by decide +kernel
theorem t_1 : (".[]()<>|&!*+?{}\\" : Str) = tx [46, 91, 93, 40, 41, 60, 62, 124, 38, 33, 42, 43, 63, 123, 125, 92] := by decide +kernel
theorem t_2 : (".[<(!\\" : Str) = tx [46, 91, 60, 40, 33, 92] := by decide +kernel
theorem t_3 : ("sign" : Str) = tx [115, 105, 103, 110] := by decide +kernel
theorem t_4 : ("any" : Str) = tx [97, 110, 121] := by decide +kernel
theorem t_5 : ("slot" : Str) = tx [115, 108, 111, 116] := by decide +kernel
theorem t_6 : ("class" : Str) = tx [99, 108, 97, 115, 115] := by decide +kernel
theorem t_7 : ("other" : Str) = tx [111, 116, 104, 101, 114] := by decide +kernel
theorem t_8 : ("row" : Str) = tx [114, 111, 119] := by decide +kernel
theorem t_9 : ("and" : Str) = tx [97, 110, 100] := by decide +kernel
theorem t_10 : ("or" : Str) = tx [111, 114] := by decide +kernel
theorem t_11 : ("long" : Str) = tx [108, 111, 110, 103] := by decide +kernel
theorem t_12 : ("whole" : Str) = tx [119, 104, 111, 108, 101] := by decide +kernel
theorem t_13 : ("deep" : Str) = tx [100, 101, 101, 112] := by decide +kernel
theorem t_14 : ("\\" : Str) = tx [92] := by decide +kernel
theorem t_15 : ("]^-\\" : Str) = tx [93, 94, 45, 92] := by decide +kernel
theorem t_16 : ("-" : Str) = tx [45] := by decide +kernel
theorem t_17 : ("" : Str) = tx [] := by decide +kernel
theorem t_18 : ("." : Str) = tx [46] := by decide +kernel
theorem t_19 : ("<t>" : Str) = tx [60, 116, 62] := by decide +kernel
theorem t_20 : ("[" : Str) = tx [91] := by decide +kernel
theorem t_21 : ("[^" : Str) = tx [91, 94] := by decide +kernel
theorem t_22 : ("]" : Str) = tx [93] := by decide +kernel
theorem t_23 : ("*" : Str) = tx [42] := by decide +kernel
theorem t_24 : ("+" : Str) = tx [43] := by decide +kernel
theorem t_25 : ("{" : Str) = tx [123] := by decide +kernel
theorem t_26 : (",}" : Str) = tx [44, 125] := by decide +kernel
theorem t_27 : ("?" : Str) = tx [63] := by decide +kernel
theorem t_28 : ("}" : Str) = tx [125] := by decide +kernel
theorem t_29 : ("," : Str) = tx [44] := by decide +kernel
theorem t_30 : ("(" : Str) = tx [40] := by decide +kernel
theorem t_31 : (")" : Str) = tx [41] := by decide +kernel
theorem t_32 : ("()" : Str) = tx [40, 41] := by decide +kernel
theorem t_33 : ("not" : Str) = tx [110, 111, 116] := by decide +kernel
theorem t_34 : ("!" : Str) = tx [33] := by decide +kernel
theorem t_35 : ("times" : Str) = tx [116, 105, 109, 101, 115] := by decide +kernel
theorem t_36 : ("&" : Str) = tx [38] := by decide +kernel
theorem t_37 : ("|" : Str) = tx [124] := by decide +kernel
theorem t_38 : ("part" : Str) = tx [112, 97, 114, 116] := by decide +kernel
theorem t_39 : ("a|" : Str) = tx [97, 124] := by decide +kernel
theorem t_40 : ("|a" : Str) = tx [124, 97] := by decide +kernel
theorem t_41 : ("*a" : Str) = tx [42, 97] := by decide +kernel
theorem t_42 : ("a]" : Str) = tx [97, 93] := by decide +kernel
theorem t_43 : ("a5" : Str) = tx [97, 53] := by decide +kernel
theorem t_44 : ("a}" : Str) = tx [97, 125] := by decide +kernel
theorem t_45 : (">a" : Str) = tx [62, 97] := by decide +kernel
theorem t_46 : ("a&" : Str) = tx [97, 38] := by decide +kernel
theorem t_47 : ("a&|b" : Str) = tx [97, 38, 124, 98] := by decide +kernel
theorem t_48 : ("a\\q" : Str) = tx [97, 92, 113] := by decide +kernel
theorem t_49 : ("escape" : Str) = tx [101, 115, 99, 97, 112, 101] := by decide +kernel
theorem t_50 : ("\\0" : Str) = tx [92, 48] := by decide +kernel
theorem t_51 : ("<x>" : Str) = tx [60, 120, 62] := by decide +kernel
theorem t_52 : ("a<t" : Str) = tx [97, 60, 116] := by decide +kernel
theorem t_53 : ("<tt>" : Str) = tx [60, 116, 116, 62] := by decide +kernel
theorem t_54 : ("<" : Str) = tx [60] := by decide +kernel
theorem t_55 : ("[]" : Str) = tx [91, 93] := by decide +kernel
theorem t_56 : ("[^]" : Str) = tx [91, 94, 93] := by decide +kernel
theorem t_57 : ("[b-a]" : Str) = tx [91, 98, 45, 97, 93] := by decide +kernel
theorem t_58 : ("[ba]" : Str) = tx [91, 98, 97, 93] := by decide +kernel
theorem t_59 : ("[a-cb]" : Str) = tx [91, 97, 45, 99, 98, 93] := by decide +kernel
theorem t_60 : ("[1]" : Str) = tx [91, 49, 93] := by decide +kernel
theorem t_61 : ("[a" : Str) = tx [91, 97] := by decide +kernel
theorem t_62 : ("[a-]" : Str) = tx [91, 97, 45, 93] := by decide +kernel
theorem t_63 : ("[a-a]" : Str) = tx [91, 97, 45, 97, 93] := by decide +kernel
theorem t_64 : ("[abcdefghijklm]" : Str) = tx [91, 97, 98, 99, 100, 101, 102, 103, 104, 105, 106, 107, 108, 109, 93] := by decide +kernel
theorem t_65 : ("a**" : Str) = tx [97, 42, 42] := by decide +kernel
theorem t_66 : ("repeat" : Str) = tx [114, 101, 112, 101, 97, 116] := by decide +kernel
theorem t_67 : ("a{" : Str) = tx [97, 123] := by decide +kernel
theorem t_68 : ("a{x" : Str) = tx [97, 123, 120] := by decide +kernel
theorem t_69 : ("a{2" : Str) = tx [97, 123, 50] := by decide +kernel
theorem t_70 : ("a{2x" : Str) = tx [97, 123, 50, 120] := by decide +kernel
theorem t_71 : ("a{3,1}" : Str) = tx [97, 123, 51, 44, 49, 125] := by decide +kernel
theorem t_72 : ("a{0}" : Str) = tx [97, 123, 48, 125] := by decide +kernel
theorem t_73 : ("a{0,0}" : Str) = tx [97, 123, 48, 44, 48, 125] := by decide +kernel
theorem t_74 : ("a{2,x}" : Str) = tx [97, 123, 50, 44, 120, 125] := by decide +kernel
theorem t_75 : ("a{2,3" : Str) = tx [97, 123, 50, 44, 51] := by decide +kernel
theorem t_76 : ("a{12}" : Str) = tx [97, 123, 49, 50, 125] := by decide +kernel
theorem t_77 : ("a*?" : Str) = tx [97, 42, 63] := by decide +kernel
theorem t_78 : ("a" : Str) = tx [97] := by decide +kernel
theorem t_79 : ("a?" : Str) = tx [97, 63] := by decide +kernel
theorem t_80 : ("a{2}" : Str) = tx [97, 123, 50, 125] := by decide +kernel
theorem t_81 : ("[a-cx]" : Str) = tx [91, 97, 45, 99, 120, 93] := by decide +kernel
theorem t_82 : ("[^0]" : Str) = tx [91, 94, 48, 93] := by decide +kernel
theorem t_83 : ("\\." : Str) = tx [92, 46] := by decide +kernel
theorem t_84 : ("!a" : Str) = tx [33, 97] := by decide +kernel
theorem t_85 : ("!!a" : Str) = tx [33, 33, 97] := by decide +kernel
theorem t_86 : ("a&b|c" : Str) = tx [97, 38, 98, 124, 99] := by decide +kernel
theorem t_87 : ("a{3,}" : Str) = tx [97, 123, 51, 44, 125] := by decide +kernel
theorem t_88 : ("(a|b)c" : Str) = tx [40, 97, 124, 98, 41, 99] := by decide +kernel
theorem t_89 : ("[\\-\\]]" : Str) = tx [91, 92, 45, 92, 93, 93] := by decide +kernel
theorem t_90 : ("0" : Str) = tx [48] := by decide +kernel
theorem t_91 : ("a)" : Str) = tx [97, 41] := by decide +kernel
theorem t_92 : ("bracket" : Str) = tx [98, 114, 97, 99, 107, 101, 116] := by decide +kernel
theorem t_93 : ("signs" : Str) = tx [115, 105, 103, 110, 115] := by decide +kernel
theorem t_94 : ("at" : Str) = tx [97, 116] := by decide +kernel
theorem t_95 : ("brackets" : Str) = tx [98, 114, 97, 99, 107, 101, 116, 115] := by decide +kernel
theorem t_96 : ("choice" : Str) = tx [99, 104, 111, 105, 99, 101] := by decide +kernel
theorem t_97 : ("refuse" : Str) = tx [114, 101, 102, 117, 115, 101] := by decide +kernel
theorem t_98 : ("both" : Str) = tx [98, 111, 116, 104] := by decide +kernel
theorem t_99 : ("denied" : Str) = tx [100, 101, 110, 105, 101, 100] := by decide +kernel
theorem t_100 : ("begins" : Str) = tx [98, 101, 103, 105, 110, 115] := by decide +kernel
theorem t_101 : ("single" : Str) = tx [115, 105, 110, 103, 108, 101] := by decide +kernel
theorem t_102 : ("repeats" : Str) = tx [114, 101, 112, 101, 97, 116, 115] := by decide +kernel
theorem t_103 : ("bounds" : Str) = tx [98, 111, 117, 110, 100, 115] := by decide +kernel
theorem t_104 : ("*+?{" : Str) = tx [42, 43, 63, 123] := by decide +kernel
theorem t_105 : ("digit" : Str) = tx [100, 105, 103, 105, 116] := by decide +kernel
theorem t_106 : ("due" : Str) = tx [100, 117, 101] := by decide +kernel
theorem t_107 : ("group" : Str) = tx [103, 114, 111, 117, 112] := by decide +kernel
theorem t_108 : ("t" : Str) = tx [116] := by decide +kernel
theorem t_109 : (">" : Str) = tx [62] := by decide +kernel
theorem t_110 : ("^" : Str) = tx [94] := by decide +kernel
theorem t_111 : ("member" : Str) = tx [109, 101, 109, 98, 101, 114] := by decide +kernel
theorem t_112 : ("]^-" : Str) = tx [93, 94, 45] := by decide +kernel
theorem bn_is_leaf : ∀ (kV doc pm : Value) (an : Option Addr) (cdv ct : Value) (us : List Value), us.length = (["pattern"] : List Str).length → bindArgs (PySem.W.fnOf "is_leaf" "is_leaf" (defArgs (top 2)) (defBody (top 2)) (defScope (top 2)) .none kV doc pm an cdv ct) ⟨us, []⟩ = pure ((["pattern"] : List Str).zip us) := fun _ _ _ _ _ _ us hl => match us, hl with | [_], _ => rfl
theorem bn_parts_in : ∀ (kV doc pm : Value) (an : Option Addr) (cdv ct : Value) (us : List Value), us.length = (["pattern"] : List Str).length → bindArgs (PySem.W.fnOf "parts_in" "parts_in" (defArgs (top 3)) (defBody (top 3)) (defScope (top 3)) .none kV doc pm an cdv ct) ⟨us, []⟩ = pure ((["pattern"] : List Str).zip us) := fun _ _ _ _ _ _ us hl => match us, hl with | [_], _ => rfl
theorem bn_deep_of : ∀ (kV doc pm : Value) (an : Option Addr) (cdv ct : Value) (us : List Value), us.length = (["pattern"] : List Str).length → bindArgs (PySem.W.fnOf "deep_of" "deep_of" (defArgs (top 19)) (defBody (top 19)) (defScope (top 19)) .none kV doc pm an cdv ct) ⟨us, []⟩ = pure ((["pattern"] : List Str).zip us) := fun _ _ _ _ _ _ us hl => match us, hl with | [_], _ => rfl
theorem bn_read_pattern : ∀ (kV doc pm : Value) (an : Option Addr) (cdv ct : Value) (us : List Value), us.length = (["text"] : List Str).length → bindArgs (PySem.W.fnOf "read_pattern" "read_pattern" (defArgs (top 20)) (defBody (top 20)) (defScope (top 20)) .none kV doc pm an cdv ct) ⟨us, []⟩ = pure ((["text"] : List Str).zip us) := fun _ _ _ _ _ _ us hl => match us, hl with | [_], _ => rfl
theorem bn_escaped : ∀ (kV doc pm : Value) (an : Option Addr) (cdv ct : Value) (us : List Value), us.length = (["sign", "signs"] : List Str).length → bindArgs (PySem.W.fnOf "escaped" "escaped" (defArgs (top 21)) (defBody (top 21)) (defScope (top 21)) .none kV doc pm an cdv ct) ⟨us, []⟩ = pure ((["sign", "signs"] : List Str).zip us) := fun _ _ _ _ _ _ us hl => match us, hl with | [_, _], _ => rfl
theorem bn_spans_text : ∀ (kV doc pm : Value) (an : Option Addr) (cdv ct : Value) (us : List Value), us.length = (["spans"] : List Str).length → bindArgs (PySem.W.fnOf "spans_text" "spans_text" (defArgs (top 22)) (defBody (top 22)) (defScope (top 22)) .none kV doc pm an cdv ct) ⟨us, []⟩ = pure ((["spans"] : List Str).zip us) := fun _ _ _ _ _ _ us hl => match us, hl with | [_], _ => rfl
theorem bn_leaf_text : ∀ (kV doc pm : Value) (an : Option Addr) (cdv ct : Value) (us : List Value), us.length = (["pattern"] : List Str).length → bindArgs (PySem.W.fnOf "leaf_text" "leaf_text" (defArgs (top 23)) (defBody (top 23)) (defScope (top 23)) .none kV doc pm an cdv ct) ⟨us, []⟩ = pure ((["pattern"] : List Str).zip us) := fun _ _ _ _ _ _ us hl => match us, hl with | [_], _ => rfl
theorem bn_repeat_text : ∀ (kV doc pm : Value) (an : Option Addr) (cdv ct : Value) (us : List Value), us.length = (["low", "high"] : List Str).length → bindArgs (PySem.W.fnOf "repeat_text" "repeat_text" (defArgs (top 24)) (defBody (top 24)) (defScope (top 24)) .none kV doc pm an cdv ct) ⟨us, []⟩ = pure ((["low", "high"] : List Str).zip us) := fun _ _ _ _ _ _ us hl => match us, hl with | [_, _], _ => rfl
theorem bn_part_written : ∀ (kV doc pm : Value) (an : Option Addr) (cdv ct : Value) (us : List Value), us.length = (["pattern", "words"] : List Str).length → bindArgs (PySem.W.fnOf "part_written" "part_written" (defArgs (top 25)) (defBody (top 25)) (defScope (top 25)) .none kV doc pm an cdv ct) ⟨us, []⟩ = pure ((["pattern", "words"] : List Str).zip us) := fun _ _ _ _ _ _ us hl => match us, hl with | [_, _], _ => rfl
theorem bn_written : ∀ (kV doc pm : Value) (an : Option Addr) (cdv ct : Value) (us : List Value), us.length = (["pattern"] : List Str).length → bindArgs (PySem.W.fnOf "written" "written" (defArgs (top 26)) (defBody (top 26)) (defScope (top 26)) .none kV doc pm an cdv ct) ⟨us, []⟩ = pure ((["pattern"] : List Str).zip us) := fun _ _ _ _ _ _ us hl => match us, hl with | [_], _ => rfl
theorem bn_write_pattern : ∀ (kV doc pm : Value) (an : Option Addr) (cdv ct : Value) (us : List Value), us.length = (["pattern"] : List Str).length → bindArgs (PySem.W.fnOf "write_pattern" "write_pattern" (defArgs (top 27)) (defBody (top 27)) (defScope (top 27)) .none kV doc pm an cdv ct) ⟨us, []⟩ = pure ((["pattern"] : List Str).zip us) := fun _ _ _ _ _ _ us hl => match us, hl with | [_], _ => rfl
theorem bn_law_cell : ∀ (kV doc pm : Value) (an : Option Addr) (cdv ct : Value) (us : List Value), us.length = (["script", "k"] : List Str).length → bindArgs (PySem.W.fnOf "_law_cell" "_law_cell" (defArgs (top 29)) (defBody (top 29)) (defScope (top 29)) .none kV doc pm an cdv ct) ⟨us, []⟩ = pure ((["script", "k"] : List Str).zip us) := fun _ _ _ _ _ _ us hl => match us, hl with | [_, _], _ => rfl
theorem bn_law_digits : ∀ (kV doc pm : Value) (an : Option Addr) (cdv ct : Value) (us : List Value), us.length = (["script", "first", "last"] : List Str).length → bindArgs (PySem.W.fnOf "_law_digits" "_law_digits" (defArgs (top 30)) (defBody (top 30)) (defScope (top 30)) .none kV doc pm an cdv ct) ⟨us, []⟩ = pure ((["script", "first", "last"] : List Str).zip us) := fun _ _ _ _ _ _ us hl => match us, hl with | [_, _, _], _ => rfl
theorem bn_law_draw : ∀ (kV doc pm : Value) (an : Option Addr) (cdv ct : Value) (us : List Value), us.length = (["box", "many"] : List Str).length → bindArgs (PySem.W.fnOf "_law_draw" "_law_draw" (defArgs (top 31)) (defBody (top 31)) (defScope (top 31)) .none kV doc pm an cdv ct) ⟨us, []⟩ = pure ((["box", "many"] : List Str).zip us) := fun _ _ _ _ _ _ us hl => match us, hl with | [_, _], _ => rfl
theorem bn_law_pick : ∀ (kV doc pm : Value) (an : Option Addr) (cdv ct : Value) (us : List Value), us.length = (["box", "things"] : List Str).length → bindArgs (PySem.W.fnOf "_law_pick" "_law_pick" (defArgs (top 32)) (defBody (top 32)) (defScope (top 32)) .none kV doc pm an cdv ct) ⟨us, []⟩ = pure ((["box", "things"] : List Str).zip us) := fun _ _ _ _ _ _ us hl => match us, hl with | [_, _], _ => rfl
theorem bn_law_like : ∀ (kV doc pm : Value) (an : Option Addr) (cdv ct : Value) (us : List Value), us.length = (["told", "due"] : List Str).length → bindArgs (PySem.W.fnOf "_law_like" "_law_like" (defArgs (top 33)) (defBody (top 33)) (defScope (top 33)) .none kV doc pm an cdv ct) ⟨us, []⟩ = pure ((["told", "due"] : List Str).zip us) := fun _ _ _ _ _ _ us hl => match us, hl with | [_, _], _ => rfl
theorem bn_law_table : ∀ (kV doc pm : Value) (an : Option Addr) (cdv ct : Value) (us : List Value), us.length = ([] : List Str).length → bindArgs (PySem.W.fnOf "_law_table" "_law_table" (defArgs (top 34)) (defBody (top 34)) (defScope (top 34)) .none kV doc pm an cdv ct) ⟨us, []⟩ = pure (([] : List Str).zip us) := fun _ _ _ _ _ _ us hl => match us, hl with | [], _ => rfl
theorem bn_law_good : ∀ (kV doc pm : Value) (an : Option Addr) (cdv ct : Value) (us : List Value), us.length = ([] : List Str).length → bindArgs (PySem.W.fnOf "_law_good" "_law_good" (defArgs (top 35)) (defBody (top 35)) (defScope (top 35)) .none kV doc pm an cdv ct) ⟨us, []⟩ = pure (([] : List Str).zip us) := fun _ _ _ _ _ _ us hl => match us, hl with | [], _ => rfl
theorem bn_law_told : ∀ (kV doc pm : Value) (an : Option Addr) (cdv ct : Value) (us : List Value), us.length = (["text"] : List Str).length → bindArgs (PySem.W.fnOf "_law_told" "_law_told" (defArgs (top 36)) (defBody (top 36)) (defScope (top 36)) .none kV doc pm an cdv ct) ⟨us, []⟩ = pure ((["text"] : List Str).zip us) := fun _ _ _ _ _ _ us hl => match us, hl with | [_], _ => rfl
theorem bn_law : ∀ (kV doc pm : Value) (an : Option Addr) (cdv ct : Value) (us : List Value), us.length = (["script"] : List Str).length → bindArgs (PySem.W.fnOf "law" "law" (defArgs (top 37)) (defBody (top 37)) (defScope (top 37)) .none kV doc pm an cdv ct) ⟨us, []⟩ = pure ((["script"] : List Str).zip us) := fun _ _ _ _ _ _ us hl => match us, hl with | [_], _ => rfl
theorem bn_Reader___init__ : ∀ (kV doc pm : Value) (an : Option Addr) (cdv ct : Value) (us : List Value), us.length = (["self", "text"] : List Str).length → bindArgs (PySem.W.fnOf "__init__" "Reader.__init__" (defArgs (meth 15 0)) (defBody (meth 15 0)) (defScope (meth 15 0)) .none kV doc pm an cdv ct) ⟨us, []⟩ = pure ((["self", "text"] : List Str).zip us) := fun _ _ _ _ _ _ us hl => match us, hl with | [_, _], _ => rfl
theorem bn_Reader_sign : ∀ (kV doc pm : Value) (an : Option Addr) (cdv ct : Value) (us : List Value), us.length = (["self"] : List Str).length → bindArgs (PySem.W.fnOf "sign" "Reader.sign" (defArgs (meth 15 1)) (defBody (meth 15 1)) (defScope (meth 15 1)) .none kV doc pm an cdv ct) ⟨us, []⟩ = pure ((["self"] : List Str).zip us) := fun _ _ _ _ _ _ us hl => match us, hl with | [_], _ => rfl
theorem bn_Reader_refuse : ∀ (kV doc pm : Value) (an : Option Addr) (cdv ct : Value) (us : List Value), us.length = (["self", "reason"] : List Str).length → bindArgs (PySem.W.fnOf "refuse" "Reader.refuse" (defArgs (meth 15 2)) (defBody (meth 15 2)) (defScope (meth 15 2)) .none kV doc pm an cdv ct) ⟨us, []⟩ = pure ((["self", "reason"] : List Str).zip us) := fun _ _ _ _ _ _ us hl => match us, hl with | [_, _], _ => rfl
theorem bn_Reader_whole : ∀ (kV doc pm : Value) (an : Option Addr) (cdv ct : Value) (us : List Value), us.length = (["self"] : List Str).length → bindArgs (PySem.W.fnOf "whole" "Reader.whole" (defArgs (meth 15 3)) (defBody (meth 15 3)) (defScope (meth 15 3)) .none kV doc pm an cdv ct) ⟨us, []⟩ = pure ((["self"] : List Str).zip us) := fun _ _ _ _ _ _ us hl => match us, hl with | [_], _ => rfl
theorem bn_Reader_choice : ∀ (kV doc pm : Value) (an : Option Addr) (cdv ct : Value) (us : List Value), us.length = (["self"] : List Str).length → bindArgs (PySem.W.fnOf "choice" "Reader.choice" (defArgs (meth 15 4)) (defBody (meth 15 4)) (defScope (meth 15 4)) .none kV doc pm an cdv ct) ⟨us, []⟩ = pure ((["self"] : List Str).zip us) := fun _ _ _ _ _ _ us hl => match us, hl with | [_], _ => rfl
theorem bn_Reader_both : ∀ (kV doc pm : Value) (an : Option Addr) (cdv ct : Value) (us : List Value), us.length = (["self"] : List Str).length → bindArgs (PySem.W.fnOf "both" "Reader.both" (defArgs (meth 15 5)) (defBody (meth 15 5)) (defScope (meth 15 5)) .none kV doc pm an cdv ct) ⟨us, []⟩ = pure ((["self"] : List Str).zip us) := fun _ _ _ _ _ _ us hl => match us, hl with | [_], _ => rfl
theorem bn_Reader_row : ∀ (kV doc pm : Value) (an : Option Addr) (cdv ct : Value) (us : List Value), us.length = (["self"] : List Str).length → bindArgs (PySem.W.fnOf "row" "Reader.row" (defArgs (meth 15 6)) (defBody (meth 15 6)) (defScope (meth 15 6)) .none kV doc pm an cdv ct) ⟨us, []⟩ = pure ((["self"] : List Str).zip us) := fun _ _ _ _ _ _ us hl => match us, hl with | [_], _ => rfl
theorem bn_Reader_begins : ∀ (kV doc pm : Value) (an : Option Addr) (cdv ct : Value) (us : List Value), us.length = (["self"] : List Str).length → bindArgs (PySem.W.fnOf "begins" "Reader.begins" (defArgs (meth 15 7)) (defBody (meth 15 7)) (defScope (meth 15 7)) .none kV doc pm an cdv ct) ⟨us, []⟩ = pure ((["self"] : List Str).zip us) := fun _ _ _ _ _ _ us hl => match us, hl with | [_], _ => rfl
theorem bn_Reader_denied : ∀ (kV doc pm : Value) (an : Option Addr) (cdv ct : Value) (us : List Value), us.length = (["self"] : List Str).length → bindArgs (PySem.W.fnOf "denied" "Reader.denied" (defArgs (meth 15 8)) (defBody (meth 15 8)) (defScope (meth 15 8)) .none kV doc pm an cdv ct) ⟨us, []⟩ = pure ((["self"] : List Str).zip us) := fun _ _ _ _ _ _ us hl => match us, hl with | [_], _ => rfl
theorem bn_Reader_repeats : ∀ (kV doc pm : Value) (an : Option Addr) (cdv ct : Value) (us : List Value), us.length = (["self"] : List Str).length → bindArgs (PySem.W.fnOf "repeats" "Reader.repeats" (defArgs (meth 15 9)) (defBody (meth 15 9)) (defScope (meth 15 9)) .none kV doc pm an cdv ct) ⟨us, []⟩ = pure ((["self"] : List Str).zip us) := fun _ _ _ _ _ _ us hl => match us, hl with | [_], _ => rfl
theorem bn_Reader_bounds : ∀ (kV doc pm : Value) (an : Option Addr) (cdv ct : Value) (us : List Value), us.length = (["self"] : List Str).length → bindArgs (PySem.W.fnOf "bounds" "Reader.bounds" (defArgs (meth 15 10)) (defBody (meth 15 10)) (defScope (meth 15 10)) .none kV doc pm an cdv ct) ⟨us, []⟩ = pure ((["self"] : List Str).zip us) := fun _ _ _ _ _ _ us hl => match us, hl with | [_], _ => rfl
theorem bn_Reader_digit : ∀ (kV doc pm : Value) (an : Option Addr) (cdv ct : Value) (us : List Value), us.length = (["self"] : List Str).length → bindArgs (PySem.W.fnOf "digit" "Reader.digit" (defArgs (meth 15 11)) (defBody (meth 15 11)) (defScope (meth 15 11)) .none kV doc pm an cdv ct) ⟨us, []⟩ = pure ((["self"] : List Str).zip us) := fun _ _ _ _ _ _ us hl => match us, hl with | [_], _ => rfl
theorem bn_Reader_due : ∀ (kV doc pm : Value) (an : Option Addr) (cdv ct : Value) (us : List Value), us.length = (["self", "sign", "reason"] : List Str).length → bindArgs (PySem.W.fnOf "due" "Reader.due" (defArgs (meth 15 12)) (defBody (meth 15 12)) (defScope (meth 15 12)) .none kV doc pm an cdv ct) ⟨us, []⟩ = pure ((["self", "sign", "reason"] : List Str).zip us) := fun _ _ _ _ _ _ us hl => match us, hl with | [_, _, _], _ => rfl
theorem bn_Reader_single : ∀ (kV doc pm : Value) (an : Option Addr) (cdv ct : Value) (us : List Value), us.length = (["self"] : List Str).length → bindArgs (PySem.W.fnOf "single" "Reader.single" (defArgs (meth 15 13)) (defBody (meth 15 13)) (defScope (meth 15 13)) .none kV doc pm an cdv ct) ⟨us, []⟩ = pure ((["self"] : List Str).zip us) := fun _ _ _ _ _ _ us hl => match us, hl with | [_], _ => rfl
theorem bn_Reader_bracket : ∀ (kV doc pm : Value) (an : Option Addr) (cdv ct : Value) (us : List Value), us.length = (["self"] : List Str).length → bindArgs (PySem.W.fnOf "bracket" "Reader.bracket" (defArgs (meth 15 14)) (defBody (meth 15 14)) (defScope (meth 15 14)) .none kV doc pm an cdv ct) ⟨us, []⟩ = pure ((["self"] : List Str).zip us) := fun _ _ _ _ _ _ us hl => match us, hl with | [_], _ => rfl
theorem bn_Reader_group : ∀ (kV doc pm : Value) (an : Option Addr) (cdv ct : Value) (us : List Value), us.length = (["self"] : List Str).length → bindArgs (PySem.W.fnOf "group" "Reader.group" (defArgs (meth 15 15)) (defBody (meth 15 15)) (defScope (meth 15 15)) .none kV doc pm an cdv ct) ⟨us, []⟩ = pure ((["self"] : List Str).zip us) := fun _ _ _ _ _ _ us hl => match us, hl with | [_], _ => rfl
theorem bn_Reader_member : ∀ (kV doc pm : Value) (an : Option Addr) (cdv ct : Value) (us : List Value), us.length = (["self", "before"] : List Str).length → bindArgs (PySem.W.fnOf "member" "Reader.member" (defArgs (meth 15 16)) (defBody (meth 15 16)) (defScope (meth 15 16)) .none kV doc pm an cdv ct) ⟨us, []⟩ = pure ((["self", "before"] : List Str).zip us) := fun _ _ _ _ _ _ us hl => match us, hl with | [_, _], _ => rfl
end PyI.K12
/-! W0: calls; the law's digits, draws, likeness. -/
namespace PyI.K12
open PySem L2 PyProof.Rows
section
variable {k f c : Nat} {b : B} {ρ ρ' : Rho} {ds fs l : List D} {μ μ' ν : Mu} {d : D}
theorem call_of (hc : callD prg.tab prg.con prg.dic prg.wf (k + 1) f ds μ = finO μ.length (runB (gg k) b ρ μ)) (hl : μ'.length = μ.length) (h : runB (gg k) b ρ μ = .rt d μ') : (gg (k + 1)).call f ds μ = .ok d μ' := by
  show callD prg.tab prg.con prg.dic prg.wf (k + 1) f ds μ = _
  rw [hc, h, finO_rt, fin_same hl]
theorem call_er (hc : callD prg.tab prg.con prg.dic prg.wf (k + 1) f ds μ = finO μ.length (runB (gg k) b ρ μ)) (hl : μ'.length = μ.length) (h : runB (gg k) b ρ μ = .er c fs ρ' μ') : (gg (k + 1)).call f ds μ = .err c fs μ' := by
  show callD prg.tab prg.con prg.dic prg.wf (k + 1) f ds μ = _
  rw [hc, h, finO_er hl]
theorem call_more (hc : callD prg.tab prg.con prg.dic prg.wf (k + 1) f ds μ = finO μ.length (runB (gg k) b ρ μ)) (hμ : PureM μ) (hd : pureD d = true) (h : runB (gg k) b ρ μ = .rt d (μ ++ ν)) : (gg (k + 1)).call f ds μ = .ok d μ := by
  show callD prg.tab prg.con prg.dic prg.wf (k + 1) f ds μ = _
  rw [hc, h, finO_rt, fin_more hμ hd]
theorem call_more_er (hc : callD prg.tab prg.con prg.dic prg.wf (k + 1) f ds μ = finO μ.length (runB (gg k) b ρ μ)) (hμ : PureM μ) (hd : pureDs fs = true) (h : runB (gg k) b ρ μ = .er c fs ρ' (μ ++ ν)) : (gg (k + 1)).call f ds μ = .err c fs μ := by
  show callD prg.tab prg.con prg.dic prg.wf (k + 1) f ds μ = _
  rw [hc, h, finO_er_more hμ hd]
theorem call_lst (hc : callD prg.tab prg.con prg.dic prg.wf (k + 1) f ds μ = finO μ.length (runB (gg k) b ρ μ)) (hμ : PureM μ) (hl : pureDs l = true) (h : runB (gg k) b ρ μ = .rt (.ref μ.length) (μ ++ [.lst l])) : (gg (k + 1)).call f ds μ = .ok (.lst l) μ := by
  show callD prg.tab prg.con prg.dic prg.wf (k + 1) f ds μ = _
  rw [hc, h, finO_rt, fin_ret hμ hl]
theorem call_dic {i : Nat} (hc : callD prg.tab prg.con prg.dic prg.wf (k + 1) f ds μ = finO μ.length (runB (gg k) b ρ μ)) (hm : ∀ l, ν[i]? ≠ some (.lst l)) (hi : i < ν.length) (h : runB (gg k) b ρ μ = .rt (.ref (μ.length + i)) (μ ++ ν)) : (gg (k + 1)).call f ds μ = .ok (.ref (μ.length + i)) (μ ++ ν) := by
  show callD prg.tab prg.con prg.dic prg.wf (k + 1) f ds μ = _
  rw [hc, h, finO_rt, fin_dic hm hi]
end
abbrev dBody : B := forB (nthS b_law_digits 1)
abbrev dBig : B := forB (nthS (thenB (nthS dBody 3)) 0)
abbrev dSm : B := forB (nthS (elseB (nthS dBody 3)) 1)
section
variable {k : Nat} {μ : Mu}
theorem cell_ok {i : Nat} {ns : List Int} : ∃ v, (gg (k + 1)).call n_law_cell [.kl (ns.map D.int), nD i] μ = .ok (.int v) μ := by
  have test : evalT (gg k) (.val (.cmp .lt (.var 1) (.bif .len (.cons (.var 0) .nil)))) (startR f_law_cell.N.length [.kl (ns.map D.int), nD i]) μ = .ok (decide ((i : Int) < ((ns.map D.int).length : Int))) μ := tv_bl (ev_cmp (ev_var rfl) (ev_bif1 (ev_var rfl) len_kl) lt_int)
  by_cases h : i < ns.length
  · refine ⟨ns[i], call_of c_law_cell rfl (run_rt (ifs_true (test.trans ?_) (run_rt (st_ret (ev_idx (ev_var rfl) (ev_var rfl) (ix_kl (by rw [List.getElem?_map, List.getElem?_eq_getElem h]; rfl)))))))⟩
    rw [decide_eq_true (by rw [List.length_map]; omega)]
  · refine ⟨0, call_of c_law_cell rfl (run_nx (ifs_false (test.trans ?_) run_nil) (run_rt (st_ret ev_cst)))⟩
    rw [decide_eq_false (by rw [List.length_map]; omega)]
theorem big_loop {n m : Nat} {x0 x1 x2 x4 x6 x7 : Option D} {c : Int} {ds : List Int} (hn : n = μ.length) (hm : m ≤ 1000000) (hl : ds.length ≤ m) :
    ∃ ρ' μ', forLoop (fbody (gg k) (.nm 6) dBig) (chkOf none) (rngD 0 60) [x0, x1, x2, some (.ref n), x4, some (.int c), x6, x7] (μ ++ [.lst (ds.map D.int)]) = .nx ρ' μ' ∧
      ∃ (ds' : List Int) (c' : Int) (o6 : Option D), ds'.length ≤ m + 60 ∧ μ' = μ ++ [.lst (ds'.map D.int)] ∧ ρ' = [x0, x1, x2, some (.ref n), x4, some (.int c'), o6, x7] := by
  refine for_range (fun j ρ ν => ∃ (ds' : List Int) (c' : Int) (o6 : Option D), ds'.length ≤ m + j ∧ ν = μ ++ [.lst (ds'.map D.int)] ∧ ρ = [x0, x1, x2, some (.ref n), x4, some (.int c'), o6, x7]) ⟨ds, c, x6, hl, rfl, rfl⟩ ?_
  rintro i hi ρ ν ⟨ds', c', o6, h1, rfl, rfl⟩
  subst hn
  generalize (0 : Int) + (i : Int) = j
  rw [fbody_nm]
  have g3 : (ds'.map D.int).length < 16777216 := by rw [List.length_map]; omega
  have test : evalT (gg k) (.val (.cmp .gt (.var 5) (.cst (.int 0)))) ([x0, x1, x2, some (.ref μ.length), x4, some (.int c'), o6, x7].set 6 (some (.int j))) (μ ++ [.lst (ds'.map D.int)]) = .ok (decide (0 < c')) _ := tv_bl (ev_cmp (ev_var rfl) ev_cst gt_int)
  by_cases hc : 0 < c'
  · rw [decide_eq_true hc] at test
    refine .inl ⟨_, _, run_nx (ifs_true test (run_nx (st_append (ev_var rfl) (ev_bin (ev_bif1 (ev_var rfl) int_int) ev_cst (mod_int (by decide))) snoc_get g3 snoc_set snoc_get) (run_nx (st_set (ev_bin (ev_var rfl) ev_cst (fdiv_int (by decide) (by decide)))) run_nil))) run_nil, ds' ++ [c' % 1000], c' / 1000, _, by simp; omega, by rw [List.map_append]; rfl, rfl⟩
  · rw [decide_eq_false hc] at test
    exact .inl ⟨_, _, run_nx (ifs_false test run_nil) run_nil, ds', c', _, by omega, rfl, rfl⟩
theorem small_loop {n m : Nat} {x0 x1 x2 x4 x5 x6 : Option D} {c : Int} {ds : List Int} (hn : n = μ.length) (hm : m ≤ 1000000) (hl : ds.length ≤ m) :
    ∃ ρ' μ', forLoop (fbody (gg k) (.nm 6) dSm) (chkOf none) (rngD 0 12) [x0, x1, x2, some (.ref n), x4, x5, x6, some (.int c)] (μ ++ [.lst (ds.map D.int)]) = .nx ρ' μ' ∧
      ∃ (ds' : List Int) (c' : Int) (o6 : Option D), ds'.length ≤ m + 12 ∧ μ' = μ ++ [.lst (ds'.map D.int)] ∧ ρ' = [x0, x1, x2, some (.ref n), x4, x5, o6, some (.int c')] := by
  refine for_range (fun j ρ ν => ∃ (ds' : List Int) (c' : Int) (o6 : Option D), ds'.length ≤ m + j ∧ ν = μ ++ [.lst (ds'.map D.int)] ∧ ρ = [x0, x1, x2, some (.ref n), x4, x5, o6, some (.int c')]) ⟨ds, c, x6, hl, rfl, rfl⟩ ?_
  rintro i hi ρ ν ⟨ds', c', o6, h1, rfl, rfl⟩
  subst hn
  generalize (0 : Int) + (i : Int) = j
  rw [fbody_nm]
  have g3 : (ds'.map D.int).length < 16777216 := by rw [List.length_map]; omega
  refine .inl ⟨_, _, run_nx (st_set (ev_bin (ev_bif1 (ev_bin (ev_bin (ev_bin (ev_var rfl) ev_cst (mul_int (.inr (by decide)))) (ev_bin ev_cst (ev_var rfl) (mul_int (.inl (by decide)))) rfl) ev_cst rfl) int_int) ev_cst (mod_int (by decide)))) (run_nx (st_append (ev_var rfl) (ev_bin (ev_bif1 (ev_bin (ev_var rfl) ev_cst (fdiv_int (by decide) (by decide))) int_int) ev_cst (mod_int (by decide))) snoc_get g3 snoc_set snoc_get) run_nil), ds' ++ [((c' * 16807 + 7 * j + 1) % 2147483647) / 997 % 1000], _, _, by simp; omega, by rw [List.map_append]; rfl, rfl⟩
theorem digits_ok {ns : List Int} (hμ : PureM μ) : ∃ ds : List Int, (gg (k + 2)).call n_law_digits [.kl (ns.map D.int), .int 0, .int 63] μ = .ok (.lst (ds.map D.int)) μ := by
  have loop := for_range (f := fbody (gg (k + 1)) (.nm 4) dBody) (lo := 0) (n := 63) (ρ := [some (.kl (ns.map D.int)), some (.int 0), some (.int 63), some (.ref μ.length), none, none, none, none]) (μ := μ ++ [.lst []])
    (fun i ρ ν => ∃ (ds : List Int) (o4 o5 o6 o7 : Option D), ds.length ≤ 60 * i ∧ ν = μ ++ [.lst (ds.map D.int)] ∧ ρ = [some (.kl (ns.map D.int)), some (.int 0), some (.int 63), some (.ref μ.length), o4, o5, o6, o7])
    ⟨[], none, none, none, none, by simp, rfl, rfl⟩ (by
      rintro i hi ρ ν ⟨ds, o4, o5, o6, o7, h1, rfl, rfl⟩
      rw [Int.zero_add, fbody_nm]
      obtain ⟨v, hv⟩ := cell_ok (k := k) (i := i) (ns := ns) (μ := μ ++ [.lst (ds.map D.int)])
      generalize hX : D.kl (ns.map D.int) = X at hv ⊢
      obtain ⟨c, h3⟩ : ∃ c, runS (gg (k + 1)) (nthS dBody 1) [some X, some (.int 0), some (.int 63), some (.ref μ.length), some (nD i), some (.int v), o6, o7] (μ ++ [.lst (ds.map D.int)]) = .nx [some X, some (.int 0), some (.int 63), some (.ref μ.length), some (nD i), some (.int c), o6, o7] (μ ++ [.lst (ds.map D.int)]) := by
        have test : evalT (gg (k + 1)) (.val (.cmp .lt (.var 5) (.cst (.int 0)))) [some X, some (.int 0), some (.int 63), some (.ref μ.length), some (nD i), some (.int v), o6, o7] (μ ++ [.lst (ds.map D.int)]) = .ok (decide (v < 0)) _ := tv_bl (ev_cmp (ev_var rfl) ev_cst lt_int)
        by_cases hc : v < 0
        · rw [decide_eq_true hc] at test
          exact ⟨1 - 2 * v, ifs_true test (run_nx (st_set (ev_bin ev_cst (ev_bin ev_cst (ev_var rfl) (mul_int (.inl (by decide)))) rfl)) run_nil)⟩
        · rw [decide_eq_false hc] at test
          exact ⟨v, ifs_false test run_nil⟩
      have test : evalT (gg (k + 1)) (.val (.cmp .gt (.bif .len (.cons (.var 3) .nil)) (.cst (.int 1500)))) [some X, some (.int 0), some (.int 63), some (.ref μ.length), some (nD i), some (.int c), o6, o7] (μ ++ [.lst (ds.map D.int)]) = .ok (decide ((1500 : Int) < ((ds.map D.int).length : Int))) (μ ++ [.lst (ds.map D.int)]) := tv_bl (ev_cmp (ev_bif1 (ev_var rfl) (len_ref snoc_get)) ev_cst gt_int)
      by_cases hb : (1500 : Int) < ((ds.map D.int).length : Int)
      · rw [decide_eq_true hb] at test
        exact .inr ⟨_, _, run_nx (st_set (ev_call2 (ev_var rfl) (ev_var rfl) hv)) (run_nx h3 (run_br (ifs_true test (run_br (ρ' := [some X, some (.int 0), some (.int 63), some (.ref μ.length), some (nD i), some (.int c), o6, o7]) (μ' := μ ++ [.lst (ds.map D.int)]) (by rw [runS]))))), ds, _, _, _, _, by omega, rfl, rfl⟩
      · rw [decide_eq_false hb] at test
        have gp : (0 : Int) ≤ 18 ∧ (18 : Int) ≤ 1000000 ∧ (10 : Int).natAbs < 2 ^ 64 := by decide
        have ep : ∀ {ν : Mu}, binD .pow (.int 10) (.int 18) ν = .ok (.int ((10 : Int) ^ (18 : Int).toNat)) ν := fun {ν} => by
          show needs _ _ = _
          rw [needs_pos gp]
        have t4 : evalT (gg (k + 1)) (.val (.cmp .ge (.var 5) (.bin .pow (.cst (.int 10)) (.cst (.int 18))))) [some X, some (.int 0), some (.int 63), some (.ref μ.length), some (nD i), some (.int c), o6, o7] (μ ++ [.lst (ds.map D.int)]) = .ok (decide ((10 : Int) ^ (18 : Int).toNat ≤ c)) (μ ++ [.lst (ds.map D.int)]) := tv_bl (ev_cmp (ev_var rfl) (ev_bin ev_cst ev_cst ep) ge_int)
        have h4 : ∃ ρ' μ', runS (gg (k + 1)) (nthS dBody 3) [some X, some (.int 0), some (.int 63), some (.ref μ.length), some (nD i), some (.int c), o6, o7] (μ ++ [.lst (ds.map D.int)]) = .nx ρ' μ' ∧ ∃ (ds : List Int) (o4 o5 o6 o7 : Option D), ds.length ≤ 60 * (i + 1) ∧ μ' = μ ++ [.lst (ds.map D.int)] ∧ ρ' = [some X, some (.int 0), some (.int 63), some (.ref μ.length), o4, o5, o6, o7] := by
          by_cases hg : (10 : Int) ^ (18 : Int).toNat ≤ c
          · rw [decide_eq_true hg] at t4
            obtain ⟨ρ', μ', e, ds', c', o6', q1, q2, q3⟩ := big_loop (k := k + 1) (n := μ.length) (m := 60 * i) (x0 := some X) (x1 := some (.int 0)) (x2 := some (.int 63)) (x4 := some (nD i)) (x6 := o6) (x7 := o7) (c := c) (ds := ds) (μ := μ) rfl (by omega) h1
            exact ⟨ρ', μ', ifs_true t4 (run_nx (for_run' (it_rng1 (i := 60) (n := 60) ev_cst rfl (by omega)) e) run_nil), ds', _, _, _, _, by omega, q2, q3⟩
          · rw [decide_eq_false hg] at t4
            obtain ⟨ρ', μ', e, ds', c', o6', q1, q2, q3⟩ := small_loop (k := k + 1) (n := μ.length) (m := 60 * i) (x0 := some X) (x1 := some (.int 0)) (x2 := some (.int 63)) (x4 := some (nD i)) (x5 := some (.int c)) (x6 := o6) (c := (c * 48271 + (i : Int) * 69621 + 11) % 2147483647) (ds := ds) (μ := μ) rfl (by omega) h1
            exact ⟨ρ', μ', ifs_false t4 (run_nx (st_set (ev_bin (ev_bif1 (ev_bin (ev_bin (ev_bin (ev_var rfl) ev_cst (mul_int (.inr (by decide)))) (ev_bin (ev_var rfl) ev_cst (mul_int (.inr (by decide)))) rfl) ev_cst rfl) int_int) ev_cst (mod_int (by decide)))) (run_nx (for_run' (it_rng1 (i := 12) (n := 12) ev_cst rfl (by omega)) e) run_nil)), ds', _, _, _, _, by omega, q2, q3⟩
        obtain ⟨ρ', μ', e4, q⟩ := h4
        exact .inl ⟨ρ', μ', run_nx (st_set (ev_call2 (ev_var rfl) (ev_var rfl) hv)) (run_nx h3 (run_nx (ifs_false test run_nil) (run_nx e4 run_nil))), q⟩)
  obtain ⟨ρ', μ', e, ds, o4, o5, o6, o7, h1, rfl, rfl⟩ := loop
  refine ⟨ds, ?_⟩
  have full : runB (gg (k + 1)) b_law_digits (startR f_law_digits.N.length [.kl (ns.map D.int), .int 0, .int 63]) μ = .rt (.ref μ.length) (μ ++ [.lst (ds.map D.int)]) := by
    have hb : b_law_digits = .cons (.new 3 (.lst .nil)) (.cons (.for_ (.nm 4) (.rng2 (.var 1) (.var 2)) dBody) (.cons (.ret (.var 3)) .nil)) := by kernel_rfl
    have hs : startR f_law_digits.N.length [.kl (ns.map D.int), .int 0, .int 63] = [some (.kl (ns.map D.int)), some (.int 0), some (.int 63), none, none, none, none, none] := rfl
    rw [hb, hs]
    refine run_nx (ρ' := [some (.kl (ns.map D.int)), some (.int 0), some (.int 63), some (.ref μ.length), none, none, none, none]) (μ' := μ ++ [.lst []]) (st_new ev_lst0) ?_
    have hi : evalIt (gg (k + 1)) (.rng2 (.var 1) (.var 2)) [some (.kl (ns.map D.int)), some (.int 0), some (.int 63), some (.ref μ.length), none, none, none, none] (μ ++ [.lst []]) = .ok (rngD 0 63, none) (μ ++ [.lst []]) := it_rng2 (μ1 := μ ++ [.lst []]) (i := 0) (j := 63) (n := 0) (m := 63) (ev_var rfl) (ev_var rfl) rfl rfl (by omega)
    exact run_nx (for_run' hi e) (run_rt (st_ret (ev_var rfl)))
  exact call_lst (c_law_digits (k := k + 1)) hμ (pureDs_map (fun _ => rfl) ds) full
end
/-- the heap: the box -/
def Bx (ν : Mu) : Prop := ∃ (ds : List Int) (at_ : Nat), ν = [.lst [.lst (ds.map D.int), nD at_]]
theorem Bx.pure {ν : Mu} (h : Bx ν) : PureM ν := by
  obtain ⟨ds, at_, rfl⟩ := h
  intro m hm
  rcases List.mem_cons.mp hm with rfl | q
  · show pureDs [.lst (ds.map D.int), nD at_] = true
    simp only [pureDs, pureD, pureDs_map (f := D.int) (fun _ => rfl) ds, nD, Bool.and_true]
  · cases q
theorem Bx.len {ν : Mu} (h : Bx ν) : ν.length = 1 := by
  obtain ⟨ds, at_, rfl⟩ := h
  rfl
section
variable {k : Nat} {ν : Mu}
theorem draw_ok (h : Bx ν) {m : Nat} (hm : 0 < m) : ∃ r ν', r < m ∧ Bx ν' ∧ (gg (k + 1)).call n_law_draw [.ref 0, nD m] ν = .ok (nD r) ν' := by
  obtain ⟨ds, at_, rfl⟩ := h
  have hseq : ∀ (x : Nat), ([.lst [.lst (ds.map D.int), nD x]] : Mu)[0]? = some (.lst [.lst (ds.map D.int), nD x]) := fun _ => rfl
  have st2 : ∀ {o : Out}, runB (gg k) (match b_law_draw with | .cons _ (.cons _ b) => b | b => b) [some (.ref 0), some (nD m), some (nD at_)] [.lst [.lst (ds.map D.int), nD (at_ + 1)]] = o → runB (gg k) b_law_draw (startR f_law_draw.N.length [.ref 0, nD m]) [.lst [.lst (ds.map D.int), nD at_]] = o := fun {o} e => by
    refine run_nx (st_set (ev_idx (ev_var rfl) ev_cst (ix_ref (n := 1) (hseq _) rfl))) (run_nx (ρ' := [some (.ref 0), some (nD m), some (nD at_)]) (μ' := [.lst [.lst (ds.map D.int), nD (at_ + 1)]]) ?_ e)
    have e1 : evalE (gg k) (.bin .add (.var 2) (.cst (.int 1))) [some (.ref 0), some (nD m), some (nD at_)] [.lst [.lst (ds.map D.int), nD at_]] = .ok (nD (at_ + 1)) [.lst [.lst (ds.map D.int), nD at_]] := ev_add1 (ev_var rfl)
    show runS (gg k) (.setIx (.var 0) (.cst (.int 1)) (.bin .add (.var 2) (.cst (.int 1)))) [some (.ref 0), some (nD m), some (nD at_)] [.lst [.lst (ds.map D.int), nD at_]] = _
    rw [runS, e1, then_ok, ev_var (d := .ref 0) rfl, then_ok, ev_cst, then_ok]
    rfl
  have e0 : evalE (gg k) (.idx (.var 0) (.cst (.int 0))) [some (.ref 0), some (nD m), some (nD at_)] [.lst [.lst (ds.map D.int), nD (at_ + 1)]] = .ok (.lst (ds.map D.int)) [.lst [.lst (ds.map D.int), nD (at_ + 1)]] := ev_idx (ev_var rfl) ev_cst (ix_ref (n := 0) (hseq _) rfl)
  have test : evalT (gg k) (.val (.cmp .lt (.var 2) (.bif .len (.cons (.idx (.var 0) (.cst (.int 0))) .nil)))) [some (.ref 0), some (nD m), some (nD at_)] [.lst [.lst (ds.map D.int), nD (at_ + 1)]] = .ok (decide ((at_ : Int) < ((ds.map D.int).length : Int))) [.lst [.lst (ds.map D.int), nD (at_ + 1)]] := tv_bl (ev_cmp (ev_var rfl) (ev_bif1 e0 len_lst) lt_int)
  have modn : ∀ (v : Int), ∃ r : Nat, r < m ∧ v % (m : Int) = (r : Int) := fun v => by
    have h1 := Int.emod_nonneg v (show (m : Int) ≠ 0 by omega)
    have h2 := Int.emod_lt_of_pos v (show (0 : Int) < (m : Int) by omega)
    exact ⟨(v % (m : Int)).toNat, by omega, by omega⟩
  by_cases hc : at_ < ds.length
  · rw [decide_eq_true (by rw [List.length_map]; omega)] at test
    obtain ⟨r, hr, er⟩ := modn ds[at_]
    refine ⟨r, _, hr, ⟨ds, at_ + 1, rfl⟩, call_of c_law_draw rfl (st2 (run_rt (ifs_true test (run_rt (st_ret (ev_bin (ev_bif1 (ev_idx e0 (ev_var rfl) (ix_lst (d := .int ds[at_]) (by rw [List.getElem?_map, List.getElem?_eq_getElem hc]; rfl))) int_int) (ev_var rfl) ((mod_int (by omega)).trans ?_)))))))⟩
    rw [er]
  · rw [decide_eq_false (by rw [List.length_map]; omega)] at test
    obtain ⟨r, hr, er⟩ := modn ((at_ : Int) * 7)
    refine ⟨r, _, hr, ⟨ds, at_ + 1, rfl⟩, call_of c_law_draw rfl (st2 (run_nx (ifs_false test run_nil) (run_rt (st_ret (ev_bin (ev_bif1 (ev_bin (ev_var rfl) ev_cst (mul_int (.inr (by decide)))) int_int) (ev_var rfl) ((mod_int (by omega)).trans ?_))))))⟩
    rw [er]
theorem pick_ok (h : Bx ν) {l : List D} (hl : l ≠ []) : ∃ x ν', x ∈ l ∧ Bx ν' ∧ (gg (k + 2)).call n_law_pick [.ref 0, .lst l] ν = .ok x ν' := by
  obtain ⟨r, ν', hr, hb, e⟩ := draw_ok (k := k) h (m := 900) (by decide)
  have h0 : 0 < l.length := List.length_pos_iff.mpr hl
  have hm := Nat.mod_lt r h0
  refine ⟨l[r % l.length], ν', List.getElem_mem hm, hb, call_of c_law_pick (by rw [hb.len, h.len]) (run_rt (st_ret (ev_idx (ev_var rfl) (ev_bin (ev_bif1 (ev_call2 (ev_var rfl) ev_cst e) int_int) (ev_bif1 (ev_var rfl) len_lst) (mod_n h0)) (ix_lst (List.getElem?_eq_getElem hm)))))⟩
end
/-! ### likeness -/
/-- what is looked at part by part, at most n deep -/
def lk : Nat → D → Prop
  | _, .non => True
  | _, .bl _ => True
  | _, .int _ => True
  | _, .str s => s.cps.toList.all uni = true ∧ s.length ≤ 9000
  | n + 1, .tup l => l.length ≤ 1000 ∧ ∀ x ∈ l, lk n x
  | _, _ => False
theorem ne_nat {a b : Nat} {μ : Mu} : cmpD .ne (nD a) (nD b) μ = .ok (!decide (a = b)) μ := by
  show needs _ _ = _
  rw [needs_pos ⟨rfl, rfl⟩]
  show Res.ok (!((a : Int) == (b : Int))) μ = _
  congr 2
  by_cases h : a = b
  · subst h; simp
  · exact (beq_eq_false_iff_ne.mpr fun z => h (Int.ofNat.inj z)).trans (decide_eq_false h).symm
theorem join1 {l : List Nat} {μ : Mu} (h : l.length ≤ 9000) : metD .join (.str (tx [])) [.lst [.str (tx l)]] μ = .ok (.str (tx l)) μ := by
  have e1 : strsOf [D.str (tx l)] = some [tx l] := rfl
  have e2 : (seqD μ (.lst [.str (tx l)])).bind strsOf = some [tx l] := e1
  show (match (seqD μ (.lst [.str (tx l)])).bind strsOf with
    | some ys => needs ((ys.map fun (s : Str) => s.length).sum + ys.length * (tx []).length ≤ 16777216) (Res.ok (D.str (Txt.join (tx []) ys)) μ)
    | none => .stuck) = _
  rw [e2]
  have hz : ([tx l].map fun (s : Str) => s.length).sum + [tx l].length * (tx []).length ≤ 16777216 := by
    have h1 : (tx l).length = l.length := tx_len l
    have h2 : (tx []).length = 0 := tx_len []
    show ((tx l).length + 0) + 1 * (tx []).length ≤ 16777216
    omega
  have e3 : Txt.join (tx []) [tx l] = tx l := by
    rw [show [tx l] = [l].map tx from rfl, tx_join]
    rfl
  show needs (([tx l].map fun (s : Str) => s.length).sum + [tx l].length * (tx []).length ≤ 16777216) (Res.ok (D.str (Txt.join (tx []) [tx l])) μ) = _
  rw [needs_pos hz, e3]
theorem like_ok : ∀ (n : Nat) {k : Nat} {d : D} {μ : Mu}, lk n d → (gg (k + n + 1)).call n_law_like [d, d] μ = .ok (.bl true) μ := by
  intro n
  induction n with
  | zero =>
    intro k d μ h
    cases d with
    | tup l => exact h.elim
    | lst l => exact h.elim
    | kl l => exact h.elim
    | kt l => exact h.elim
    | ref n => exact h.elim
    | non =>
      refine call_of c_law_like rfl (run_nx (ifs_false (tv_bl (isi_eq (ev_var rfl) rfl)) run_nil) (run_rt (ifs_true (tv_bl (ev_cmp (ev_var rfl) ev_cst rfl)) (run_rt (st_ret (ev_cmp (ev_var rfl) ev_cst rfl))))))
    | bl v =>
      refine call_of c_law_like rfl (run_nx (ifs_false (tv_bl (isi_eq (ev_var rfl) rfl)) run_nil) (run_nx (ifs_false (tv_bl (ev_cmp (ev_var rfl) ev_cst rfl)) run_nil) ?_))
      cases v with
      | true => exact run_rt (ifs_true (tv_bl (ev_cmp (ev_var rfl) ev_cst rfl)) (run_rt (st_ret (ev_cmp (ev_var rfl) ev_cst rfl))))
      | false => exact run_nx (ifs_false (tv_bl (ev_cmp (ev_var rfl) ev_cst rfl)) run_nil) (run_rt (ifs_true (tv_bl (ev_cmp (ev_var rfl) ev_cst rfl)) (run_rt (st_ret (ev_cmp (ev_var rfl) ev_cst rfl)))))
    | int i =>
      refine call_of c_law_like rfl (run_nx (ifs_false (tv_bl (isi_eq (ev_var rfl) rfl)) run_nil) (run_nx (ifs_false (tv_bl (ev_cmp (ev_var rfl) ev_cst rfl)) run_nil) (run_nx (ifs_false (tv_bl (ev_cmp (ev_var rfl) ev_cst rfl)) run_nil) (run_nx (ifs_false (tv_bl (ev_cmp (ev_var rfl) ev_cst rfl)) run_nil) (run_nx (ifs_false (tv_bl (isi_eq (ev_var rfl) rfl)) run_nil) (run_rt (st_ret ?_)))))))
      refine ev_and_t (x := .bl true) (isi_eq (ev_var rfl) rfl) rfl (ev_and_t (x := .bl true) (μ1 := μ) ?_ rfl (ev_cmp (ev_var rfl) (ev_var rfl) (eq_int.trans (by rw [beq_self_eq_true]))))
      rw [evalE, tv_bl (isi_eq (ev_var rfl) (v := false) rfl), bind_ok]
      rfl
    | str s =>
      obtain ⟨h1, h2⟩ := h
      rw [tx_self s] at h1 h2 ⊢
      generalize s.cps.toList = l at h1 h2
      rw [tx_len] at h2
      rw [tx_l] at h1
      refine call_of c_law_like rfl (run_nx (ifs_false (tv_bl (isi_eq (ev_var rfl) rfl)) run_nil) (run_nx (ifs_false (tv_bl (ev_cmp (ev_var rfl) ev_cst rfl)) run_nil) (run_nx (ifs_false (tv_bl (ev_cmp (ev_var rfl) ev_cst rfl)) run_nil) (run_nx (ifs_false (tv_bl (ev_cmp (ev_var rfl) ev_cst rfl)) run_nil) (run_rt (ifs_true (tv_bl (isi_eq (ev_var rfl) rfl)) (run_rt (st_ret ?_))))))))
      refine ev_and_t (x := .bl true) (isi_eq (ev_var rfl) rfl) rfl (ev_cmp (ev_met1 (x := .str (tx [])) (ev_cs (show ("" : Str) = tx [] by decide +kernel)) rfl (ev_lst1 (ev_var rfl)) (join1 h2)) (ev_var rfl) ((eq_tx h1 h1).trans (by rw [beq_self_eq_true])))
  | succ n ih =>
    intro k d μ h
    cases d with
    | lst l => exact h.elim
    | kl l => exact h.elim
    | kt l => exact h.elim
    | ref n => exact h.elim
    | tup l =>
      obtain ⟨h1, h2⟩ := h
      refine call_of c_law_like rfl (run_rt (ifs_true (tv_bl (isi_eq (ev_var rfl) rfl)) (run_nx (ifs_false (μ' := μ) ?_ run_nil) (run_rt (st_ret ?_)))))
      · have t1 : evalT (gg (k + (n + 1))) (.not (.val (.isi (.var 0) .tuple))) (startR f_law_like.N.length [.tup l, .tup l]) μ = .ok (!true) μ := tv_not (tv_bl (isi_eq (ev_var rfl) rfl))
        rw [evalT, t1, bind_ok]
        show evalT _ _ _ _ = _
        exact tv_bl (ev_cmp (ev_bif1 (ev_var rfl) len_tup) (ev_bif1 (ev_var rfl) len_tup) (ne_nat.trans (by simp)))
      · refine ev_cmp (x := .lst []) (y := .lst []) (μ1 := μ) (comp_empty (a := nD) (ds := List.range l.length) ?_ (fun i hi => ?_) (by simp; omega)) ev_lst0 rfl
        · rw [← rng0]
          exact it_rng1 (ev_bif1 (ev_var rfl) len_tup) rfl (by omega)
        · have hi' : i < l.length := List.mem_range.mp hi
          have e := ih (k := k) (d := l[i]) (μ := μ) (h2 _ (List.getElem_mem hi'))
          have g : l[i]? = some l[i] := List.getElem?_eq_getElem hi'
          refine cbody_no (tv_not (tv_bl (ev_call2 (ev_idx (ev_var rfl) (ev_var rfl) (ix_tup g)) (ev_idx (ev_var rfl) (ev_var rfl) (ix_tup g)) e)))
    | non => exact ih (k := k + 1) (d := .non) (by cases n <;> trivial) |> fun e => by rw [show k + (n + 1) + 1 = k + 1 + n + 1 by omega]; exact e
    | bl v => exact ih (k := k + 1) (d := .bl v) (by cases n <;> trivial) |> fun e => by rw [show k + (n + 1) + 1 = k + 1 + n + 1 by omega]; exact e
    | int i => exact ih (k := k + 1) (d := .int i) (by cases n <;> trivial) |> fun e => by rw [show k + (n + 1) + 1 = k + 1 + n + 1 by omega]; exact e
    | str s => exact ih (k := k + 1) (d := .str s) (by cases n <;> exact h) |> fun e => by rw [show k + (n + 1) + 1 = k + 1 + n + 1 by omega]; exact e
end PyI.K12
/-! W2: the reader: its object, its small methods. -/
namespace PyI.K12
open PySem L2 PyProof.Rows
/-! ### objects in steps -/
section
variable {Γ : G} {ρ : Rho} {μ μ1 μ2 : Mu} {o e : E} {x d : D} {n c : Nat} {fs : List (Str × D)} {f m : Str} {as : Es} {ds : List D}
theorem fld_get (h : μ[n]? = some (.ins c fs)) (hf : fs.lookup f = some d) : fldD c (.ref n) f μ = .ok d μ := by
  unfold fldD
  simp only [h, if_true, hf]
theorem ev_fld (ho : evalE Γ o ρ μ = .ok (.ref n) μ) (h : μ[n]? = some (.ins c fs)) (hf : fs.lookup f = some d) : evalE Γ (.fld c o f) ρ μ = .ok d μ := by
  rw [evalE, ho, bind_ok, fld_get h hf]
theorem ins_yes (h : μ[n]? = some (.ins c fs)) (hm : fs.lookup m = none) : insOk c m (.ref n) μ = true := by
  unfold insOk
  simp only [h, hm]
  simp
theorem ev_mcl0 {g : Nat} {r : Res D} (ho : evalE Γ o ρ μ = .ok (.ref n) μ) (h : μ[n]? = some (.ins c fs)) (hm : fs.lookup m = none) (hc : Γ.call g [.ref n] μ = r) : evalE Γ (.mcl g c m o .nil) ρ μ = r := by
  rw [evalE, ho, bind_ok, needs_pos (ins_yes h hm), evalEs, bind_ok]
  exact hc
theorem ev_mcl1 {g : Nat} {r : Res D} {a : E} {y : D} (ho : evalE Γ o ρ μ = .ok (.ref n) μ) (h : μ[n]? = some (.ins c fs)) (hm : fs.lookup m = none) (ha : evalE Γ a ρ μ = .ok y μ1) (hc : Γ.call g [.ref n, y] μ1 = r) : evalE Γ (.mcl g c m o (.cons a .nil)) ρ μ = r := by
  rw [evalE, ho, bind_ok, needs_pos (ins_yes h hm), evalEs, ha, bind_ok, evalEs, bind_ok, bind_ok]
  exact hc
theorem ev_mcl2 {g : Nat} {r : Res D} {a b : E} {y z : D} (ho : evalE Γ o ρ μ = .ok (.ref n) μ) (h : μ[n]? = some (.ins c fs)) (hm : fs.lookup m = none) (ha : evalE Γ a ρ μ = .ok y μ1) (hb : evalE Γ b ρ μ1 = .ok z μ2) (hc : Γ.call g [.ref n, y, z] μ2 = r) : evalE Γ (.mcl g c m o (.cons a (.cons b .nil))) ρ μ = r := by
  rw [evalE, ho, bind_ok, needs_pos (ins_yes h hm), evalEs, ha, bind_ok, evalEs, hb, bind_ok, evalEs, bind_ok, bind_ok, bind_ok]
  exact hc
theorem st_setF (hv : evalE Γ e ρ μ = .ok d μ1) (ho : evalE Γ o ρ μ1 = .ok (.ref n) μ1) (h : μ1[n]? = some (.ins c fs)) (hl : fs.length < 1000) : runS Γ (.setF c o f e) ρ μ = .nx ρ (μ1.set n (.ins c (putFD f d fs))) := by
  rw [runS, hv, then_ok, ho, then_ok]
  unfold setFD
  simp only [h]
  rw [if_pos ⟨trivial, hl⟩, then_ok]
theorem st_augF {b : Bop} {y : D} {k : Int} (ho : evalE Γ o ρ μ = .ok (.ref n) μ) (h : μ[n]? = some (.ins c fs)) (hf : fs.lookup f = some d) (he : evalE Γ e ρ μ = .ok y μ) (hk : augI b d y = some k) (hl : fs.length < 1000) : runS Γ (.augF c o f b e) ρ μ = .nx ρ (μ.set n (.ins c (putFD f (.int k) fs))) := by
  rw [runS, ho, then_ok, fld_get h hf, then_ok, he, then_ok]
  simp only [hk]
  unfold setFD
  simp only [h]
  rw [if_pos ⟨trivial, hl⟩, then_ok]
theorem st_rse2 {s : Str} {i c : Nat} {a b : E} (hm : Γ.mkr = true) (ha : evalE Γ a ρ μ = .ok (nD i) μ1) (hb : evalE Γ b ρ μ1 = .ok (.str s) μ2) (hi : i < 1000000000000000000) (hs : s.length ≤ 1000000) : runS Γ (.rse c 2 (.cons a (.cons b .nil))) ρ μ = .er c [.str s, nD i] ρ μ2 := by
  rw [runS, if_pos hm, evalEs, ha, bind_ok, evalEs, hb, bind_ok, evalEs, bind_ok, bind_ok, then_ok, if_pos]
  · rfl
  · refine ⟨rfl, ?_⟩
    simp only [List.all_cons, List.all_nil, okArg, Bool.and_true, Bool.and_eq_true, decide_eq_true_eq]
    omega
theorem st_expr_er {k : Nat} {fs : List D} (h : evalE Γ e ρ μ = .err k fs μ1) : runS Γ (.expr e) ρ μ = .er k fs ρ μ1 := by
  rw [runS, h]; rfl
theorem st_expr_ok (h : evalE Γ e ρ μ = .ok d μ1) : runS Γ (.expr e) ρ μ = .nx ρ μ1 := by
  rw [runS, h]; rfl
theorem st_ifs_er {k : Nat} {fs' : List D} {t : T} {p q : B} {v : Bool} (h : evalT Γ t ρ μ = .ok true μ1) (h2 : runB Γ p ρ μ1 = .er k fs' ρ μ2) : runS Γ (.ifs t p q) ρ μ = .er k fs' ρ μ2 := ifs_true h h2
end
/-! ### the reader's object -/
abbrev fsO (t r : List Nat) (b : Nat) : List (Str × D) := [("signs", .str (tx t)), ("at", nD (t.length - r.length)), ("brackets", nD b)]
def obj (t r : List Nat) (b : Nat) : MO := .ins 100 (fsO t r b)
def H (μ : Mu) (m : Nat) (t r : List Nat) (b : Nat) : Mu := μ.set m (obj t r b)
structure Rs (μ : Mu) (m : Nat) (t r : List Nat) : Prop where
  pm : PureM μ
  hm : m < μ.length
  tl : t.length ≤ 200
  sf : ∃ p, t = p ++ r
  un : t.all uni = true
section
variable {μ : Mu} {m : Nat} {t r r' : List Nat} {b b' : Nat} {x : MO}
theorem H_len : (H μ m t r b).length = μ.length := List.length_set
theorem H_get (h : m < μ.length) : (H μ m t r b)[m]? = some (obj t r b) := by
  unfold H
  rw [List.getElem?_set_self h]
theorem H_set : (H μ m t r b).set m (obj t r' b') = H μ m t r' b' := by
  unfold H
  rw [List.set_set]
theorem H_app (h : m < μ.length) : H μ m t r b ++ [x] = H (μ ++ [x]) m t r b := by
  unfold H
  rw [List.set_append_left _ _ h]
theorem H_top (h : m < μ.length) : (H (μ ++ [x]) m t r b)[μ.length]? = some x := by
  rw [← H_app h]
  have : (H μ m t r b).length = μ.length := H_len
  rw [← this, snoc_get]
theorem H_upd {y : MO} (h : m < μ.length) : (H (μ ++ [x]) m t r b).set μ.length y = H (μ ++ [y]) m t r b := by
  rw [← H_app h, ← H_app h]
  have : (H μ m t r b).length = μ.length := H_len
  rw [← this, snoc_set]
theorem obj_pure : pureMO (obj t r b) = true := rfl
theorem H_pure (h : PureM μ) : PureM (H μ m t r b) := fun z hz => by
  rcases List.mem_or_eq_of_mem_set hz with hz | rfl
  · exact h z hz
  · exact obj_pure
theorem Rs.at_le (h : Rs μ m t r) : r.length ≤ t.length := by
  obtain ⟨p, hp⟩ := h.sf
  rw [hp, List.length_append]; omega
theorem Rs.tail {c : Nat} (h : Rs μ m t (c :: r)) : Rs μ m t r := ⟨h.pm, h.hm, h.tl, (by
  obtain ⟨p, hp⟩ := h.sf
  exact ⟨p ++ [c], by rw [hp]; simp⟩), h.un⟩
theorem Rs.rn (h : Rs μ m t r) : r.all uni = true := by
  obtain ⟨p, hp⟩ := h.sf
  have := h.un
  rw [hp, List.all_append, Bool.and_eq_true] at this
  exact this.2
theorem Rs.snoc {l : List D} (h : Rs μ m t r) (hl : pureDs l = true) : Rs (μ ++ [.lst l]) m t r := ⟨h.pm.snoc hl, by rw [List.length_append]; exact Nat.lt_add_right _ h.hm, h.tl, h.sf, h.un⟩
theorem Rs.to (h : Rs μ m t r) (hs : ∃ p, t = p ++ r') : Rs μ m t r' := ⟨h.pm, h.hm, h.tl, hs, h.un⟩
theorem fin_H {n : Nat} {d : D} (hn : μ.length = n) : fin n d (H μ m t r b) = .ok d (H μ m t r b) := fin_same (by rw [H_len, hn])
/-- one list of its own was made -/
theorem fin_H1 {d : D} {l : List D} (h : PureM μ) (hm : m < μ.length) (hd : pureD d = true) : fin μ.length d (H (μ ++ [.lst l]) m t r b) = .ok d (H μ m t r b) := by
  rw [← H_app hm]
  have : (H μ m t r b).length = μ.length := H_len
  rw [← this]
  exact fin_one (H_pure h) hd
theorem fin_H1e {c : Nat} {fs : List D} {l : List D} {ρ : Rho} (h : PureM μ) (hm : m < μ.length) (hd : pureDs fs = true) : finO μ.length (.er c fs ρ (H (μ ++ [.lst l]) m t r b)) = .err c fs (H μ m t r b) := by
  rw [← H_app hm]
  have : (H μ m t r b).length = μ.length := H_len
  rw [← this]
  exact finO_er_more (H_pure h) hd
end
section
variable {k : Nat} {μ : Mu} {m : Nat} {t r : List Nat} {b : Nat} {ρ : Rho} {Γ : G}
theorem ev_self (h : ρ[0]? = some (some (.ref m))) {ν : Mu} : evalE Γ (.var 0) ρ ν = .ok (.ref m) ν := ev_var h
theorem look_signs : (fsO t r b).lookup ("signs" : Str) = some (.str (tx t)) := by kernel_rfl
theorem look_at : (fsO t r b).lookup ("at" : Str) = some (nD (t.length - r.length)) := by kernel_rfl
theorem look_br : (fsO t r b).lookup ("brackets" : Str) = some (nD b) := by kernel_rfl
theorem put_at {d : D} : putFD "at" d (fsO t r b) = ([("signs", .str (tx t)), ("at", d), ("brackets", nD b)] : List (Str × D)) := by kernel_rfl
theorem put_br {d : D} : putFD "brackets" d (fsO t r b) = ([("signs", .str (tx t)), ("at", nD (t.length - r.length)), ("brackets", d)] : List (Str × D)) := by kernel_rfl
theorem ev_signs (h : ρ[0]? = some (some (.ref m))) (R : Rs μ m t r) : evalE Γ (.fld 100 (.var 0) "signs") ρ (H μ m t r b) = .ok (.str (tx t)) (H μ m t r b) := ev_fld (ev_self h) (H_get R.hm) look_signs
theorem ev_at (h : ρ[0]? = some (some (.ref m))) (R : Rs μ m t r) : evalE Γ (.fld 100 (.var 0) "at") ρ (H μ m t r b) = .ok (nD (t.length - r.length)) (H μ m t r b) := ev_fld (ev_self h) (H_get R.hm) look_at
theorem ev_br (h : ρ[0]? = some (some (.ref m))) (R : Rs μ m t r) : evalE Γ (.fld 100 (.var 0) "brackets") ρ (H μ m t r b) = .ok (nD b) (H μ m t r b) := ev_fld (ev_self h) (H_get R.hm) look_br
/-- self.at += 1 -/
theorem st_at {c : Nat} (h : ρ[0]? = some (some (.ref m))) (R : Rs μ m t (c :: r)) : runS Γ (.augF 100 (.var 0) "at" .add (.cst (.int 1))) ρ (H μ m t (c :: r) b) = .nx ρ (H μ m t r b) := by
  refine (st_augF (ev_self h) (H_get R.hm) look_at ev_cst (show augI .add (nD _) (.int 1) = some _ from rfl) (by show 3 < 1000; decide)).trans ?_
  rw [put_at]
  have e : (((t.length - (c :: r).length : Nat) : Int) + 1) = ((t.length - r.length : Nat) : Int) := by
    have := R.at_le
    rw [List.length_cons] at this ⊢
    omega
  rw [e]
  show Out.nx ρ ((H μ m t (c :: r) b).set m (obj t r b)) = _
  rw [H_set]
theorem st_brU (h : ρ[0]? = some (some (.ref m))) (R : Rs μ m t r) : runS Γ (.augF 100 (.var 0) "brackets" .add (.cst (.int 1))) ρ (H μ m t r b) = .nx ρ (H μ m t r (b + 1)) := by
  refine (st_augF (ev_self h) (H_get R.hm) look_br ev_cst (show augI .add (nD _) (.int 1) = some _ from rfl) (by show 3 < 1000; decide)).trans ?_
  rw [put_br]
  show Out.nx ρ ((H μ m t r b).set m (obj t r (b + 1))) = _
  rw [H_set]
theorem st_brD (h : ρ[0]? = some (some (.ref m))) (R : Rs μ m t r) : runS Γ (.augF 100 (.var 0) "brackets" .sub (.cst (.int 1))) ρ (H μ m t r (b + 1)) = .nx ρ (H μ m t r b) := by
  refine (st_augF (ev_self h) (H_get R.hm) look_br ev_cst (show augI .sub (nD _) (.int 1) = some _ from rfl) (by show 3 < 1000; decide)).trans ?_
  rw [put_br]
  have e : (((b + 1 : Nat) : Int) - 1) = ((b : Nat) : Int) := by omega
  rw [e]
  show Out.nx ρ ((H μ m t r (b + 1)).set m (obj t r b)) = _
  rw [H_set]
theorem no_met {g : Str} (hg : g ≠ "signs" ∧ g ≠ "at" ∧ g ≠ "brackets") : (fsO t r b).lookup g = none := by
  rw [List.lookup_cons, beq_eq_false_iff_ne.mpr hg.1, List.lookup_cons, beq_eq_false_iff_ne.mpr hg.2.1, List.lookup_cons, beq_eq_false_iff_ne.mpr hg.2.2]
  rfl
/-- self.m() -/
theorem ev_m0 {g : Nat} {n : Str} {r' : Res D} (h : ρ[0]? = some (some (.ref m))) (R : Rs μ m t r) (hn : n ≠ "signs" ∧ n ≠ "at" ∧ n ≠ "brackets") (hc : Γ.call g [.ref m] (H μ m t r b) = r') : evalE Γ (.mcl g 100 n (.var 0) .nil) ρ (H μ m t r b) = r' := ev_mcl0 (ev_self h) (H_get R.hm) (no_met hn) hc
theorem ev_m1 {g : Nat} {n : Str} {r' : Res D} {a : E} {y : D} (h : ρ[0]? = some (some (.ref m))) (R : Rs μ m t r) (hn : n ≠ "signs" ∧ n ≠ "at" ∧ n ≠ "brackets") (ha : evalE Γ a ρ (H μ m t r b) = .ok y (H μ m t r b)) (hc : Γ.call g [.ref m, y] (H μ m t r b) = r') : evalE Γ (.mcl g 100 n (.var 0) (.cons a .nil)) ρ (H μ m t r b) = r' := ev_mcl1 (ev_self h) (H_get R.hm) (no_met hn) ha hc
theorem ev_m2 {g : Nat} {n : Str} {r' : Res D} {a a' : E} {y z : D} (h : ρ[0]? = some (some (.ref m))) (R : Rs μ m t r) (hn : n ≠ "signs" ∧ n ≠ "at" ∧ n ≠ "brackets") (ha : evalE Γ a ρ (H μ m t r b) = .ok y (H μ m t r b)) (ha' : evalE Γ a' ρ (H μ m t r b) = .ok z (H μ m t r b)) (hc : Γ.call g [.ref m, y, z] (H μ m t r b) = r') : evalE Γ (.mcl g 100 n (.var 0) (.cons a (.cons a' .nil))) ρ (H μ m t r b) = r' := ev_mcl2 (ev_self h) (H_get R.hm) (no_met hn) ha ha' hc
theorem sign_ok (R : Rs μ m t r) : (gg (k + 1)).call n_Reader_sign [.ref m] (H μ m t r b) = .ok (.str (tx (r.take 1))) (H μ m t r b) := by
  refine call_of c_Reader_sign rfl (run_rt (st_ret (ev_slc (ev_signs rfl R) (ev_at rfl R) (ev_add1 (ev_at rfl R)) ((slc_tx (by have := R.tl; omega)).trans ?_))))
  obtain ⟨p, hp⟩ := R.sf
  have hl : t.length - r.length = p.length := by rw [hp, List.length_append]; omega
  rw [hl]
  cases r with
  | nil => rw [hp, List.append_nil, cut_end p (j := ((p.length + 1 : Nat) : Int)) rfl rfl]; rfl
  | cons c r => rw [hp, cut_at p c r (j := ((p.length + 1 : Nat) : Int)) rfl rfl]; rfl
theorem refuse_ok {s : Str} (R : Rs μ m t r) (hs : s.length ≤ 1000) : (gg (k + 3)).call n_Reader_refuse [.ref m, .str s] (H μ m t r b) = .err 0 [.str s, nD (t.length + 1 - r.length)] (H μ m t r b) := by
  have hl := R.at_le
  have e : t.length + 1 - r.length = (t.length - r.length) + 1 := by omega
  rw [e]
  exact call_er c_Reader_refuse rfl (run_er (st_rse2 (show decide (2 ≤ k + 2) = true from decide_eq_true (by omega)) (ev_add1 (ev_at rfl R)) (ev_var rfl) (by have := R.tl; omega) (by omega)))
end
end PyI.K12
/-! W3: the reader's tests, what is due, members, groups. -/
namespace PyI.K12
open PySem L2 PyProof.Rows
theorem q_SIGNS : (" !\"#$&'()*+,-./0:;<=>?@ABCDEFGHIJKLMNOPQRSTUVWXYZ[\\]^_`abcdefghijklmnopqrstuvwxyz{|}~" : Str) = tx SIGNS := by decide +kernel
theorem q_SPEC : (".[]()<>|&!*+?{}\\" : Str) = tx SPEC := by decide +kernel
theorem q_OPEN : (".[<(!\\" : Str) = tx OPEN := by decide +kernel
theorem ne_str' {x y : Str} : x ≠ y ∨ x = y := by by_cases h : x = y <;> simp [h]
/-- what a method does -/
def Does {α : Type} (k f : Nat) (args : List D) (μ : Mu) (m : Nat) (t r : List Nat) (b : Nat) (dv : α → D) (x : PR α) : Prop := match x with
  | .ok a r' => (∃ p, t = p ++ r') ∧ pureD (dv a) = true ∧ (gg (k)).call f (.ref m :: args) (H μ m t r b) = .ok (dv a) (H μ m t r' b)
  | .er q s => ∃ r' b', (gg (k)).call f (.ref m :: args) (H μ m t r b) = .err 0 [.str s, nD (t.length + 1 - q)] (H μ m t r' b')
  | .no => True
section
variable {k : Nat} {μ ν : Mu} {m : Nat} {t r : List Nat} {b c : Nat} {ρ : Rho} {q : Str}
theorem u1 (h : r.all uni = true) {d : Nat} {r' : List Nat} (e : r = d :: r') : uni d = true := by
  rw [e, List.all_cons, Bool.and_eq_true] at h; exact h.1
theorem eq_sg (hr : r.all uni = true) (hq : q = tx [c]) (hc : uni c = true) : cmpD .eq (.str (tx (r.take 1))) (.str q) ν = .ok (isC c r) ν := by
  cases r with
  | nil => exact eq_e hq hc
  | cons d r =>
    refine (eq_c hq (u1 hr rfl) hc).trans ?_
    show Res.ok (d == c) ν = Res.ok (decide (d = c)) ν
    by_cases h : d = c
    · subst h; simp
    · rw [decide_eq_false h, beq_eq_false_iff_ne.mpr h]
theorem ne_sg (hr : r.all uni = true) (hq : q = tx [c]) (hc : uni c = true) : cmpD .ne (.str (tx (r.take 1))) (.str q) ν = .ok (!isC c r) ν := by
  cases r with
  | nil => exact ne_e hq hc
  | cons d r =>
    refine (ne_c hq (u1 hr rfl) hc).trans ?_
    show Res.ok (!(d == c)) ν = Res.ok (!decide (d = c)) ν
    by_cases h : d = c
    · subst h; simp
    · rw [decide_eq_false h, beq_eq_false_iff_ne.mpr h]
theorem q_nil : ("" : Str) = tx [] := by decide +kernel
theorem tk_uni (hr : r.all uni = true) : (r.take 1).all uni = true := by
  cases r with
  | nil => rfl
  | cons d r => exact uni1 (u1 hr rfl)
theorem eq_nl (hr : r.all uni = true) : cmpD .eq (.str (tx (r.take 1))) (.str "") ν = .ok r.isEmpty ν := by
  rw [q_nil, eq_tx (tk_uni hr) rfl]
  cases r <;> rfl
theorem ne_nl (hr : r.all uni = true) : cmpD .ne (.str (tx (r.take 1))) (.str "") ν = .ok (!r.isEmpty) ν := by
  rw [q_nil, ne_tx (tk_uni hr) rfl]
  cases r <;> rfl
theorem sg_m (h : ρ[0]? = some (some (.ref m))) (R : Rs μ m t r) : evalE (gg (k + 1)) (.mcl 21 100 "sign" (.var 0) .nil) ρ (H μ m t r b) = .ok (.str (tx (r.take 1))) (H μ m t r b) := ev_m0 h R (by decide +kernel) (sign_ok R)
theorem rf_m {s : Str} {e : E} (h : ρ[0]? = some (some (.ref m))) (R : Rs μ m t r) (he : evalE (gg (k + 3)) e ρ (H μ m t r b) = .ok (.str s) (H μ m t r b)) (hs : s.length ≤ 1000) : runS (gg (k + 3)) (.expr (.mcl 22 100 "refuse" (.var 0) (.cons e .nil))) ρ (H μ m t r b) = .er 0 [.str s, nD (t.length + 1 - r.length)] ρ (H μ m t r b) := st_expr_er (ev_m1 h R (by decide +kernel) he (refuse_ok R hs))
theorem er_of {f : Nat} {bb : B} {ρ ρ' : Rho} {ds fs : List D} {μ μ' : Mu} (hc : callD prg.tab prg.con prg.dic prg.wf (k + 1) f ds μ = finO μ.length (runB (gg k) bb ρ μ)) (hl : μ'.length = μ.length) (h : runB (gg k) bb ρ μ = .er 0 fs ρ' μ') : (gg (k + 1)).call f ds μ = .err 0 fs μ' := call_er hc hl h
theorem call_nx {f : Nat} {bb : B} {ρ ρ' : Rho} {ds : List D} {μ μ' : Mu} (hc : callD prg.tab prg.con prg.dic prg.wf (k + 1) f ds μ = finO μ.length (runB (gg k) bb ρ μ)) (hl : μ'.length = μ.length) (h : runB (gg k) bb ρ μ = .nx ρ' μ') : (gg (k + 1)).call f ds μ = .ok .non μ' := by
  show callD prg.tab prg.con prg.dic prg.wf (k + 1) f ds μ = _
  rw [hc, h]
  exact fin_same hl
theorem mem_ne {bf : List Nat} (hc : c ≠ 92) : mem bf (c :: r) = if c ∈ [93, 94, 45] ∨ c ∉ SIGNS then .er (r.length + 1) "class" else memF bf (c :: r) := if_neg hc
theorem hl2 {r r' : List Nat} {b b' : Nat} : (H μ m t r b).length = (H μ m t r' b').length := by rw [H_len, H_len]
theorem due_ok {s : Str} (R : Rs μ m t r) (hc : uni c = true) (hs : s.length ≤ 1000) : Does (k + 4) n_Reader_due [.str (tx [c]), .str s] μ m t r b (fun _ : Unit => D.non) (due c s r) := by
  have test : evalT (gg (k + 3)) (.val (.cmp .ne (.mcl 21 100 "sign" (.var 0) .nil) (.var 1))) [some (.ref m), some (.str (tx [c])), some (.str s)] (H μ m t r b) = .ok (!isC c r) (H μ m t r b) := tv_bl (ev_cmp (sg_m rfl R) (ev_var rfl) (ne_sg R.rn rfl hc))
  have bad : isC c r = false → ∃ r' b', (gg (k + 4)).call n_Reader_due [.ref m, .str (tx [c]), .str s] (H μ m t r b) = .err 0 [.str s, nD (t.length + 1 - r.length)] (H μ m t r' b') := fun h => by
    rw [h] at test
    exact ⟨r, b, call_er c_Reader_due rfl (run_er (ifs_true test (run_er (rf_m rfl R (ev_var rfl) hs))))⟩
  cases r with
  | nil => exact bad rfl
  | cons d r =>
    by_cases h : d = c
    · have e : isC c (d :: r) = true := decide_eq_true h
      rw [e] at test
      rw [due, if_pos h]
      refine ⟨R.tail.sf, rfl, ?_⟩
      exact call_nx c_Reader_due hl2 (run_nx (ifs_false test run_nil) (run_nx (st_at rfl R) run_nil))
    · rw [due, if_neg h]
      exact bad (decide_eq_false h)
theorem begins_ok (R : Rs μ m t r) : (gg (k + 2)).call n_Reader_begins [.ref m] (H μ m t r b) = .ok (.bl (beg r)) (H μ m t r b) := by
  have hs : runS (gg (k + 1)) (.set (.nm 1) (.mcl 21 100 "sign" (.var 0) .nil)) [some (.ref m), none] (H μ m t r b) = .nx [some (.ref m), some (.str (tx (r.take 1)))] (H μ m t r b) := st_set (sg_m rfl R)
  refine call_of c_Reader_begins rfl (run_nx hs (run_rt (st_ret ?_)))
  cases r with
  | nil => exact ev_and_f (x := .bl false) (ev_cmp (ev_var rfl) ev_cst (ne_nl rfl)) rfl
  | cons d r =>
    refine ev_and_t (x := .bl true) (μ1 := H μ m t (d :: r) b) (ev_cmp (ev_var rfl) ev_cst (ne_nl R.rn)) rfl ?_
    have i1 : evalE (gg (k + 1)) (.cmp .in_ (.var 1) (.glob 2)) [some (.ref m), some (.str (tx [d]))] (H μ m t (d :: r) b) = .ok (.bl (decide (d ∈ OPEN))) (H μ m t (d :: r) b) := ev_cmp (ev_var rfl) (ev_glob rfl) (in_c q_OPEN)
    have i2 : evalE (gg (k + 1)) (.cmp .in_ (.var 1) (.glob 0)) [some (.ref m), some (.str (tx [d]))] (H μ m t (d :: r) b) = .ok (.bl (decide (d ∈ SIGNS))) (H μ m t (d :: r) b) := ev_cmp (ev_var rfl) (ev_glob rfl) (in_c q_SIGNS)
    have i3 : evalE (gg (k + 1)) (.cmp .notin (.var 1) (.glob 1)) [some (.ref m), some (.str (tx [d]))] (H μ m t (d :: r) b) = .ok (.bl (!decide (d ∈ SPEC))) (H μ m t (d :: r) b) := ev_cmp (ev_var rfl) (ev_glob rfl) (notin_c q_SPEC)
    exact ev_orb i1 (ev_andb i2 i3)
theorem q_rep : ("*+?{" : Str) = tx [42, 43, 63, 123] := by decide +kernel
theorem repeats_ok (R : Rs μ m t r) : (gg (k + 2)).call n_Reader_repeats [.ref m] (H μ m t r b) = .ok (.bl (rep r)) (H μ m t r b) := by
  refine call_of c_Reader_repeats rfl (run_rt (st_ret ?_))
  cases r with
  | nil => exact ev_and_f (x := .bl false) (ev_cmp (sg_m rfl R) ev_cst (ne_nl rfl)) rfl
  | cons d r => exact ev_and_t (x := .bl true) (μ1 := H μ m t (d :: r) b) (ev_cmp (sg_m rfl R) ev_cst (ne_nl R.rn)) rfl (ev_cmp (sg_m rfl R) ev_cst (in_c q_rep))
theorem q_5 : ("\\" : Str) = tx [92] := by decide +kernel
theorem q_m1 : ("]^-\\" : Str) = tx [93, 94, 45, 92] := by decide +kernel
theorem q_m2 : ("]^-" : Str) = tx [93, 94, 45] := by decide +kernel
theorem le_sg {d : Nat} {bf : List Nat} (hb : bf.length ≤ 1) : cmpD .le (.str (tx [d])) (.str (tx bf)) ν = .ok (le1 d bf) ν := by
  cases bf with
  | nil => exact le_el rfl
  | cons e bf =>
    have : bf = [] := List.length_eq_zero_iff.mp (by rw [List.length_cons] at hb; omega)
    subst this
    exact le_cr rfl
theorem memF_ok {bf : List Nat} {o2 : Option D} (R : Rs μ m t r) (hb : bf.length ≤ 1) :
    match memF bf r with
    | .ok a r' => (∃ p, t = p ++ r') ∧ a.length = 1 ∧ runB (gg (k + 3)) (match b_Reader_member with | .cons _ bb => bb | bb => bb) [some (.ref m), some (.str (tx bf)), o2] (H μ m t r b) = .rt (.str (tx a)) (H μ m t r' b)
    | .er q s => ∃ ρ' r' b', runB (gg (k + 3)) (match b_Reader_member with | .cons _ bb => bb | bb => bb) [some (.ref m), some (.str (tx bf)), o2] (H μ m t r b) = .er 0 [.str s, nD (t.length + 1 - q)] ρ' (H μ m t r' b')
    | .no => True := by
  cases r with
  | nil => trivial
  | cons d r =>
    have hs : runS (gg (k + 3)) (.set (.nm 2) (.mcl 21 100 "sign" (.var 0) .nil)) [some (.ref m), some (.str (tx bf)), o2] (H μ m t (d :: r) b) = .nx [some (.ref m), some (.str (tx bf)), some (.str (tx [d]))] (H μ m t (d :: r) b) := st_set (sg_m rfl R)
    have test : evalT (gg (k + 3)) (.val (.cmp .le (.var 2) (.var 1))) [some (.ref m), some (.str (tx bf)), some (.str (tx [d]))] (H μ m t (d :: r) b) = .ok (le1 d bf) (H μ m t (d :: r) b) := tv_bl (ev_cmp (ev_var rfl) (ev_var rfl) (le_sg hb))
    cases h : le1 d bf with
    | true =>
      rw [h] at test
      have e : memF bf (d :: r) = .er (r.length + 1) "class" := by rw [memF, if_pos h]
      rw [e]
      exact ⟨_, d :: r, b, run_nx hs (run_er (ifs_true test (run_er (rf_m rfl R ev_cst (by decide +kernel)))))⟩
    | false =>
      rw [h] at test
      have e : memF bf (d :: r) = .ok [d] r := by rw [memF, if_neg (by rw [h]; decide)]
      rw [e]
      exact ⟨R.tail.sf, rfl, run_nx hs (run_nx (ifs_false test run_nil) (run_nx (st_at rfl R) (run_rt (st_ret (ev_var rfl)))))⟩
theorem mem_ok {bf : List Nat} (R : Rs μ m t r) (hb : bf.length ≤ 1) : Does (k + 4) n_Reader_member [.str (tx bf)] μ m t r b (fun a => D.str (tx a)) (mem bf r) ∧ ∀ a r', mem bf r = .ok a r' → a.length = 1 := by
  have fin : ∀ {r0 : List Nat} {x : PR (List Nat)}, Rs μ m t r0 → x = memF bf r0 → runS (gg (k + 3)) (nthS b_Reader_member 0) [some (.ref m), some (.str (tx bf)), none] (H μ m t r b) = .nx [some (.ref m), some (.str (tx bf)), none] (H μ m t r0 b) → Does (k + 4) n_Reader_member [.str (tx bf)] μ m t r b (fun a => D.str (tx a)) x ∧ ∀ a r', x = .ok a r' → a.length = 1 := by
    intro r0 x R0 hx h0
    have q := memF_ok (k := k) (b := b) (o2 := none) R0 hb
    rw [← hx] at q
    cases x with
    | no => exact ⟨trivial, fun _ _ h => by cases h⟩
    | er q' s =>
      obtain ⟨ρ', r', b', e⟩ := q
      exact ⟨⟨r', b', call_er c_Reader_member hl2 (run_nx h0 e)⟩, fun _ _ h => by cases h⟩
    | ok a r' =>
      obtain ⟨e1, e2, e3⟩ := q
      exact ⟨⟨e1, rfl, call_of c_Reader_member hl2 (run_nx h0 e3)⟩, fun _ _ h => by cases h; exact e2⟩
  have bad : ∀ {s : Str}, runS (gg (k + 3)) (nthS b_Reader_member 0) [some (.ref m), some (.str (tx bf)), none] (H μ m t r b) = .er 0 [.str s, nD (t.length + 1 - r.length)] [some (.ref m), some (.str (tx bf)), none] (H μ m t r b) → ∀ x, x = PR.er r.length s → Does (k + 4) n_Reader_member [.str (tx bf)] μ m t r b (fun a => D.str (tx a)) x ∧ ∀ a r', x = .ok a r' → a.length = 1 := fun h x hx => by
    subst hx
    exact ⟨⟨r, b, call_er c_Reader_member rfl (run_er h)⟩, fun _ _ h => by cases h⟩
  have t0 : evalT (gg (k + 3)) (.val (.cmp .eq (.mcl 21 100 "sign" (.var 0) .nil) (.cst (.str "\\")))) [some (.ref m), some (.str (tx bf)), none] (H μ m t r b) = .ok (isC 92 r) (H μ m t r b) := tv_bl (ev_cmp (sg_m rfl R) ev_cst (eq_sg R.rn q_5 rfl))
  have tE : ∀ {r : List Nat} (R : Rs μ m t r), evalT (gg (k + 3)) (.val (.cmp .eq (.mcl 21 100 "sign" (.var 0) .nil) (.cst (.str "")))) [some (.ref m), some (.str (tx bf)), none] (H μ m t r b) = .ok r.isEmpty (H μ m t r b) := fun R => tv_bl (ev_cmp (sg_m rfl R) ev_cst (eq_nl R.rn))
  cases r with
  | nil => exact bad (ifs_false t0 (run_er (ifs_true (tv_or_t (tE R)) (run_er (rf_m rfl R ev_cst (by decide +kernel)))))) _ rfl
  | cons c r =>
    by_cases hc : c = 92
    · subst hc
      have t0' := t0
      rw [show isC 92 (92 :: r) = true from rfl] at t0'
      cases r with
      | nil =>
        refine ⟨⟨[], b, ?_⟩, fun _ _ h => by cases h⟩
        exact call_er c_Reader_member hl2 (run_er (ifs_true t0' (run_nx (st_at rfl R) (run_er (ifs_true (tv_or_t (tE R.tail)) (run_er (rf_m rfl R.tail ev_cst (by decide +kernel))))))))
      | cons d r2 =>
        have tN : evalT (gg (k + 3)) (.val (.cmp .notin (.mcl 21 100 "sign" (.var 0) .nil) (.cst (.str "]^-\\")))) [some (.ref m), some (.str (tx bf)), none] (H μ m t (d :: r2) b) = .ok (!decide (d ∈ [93, 94, 45, 92])) (H μ m t (d :: r2) b) := tv_bl (ev_cmp (sg_m rfl R.tail) ev_cst (notin_c q_m1))
        by_cases hd : d ∈ [93, 94, 45, 92]
        · rw [decide_eq_true hd] at tN
          refine fin R.tail (by rw [mem, if_pos rfl]; exact if_pos hd) (ifs_true t0' (run_nx (st_at rfl R) (run_nx (ifs_false (tv_or_f (tE R.tail) tN) run_nil) run_nil)))
        · rw [decide_eq_false hd] at tN
          have e : mem bf (92 :: d :: r2) = .er (d :: r2).length "escape" := by rw [mem, if_pos rfl]; exact if_neg hd
          rw [e]
          exact ⟨⟨d :: r2, b, call_er c_Reader_member hl2 (run_er (ifs_true t0' (run_nx (st_at rfl R) (run_er (ifs_true (tv_or_f (tE R.tail) tN) (run_er (rf_m rfl R.tail ev_cst (by decide +kernel))))))))⟩, fun _ _ h => by cases h⟩
    · have t0' := t0
      rw [show isC 92 (c :: r) = false from decide_eq_false hc] at t0'
      have tI : evalT (gg (k + 3)) (.val (.cmp .in_ (.mcl 21 100 "sign" (.var 0) .nil) (.cst (.str "]^-")))) [some (.ref m), some (.str (tx bf)), none] (H μ m t (c :: r) b) = .ok (decide (c ∈ [93, 94, 45])) (H μ m t (c :: r) b) := tv_bl (ev_cmp (sg_m rfl R) ev_cst (in_c q_m2))
      have tS : evalT (gg (k + 3)) (.val (.cmp .notin (.mcl 21 100 "sign" (.var 0) .nil) (.glob 0))) [some (.ref m), some (.str (tx bf)), none] (H μ m t (c :: r) b) = .ok (!decide (c ∈ SIGNS)) (H μ m t (c :: r) b) := tv_bl (ev_cmp (sg_m rfl R) (ev_glob rfl) (notin_c q_SIGNS))
      by_cases h1 : c ∈ [93, 94, 45]
      · rw [decide_eq_true h1] at tI
        refine bad (ifs_false t0' (run_er (ifs_true (tv_or_f (tE R) (tv_or_t tI)) (run_er (rf_m rfl R ev_cst (by decide +kernel)))))) _ ?_
        rw [mem_ne hc, if_pos (.inl h1)]; rfl
      · rw [decide_eq_false h1] at tI
        by_cases h2 : c ∈ SIGNS
        · rw [decide_eq_true h2] at tS
          refine fin R ?_ (ifs_false t0' (run_nx (ifs_false (tv_or_f (tE R) (tv_or_f tI tS)) run_nil) run_nil))
          rw [mem_ne hc, if_neg (fun z => z.elim h1 fun z => z h2)]
        · rw [decide_eq_false h2] at tS
          refine bad (ifs_false t0' (run_er (ifs_true (tv_or_f (tE R) (tv_or_f tI tS)) (run_er (rf_m rfl R ev_cst (by decide +kernel)))))) _ ?_
          rw [mem_ne hc, if_pos (.inr h2)]; rfl
end
end PyI.K12
/-! W4: groups, digits, bounds. -/
namespace PyI.K12
open PySem L2 PyProof.Rows
section
variable {k : Nat} {μ ν : Mu} {m : Nat} {t r : List Nat} {b c : Nat} {q : Str}
theorem q_93 : ("]" : Str) = tx [93] := by decide +kernel
theorem q_94 : ("^" : Str) = tx [94] := by decide +kernel
theorem q_45 : ("-" : Str) = tx [45] := by decide +kernel
theorem ref_lt {l : List D} (R : Rs μ m t r) : (H (μ ++ [.lst l]) m t r b)[μ.length]? = some (.lst l) := H_top R.hm
abbrev gW : T := whlT (nthS b_Reader_group 4)
abbrev gBd : B := match nthS b_Reader_group 4 with | .whl _ bb => bb | _ => .nil
abbrev gRho (μ : Mu) (m : Nat) (w : Str) (bf : List Nat) (o4 : Option D) : Rho := [some (.ref m), some (.str w), some (.ref μ.length), some (.str (tx bf)), o4]
theorem sp_pure (x y : List Nat) : pureD (sp x y) = true := rfl
theorem pure_snoc {ds : List D} {d : D} (h : pureDs ds = true) (hd : pureD d = true) : pureDs (ds ++ [d]) = true := by
  rw [pureDs_append, h]; simp [pureDs, hd]
theorem snoc_ne {ds : List D} {d : D} : (ds ++ [d]) = [] ↔ False := by simp
theorem grp_loop {w : Str} : ∀ {n N : Nat} {ds : List D} {bf r : List Nat} {o4 : Option D}, n < N → Rs μ m t r → pureDs ds = true → ds.length ≤ 12 → bf.length ≤ 1 →
    match grpL w n ds bf r with
    | .ok d r' => ∃ c ds' bf' o4', t.length ≥ 0 ∧ (∃ p, t = p ++ c :: r') ∧ pureDs ds' = true ∧ d = .tup [.str w, .tup ds'] ∧ whileLoop (fun ρ μ => evalT (gg (k + 4)) gW ρ μ) (fun ρ μ => runB (gg (k + 4)) gBd ρ μ) N (gRho μ m w bf o4) (H (μ ++ [.lst ds]) m t r b) = .nx (gRho μ m w bf' o4') (H (μ ++ [.lst ds']) m t (c :: r') b)
    | .er q s => ∃ ρ' ds' r' b', whileLoop (fun ρ μ => evalT (gg (k + 4)) gW ρ μ) (fun ρ μ => runB (gg (k + 4)) gBd ρ μ) N (gRho μ m w bf o4) (H (μ ++ [.lst ds]) m t r b) = .er 0 [.str s, nD (t.length + 1 - q)] ρ' (H (μ ++ [.lst ds']) m t r' b')
    | .no => True
  | 0, _, _, _, _, _, _, _, _, _, _ => trivial
  | n + 1, 0, _, _, _, _, h, _, _, _, _ => absurd h (Nat.not_lt_zero _)
  | n + 1, N + 1, ds, bf, r, o4, hN, R, hd, hl, hb => by
    have R1 : Rs (μ ++ [.lst ds]) m t r := R.snoc hd
    have tN : evalT (gg (k + 4)) (.val (.cmp .ne (.mcl 21 100 "sign" (.var 0) .nil) (.cst (.str "]")))) (gRho μ m w bf o4) (H (μ ++ [.lst ds]) m t r b) = .ok (!isC 93 r) (H (μ ++ [.lst ds]) m t r b) := tv_bl (ev_cmp (sg_m rfl R1) ev_cst (ne_sg R.rn q_93 rfl))
    have tE : evalT (gg (k + 4)) (.not (.val (.var 2))) (gRho μ m w bf o4) (H (μ ++ [.lst ds]) m t r b) = .ok (!!ds.isEmpty) (H (μ ++ [.lst ds]) m t r b) := tv_not (tv_ref (ev_var rfl) (ref_lt R))
    by_cases hc : isC 93 r = false ∨ ds = []
    · have cond : evalT (gg (k + 4)) gW (gRho μ m w bf o4) (H (μ ++ [.lst ds]) m t r b) = .ok true (H (μ ++ [.lst ds]) m t r b) := by
        cases h9 : isC 93 r with
        | false => rw [h9] at tN; exact tv_or_t tN
        | true =>
          rw [h9] at tN
          have : ds = [] := hc.resolve_left (by rw [h9]; decide)
          subst this
          exact tv_or_f tN tE
      have tL : evalT (gg (k + 4)) (.val (.cmp .eq (.bif .len (.cons (.var 2) .nil)) (.glob 4))) (gRho μ m w bf o4) (H (μ ++ [.lst ds]) m t r b) = .ok (decide (ds.length = 12)) (H (μ ++ [.lst ds]) m t r b) := tv_bl (ev_cmp (ev_bif1 (ev_var rfl) (len_ref (ref_lt R))) (ev_glob rfl) (eq_n (b := 12)))
      rw [grpL, if_pos hc]
      by_cases h12 : ds.length = 12
      · rw [if_pos h12]
        rw [decide_eq_true h12] at tL
        exact ⟨_, ds, r, b, whl_er cond (run_er (ifs_true tL (run_er (rf_m (k := k + 1) rfl R1 ev_cst (by decide +kernel)))))⟩
      · rw [if_neg h12]
        rw [decide_eq_false h12] at tL
        obtain ⟨M1, M2⟩ := mem_ok (k := k) (b := b) R1 hb
        have s0 : runS (gg (k + 4)) (nthS gBd 0) (gRho μ m w bf o4) (H (μ ++ [.lst ds]) m t r b) = .nx (gRho μ m w bf o4) (H (μ ++ [.lst ds]) m t r b) := ifs_false tL run_nil
        cases hm : mem bf r with
        | no => exact trivial
        | er q s =>
          rw [hm] at M1
          obtain ⟨r', b', e⟩ := M1
          exact ⟨_, ds, r', b', whl_er cond (run_nx s0 (run_er (st_set_err (ev_m1 (n := "member") rfl R1 (by decide +kernel) (ev_var rfl) e))))⟩
        | ok lo r1 =>
          rw [hm] at M1
          obtain ⟨sf1, _, e⟩ := M1
          have hlo := M2 lo r1 hm
          have R2 : Rs (μ ++ [.lst ds]) m t r1 := R1.to sf1
          have R2' : Rs μ m t r1 := R.to sf1
          have s1 : runS (gg (k + 4)) (nthS gBd 1) (gRho μ m w bf o4) (H (μ ++ [.lst ds]) m t r b) = .nx (gRho μ m w bf (some (.str (tx lo)))) (H (μ ++ [.lst ds]) m t r1 b) := st_set (ev_m1 (n := "member") rfl R1 (by decide +kernel) (ev_var rfl) e)
          have s2 : runS (gg (k + 4)) (nthS gBd 2) (gRho μ m w bf (some (.str (tx lo)))) (H (μ ++ [.lst ds]) m t r1 b) = .nx (gRho μ m w lo (some (.str (tx lo)))) (H (μ ++ [.lst ds]) m t r1 b) := st_set (ev_var rfl)
          have tD : evalT (gg (k + 4)) (.val (.cmp .eq (.mcl 21 100 "sign" (.var 0) .nil) (.cst (.str "-")))) (gRho μ m w lo (some (.str (tx lo)))) (H (μ ++ [.lst ds]) m t r1 b) = .ok (isC 45 r1) (H (μ ++ [.lst ds]) m t r1 b) := tv_bl (ev_cmp (sg_m rfl R2) ev_cst (eq_sg R2.rn q_45 rfl))
          have app : ∀ {hi r3 : List Nat}, Rs μ m t r3 → runS (gg (k + 4)) (nthS gBd 4) (gRho μ m w hi (some (.str (tx lo)))) (H (μ ++ [.lst ds]) m t r3 b) = .nx (gRho μ m w hi (some (.str (tx lo)))) (H (μ ++ [.lst (ds ++ [sp lo hi])]) m t r3 b) := fun {hi r3} R3 => st_append (ev_var rfl) (ev_tup2 (ev_var rfl) (ev_var rfl)) (ref_lt R3) (by omega) (H_upd R3.hm) (ref_lt R3)
          have nl : ∀ {hi : List Nat}, (ds ++ [sp lo hi]).length ≤ 12 := fun {hi} => by rw [List.length_append]; show ds.length + 1 ≤ 12; omega
          show match (if isC 45 r1 = true then (mem lo r1.tail).bind fun hi r3 => grpL w n (ds ++ [sp lo hi]) hi r3 else grpL w n (ds ++ [sp lo lo]) lo r1) with
            | .ok d r' => _
            | .er q s => _
            | .no => True
          cases h45 : isC 45 r1 with
          | false =>
            rw [h45] at tD
            rw [if_neg (by decide)]
            have ih := grp_loop (w := w) (n := n) (N := N) (ds := ds ++ [sp lo lo]) (bf := lo) (r := r1) (o4 := some (.str (tx lo))) (by omega) R2' (pure_snoc hd (sp_pure _ _)) nl (by omega)
            have body : runB (gg (k + 4)) gBd (gRho μ m w bf o4) (H (μ ++ [.lst ds]) m t r b) = .nx (gRho μ m w lo (some (.str (tx lo)))) (H (μ ++ [.lst (ds ++ [sp lo lo])]) m t r1 b) := run_nx s0 (run_nx s1 (run_nx s2 (run_nx (ifs_false tD run_nil) (run_nx (app R2') run_nil))))
            cases hg : grpL w n (ds ++ [sp lo lo]) lo r1 with
            | no => exact trivial
            | er q s =>
              rw [hg] at ih
              obtain ⟨ρ', ds', r', b', z⟩ := ih
              exact ⟨ρ', ds', r', b', whl_nx cond body z⟩
            | ok d r' =>
              rw [hg] at ih
              obtain ⟨c, ds', bf', o4', z0, z1, z2, z3, z⟩ := ih
              exact ⟨c, ds', bf', o4', z0, z1, z2, z3, whl_nx cond body z⟩
          | true =>
            rw [h45] at tD
            rw [if_pos rfl]
            obtain ⟨d0, r2, hr1⟩ : ∃ d0 r2, r1 = d0 :: r2 := by
              cases r1 with
              | nil => cases h45
              | cons d0 r2 => exact ⟨d0, r2, rfl⟩
            subst hr1
            have R3 : Rs (μ ++ [.lst ds]) m t r2 := R2.tail
            obtain ⟨M3, M4⟩ := mem_ok (k := k) (b := b) (bf := lo) R3 (by omega)
            have sA := st_at (Γ := gg (k + 4)) (b := b) (ρ := gRho μ m w lo (some (.str (tx lo)))) rfl R2
            show match (mem lo r2).bind fun hi r3 => grpL w n (ds ++ [sp lo hi]) hi r3 with
              | .ok d r' => _
              | .er q s => _
              | .no => True
            cases hm2 : mem lo r2 with
            | no => exact trivial
            | er q s =>
              rw [hm2] at M3
              obtain ⟨r', b', e3⟩ := M3
              exact ⟨_, ds, r', b', whl_er cond (run_nx s0 (run_nx s1 (run_nx s2 (run_er (ifs_true tD (run_nx sA (run_er (st_set_err (ev_m1 (n := "member") rfl R3 (by decide +kernel) (ev_var rfl) e3)))))))))⟩
            | ok hi r3 =>
              rw [hm2] at M3
              obtain ⟨sf3, _, e3⟩ := M3
              have hhi := M4 hi r3 hm2
              have R4 : Rs μ m t r3 := R.to sf3
              have ih := grp_loop (w := w) (n := n) (N := N) (ds := ds ++ [sp lo hi]) (bf := hi) (r := r3) (o4 := some (.str (tx lo))) (by omega) R4 (pure_snoc hd (sp_pure _ _)) nl (by omega)
              have body : runB (gg (k + 4)) gBd (gRho μ m w bf o4) (H (μ ++ [.lst ds]) m t r b) = .nx (gRho μ m w hi (some (.str (tx lo)))) (H (μ ++ [.lst (ds ++ [sp lo hi])]) m t r3 b) := run_nx s0 (run_nx s1 (run_nx s2 (run_nx (ifs_true tD (run_nx sA (run_nx (st_set (ev_m1 (n := "member") rfl R3 (by decide +kernel) (ev_var rfl) e3)) run_nil))) (run_nx (app R4) run_nil))))
              show match grpL w n (ds ++ [sp lo hi]) hi r3 with
                | .ok d r' => _
                | .er q s => _
                | .no => True
              cases hg : grpL w n (ds ++ [sp lo hi]) hi r3 with
              | no => exact trivial
              | er q s =>
                rw [hg] at ih
                obtain ⟨ρ', ds', r', b', z⟩ := ih
                exact ⟨ρ', ds', r', b', whl_nx cond body z⟩
              | ok d r' =>
                rw [hg] at ih
                obtain ⟨c, ds', bf', o4', z0, z1, z2, z3, z⟩ := ih
                exact ⟨c, ds', bf', o4', z0, z1, z2, z3, whl_nx cond body z⟩
    · have h9 : isC 93 r = true := by
        cases h : isC 93 r with
        | true => rfl
        | false => exact absurd (.inl h) hc
      have hne : ds ≠ [] := fun z => hc (.inr z)
      rw [grpL, if_neg hc]
      obtain ⟨d0, r2, hr1⟩ : ∃ d0 r2, r = d0 :: r2 := by
        cases r with
        | nil => cases h9
        | cons d0 r2 => exact ⟨d0, r2, rfl⟩
      subst hr1
      rw [h9] at tN
      have : ds.isEmpty = false := by cases ds with | nil => exact absurd rfl hne | cons _ _ => rfl
      rw [this] at tE
      exact ⟨d0, ds, bf, o4, Nat.zero_le _, R.sf, hd, rfl, whl_stop (tv_or_f tN tE)⟩
theorem call_l {f : Nat} {bb : B} {ρ : Rho} {ds : List D} {d : D} {l : List D} {r' : List Nat} {b' : Nat} (hc : callD prg.tab prg.con prg.dic prg.wf (k + 1) f ds (H μ m t r b) = finO (H μ m t r b).length (runB (gg k) bb ρ (H μ m t r b))) (R : Rs μ m t r) (hd : pureD d = true) (h : runB (gg k) bb ρ (H μ m t r b) = .rt d (H (μ ++ [.lst l]) m t r' b')) : (gg (k + 1)).call f ds (H μ m t r b) = .ok d (H μ m t r' b') := by
  show callD prg.tab prg.con prg.dic prg.wf (k + 1) f ds (H μ m t r b) = _
  rw [hc, h, H_len, finO_rt]
  exact fin_H1 R.pm R.hm hd
theorem call_le {f : Nat} {bb : B} {ρ ρ' : Rho} {ds fs : List D} {l : List D} {r' : List Nat} {b' : Nat} (hc : callD prg.tab prg.con prg.dic prg.wf (k + 1) f ds (H μ m t r b) = finO (H μ m t r b).length (runB (gg k) bb ρ (H μ m t r b))) (R : Rs μ m t r) (hd : pureDs fs = true) (h : runB (gg k) bb ρ (H μ m t r b) = .er 0 fs ρ' (H (μ ++ [.lst l]) m t r' b')) : (gg (k + 1)).call f ds (H μ m t r b) = .err 0 fs (H μ m t r' b') := by
  show callD prg.tab prg.con prg.dic prg.wf (k + 1) f ds (H μ m t r b) = _
  rw [hc, h, H_len]
  exact fin_H1e R.pm R.hm hd
theorem grp_tail {w : Str} {r0 : List Nat} {x : PR D} (R : Rs μ m t r) (R0 : Rs μ m t r0) (hx : x = grpL w 20 [] [] r0)
    (h0 : runS (gg (k + 4)) (nthS b_Reader_group 1) [some (.ref m), some (.str "class"), none, none, none] (H μ m t r b) = .nx [some (.ref m), some (.str w), none, none, none] (H μ m t r0 b)) : Does (k + 5) n_Reader_group [] μ m t r b id x := by
  subst hx
  have q := grp_loop (k := k) (b := b) (w := w) (n := 20) (N := 100000) (ds := []) (bf := []) (r := r0) (o4 := none) (by decide) R0 rfl (by decide) (by decide)
  have s0 : runS (gg (k + 4)) (nthS b_Reader_group 0) [some (.ref m), none, none, none, none] (H μ m t r b) = .nx [some (.ref m), some (.str "class"), none, none, none] (H μ m t r b) := st_set ev_cst
  have s2 : runS (gg (k + 4)) (nthS b_Reader_group 2) [some (.ref m), some (.str w), none, none, none] (H μ m t r0 b) = .nx [some (.ref m), some (.str w), some (.ref μ.length), none, none] (H (μ ++ [.lst []]) m t r0 b) := by
    refine (st_new ev_lst0).trans ?_
    rw [H_app R0.hm, H_len]
    rfl
  have s3 : runS (gg (k + 4)) (nthS b_Reader_group 3) [some (.ref m), some (.str w), some (.ref μ.length), none, none] (H (μ ++ [.lst []]) m t r0 b) = .nx (gRho μ m w [] none) (H (μ ++ [.lst []]) m t r0 b) := by
    refine (st_set ev_cst).trans ?_
    rw [q_nil]
    rfl
  cases hg : grpL w 20 [] [] r0 with
  | no => exact trivial
  | er q' s =>
    rw [hg] at q
    obtain ⟨ρ', ds', r', b', e⟩ := q
    exact ⟨r', b', call_le c_Reader_group R rfl (run_nx s0 (run_nx h0 (run_nx s2 (run_nx s3 (run_er (st_whl e))))))⟩
  | ok d r' =>
    rw [hg] at q
    obtain ⟨c, ds', bf', o4', _, z1, z2, rfl, e⟩ := q
    have R2 : Rs μ m t (c :: r') := R.to z1
    have pd : pureD (.tup [.str w, .tup ds']) = true := by show (true && (pureDs ds' && true)) = true; rw [z2]; rfl
    exact ⟨R2.tail.sf, pd, call_l c_Reader_group R pd (run_nx s0 (run_nx h0 (run_nx s2 (run_nx s3 (run_nx (st_whl e) (run_nx (st_at rfl (R2.snoc z2)) (run_rt (st_ret (ev_tup2 (ev_var rfl) (ev_bif1 (ev_var rfl) (tuple_ref (ref_lt R2.tail))))))))))))⟩
theorem group_ok (R : Rs μ m t r) : Does (k + 5) n_Reader_group [] μ m t r b id (grp r) := by
  have tt : evalT (gg (k + 4)) (.val (.cmp .eq (.mcl 21 100 "sign" (.var 0) .nil) (.cst (.str "^")))) [some (.ref m), some (.str "class"), none, none, none] (H μ m t r b) = .ok (isC 94 r) (H μ m t r b) := tv_bl (ev_cmp (sg_m rfl R) ev_cst (eq_sg R.rn q_94 rfl))
  cases h : isC 94 r with
  | false =>
    rw [h] at tt
    exact grp_tail (w := "class") (b := b) R R (by rw [grp, if_neg (by rw [h]; decide)]) (ifs_false tt run_nil)
  | true =>
    rw [h] at tt
    obtain ⟨d0, r2, hr1⟩ : ∃ d0 r2, r = d0 :: r2 := by
      cases r with
      | nil => cases h
      | cons d0 r2 => exact ⟨d0, r2, rfl⟩
    subst hr1
    exact grp_tail (w := "other") (b := b) R R.tail (by rw [grp, if_pos h]; rfl) (ifs_true tt (run_nx (st_set ev_cst) (run_nx (st_at rfl R) run_nil)))
theorem isdig_ok : ∀ c, c < 128 → Txt.isdigit (tx [c]) = decide (48 ≤ c ∧ c ≤ 57) := by decide +kernel
theorem isdig_nil : Txt.isdigit (tx []) = false := by decide +kernel
theorem int_dig : ∀ c, c < 58 → 48 ≤ c → intText? (tx [c]) = some ((c - 48 : Nat) : Int) := by decide +kernel
theorem digit_ok (R : Rs μ m t r) : Does (k + 4) n_Reader_digit [] μ m t r b (fun n : Nat => nD n) (dig r) := by
  have s0 : runS (gg (k + 3)) (nthS b_Reader_digit 0) [some (.ref m), none] (H μ m t r b) = .nx [some (.ref m), some (.str (tx (r.take 1)))] (H μ m t r b) := st_set (sg_m rfl R)
  have tt : evalT (gg (k + 3)) (.not (.val (.met .isdigit (.var 1) .nil))) [some (.ref m), some (.str (tx (r.take 1)))] (H μ m t r b) = .ok (!Txt.isdigit (tx (r.take 1))) (H μ m t r b) := tv_not (tv_bl (ev_met0 (ev_var rfl) rfl rfl))
  have bad : Txt.isdigit (tx (r.take 1)) = false → ∃ r' b', (gg (k + 4)).call n_Reader_digit [.ref m] (H μ m t r b) = .err 0 [.str "repeat", nD (t.length + 1 - r.length)] (H μ m t r' b') := fun h => by
    rw [h] at tt
    exact ⟨r, b, call_er c_Reader_digit rfl (run_nx s0 (run_er (ifs_true tt (run_er (rf_m rfl R ev_cst (by decide +kernel))))))⟩
  cases r with
  | nil => exact bad isdig_nil
  | cons c r =>
    unfold dig
    simp only
    by_cases h1 : 128 ≤ c
    · rw [if_pos h1]; trivial
    · rw [if_neg h1]
      have e := isdig_ok c (by omega)
      by_cases h2 : 48 ≤ c ∧ c ≤ 57
      · rw [if_pos h2]
        rw [decide_eq_true h2] at e
        have tt' := tt
        rw [show (c :: r).take 1 = [c] from rfl, e] at tt'
        refine ⟨R.tail.sf, rfl, call_of c_Reader_digit hl2 (run_nx s0 (run_nx (ifs_false tt' run_nil) (run_nx (st_at rfl R) (run_rt (st_ret (ev_bif1 (ev_var rfl) ?_))))))⟩
        have hi := int_dig c (by omega) h2.1
        show (match intText? (tx [c]) with
          | some i => needs ((tx [c]).length ≤ 640) (Res.ok (D.int i) (H μ m t r b))
          | none => .stuck) = _
        rw [hi]
        exact needs_pos (by rw [tx_len]; show 1 ≤ 640; decide)
      · rw [if_neg h2]
        rw [decide_eq_false h2] at e
        exact bad e
theorem ev_gdict {g : Nat} {e : E} {ρ : Rho} {ν ν' : Mu} {s : Str} {d : D} {Γ : G} (h : evalE Γ e ρ ν = .ok (.str s) ν') (hd : (Γ.dic g).lookup s = some d) : evalE Γ (.gdict g e) ρ ν = .ok d ν' := by
  rw [evalE, h, bind_ok]
  simp only [hd]
theorem q_123 : ("{" : Str) = tx [123] := by decide +kernel
theorem q_125 : ("}" : Str) = tx [125] := by decide +kernel
theorem q_44 : ("," : Str) = tx [44] := by decide +kernel
theorem dic_42 : (dic 0).lookup (tx [42]) = some (.kt [.int 0, .non]) := by kernel_rfl
theorem dic_43 : (dic 0).lookup (tx [43]) = some (.kt [.int 1, .non]) := by kernel_rfl
theorem dic_63 : (dic 0).lookup (tx [63]) = some (.kt [.int 0, .int 1]) := by kernel_rfl
/-- the bounds, as they are handed back -/
def bdD (q : Bool × D × D) : D := if q.1 then .kt [q.2.1, q.2.2] else .tup [q.2.1, q.2.2]
abbrev bR (m : Nat) (c : Nat) (o2 o3 : Option D) : Rho := [some (.ref m), some (.str (tx [c])), o2, o3]
theorem bounds_ok (R : Rs μ m t (c :: r)) : Does (k + 5) n_Reader_bounds [] μ m t (c :: r) b bdD (bnd c r) := by
  have R1 := R.tail
  have s0 : runS (gg (k + 4)) (nthS b_Reader_bounds 0) [some (.ref m), none, none, none] (H μ m t (c :: r) b) = .nx (bR m c none none) (H μ m t (c :: r) b) := st_set (sg_m rfl R)
  have s1 : runS (gg (k + 4)) (nthS b_Reader_bounds 1) (bR m c none none) (H μ m t (c :: r) b) = .nx (bR m c none none) (H μ m t r b) := st_at rfl R
  have tt : evalT (gg (k + 4)) (.val (.cmp .ne (.var 1) (.cst (.str "{")))) (bR m c none none) (H μ m t r b) = .ok (!(c == 123)) (H μ m t r b) := tv_bl (ev_cmp (ev_var rfl) ev_cst (ne_c q_123 (u1 R.rn rfl) rfl))
  have const : ∀ {d1 d2 : D}, c ≠ 123 → (dic 0).lookup (tx [c]) = some (.kt [d1, d2]) → pureD d1 = true → pureD d2 = true → Does (k + 5) n_Reader_bounds [] μ m t (c :: r) b bdD (.ok (true, d1, d2) r) := fun {d1 d2} h1 h2 p1 p2 => by
    rw [beq_eq_false_iff_ne.mpr h1] at tt
    exact ⟨R1.sf, (by show (pureD d1 && (pureD d2 && true)) = true; rw [p1, p2]; rfl), call_of c_Reader_bounds hl2 (run_nx s0 (run_nx s1 (run_rt (ifs_true tt (run_rt (st_ret (ev_gdict (ev_var rfl) h2)))))))⟩
  unfold bnd
  by_cases h1 : c = 42
  · subst h1; rw [if_pos rfl]; exact const (by decide) dic_42 rfl rfl
  rw [if_neg h1]
  by_cases h2 : c = 43
  · subst h2; rw [if_pos rfl]; exact const (by decide) dic_43 rfl rfl
  rw [if_neg h2]
  by_cases h3 : c = 63
  · subst h3; rw [if_pos rfl]; exact const (by decide) dic_63 rfl rfl
  rw [if_neg h3]
  by_cases h4 : c = 123
  · subst h4
    rw [if_pos rfl]
    have tt' := tt
    rw [show (!((123 : Nat) == 123)) = false from rfl] at tt'
    have s2 : runS (gg (k + 4)) (nthS b_Reader_bounds 2) (bR m 123 none none) (H μ m t r b) = .nx (bR m 123 none none) (H μ m t r b) := ifs_false tt' run_nil
    have D1 := digit_ok (k := k) (b := b) R1
    have er : ∀ {bb : B} {fs : List D} {ρ' : Rho} {r' : List Nat} {b' : Nat}, b_Reader_bounds = .cons (nthS b_Reader_bounds 0) (.cons (nthS b_Reader_bounds 1) (.cons (nthS b_Reader_bounds 2) bb)) → runB (gg (k + 4)) bb (bR m 123 none none) (H μ m t r b) = .er 0 fs ρ' (H μ m t r' b') → (gg (k + 5)).call n_Reader_bounds [.ref m] (H μ m t (123 :: r) b) = .err 0 fs (H μ m t r' b') := fun e h => call_er c_Reader_bounds hl2 (by rw [e]; exact run_nx s0 (run_nx s1 (run_nx s2 h)))
    have rt : ∀ {bb : B} {d : D} {r' : List Nat} {b' : Nat}, b_Reader_bounds = .cons (nthS b_Reader_bounds 0) (.cons (nthS b_Reader_bounds 1) (.cons (nthS b_Reader_bounds 2) bb)) → runB (gg (k + 4)) bb (bR m 123 none none) (H μ m t r b) = .rt d (H μ m t r' b') → (gg (k + 5)).call n_Reader_bounds [.ref m] (H μ m t (123 :: r) b) = .ok d (H μ m t r' b') := fun e h => call_of c_Reader_bounds hl2 (by rw [e]; exact run_nx s0 (run_nx s1 (run_nx s2 h)))
    cases hd : dig r with
    | no => exact trivial
    | er q s =>
      rw [hd] at D1
      obtain ⟨r', b', e⟩ := D1
      exact ⟨r', b', er rfl (run_er (st_set_err (ev_m0 (n := "digit") rfl R1 (by decide +kernel) e)))⟩
    | ok lo r1 =>
      rw [hd] at D1
      obtain ⟨sf1, _, e1⟩ := D1
      have R2 : Rs μ m t r1 := R.to sf1
      have s3 : runS (gg (k + 4)) (nthS b_Reader_bounds 3) (bR m 123 none none) (H μ m t r b) = .nx (bR m 123 (some (nD lo)) none) (H μ m t r1 b) := st_set (ev_m0 (n := "digit") rfl R1 (by decide +kernel) e1)
      have t4 : evalT (gg (k + 4)) (.val (.cmp .eq (.mcl 21 100 "sign" (.var 0) .nil) (.cst (.str "}")))) (bR m 123 (some (nD lo)) none) (H μ m t r1 b) = .ok (isC 125 r1) (H μ m t r1 b) := tv_bl (ev_cmp (sg_m rfl R2) ev_cst (eq_sg R2.rn q_125 rfl))
      show Does (k + 5) n_Reader_bounds [] μ m t (123 :: r) b bdD (if isC 125 r1 = true then (if lo = 0 then .er (r1.length + 1) "repeat" else .ok (false, nD lo, nD lo) r1.tail) else (due 44 "repeat" r1).bind fun _ r2 => if isC 125 r2 then .ok (false, nD lo, .non) r2.tail else (dig r2).bind fun hi r3 => if hi < lo ∨ hi = 0 then .er (r3.length + 1) "repeat" else (due 125 "repeat" r3).bind fun _ r4 => .ok (false, nD lo, nD hi) r4)
      -- raise BadText(self.at, ..)
      have raise : ∀ {r0 : List Nat} {o2 o3 : Option D}, Rs μ m t r0 → runS (gg (k + 4)) (.rse 0 2 (.cons (.fld 100 (.var 0) "at") (.cons (.cst (.str "repeat")) .nil))) (bR m 123 o2 o3) (H μ m t r0 b) = .er 0 [.str "repeat", nD (t.length + 1 - (r0.length + 1))] (bR m 123 o2 o3) (H μ m t r0 b) := fun {r0 o2 o3} R0 => by
        rw [Nat.add_sub_add_right]
        exact st_rse2 (show decide (2 ≤ k + 4) = true from decide_eq_true (by omega)) (ev_at rfl R0) ev_cst (by have := R0.tl; omega) (by decide +kernel)
      cases h5 : isC 125 r1 with
      | true =>
        rw [h5] at t4
        rw [if_pos rfl]
        obtain ⟨d0, r2, hr1⟩ : ∃ d0 r2, r1 = d0 :: r2 := by
          cases r1 with
          | nil => cases h5
          | cons d0 r2 => exact ⟨d0, r2, rfl⟩
        subst hr1
        have tz : evalT (gg (k + 4)) (.val (.cmp .eq (.var 2) (.cst (.int 0)))) (bR m 123 (some (nD lo)) none) (H μ m t (d0 :: r2) b) = .ok (decide (lo = 0)) (H μ m t (d0 :: r2) b) := tv_bl (ev_cmp (ev_var rfl) ev_cst (eq_n (b := 0)))
        by_cases hz : lo = 0
        · rw [if_pos hz]
          rw [decide_eq_true hz] at tz
          exact ⟨d0 :: r2, b, er rfl (run_nx s3 (run_er (ifs_true t4 (run_er (ifs_true tz (run_er (raise R2)))))))⟩
        · rw [if_neg hz]
          rw [decide_eq_false hz] at tz
          exact ⟨R2.tail.sf, rfl, rt rfl (run_nx s3 (run_rt (ifs_true t4 (run_nx (ifs_false tz run_nil) (run_nx (st_at rfl R2) (run_rt (st_ret (ev_tup2 (ev_var rfl) (ev_var rfl)))))))))⟩
      | false =>
        rw [h5] at t4
        rw [if_neg (by decide)]
        have s4 : runS (gg (k + 4)) (nthS b_Reader_bounds 4) (bR m 123 (some (nD lo)) none) (H μ m t r1 b) = .nx (bR m 123 (some (nD lo)) none) (H μ m t r1 b) := ifs_false t4 run_nil
        have U1 := due_ok (k := k) (b := b) (c := 44) (s := "repeat") R2 rfl (by decide +kernel)
        cases hu : due 44 "repeat" r1 with
        | no => exact trivial
        | er q s =>
          rw [hu] at U1
          obtain ⟨r', b', e⟩ := U1
          exact ⟨r', b', er rfl (run_nx s3 (run_nx s4 (run_er (st_expr_er (ev_m2 (n := "due") rfl R2 (by decide +kernel) (ev_cs q_44) ev_cst e)))))⟩
        | ok u r2 =>
          rw [hu] at U1
          obtain ⟨sf2, _, e2⟩ := U1
          have R3 : Rs μ m t r2 := R.to sf2
          have s5 : runS (gg (k + 4)) (nthS b_Reader_bounds 5) (bR m 123 (some (nD lo)) none) (H μ m t r1 b) = .nx (bR m 123 (some (nD lo)) none) (H μ m t r2 b) := st_expr_ok (ev_m2 (n := "due") rfl R2 (by decide +kernel) (ev_cs q_44) ev_cst e2)
          have t6 : evalT (gg (k + 4)) (.val (.cmp .eq (.mcl 21 100 "sign" (.var 0) .nil) (.cst (.str "}")))) (bR m 123 (some (nD lo)) none) (H μ m t r2 b) = .ok (isC 125 r2) (H μ m t r2 b) := tv_bl (ev_cmp (sg_m rfl R3) ev_cst (eq_sg R3.rn q_125 rfl))
          show Does (k + 5) n_Reader_bounds [] μ m t (123 :: r) b bdD (if isC 125 r2 = true then .ok (false, nD lo, .non) r2.tail else (dig r2).bind fun hi r3 => if hi < lo ∨ hi = 0 then .er (r3.length + 1) "repeat" else (due 125 "repeat" r3).bind fun _ r4 => .ok (false, nD lo, nD hi) r4)
          cases h6 : isC 125 r2 with
          | true =>
            rw [h6] at t6
            rw [if_pos rfl]
            obtain ⟨d0, r3, hr1⟩ : ∃ d0 r3, r2 = d0 :: r3 := by
              cases r2 with
              | nil => cases h6
              | cons d0 r3 => exact ⟨d0, r3, rfl⟩
            subst hr1
            exact ⟨R3.tail.sf, rfl, rt rfl (run_nx s3 (run_nx s4 (run_nx s5 (run_rt (ifs_true t6 (run_nx (st_at rfl R3) (run_rt (st_ret (ev_tup2 (ev_var rfl) ev_cst)))))))))⟩
          | false =>
            rw [h6] at t6
            rw [if_neg (by decide)]
            have s6 : runS (gg (k + 4)) (nthS b_Reader_bounds 6) (bR m 123 (some (nD lo)) none) (H μ m t r2 b) = .nx (bR m 123 (some (nD lo)) none) (H μ m t r2 b) := ifs_false t6 run_nil
            have D2 := digit_ok (k := k) (b := b) R3
            cases hd2 : dig r2 with
            | no => exact trivial
            | er q s =>
              rw [hd2] at D2
              obtain ⟨r', b', e⟩ := D2
              exact ⟨r', b', er rfl (run_nx s3 (run_nx s4 (run_nx s5 (run_nx s6 (run_er (st_set_err (ev_m0 (n := "digit") rfl R3 (by decide +kernel) e)))))))⟩
            | ok hi r3 =>
              rw [hd2] at D2
              obtain ⟨sf3, _, e3⟩ := D2
              have R4 : Rs μ m t r3 := R.to sf3
              have s7 : runS (gg (k + 4)) (nthS b_Reader_bounds 7) (bR m 123 (some (nD lo)) none) (H μ m t r2 b) = .nx (bR m 123 (some (nD lo)) (some (nD hi))) (H μ m t r3 b) := st_set (ev_m0 (n := "digit") rfl R3 (by decide +kernel) e3)
              have ta : evalT (gg (k + 4)) (.val (.cmp .lt (.var 3) (.var 2))) (bR m 123 (some (nD lo)) (some (nD hi))) (H μ m t r3 b) = .ok (decide (hi < lo)) (H μ m t r3 b) := tv_bl (ev_cmp (ev_var rfl) (ev_var rfl) lt_n)
              have tb : evalT (gg (k + 4)) (.val (.cmp .eq (.var 3) (.cst (.int 0)))) (bR m 123 (some (nD lo)) (some (nD hi))) (H μ m t r3 b) = .ok (decide (hi = 0)) (H μ m t r3 b) := tv_bl (ev_cmp (ev_var rfl) ev_cst (eq_n (b := 0)))
              show Does (k + 5) n_Reader_bounds [] μ m t (123 :: r) b bdD (if hi < lo ∨ hi = 0 then .er (r3.length + 1) "repeat" else (due 125 "repeat" r3).bind fun _ r4 => .ok (false, nD lo, nD hi) r4)
              by_cases h8 : hi < lo ∨ hi = 0
              · rw [if_pos h8]
                have tc : evalT (gg (k + 4)) (.or (.val (.cmp .lt (.var 3) (.var 2))) (.val (.cmp .eq (.var 3) (.cst (.int 0))))) (bR m 123 (some (nD lo)) (some (nD hi))) (H μ m t r3 b) = .ok true (H μ m t r3 b) := by
                  by_cases h9 : hi < lo
                  · rw [decide_eq_true h9] at ta; exact tv_or_t ta
                  · rw [decide_eq_false h9] at ta
                    rw [decide_eq_true (h8.resolve_left h9)] at tb
                    exact tv_or_f ta tb
                exact ⟨r3, b, er rfl (run_nx s3 (run_nx s4 (run_nx s5 (run_nx s6 (run_nx s7 (run_er (ifs_true tc (run_er (raise R4)))))))))⟩
              · rw [if_neg h8]
                rw [decide_eq_false (fun z => h8 (.inl z))] at ta
                rw [decide_eq_false (fun z => h8 (.inr z))] at tb
                have s8 : runS (gg (k + 4)) (nthS b_Reader_bounds 8) (bR m 123 (some (nD lo)) (some (nD hi))) (H μ m t r3 b) = .nx (bR m 123 (some (nD lo)) (some (nD hi))) (H μ m t r3 b) := ifs_false (tv_or_f ta tb) run_nil
                have U2 := due_ok (k := k) (b := b) (c := 125) (s := "repeat") R4 rfl (by decide +kernel)
                cases hu2 : due 125 "repeat" r3 with
                | no => exact trivial
                | er q s =>
                  rw [hu2] at U2
                  obtain ⟨r', b', e⟩ := U2
                  exact ⟨r', b', er rfl (run_nx s3 (run_nx s4 (run_nx s5 (run_nx s6 (run_nx s7 (run_nx s8 (run_er (st_expr_er (ev_m2 (n := "due") rfl R4 (by decide +kernel) (ev_cs q_125) ev_cst e)))))))))⟩
                | ok u r4 =>
                  rw [hu2] at U2
                  obtain ⟨sf4, _, e4⟩ := U2
                  exact ⟨sf4, rfl, rt rfl (run_nx s3 (run_nx s4 (run_nx s5 (run_nx s6 (run_nx s7 (run_nx s8 (run_nx (st_expr_ok (ev_m2 (n := "due") rfl R4 (by decide +kernel) (ev_cs q_125) ev_cst e4)) (run_rt (st_ret (ev_tup2 (ev_var rfl) (ev_var rfl)))))))))))⟩
  · rw [if_neg h4]; trivial
end
end PyI.K12
/-! W5: rows, choices, brackets. -/
namespace PyI.K12
open PySem L2 PyProof.Rows
def Ok (j f : Nat) (P : Rd) : Prop := ∀ {μ : Mu} {m : Nat} {t r : List Nat} {b : Nat}, Rs μ m t r → Does j f [] μ m t r b id (P r b)
section
variable {k : Nat} {μ ν : Mu} {m : Nat} {t r : List Nat} {b c : Nat} {q : Str}
theorem mk1_pure {w : Str} {ps : List D} (h : pureDs ps = true) : pureD (mk1 w ps) = true := by
  match ps, h with
  | [p], h => simpa [pureDs, mk1] using h
  | [], h => rfl
  | p :: p' :: r, h => show (true && (pureDs (p :: p' :: r) && true)) = true; rw [h]; rfl
theorem pure1 {p : D} (h : pureD p = true) : pureDs [p] = true := by simp [pureDs, h]
abbrev lR (μ : Mu) (m : Nat) : Rho := [some (.ref m), some (.ref μ.length)]
abbrev finE (w : Str) : E := .ite (.val (.cmp .eq (.bif .len (.cons (.var 1) .nil)) (.cst (.int 1)))) (.idx (.var 1) (.cst (.int 0))) (.tup (.cons (.cst (.str w)) (.cons (.bif .tuple (.cons (.var 1) .nil)) .nil)))
theorem fin_mk {w : Str} {ps : List D} {Γ : G} (R : Rs μ m t r) (hne : ps ≠ []) : evalE Γ (finE w) (lR μ m) (H (μ ++ [.lst ps]) m t r b) = .ok (mk1 w ps) (H (μ ++ [.lst ps]) m t r b) := by
  have tt : evalT Γ (.val (.cmp .eq (.bif .len (.cons (.var 1) .nil)) (.cst (.int 1)))) (lR μ m) (H (μ ++ [.lst ps]) m t r b) = .ok (decide (ps.length = 1)) (H (μ ++ [.lst ps]) m t r b) := tv_bl (ev_cmp (ev_bif1 (ev_var rfl) (len_ref (ref_lt R))) ev_cst (eq_n (b := 1)))
  match ps, hne, tt with
  | [p], _, tt => exact ev_ite_true tt (ev_idx (ev_var rfl) ev_cst (ix_ref (n := 0) (ref_lt R) rfl))
  | p :: p' :: rest, _, tt =>
    rw [decide_eq_false (by simp)] at tt
    exact ev_ite_false tt (ev_tup2 ev_cst (ev_bif1 (ev_var rfl) (tuple_ref (ref_lt R))))
/-- one part more -/
theorem more_ok {g : Nat} {n : Str} {p : D} {ps : List D} {r' : List Nat} {K : Nat} (hn : n ≠ "signs" ∧ n ≠ "at" ∧ n ≠ "brackets") (R : Rs μ m t r) (hp : pureDs ps = true) (R' : Rs μ m t r') (hl : ps.length ≤ 1000) (e : (gg (K)).call g [.ref m] (H (μ ++ [.lst ps]) m t r b) = .ok p (H (μ ++ [.lst ps]) m t r' b)) :
    runS (gg K) (.expr (.met .append (.var 1) (.cons (.mcl g 100 n (.var 0) .nil) .nil))) (lR μ m) (H (μ ++ [.lst ps]) m t r b) = .nx (lR μ m) (H (μ ++ [.lst (ps ++ [p])]) m t r' b) :=
  st_append (ev_var rfl) (ev_m0 rfl (R.snoc hp) hn e) (ref_lt R') (by omega) (H_upd R'.hm) (ref_lt R)
theorem more_er {g : Nat} {n : Str} {ps fs : List D} {K : Nat} {μ' : Mu} (hn : n ≠ "signs" ∧ n ≠ "at" ∧ n ≠ "brackets") (R : Rs μ m t r) (hp : pureDs ps = true) (e : (gg (K)).call g [.ref m] (H (μ ++ [.lst ps]) m t r b) = .err 0 fs μ') :
    runS (gg K) (.expr (.met .append (.var 1) (.cons (.mcl g 100 n (.var 0) .nil) .nil))) (lR μ m) (H (μ ++ [.lst ps]) m t r b) = .er 0 fs (lR μ m) μ' := by
  refine st_expr_er ?_
  have ht : tyD .append (.ref μ.length) (H (μ ++ [.lst ps]) m t r b) = true := by unfold tyD; simp only [ref_lt R]
  rw [evalE, ev_var (show (lR μ m)[1]? = _ from rfl), bind_ok, needs_pos ht, evalEs, ev_m0 rfl (R.snoc hp) hn e]
  rfl
theorem new1 {g : Nat} {n : Str} {p : D} {r' : List Nat} {K : Nat} (hn : n ≠ "signs" ∧ n ≠ "at" ∧ n ≠ "brackets") (R : Rs μ m t r) (e : (gg (K)).call g [.ref m] (H μ m t r b) = .ok p (H μ m t r' b)) :
    runS (gg K) (.new 1 (.lst (.cons (.mcl g 100 n (.var 0) .nil) .nil))) [some (.ref m), none] (H μ m t r b) = .nx (lR μ m) (H (μ ++ [.lst [p]]) m t r' b) := by
  refine (st_new (ev_lst1 (ev_m0 rfl R hn e))).trans ?_
  rw [H_app R.hm, H_len]
  rfl
theorem new1_er {g : Nat} {n : Str} {fs : List D} {K : Nat} {μ' : Mu} (hn : n ≠ "signs" ∧ n ≠ "at" ∧ n ≠ "brackets") (R : Rs μ m t r) (e : (gg (K)).call g [.ref m] (H μ m t r b) = .err 0 fs μ') :
    runS (gg K) (.new 1 (.lst (.cons (.mcl g 100 n (.var 0) .nil) .nil))) [some (.ref m), none] (H μ m t r b) = .er 0 fs [some (.ref m), none] μ' := by
  rw [runS, evalE, evalEs, ev_m0 rfl R hn e]
  rfl
abbrev Lp (K : Nat) (T : T) (bb : B) (N : Nat) (ρ : Rho) (μ : Mu) : Out := whileLoop (fun ρ μ => evalT (gg K) T ρ μ) (fun ρ μ => runB (gg K) bb ρ μ) N ρ μ
/-- how a loop over parts ends -/
def LoopD (K : Nat) (T : T) (bb : B) (N : Nat) (μ : Mu) (m : Nat) (t r : List Nat) (b : Nat) (ps : List D) (x : PR (List D)) : Prop := match x with
  | .ok ps' r' => (∃ p, t = p ++ r') ∧ pureDs ps' = true ∧ ps' ≠ [] ∧ Lp K T bb N (lR μ m) (H (μ ++ [.lst ps]) m t r b) = .nx (lR μ m) (H (μ ++ [.lst ps']) m t r' b)
  | .er q s => ∃ ρ' ps' r' b', Lp K T bb N (lR μ m) (H (μ ++ [.lst ps]) m t r b) = .er 0 [.str s, nD (t.length + 1 - q)] ρ' (H (μ ++ [.lst ps']) m t r' b')
  | .no => True
abbrev rowT : T := whlT (nthS b_Reader_row 1)
abbrev rowB : B := match nthS b_Reader_row 1 with | .whl _ bb => bb | _ => .nil
theorem row_loop {f : Rd} (hf : Ok (k + 10) 28 f) : ∀ {n N : Nat} {ps : List D} {r : List Nat}, n < N → Rs μ m t r → pureDs ps = true → ps ≠ [] → ps.length + n ≤ 900 → LoopD (k + 10) rowT rowB N μ m t r b ps (rowL f b n ps r)
  | 0, _, _, _, _, _, _, _, _ => trivial
  | n + 1, 0, _, _, h, _, _, _, _ => absurd h (Nat.not_lt_zero _)
  | n + 1, N + 1, ps, r, hN, R, hp, hne, hl => by
    have tt : evalT (gg (k + 10)) rowT (lR μ m) (H (μ ++ [.lst ps]) m t r b) = .ok (beg r) (H (μ ++ [.lst ps]) m t r b) := tv_bl (ev_m0 (n := "begins") rfl (R.snoc hp) (by decide +kernel) (begins_ok (k := k + 8) (R.snoc hp)))
    rw [rowL]
    cases hb : beg r with
    | false =>
      rw [hb] at tt
      rw [if_neg (by decide)]
      exact ⟨R.sf, hp, hne, whl_stop tt⟩
    | true =>
      rw [hb] at tt
      rw [if_pos rfl]
      have D1 := hf (b := b) (R.snoc hp)
      cases hd : f r b with
      | no => exact trivial
      | er q s =>
        rw [hd] at D1
        obtain ⟨r', b', e⟩ := D1
        exact ⟨_, ps, r', b', whl_er tt (run_er (more_er (n := "denied") (by decide +kernel) R hp e))⟩
      | ok p r1 =>
        rw [hd] at D1
        obtain ⟨sf1, pp, e⟩ := D1
        have R1 : Rs μ m t r1 := R.to sf1
        have ih := row_loop hf (n := n) (N := N) (ps := ps ++ [p]) (r := r1) (by omega) R1 (pure_snoc hp pp) (by simp) (by rw [List.length_append]; show ps.length + 1 + n ≤ 900; omega)
        have body : runB (gg (k + 10)) rowB (lR μ m) (H (μ ++ [.lst ps]) m t r b) = .nx (lR μ m) (H (μ ++ [.lst (ps ++ [p])]) m t r1 b) := run_nx (more_ok (n := "denied") (by decide +kernel) R hp R1 (by omega) e) run_nil
        show LoopD (k + 10) rowT rowB (N + 1) μ m t r b ps (rowL f b n (ps ++ [p]) r1)
        cases hg : rowL f b n (ps ++ [p]) r1 with
        | no => exact trivial
        | er q s =>
          rw [hg] at ih
          obtain ⟨ρ', ps', r', b', z⟩ := ih
          exact ⟨ρ', ps', r', b', whl_nx tt body z⟩
        | ok ps' r' =>
          rw [hg] at ih
          obtain ⟨z0, z1, z2, z⟩ := ih
          exact ⟨z0, z1, z2, whl_nx tt body z⟩
theorem row_ok {f : Rd} (hf : Ok (k + 10) 28 f) : Ok (k + 11) 26 (rowP f) := by
  intro μ m t r b R
  have D1 := hf (b := b) R
  unfold rowP
  cases hd : f r b with
  | no => exact trivial
  | er q s =>
    rw [hd] at D1
    obtain ⟨r', b', e⟩ := D1
    exact ⟨r', b', call_er c_Reader_row hl2 (run_er (new1_er (n := "denied") (by decide +kernel) R e))⟩
  | ok p r1 =>
    rw [hd] at D1
    obtain ⟨sf1, pp, e⟩ := D1
    have R1 : Rs μ m t r1 := R.to sf1
    have s0 := new1 (n := "denied") (by decide +kernel) R e
    have L1 := row_loop hf (b := b) (n := 70) (N := 100000) (ps := [p]) (r := r1) (by decide) R1 (pure1 pp) (by simp) (by show 1 + 70 ≤ 900; decide)
    show Does (k + 11) 26 [] μ m t r b id ((rowL f b 70 [p] r1).bind fun ps r2 => .ok (mk1 "row" ps) r2)
    cases hg : rowL f b 70 [p] r1 with
    | no => exact trivial
    | er q s =>
      rw [hg] at L1
      obtain ⟨ρ', ps', r', b', z⟩ := L1
      exact ⟨r', b', call_le c_Reader_row R rfl (run_nx s0 (run_er (st_whl z)))⟩
    | ok ps' r' =>
      rw [hg] at L1
      obtain ⟨z0, z1, z2, z⟩ := L1
      exact ⟨z0, mk1_pure z1, call_l c_Reader_row R (mk1_pure z1) (run_nx s0 (run_nx (st_whl z) (run_rt (st_ret (fin_mk (w := "row") (R.to z0) z2)))))⟩
abbrev sT (q : Str) : T := .val (.cmp .eq (.mcl 21 100 "sign" (.var 0) .nil) (.cst (.str q)))
abbrev sB (g : Nat) (n : Str) : B := .cons (.augF 100 (.var 0) "at" .add (.cst (.int 1))) (.cons (.expr (.met .append (.var 1) (.cons (.mcl g 100 n (.var 0) .nil) .nil))) .nil)
theorem sep_loop {P : Rd} {g : Nat} {nm : Str} (hn : nm ≠ "signs" ∧ nm ≠ "at" ∧ nm ≠ "brackets") (hq : q = tx [c]) (hcu : uni c = true) (hf : Ok (k + 10) g P) : ∀ {n N : Nat} {ps : List D} {r : List Nat}, n < N → Rs μ m t r → pureDs ps = true → ps ≠ [] → ps.length + n ≤ 900 → LoopD (k + 10) (sT q) (sB g nm) N μ m t r b ps (sepL c P b n ps r)
  | 0, _, _, _, _, _, _, _, _ => trivial
  | n + 1, 0, _, _, h, _, _, _, _ => absurd h (Nat.not_lt_zero _)
  | n + 1, N + 1, ps, r, hN, R, hp, hne, hl => by
    have tt : evalT (gg (k + 10)) (sT q) (lR μ m) (H (μ ++ [.lst ps]) m t r b) = .ok (isC c r) (H (μ ++ [.lst ps]) m t r b) := tv_bl (ev_cmp (sg_m rfl (R.snoc hp)) ev_cst (eq_sg R.rn hq hcu))
    rw [sepL]
    cases hb : isC c r with
    | false =>
      rw [hb] at tt
      rw [if_neg (by decide)]
      exact ⟨R.sf, hp, hne, whl_stop tt⟩
    | true =>
      rw [hb] at tt
      rw [if_pos rfl]
      obtain ⟨d0, r2, hr1⟩ : ∃ d0 r2, r = d0 :: r2 := by
        cases r with
        | nil => cases hb
        | cons d0 r2 => exact ⟨d0, r2, rfl⟩
      subst hr1
      have R2 : Rs μ m t r2 := R.tail
      have sA := st_at (Γ := gg (k + 10)) (b := b) (ρ := lR μ m) rfl (R.snoc hp)
      have D1 := hf (b := b) (R2.snoc hp)
      show LoopD (k + 10) (sT q) (sB g nm) (N + 1) μ m t (d0 :: r2) b ps ((P r2 b).bind fun p r1 => sepL c P b n (ps ++ [p]) r1)
      cases hd : P r2 b with
      | no => exact trivial
      | er q' s =>
        rw [hd] at D1
        obtain ⟨r', b', e⟩ := D1
        exact ⟨_, ps, r', b', whl_er tt (run_nx sA (run_er (more_er hn R2 hp e)))⟩
      | ok p r1 =>
        rw [hd] at D1
        obtain ⟨sf1, pp, e⟩ := D1
        have R1 : Rs μ m t r1 := R.to sf1
        have ih := sep_loop hn hq hcu hf (n := n) (N := N) (ps := ps ++ [p]) (r := r1) (by omega) R1 (pure_snoc hp pp) (by simp) (by rw [List.length_append]; show ps.length + 1 + n ≤ 900; omega)
        have body : runB (gg (k + 10)) (sB g nm) (lR μ m) (H (μ ++ [.lst ps]) m t (d0 :: r2) b) = .nx (lR μ m) (H (μ ++ [.lst (ps ++ [p])]) m t r1 b) := run_nx sA (run_nx (more_ok hn R2 hp R1 (by omega) e) run_nil)
        show LoopD (k + 10) (sT q) (sB g nm) (N + 1) μ m t (d0 :: r2) b ps (sepL c P b n (ps ++ [p]) r1)
        cases hg : sepL c P b n (ps ++ [p]) r1 with
        | no => exact trivial
        | er q' s =>
          rw [hg] at ih
          obtain ⟨ρ', ps', r', b', z⟩ := ih
          exact ⟨ρ', ps', r', b', whl_nx tt body z⟩
        | ok ps' r' =>
          rw [hg] at ih
          obtain ⟨z0, z1, z2, z⟩ := ih
          exact ⟨z0, z1, z2, whl_nx tt body z⟩
theorem sep_ok {P : Rd} {f g : Nat} {nm w : Str} (hn : nm ≠ "signs" ∧ nm ≠ "at" ∧ nm ≠ "brackets") (hq : q = tx [c]) (hcu : uni c = true) (hf : Ok (k + 10) g P)
    (hc : ∀ {x0 : D} {μ : Mu}, callD prg.tab prg.con prg.dic prg.wf (k + 10 + 1) f [x0] μ = finO μ.length (runB (gg (k + 10)) (.cons (.new 1 (.lst (.cons (.mcl g 100 nm (.var 0) .nil) .nil))) (.cons (.whl (sT q) (sB g nm)) (.cons (.ret (finE w)) .nil))) [some x0, none] μ)) : Ok (k + 11) f (sepP c w P) := by
  intro μ m t r b R
  have D1 := hf (b := b) R
  unfold sepP
  cases hd : P r b with
  | no => exact trivial
  | er q s =>
    rw [hd] at D1
    obtain ⟨r', b', e⟩ := D1
    exact ⟨r', b', call_er hc hl2 (run_er (new1_er hn R e))⟩
  | ok p r1 =>
    rw [hd] at D1
    obtain ⟨sf1, pp, e⟩ := D1
    have R1 : Rs μ m t r1 := R.to sf1
    have s0 := new1 hn R e
    have L1 := sep_loop hn hq hcu hf (b := b) (n := 70) (N := 100000) (ps := [p]) (r := r1) (by decide) R1 (pure1 pp) (by simp) (by show 1 + 70 ≤ 900; decide)
    show Does (k + 11) f [] μ m t r b id ((sepL c P b 70 [p] r1).bind fun ps r2 => .ok (mk1 w ps) r2)
    cases hg : sepL c P b 70 [p] r1 with
    | no => exact trivial
    | er q s =>
      rw [hg] at L1
      obtain ⟨ρ', ps', r', b', z⟩ := L1
      exact ⟨r', b', call_le hc R rfl (run_nx s0 (run_er (st_whl z)))⟩
    | ok ps' r' =>
      rw [hg] at L1
      obtain ⟨z0, z1, z2, z⟩ := L1
      exact ⟨z0, mk1_pure z1, call_l hc R (mk1_pure z1) (run_nx s0 (run_nx (st_whl z) (run_rt (st_ret (fin_mk (R.to z0) z2)))))⟩
theorem q_38 : ("&" : Str) = tx [38] := by decide +kernel
theorem q_124 : ("|" : Str) = tx [124] := by decide +kernel
theorem both_ok {f : Rd} (hf : Ok (k + 10) 28 f) : Ok (k + 12) 25 (bothP f) := sep_ok (k := k + 1) (nm := "row") (by decide +kernel) q_38 rfl (row_ok hf) (fun {x0 μ} => c_Reader_both)
theorem cho_ok {f : Rd} (hf : Ok (k + 10) 28 f) : Ok (k + 13) 24 (choP f) := sep_ok (k := k + 2) (nm := "both") (by decide +kernel) q_124 rfl (both_ok hf) (fun {x0 μ} => c_Reader_choice)
end
end PyI.K12
/-! W6: brackets, single parts, denied parts, whole texts. -/
namespace PyI.K12
open PySem L2 PyProof.Rows
section
variable {k : Nat} {μ ν : Mu} {m : Nat} {t r : List Nat} {b c : Nat} {q : Str}
theorem q_40 : ("(" : Str) = tx [40] := by decide +kernel
theorem q_41 : (")" : Str) = tx [41] := by decide +kernel
theorem q_46 : ("." : Str) = tx [46] := by decide +kernel
theorem q_91 : ("[" : Str) = tx [91] := by decide +kernel
theorem q_60 : ("<" : Str) = tx [60] := by decide +kernel
theorem q_62 : (">" : Str) = tx [62] := by decide +kernel
theorem q_116 : ("t" : Str) = tx [116] := by decide +kernel
theorem q_33 : ("!" : Str) = tx [33] := by decide +kernel
theorem hd_of {c : Nat} (h : isC c r = true) : ∃ d r2, r = d :: r2 := by
  cases r with
  | nil => cases h
  | cons d r2 => exact ⟨d, r2, rfl⟩
/-- at an opening bracket -/
theorem brk_ok {f : Rd} (hf : Ok (k + 10) 28 f) (R : Rs μ m t (c :: r)) : Does (k + 14) 34 [] μ m t (c :: r) b id (brkP f r b) := by
  have R1 := R.tail
  have t0 : evalT (gg (k + 13)) (.val (.cmp .eq (.fld 100 (.var 0) "brackets") (.glob 3))) [some (.ref m), none] (H μ m t (c :: r) b) = .ok (decide (b = 6)) (H μ m t (c :: r) b) := tv_bl (ev_cmp (ev_br rfl R) (ev_glob rfl) (eq_n (b := 6)))
  unfold brkP
  by_cases h6 : b = 6
  · rw [if_pos h6]
    rw [decide_eq_true h6] at t0
    exact ⟨c :: r, b, call_er c_Reader_bracket rfl (run_er (ifs_true t0 (run_er (rf_m (k := k + 10) rfl R ev_cst (by decide +kernel)))))⟩
  · rw [if_neg h6]
    rw [decide_eq_false h6] at t0
    have s0 : runS (gg (k + 13)) (nthS b_Reader_bracket 0) [some (.ref m), none] (H μ m t (c :: r) b) = .nx [some (.ref m), none] (H μ m t (c :: r) b) := ifs_false t0 run_nil
    have s1 : runS (gg (k + 13)) (nthS b_Reader_bracket 1) [some (.ref m), none] (H μ m t (c :: r) b) = .nx [some (.ref m), none] (H μ m t (c :: r) (b + 1)) := st_brU rfl R
    have s2 : runS (gg (k + 13)) (nthS b_Reader_bracket 2) [some (.ref m), none] (H μ m t (c :: r) (b + 1)) = .nx [some (.ref m), none] (H μ m t r (b + 1)) := st_at rfl R
    have t3 : evalT (gg (k + 13)) (.val (.cmp .eq (.mcl 21 100 "sign" (.var 0) .nil) (.cst (.str ")")))) [some (.ref m), none] (H μ m t r (b + 1)) = .ok (isC 41 r) (H μ m t r (b + 1)) := tv_bl (ev_cmp (sg_m (k := k + 12) rfl R1) ev_cst (eq_sg R1.rn q_41 rfl))
    cases h1 : isC 41 r with
    | true =>
      rw [h1] at t3
      rw [if_pos rfl]
      obtain ⟨d, r2, rfl⟩ := hd_of h1
      exact ⟨R1.tail.sf, rfl, call_of c_Reader_bracket hl2 (run_nx s0 (run_nx s1 (run_nx s2 (run_nx (ifs_true t3 (run_nx (st_set (ev_tup2 ev_cst ev_tup0)) run_nil)) (run_nx (st_at rfl R1) (run_nx (st_brD rfl R1.tail) (run_rt (st_ret (ev_var rfl)))))))))⟩
    | false =>
      rw [h1] at t3
      rw [if_neg (by decide)]
      have D1 := cho_ok hf (b := b + 1) R1
      cases hd : choP f r (b + 1) with
      | no => exact trivial
      | er q s =>
        rw [hd] at D1
        obtain ⟨r', b', e⟩ := D1
        exact ⟨r', b', call_er c_Reader_bracket hl2 (run_nx s0 (run_nx s1 (run_nx s2 (run_er (ifs_false t3 (run_er (st_set_err (ev_m0 (n := "choice") rfl R1 (by decide +kernel) e))))))))⟩
      | ok p r1 =>
        rw [hd] at D1
        obtain ⟨sf1, pp, e⟩ := D1
        have R2 : Rs μ m t r1 := R.to sf1
        have sC : runS (gg (k + 13)) (.set (.nm 1) (.mcl 24 100 "choice" (.var 0) .nil)) [some (.ref m), none] (H μ m t r (b + 1)) = .nx [some (.ref m), some p] (H μ m t r1 (b + 1)) := st_set (ev_m0 (n := "choice") rfl R1 (by decide +kernel) e)
        have t4 : evalT (gg (k + 13)) (.val (.cmp .ne (.mcl 21 100 "sign" (.var 0) .nil) (.cst (.str ")")))) [some (.ref m), some p] (H μ m t r1 (b + 1)) = .ok (!isC 41 r1) (H μ m t r1 (b + 1)) := tv_bl (ev_cmp (sg_m (k := k + 12) rfl R2) ev_cst (ne_sg R2.rn q_41 rfl))
        show Does (k + 14) 34 [] μ m t (c :: r) b id (if isC 41 r1 = true then .ok p r1.tail else .er r1.length (if r1 = [] then "bracket" else "part"))
        cases h2 : isC 41 r1 with
        | true =>
          rw [h2] at t4
          rw [if_pos rfl]
          obtain ⟨d, r2, rfl⟩ := hd_of h2
          exact ⟨R2.tail.sf, pp, call_of c_Reader_bracket hl2 (run_nx s0 (run_nx s1 (run_nx s2 (run_nx (ifs_false t3 (run_nx sC (run_nx (ifs_false t4 run_nil) run_nil))) (run_nx (st_at rfl R2) (run_nx (st_brD rfl R2.tail) (run_rt (st_ret (ev_var rfl)))))))))⟩
        | false =>
          rw [h2] at t4
          rw [if_neg (by decide)]
          have tI : evalT (gg (k + 13)) (.val (.cmp .eq (.mcl 21 100 "sign" (.var 0) .nil) (.cst (.str "")))) [some (.ref m), some p] (H μ m t r1 (b + 1)) = .ok r1.isEmpty (H μ m t r1 (b + 1)) := tv_bl (ev_cmp (sg_m (k := k + 12) rfl R2) ev_cst (eq_nl R2.rn))
          have eI : evalE (gg (k + 13)) (.ite (.val (.cmp .eq (.mcl 21 100 "sign" (.var 0) .nil) (.cst (.str "")))) (.cst (.str "bracket")) (.cst (.str "part"))) [some (.ref m), some p] (H μ m t r1 (b + 1)) = .ok (.str (if r1 = [] then "bracket" else "part")) (H μ m t r1 (b + 1)) := by
            cases r1 with
            | nil => rw [if_pos rfl]; exact ev_ite_true tI ev_cst
            | cons d r2 => rw [if_neg (by simp)]; exact ev_ite_false tI ev_cst
          exact ⟨r1, b + 1, call_er c_Reader_bracket hl2 (run_nx s0 (run_nx s1 (run_nx s2 (run_er (ifs_false t3 (run_nx sC (run_er (ifs_true t4 (run_er (rf_m (k := k + 10) rfl R2 eI (by split <;> decide +kernel)))))))))))⟩
abbrev sR (m : Nat) (x : Option D) : Rho := [some (.ref m), x]
theorem sgl_ok {f : Rd} (hf : Ok (k + 10) 28 f) : Ok (k + 15) 33 (sgl f) := by
  intro μ m t r b R
  have s0 : runS (gg (k + 14)) (nthS b_Reader_single 0) (sR m none) (H μ m t r b) = .nx (sR m (some (.str (tx (r.take 1))))) (H μ m t r b) := st_set (sg_m (k := k + 13) rfl R)
  have t1 : evalT (gg (k + 14)) (.not (.val (.mcl 27 100 "begins" (.var 0) .nil))) (sR m (some (.str (tx (r.take 1))))) (H μ m t r b) = .ok (!beg r) (H μ m t r b) := tv_not (tv_bl (ev_m0 (n := "begins") rfl R (by decide +kernel) (begins_ok (k := k + 12) R)))
  unfold sgl
  cases hb : beg r with
  | false =>
    rw [hb] at t1
    rw [if_neg (by decide)]
    exact ⟨r, b, call_er c_Reader_single rfl (run_nx s0 (run_er (ifs_true t1 (run_er (rf_m (k := k + 11) rfl R ev_cst (by decide +kernel))))))⟩
  | true =>
    rw [hb] at t1
    rw [if_pos rfl]
    cases r with
    | nil => cases hb
    | cons c r =>
      have R1 := R.tail
      have uc : uni c = true := u1 R.rn rfl
      have s1 : runS (gg (k + 14)) (nthS b_Reader_single 1) (sR m (some (.str (tx [c])))) (H μ m t (c :: r) b) = .nx (sR m (some (.str (tx [c])))) (H μ m t (c :: r) b) := ifs_false t1 run_nil
      have te : ∀ {d : Nat} {z : Str} {r0 : List Nat}, z = tx [d] → uni d = true → evalT (gg (k + 14)) (.val (.cmp .eq (.var 1) (.cst (.str z)))) (sR m (some (.str (tx [c])))) (H μ m t r0 b) = .ok (decide (c = d)) (H μ m t r0 b) := fun {d z r0} hz hd => tv_bl (ev_cmp (ev_var rfl) ev_cst ((eq_c hz uc hd).trans (by
        by_cases h : c = d
        · subst h; simp
        · rw [decide_eq_false h, beq_eq_false_iff_ne.mpr h])))
      show Does (k + 15) 33 [] μ m t (c :: r) b id (sgl1 f c r b)
      unfold sgl1
      have t2 := te (r0 := c :: r) q_40 rfl
      by_cases h40 : c = 40
      · rw [if_pos h40]
        rw [decide_eq_true h40] at t2
        have D1 := brk_ok hf (b := b) R
        cases hd : brkP f r b with
        | no => exact trivial
        | er q s =>
          rw [hd] at D1
          obtain ⟨r', b', e⟩ := D1
          exact ⟨r', b', call_er c_Reader_single hl2 (run_nx s0 (run_nx s1 (run_er (ifs_true t2 (run_er (st_ret_err (ev_m0 (n := "bracket") rfl R (by decide +kernel) e)))))))⟩
        | ok p r1 =>
          rw [hd] at D1
          obtain ⟨sf1, pp, e⟩ := D1
          exact ⟨sf1, pp, call_of c_Reader_single hl2 (run_nx s0 (run_nx s1 (run_rt (ifs_true t2 (run_rt (st_ret (ev_m0 (n := "bracket") rfl R (by decide +kernel) e)))))))⟩
      rw [if_neg h40]
      rw [decide_eq_false h40] at t2
      have s2 : runS (gg (k + 14)) (nthS b_Reader_single 2) (sR m (some (.str (tx [c])))) (H μ m t (c :: r) b) = .nx (sR m (some (.str (tx [c])))) (H μ m t (c :: r) b) := ifs_false t2 run_nil
      have s3 : runS (gg (k + 14)) (nthS b_Reader_single 3) (sR m (some (.str (tx [c])))) (H μ m t (c :: r) b) = .nx (sR m (some (.str (tx [c])))) (H μ m t r b) := st_at rfl R
      have t4 := te (r0 := r) q_46 rfl
      by_cases h46 : c = 46
      · rw [if_pos h46]
        rw [decide_eq_true h46] at t4
        exact ⟨R1.sf, rfl, call_of c_Reader_single hl2 (run_nx s0 (run_nx s1 (run_nx s2 (run_nx s3 (run_rt (ifs_true t4 (run_rt (st_ret (ev_tup1 ev_cst)))))))))⟩
      rw [if_neg h46]
      rw [decide_eq_false h46] at t4
      have s4 : runS (gg (k + 14)) (nthS b_Reader_single 4) (sR m (some (.str (tx [c])))) (H μ m t r b) = .nx (sR m (some (.str (tx [c])))) (H μ m t r b) := ifs_false t4 run_nil
      have t5 := te (r0 := r) q_91 rfl
      by_cases h91 : c = 91
      · rw [if_pos h91]
        rw [decide_eq_true h91] at t5
        have D1 := group_ok (k := k + 9) (b := b) R1
        cases hd : grp r with
        | no => exact trivial
        | er q s =>
          rw [hd] at D1
          obtain ⟨r', b', e⟩ := D1
          exact ⟨r', b', call_er c_Reader_single hl2 (run_nx s0 (run_nx s1 (run_nx s2 (run_nx s3 (run_nx s4 (run_er (ifs_true t5 (run_er (st_ret_err (ev_m0 (n := "group") rfl R1 (by decide +kernel) e))))))))))⟩
        | ok p r1 =>
          rw [hd] at D1
          obtain ⟨sf1, pp, e⟩ := D1
          exact ⟨sf1, pp, call_of c_Reader_single hl2 (run_nx s0 (run_nx s1 (run_nx s2 (run_nx s3 (run_nx s4 (run_rt (ifs_true t5 (run_rt (st_ret (ev_m0 (n := "group") rfl R1 (by decide +kernel) e))))))))))⟩
      rw [if_neg h91]
      rw [decide_eq_false h91] at t5
      have s5 : runS (gg (k + 14)) (nthS b_Reader_single 5) (sR m (some (.str (tx [c])))) (H μ m t r b) = .nx (sR m (some (.str (tx [c])))) (H μ m t r b) := ifs_false t5 run_nil
      have t6 := te (r0 := r) q_60 rfl
      by_cases h60 : c = 60
      · rw [if_pos h60]
        rw [decide_eq_true h60] at t6
        have U1 := due_ok (k := k + 10) (b := b) (c := 116) (s := "slot") R1 rfl (by decide +kernel)
        cases hu : due 116 "slot" r with
        | no => exact trivial
        | er q s =>
          rw [hu] at U1
          obtain ⟨r', b', e⟩ := U1
          exact ⟨r', b', call_er c_Reader_single hl2 (run_nx s0 (run_nx s1 (run_nx s2 (run_nx s3 (run_nx s4 (run_nx s5 (run_er (ifs_true t6 (run_er (st_expr_er (ev_m2 (n := "due") rfl R1 (by decide +kernel) (ev_cs q_116) ev_cst e)))))))))))⟩
        | ok u r2 =>
          rw [hu] at U1
          obtain ⟨sf2, _, e2⟩ := U1
          have R2 : Rs μ m t r2 := R.to sf2
          have U2 := due_ok (k := k + 10) (b := b) (c := 62) (s := "slot") R2 rfl (by decide +kernel)
          have sD : runS (gg (k + 14)) (.expr (.mcl 32 100 "due" (.var 0) (.cons (.cst (.str "t")) (.cons (.cst (.str "slot")) .nil)))) (sR m (some (.str (tx [c])))) (H μ m t r b) = .nx (sR m (some (.str (tx [c])))) (H μ m t r2 b) := st_expr_ok (ev_m2 (n := "due") rfl R1 (by decide +kernel) (ev_cs q_116) ev_cst e2)
          show Does (k + 15) 33 [] μ m t (c :: r) b id ((due 62 "slot" r2).bind fun _ r3 => .ok (.tup [.str "slot"]) r3)
          cases hu2 : due 62 "slot" r2 with
          | no => exact trivial
          | er q s =>
            rw [hu2] at U2
            obtain ⟨r', b', e⟩ := U2
            exact ⟨r', b', call_er c_Reader_single hl2 (run_nx s0 (run_nx s1 (run_nx s2 (run_nx s3 (run_nx s4 (run_nx s5 (run_er (ifs_true t6 (run_nx sD (run_er (st_expr_er (ev_m2 (n := "due") rfl R2 (by decide +kernel) (ev_cs q_62) ev_cst e))))))))))))⟩
          | ok u r3 =>
            rw [hu2] at U2
            obtain ⟨sf3, _, e3⟩ := U2
            exact ⟨sf3, rfl, call_of c_Reader_single hl2 (run_nx s0 (run_nx s1 (run_nx s2 (run_nx s3 (run_nx s4 (run_nx s5 (run_rt (ifs_true t6 (run_nx sD (run_nx (st_expr_ok (ev_m2 (n := "due") rfl R2 (by decide +kernel) (ev_cs q_62) ev_cst e3)) (run_rt (st_ret (ev_tup1 ev_cst)))))))))))))⟩
      rw [if_neg h60]
      rw [decide_eq_false h60] at t6
      have s6 : runS (gg (k + 14)) (nthS b_Reader_single 6) (sR m (some (.str (tx [c])))) (H μ m t r b) = .nx (sR m (some (.str (tx [c])))) (H μ m t r b) := ifs_false t6 run_nil
      have t7 := te (r0 := r) q_5 rfl
      by_cases h92 : c = 92
      · rw [if_pos h92]
        rw [decide_eq_true h92] at t7
        have sg : runS (gg (k + 14)) (.set (.nm 1) (.mcl 21 100 "sign" (.var 0) .nil)) (sR m (some (.str (tx [c])))) (H μ m t r b) = .nx (sR m (some (.str (tx (r.take 1))))) (H μ m t r b) := st_set (sg_m (k := k + 13) rfl R1)
        have tE : evalT (gg (k + 14)) (.val (.cmp .eq (.var 1) (.cst (.str "")))) (sR m (some (.str (tx (r.take 1))))) (H μ m t r b) = .ok r.isEmpty (H μ m t r b) := tv_bl (ev_cmp (ev_var rfl) ev_cst (eq_nl R1.rn))
        cases r with
        | nil => exact ⟨[], b, call_er c_Reader_single hl2 (run_nx s0 (run_nx s1 (run_nx s2 (run_nx s3 (run_nx s4 (run_nx s5 (run_nx s6 (run_er (ifs_true t7 (run_nx sg (run_er (ifs_true (tv_or_t tE) (run_er (rf_m (k := k + 11) rfl R1 ev_cst (by decide +kernel)))))))))))))))⟩
        | cons d r2 =>
          have tN : evalT (gg (k + 14)) (.val (.cmp .notin (.var 1) (.glob 1))) (sR m (some (.str (tx [d])))) (H μ m t (d :: r2) b) = .ok (!decide (d ∈ SPEC)) (H μ m t (d :: r2) b) := tv_bl (ev_cmp (ev_var rfl) (ev_glob rfl) (notin_c q_SPEC))
          by_cases hd : d ∈ SPEC
          · rw [escP, if_pos hd]
            rw [decide_eq_true hd] at tN
            exact ⟨R1.tail.sf, rfl, call_of c_Reader_single hl2 (run_nx s0 (run_nx s1 (run_nx s2 (run_nx s3 (run_nx s4 (run_nx s5 (run_nx s6 (run_nx (ifs_true t7 (run_nx sg (run_nx (ifs_false (tv_or_f tE tN) run_nil) (run_nx (st_at rfl R1) run_nil)))) (run_rt (st_ret (ev_tup2 ev_cst (ev_var rfl))))))))))))⟩
          · rw [escP, if_neg hd]
            rw [decide_eq_false hd] at tN
            exact ⟨d :: r2, b, call_er c_Reader_single hl2 (run_nx s0 (run_nx s1 (run_nx s2 (run_nx s3 (run_nx s4 (run_nx s5 (run_nx s6 (run_er (ifs_true t7 (run_nx sg (run_er (ifs_true (tv_or_f tE tN) (run_er (rf_m (k := k + 11) rfl R1 ev_cst (by decide +kernel)))))))))))))))⟩
      · rw [if_neg h92]
        rw [decide_eq_false h92] at t7
        exact ⟨R1.sf, rfl, call_of c_Reader_single hl2 (run_nx s0 (run_nx s1 (run_nx s2 (run_nx s3 (run_nx s4 (run_nx s5 (run_nx s6 (run_nx (ifs_false t7 run_nil) (run_rt (st_ret (ev_tup2 ev_cst (ev_var rfl))))))))))))⟩
end
end PyI.K12
/-! W7: denied parts, whole texts, how deep, read. -/
namespace PyI.K12
open PySem L2 PyProof.Rows
section
variable {k : Nat} {μ ν : Mu} {m : Nat} {t r : List Nat} {b c : Nat} {q : Str}
theorem st_tp2k {Γ : G} {ρ : Rho} {μ μ1 : Mu} {i j : Nat} {e : E} {a b : D} (h : evalE Γ e ρ μ = .ok (.kt [a, b]) μ1) : runS Γ (.set (.tp [i, j]) e) ρ μ = .nx ((ρ.set i (some a)).set j (some b)) μ1 := by
  rw [runS, h, then_ok]
  rfl
theorem ev_tup4' {Γ : G} {ρ : Rho} {μ : Mu} {a b c d : E} {x y z w : D} (h : evalE Γ a ρ μ = .ok x μ) (h2 : evalE Γ b ρ μ = .ok y μ) (h3 : evalE Γ c ρ μ = .ok z μ) (h4 : evalE Γ d ρ μ = .ok w μ) : evalE Γ (.tup (.cons a (.cons b (.cons c (.cons d .nil))))) ρ μ = .ok (.tup [x, y, z, w]) μ := ev_tup4 h h2 h3 h4
abbrev sR2 (t : List Nat) (x : Option D) : Rho := [some (.str (tx t)), x]
abbrev nR (m : Nat) (x y z : Option D) : Rho := [some (.ref m), x, y, z]
theorem den_step {g f : Rd} (hf : Ok (k + 10) 28 f) (hg : Ok (k + 15) 28 g) : Ok (k + 16) 28 (denF g f) := by
  intro μ m t r b R
  have t0 : evalT (gg (k + 15)) (.val (.cmp .eq (.mcl 21 100 "sign" (.var 0) .nil) (.cst (.str "!")))) (nR m none none none) (H μ m t r b) = .ok (isC 33 r) (H μ m t r b) := tv_bl (ev_cmp (sg_m (k := k + 14) rfl R) ev_cst (eq_sg R.rn q_33 rfl))
  unfold denF
  cases h1 : isC 33 r with
  | true =>
    rw [h1] at t0
    rw [if_pos rfl]
    obtain ⟨d, r2, rfl⟩ := hd_of h1
    have R1 := R.tail
    have D1 := hg (b := b) R1
    show Does (k + 16) 28 [] μ m t (d :: r2) b id ((g r2 b).bind fun p r1 => .ok (.tup [.str "not", p]) r1)
    cases hd : g r2 b with
    | no => exact trivial
    | er q s =>
      rw [hd] at D1
      obtain ⟨r', b', e⟩ := D1
      exact ⟨r', b', call_er c_Reader_denied hl2 (run_er (ifs_true t0 (run_nx (st_at rfl R) (run_er (st_ret_err (ev_tup2_err ev_cst (ev_m0 (n := "denied") rfl R1 (by decide +kernel) e)))))))⟩
    | ok p r1 =>
      rw [hd] at D1
      obtain ⟨sf1, pp, e⟩ := D1
      have pp' : pureD p = true := pp
      exact ⟨sf1, (by show (true && (pureD p && true)) = true; rw [pp']; rfl), call_of c_Reader_denied hl2 (run_rt (ifs_true t0 (run_nx (st_at rfl R) (run_rt (st_ret (ev_tup2 ev_cst (ev_m0 (n := "denied") rfl R1 (by decide +kernel) e)))))))⟩
  | false =>
    rw [h1] at t0
    rw [if_neg (by decide)]
    have s0 : runS (gg (k + 15)) (nthS b_Reader_denied 0) (nR m none none none) (H μ m t r b) = .nx (nR m none none none) (H μ m t r b) := ifs_false t0 run_nil
    have D1 := sgl_ok hf (b := b) R
    cases hd : sgl f r b with
    | no => exact trivial
    | er q s =>
      rw [hd] at D1
      obtain ⟨r', b', e⟩ := D1
      exact ⟨r', b', call_er c_Reader_denied hl2 (run_nx s0 (run_er (st_set_err (ev_m0 (n := "single") rfl R (by decide +kernel) e))))⟩
    | ok p r1 =>
      rw [hd] at D1
      obtain ⟨sf1, pp, e⟩ := D1
      have pp' : pureD p = true := pp
      have R1 : Rs μ m t r1 := R.to sf1
      have s1 : runS (gg (k + 15)) (nthS b_Reader_denied 1) (nR m none none none) (H μ m t r b) = .nx (nR m (some p) none none) (H μ m t r1 b) := st_set (ev_m0 (n := "single") rfl R (by decide +kernel) e)
      have t2 : evalT (gg (k + 15)) (.not (.val (.mcl 29 100 "repeats" (.var 0) .nil))) (nR m (some p) none none) (H μ m t r1 b) = .ok (!rep r1) (H μ m t r1 b) := tv_not (tv_bl (ev_m0 (n := "repeats") rfl R1 (by decide +kernel) (repeats_ok (k := k + 13) R1)))
      show Does (k + 16) 28 [] μ m t r b id (if rep r1 = true then bndP p r1 else .ok p r1)
      cases h2 : rep r1 with
      | false =>
        rw [h2] at t2
        rw [if_neg (by decide)]
        exact ⟨sf1, pp, call_of c_Reader_denied hl2 (run_nx s0 (run_nx s1 (run_rt (ifs_true t2 (run_rt (st_ret (ev_var rfl)))))))⟩
      | true =>
        rw [h2] at t2
        rw [if_pos rfl]
        have s2 : runS (gg (k + 15)) (nthS b_Reader_denied 2) (nR m (some p) none none) (H μ m t r1 b) = .nx (nR m (some p) none none) (H μ m t r1 b) := ifs_false t2 run_nil
        cases r1 with
        | nil => cases h2
        | cons d r2 =>
          have B1 := bounds_ok (k := k + 10) (b := b) R1
          show Does (k + 16) 28 [] μ m t r b id ((bnd d r2).bind fun q r3 => if rep r3 then .er r3.length "repeat" else .ok (.tup [.str "times", p, q.2.1, q.2.2]) r3)
          cases hb : bnd d r2 with
          | no => exact trivial
          | er q s =>
            rw [hb] at B1
            obtain ⟨r', b', e⟩ := B1
            exact ⟨r', b', call_er c_Reader_denied hl2 (run_nx s0 (run_nx s1 (run_nx s2 (run_er (st_set_err (ev_m0 (n := "bounds") rfl R1 (by decide +kernel) e))))))⟩
          | ok q r3 =>
            rw [hb] at B1
            obtain ⟨sf3, pq, e3⟩ := B1
            obtain ⟨fl, lo, hi⟩ := q
            have R3 : Rs μ m t r3 := R.to sf3
            have pq' : pureD lo = true ∧ pureD hi = true := by
              have : pureDs [lo, hi] = true := by cases fl <;> exact pq
              simpa [pureDs] using this
            have ee := ev_m0 (Γ := gg (k + 15)) (ρ := nR m (some p) none none) (n := "bounds") rfl R1 (by decide +kernel) e3
            have s3 : runS (gg (k + 15)) (nthS b_Reader_denied 3) (nR m (some p) none none) (H μ m t (d :: r2) b) = .nx (nR m (some p) (some lo) (some hi)) (H μ m t r3 b) := by
              cases fl with
              | true => exact st_tp2k ee
              | false => exact st_tp2 ee
            have t4 : evalT (gg (k + 15)) (.val (.mcl 29 100 "repeats" (.var 0) .nil)) (nR m (some p) (some lo) (some hi)) (H μ m t r3 b) = .ok (rep r3) (H μ m t r3 b) := tv_bl (ev_m0 (n := "repeats") rfl R3 (by decide +kernel) (repeats_ok (k := k + 13) R3))
            show Does (k + 16) 28 [] μ m t r b id (if rep r3 = true then .er r3.length "repeat" else .ok (.tup [.str "times", p, lo, hi]) r3)
            cases h4 : rep r3 with
            | true =>
              rw [h4] at t4
              rw [if_pos rfl]
              exact ⟨r3, b, call_er c_Reader_denied hl2 (run_nx s0 (run_nx s1 (run_nx s2 (run_nx s3 (run_er (ifs_true t4 (run_er (rf_m (k := k + 12) rfl R3 ev_cst (by decide +kernel)))))))))⟩
            | false =>
              rw [h4] at t4
              rw [if_neg (by decide)]
              exact ⟨sf3, (by show (true && (pureD p && (pureD lo && (pureD hi && true)))) = true; rw [pp', pq'.1, pq'.2]; rfl), call_of c_Reader_denied hl2 (run_nx s0 (run_nx s1 (run_nx s2 (run_nx s3 (run_nx (ifs_false t4 run_nil) (run_rt (st_ret (ev_tup4' ev_cst (ev_var rfl) (ev_var rfl) (ev_var rfl)))))))))⟩
theorem den_ok : ∀ n, Ok (n + (k + 10)) 28 (den n)
  | 0 => fun _ => trivial
  | 1 => fun _ => trivial
  | 2 => fun _ => trivial
  | 3 => fun _ => trivial
  | 4 => fun _ => trivial
  | 5 => fun _ => trivial
  | n + 6 => by
    have h1 : Ok (n + (k + 10)) 28 (den n) := den_ok n
    have h2 : Ok (n + 5 + (k + 10)) 28 (den (n + 5)) := den_ok (n + 5)
    have e1 : n + 5 + (k + 10) = n + k + 15 := by omega
    have e2 : n + 6 + (k + 10) = n + k + 16 := by omega
    rw [e1] at h2
    rw [e2]
    exact den_step (k := n + k) h1 h2
theorem den50 : Ok (k + 60) 28 (den 50) := by
  have e : 50 + (k + 10) = k + 60 := by omega
  rw [← e]
  exact fun {_ _ _ _ _} R => den_ok 50 R
theorem whole_ok {f : Rd} (hf : Ok (k + 10) 28 f) (R : Rs μ m t r) : Does (k + 14) 23 [] μ m t r b id ((choP f r b).bind fun p r1 => if isC 41 r1 then .er r1.length "bracket" else if r1 = [] then .ok p [] else .er r1.length "part") := by
  have D1 := cho_ok hf (b := b) R
  cases hd : choP f r b with
  | no => exact trivial
  | er q s =>
    rw [hd] at D1
    obtain ⟨r', b', e⟩ := D1
    exact ⟨r', b', call_er c_Reader_whole hl2 (run_er (st_set_err (ev_m0 (n := "choice") rfl R (by decide +kernel) e)))⟩
  | ok p r1 =>
    rw [hd] at D1
    obtain ⟨sf1, pp, e⟩ := D1
    have R1 : Rs μ m t r1 := R.to sf1
    have s0 : runS (gg (k + 13)) (nthS b_Reader_whole 0) (sR m none) (H μ m t r b) = .nx (sR m (some p)) (H μ m t r1 b) := st_set (ev_m0 (n := "choice") rfl R (by decide +kernel) e)
    have t1 : evalT (gg (k + 13)) (.val (.cmp .eq (.mcl 21 100 "sign" (.var 0) .nil) (.cst (.str ")")))) (sR m (some p)) (H μ m t r1 b) = .ok (isC 41 r1) (H μ m t r1 b) := tv_bl (ev_cmp (sg_m (k := k + 12) rfl R1) ev_cst (eq_sg R1.rn q_41 rfl))
    have t2 : evalT (gg (k + 13)) (.val (.cmp .ne (.mcl 21 100 "sign" (.var 0) .nil) (.cst (.str "")))) (sR m (some p)) (H μ m t r1 b) = .ok (!r1.isEmpty) (H μ m t r1 b) := tv_bl (ev_cmp (sg_m (k := k + 12) rfl R1) ev_cst (ne_nl R1.rn))
    show Does (k + 14) 23 [] μ m t r b id (if isC 41 r1 = true then .er r1.length "bracket" else if r1 = [] then .ok p [] else .er r1.length "part")
    cases h1 : isC 41 r1 with
    | true =>
      rw [h1] at t1
      rw [if_pos rfl]
      exact ⟨r1, b, call_er c_Reader_whole hl2 (run_nx s0 (run_er (ifs_true t1 (run_er (rf_m (k := k + 10) rfl R1 ev_cst (by decide +kernel))))))⟩
    | false =>
      rw [h1] at t1
      rw [if_neg (by decide)]
      cases r1 with
      | nil =>
        rw [if_pos rfl]
        exact ⟨sf1, pp, call_of c_Reader_whole hl2 (run_nx s0 (run_nx (ifs_false t1 run_nil) (run_nx (ifs_false t2 run_nil) (run_rt (st_ret (ev_var rfl))))))⟩
      | cons d r2 =>
        rw [if_neg (by simp)]
        exact ⟨d :: r2, b, call_er c_Reader_whole hl2 (run_nx s0 (run_nx (ifs_false t1 run_nil) (run_er (ifs_true t2 (run_er (rf_m (k := k + 10) rfl R1 ev_cst (by decide +kernel)))))))⟩
/-! ### how deep -/
def LF : List Str := ["sign", "any", "slot", "class", "other"]
def PT : List Str := ["row", "and", "or"]
def isIn (l : List Str) (w : Str) : Bool := l.any fun x => x == w
theorem in_strs {l : List Str} {w : Str} : cmpD .in_ (.str w) (.tup (l.map D.str)) ν = .ok (isIn l w) ν := by
  have e2 : seqD ν (.tup (l.map D.str)) = some (l.map D.str) := rfl
  show (match getDic ν (.tup (l.map D.str)) (.str w) with
    | some r => Res.ok r.isSome ν
    | none => match seqD ν (.tup (l.map D.str)) with
      | some l => needs (flatD (.str w) = true ∧ l.all flatD = true) (Res.ok (l.any fun y => eqD y (.str w)) ν)
      | none => .stuck) = _
  show needs (flatD (.str w) = true ∧ (l.map D.str).all flatD = true) (Res.ok ((l.map D.str).any fun y => eqD y (.str w)) ν) = _
  rw [needs_pos ⟨rfl, by simp [flatD]⟩, List.any_map]
  rfl
def tupOf? : D → Option (List D)
  | .tup ps => if ps.length ≤ 1000 then some ps else none
  | _ => none
def prt (w : Str) : List D → Option (List D)
  | [] => none
  | x :: _ => if isIn PT w then tupOf? x else some [x]
theorem prt_ok {w : Str} {rest ps : List D} (h : prt w rest = some ps) : ∃ x rest', rest = x :: rest' ∧ (if isIn PT w then x else .tup [x]) = .tup ps ∧ ps.length ≤ 1000 := by
  cases rest with
  | nil => cases h
  | cons x rest =>
    refine ⟨x, rest, rfl, ?_⟩
    rw [prt] at h
    cases hp : isIn PT w with
    | false =>
      rw [hp, if_neg (by decide)] at h
      cases h
      exact ⟨rfl, by show 1 ≤ 1000; decide⟩
    | true =>
      rw [hp, if_pos rfl] at h
      unfold tupOf? at h
      split at h
      · split at h
        · cases h; rename_i hl; exact ⟨rfl, hl⟩
        · cases h
      · cases h
mutual
def dpo : Nat → D → Option Nat
  | 0, _ => none
  | n + 1, d => match d with
    | .tup (.str w :: rest) => if isIn LF w then some 1 else (match prt w rest with
        | some ps => (dpos n ps).map fun l => 1 + l.foldr max 0
        | none => none)
    | _ => none
def dpos : Nat → List D → Option (List Nat)
  | 0, _ => none
  | n + 1, ps => match ps with
    | [] => some []
    | p :: ps => match dpo n p, dpos n ps with
      | some v, some vs => some (v :: vs)
      | _, _ => none
end
theorem ints_nat : ∀ (W : List Nat), intsOf (W.map nD) = some (W.map fun (n : Nat) => (n : Int))
  | [] => rfl
  | n :: W => by
    show (intsOf (W.map nD)).map _ = _
    rw [ints_nat W]; rfl
theorem maxL_nat : ∀ (W : List Nat), maxL (W.map fun (n : Nat) => (n : Int)) = (W.foldr max 0 : Nat)
  | [] => rfl
  | [a] => by show (a : Int) = ((max a 0 : Nat) : Int); simp
  | a :: b :: r => by
    have ih := maxL_nat (b :: r)
    show (if (a : Int) < maxL ((b :: r).map fun (n : Nat) => (n : Int)) then maxL ((b :: r).map fun (n : Nat) => (n : Int)) else (a : Int)) = _
    rw [ih]
    show _ = ((max a ((b :: r).foldr max 0) : Nat) : Int)
    generalize (b :: r).foldr max 0 = M
    split <;> omega
theorem comp_vals {f : D → Mu → Res (Option D)} : ∀ {ps : List D} {vs : List Nat} {acc : List D}, (∀ (i : Nat) (p : D) (v : Nat), ps[i]? = some p → vs[i]? = some v → f p ν = .ok (some (nD v)) ν) → vs.length = ps.length → acc.length + ps.length ≤ 16777216 → compLoop f (chkOf none) acc ps ν = .ok (acc ++ vs.map nD) ν
  | [], [], acc, _, _, _ => by
    unfold compLoop
    rw [if_pos (show chkOf none ν = true from rfl)]
    simp
  | p :: ps, v :: vs, acc, h, hv, hl => by
    rw [List.length_cons] at hl
    unfold compLoop
    rw [if_pos (show chkOf none ν = true from rfl), h 0 p v rfl rfl]
    have ih := comp_vals (f := f) (ps := ps) (vs := vs) (acc := acc ++ [nD v]) (fun i p v h1 h2 => h (i + 1) p v h1 h2) (by simpa using hv) (by rw [List.length_append]; show acc.length + 1 + ps.length ≤ _; omega)
    rw [List.append_assoc] at ih
    show needs (acc.length < 16777216) (compLoop f (chkOf none) (acc ++ [nD v]) ps ν) = _
    rw [needs_pos (by omega)]
    exact ih
  | [], _ :: _, _, _, hv, _ => by simp at hv
  | _ :: _, [], _, _, hv, _ => by simp at hv
theorem leaf_ok {w : Str} {rest : List D} : (gg (k + 1)).call n_is_leaf [.tup (.str w :: rest)] ν = .ok (.bl (isIn LF w)) ν := by
  have e : evalE (gg k) (.tup (.cons (.cst (.str "sign")) (.cons (.cst (.str "any")) (.cons (.cst (.str "slot")) (.cons (.cst (.str "class")) (.cons (.cst (.str "other")) .nil)))))) [some (.tup (.str w :: rest))] ν = .ok (.tup (LF.map D.str)) ν := by
    simp only [evalE, evalEs, bind_ok]; rfl
  exact call_of c_is_leaf rfl (run_rt (st_ret (ev_cmp (ev_idx (ev_var rfl) ev_cst ix0) e in_strs)))
theorem parts_ok {w : Str} {x : D} {rest : List D} : (gg (k + 1)).call n_parts_in [.tup (.str w :: x :: rest)] ν = .ok (if isIn PT w then x else .tup [x]) ν := by
  have e : evalE (gg k) (.tup (.cons (.cst (.str "row")) (.cons (.cst (.str "and")) (.cons (.cst (.str "or")) .nil)))) [some (.tup (.str w :: x :: rest))] ν = .ok (.tup (PT.map D.str)) ν := by
    simp only [evalE, evalEs, bind_ok]; rfl
  have tt : evalT (gg k) (.val (.cmp .in_ (.idx (.var 0) (.cst (.int 0))) (.tup (.cons (.cst (.str "row")) (.cons (.cst (.str "and")) (.cons (.cst (.str "or")) .nil)))))) [some (.tup (.str w :: x :: rest))] ν = .ok (isIn PT w) ν := tv_bl (ev_cmp (ev_idx (ev_var rfl) ev_cst ix0) e in_strs)
  cases h : isIn PT w with
  | true =>
    rw [h] at tt
    exact call_of c_parts_in rfl (run_rt (st_ret (ev_ite_true tt (ev_idx (ev_var rfl) ev_cst ix1))))
  | false =>
    rw [h] at tt
    exact call_of c_parts_in rfl (run_rt (st_ret (ev_ite_false tt (ev_tup1 (ev_idx (ev_var rfl) ev_cst ix1)))))
theorem maxd_ok {W : List Nat} : maxdD (.lst (W.map nD)) (.int 0) ν = .ok (nD (W.foldr max 0)) ν := by
  unfold maxdD
  show (match (some (W.map nD)).bind intsOf with
    | some l => if l = [] then Res.ok (D.int 0) ν else .ok (.int (maxL l)) ν
    | none => .stuck) = _
  rw [show (some (W.map nD)).bind intsOf = intsOf (W.map nD) from rfl, ints_nat]
  simp only
  cases W with
  | nil => rfl
  | cons a W => rw [if_neg (by simp), maxL_nat]
theorem ev_maxd {Γ : G} {ρ : Rho} {μ1 μ2 : Mu} {a d : E} {x y : D} {r : Res D} (ha : evalE Γ a ρ ν = .ok x μ1) (hd : evalE Γ d ρ μ1 = .ok y μ2) (h : maxdD x y μ2 = r) : evalE Γ (.maxd a d) ρ ν = r := by
  rw [evalE, ha, bind_ok, hd, bind_ok]
  exact h
theorem dpos_get : ∀ {n : Nat} {ps : List D} {vs : List Nat}, dpos n ps = some vs → vs.length = ps.length ∧ ∀ (i : Nat) (p : D) (v : Nat), ps[i]? = some p → vs[i]? = some v → ∃ n', n' < n ∧ dpo n' p = some v
  | 0, _, _, h => by cases h
  | n + 1, [], vs, h => by
    have h : some [] = some vs := h
    cases h
    exact ⟨rfl, fun i p v h => by simp at h⟩
  | n + 1, p :: ps, vs, h => by
    have h : (match dpo n p, dpos n ps with
      | some v, some vs => some (v :: vs)
      | _, _ => none) = some vs := h
    cases h1 : dpo n p with
    | none => rw [h1] at h; cases h
    | some v =>
      cases h2 : dpos n ps with
      | none => rw [h1, h2] at h; cases h
      | some ws =>
        rw [h1, h2] at h
        have h : some (v :: ws) = some vs := h
        cases h
        obtain ⟨g1, g2⟩ := dpos_get h2
        refine ⟨by rw [List.length_cons, List.length_cons, g1], fun i q u hq hu => ?_⟩
        cases i with
        | zero =>
          simp at hq hu
          subst hq hu
          exact ⟨n, by omega, h1⟩
        | succ i =>
          obtain ⟨n', hn', e⟩ := g2 i q u (by simpa using hq) (by simpa using hu)
          exact ⟨n', by omega, e⟩
theorem deep_ok : ∀ (n : Nat) {d : D} {v : Nat} {K : Nat}, dpo n d = some v → n + 3 ≤ K → (gg (K)).call n_deep_of [d] ν = .ok (nD v) ν := by
  intro n
  induction n using Nat.strongRecOn with
  | _ n ih =>
    intro d v K h hK
    obtain ⟨K, rfl⟩ : ∃ K', K = K' + 3 := ⟨K - 3, by omega⟩
    cases n with
    | zero => cases h
    | succ n =>
      match d, h with
      | .tup (.str w :: rest), h =>
        have tl : ∀ {o : Option D}, evalT (gg (K + 2)) (.val (.call 0 (.cons (.var 0) .nil))) [some (.tup (.str w :: rest)), o] ν = .ok (isIn LF w) ν := fun {o} => tv_bl (ev_call1 (ev_var rfl) (leaf_ok (k := K + 1)))
        have h : (if isIn LF w then some 1 else (match prt w rest with
          | some ps => (dpos n ps).map fun l => 1 + l.foldr max 0
          | none => none)) = some v := h
        cases hl : isIn LF w with
        | true =>
          rw [hl, if_pos rfl] at h
          cases h
          have tl' := tl (o := none)
          rw [hl] at tl'
          exact call_of c_deep_of rfl (run_rt (ifs_true tl' (run_rt (st_ret ev_cst))))
        | false =>
          rw [hl, if_neg (by decide)] at h
          have tl' := tl (o := none)
          rw [hl] at tl'
          -- the parts
          have fin : ∀ {x : D} {rest' ps : List D} {vs : List Nat}, rest = x :: rest' → (if isIn PT w then x else .tup [x]) = .tup ps → dpos n ps = some vs → ps.length ≤ 16777216 → v = 1 + vs.foldr max 0 → (gg (K + 3)).call n_deep_of [.tup (.str w :: rest)] ν = .ok (nD v) ν := by
            intro x rest' ps vs hr hx hp hz hv
            subst hr hv
            obtain ⟨g1, g2⟩ := dpos_get hp
            have pe : evalE (gg (K + 2)) (.call 1 (.cons (.var 0) .nil)) [some (.tup (.str w :: x :: rest')), none] ν = .ok (.tup ps) ν := ev_call1 (ev_var rfl) ((parts_ok (k := K + 1)).trans (by rw [hx]))
            have ce := comp_vals (ν := ν) (f := cbody (gg (K + 2)) [1] (.nm 1) .yes (.call 2 (.cons (.var 1) .nil)) [some (.tup (.str w :: x :: rest')), none]) (ps := ps) (vs := vs) (acc := []) (fun i p u h1 h2 => by
              obtain ⟨n', hn', e⟩ := g2 i p u h1 h2
              exact cbody_nm (ev_call1 (ev_var rfl) (ih n' (by omega) (K := K + 2) e (by omega)))) g1 (by simpa using hz)
            rw [List.nil_append] at ce
            have me := ev_maxd (Γ := gg (K + 2)) (ev_comp (it_tup pe) ce) ev_cst maxd_ok
            exact call_of c_deep_of rfl (run_nx (ifs_false tl' run_nil) (run_rt (st_ret (ev_bin (a := .cst (.int 1)) (x := nD 1) ev_cst me add_n))))
          cases hp : prt w rest with
          | none => rw [hp] at h; cases h
          | some ps =>
            rw [hp] at h
            obtain ⟨x, rest', e1, e2, e3⟩ := prt_ok hp
            obtain ⟨vs, h1, h2⟩ := Option.map_eq_some_iff.mp h
            exact fin e1 e2 h1 (by omega) h2.symm
/-! ### reading a text -/
theorem init_ok (hμ : True) : (gg (k + 1)).call n_Reader___init__ [.ref μ.length, .str (tx t)] (μ ++ [.ins 100 []]) = .ok .non (μ ++ [obj t t 0]) := by
  have g : ∀ {fs : List (Str × D)}, (μ ++ [MO.ins 100 fs])[μ.length]? = some (.ins 100 fs) := fun {fs} => snoc_get
  have s : ∀ {fs : List (Str × D)} {f : Str} {d : D} {e : E} {ρ : Rho} (hρ : ρ[0]? = some (some (.ref μ.length))) (he : evalE (gg k) e ρ (μ ++ [MO.ins 100 fs]) = .ok d (μ ++ [MO.ins 100 fs])) (hl : fs.length < 1000), runS (gg k) (.setF 100 (.var 0) f e) ρ (μ ++ [MO.ins 100 fs]) = .nx ρ (μ ++ [MO.ins 100 (putFD f d fs)]) := fun hρ he hl => (st_setF he (ev_var hρ) g hl).trans (by rw [snoc_set])
  have e3 : putFD "brackets" (.int 0) (putFD "at" (.int 0) (putFD "signs" (.str (tx t)) [])) = ([("signs", .str (tx t)), ("at", .int 0), ("brackets", .int 0)] : List (Str × D)) := by kernel_rfl
  have l1 : (putFD "signs" (.str (tx t)) []).length = 1 := by kernel_rfl
  have l2 : (putFD "at" (.int 0) (putFD "signs" (.str (tx t)) [])).length = 2 := by kernel_rfl
  have eo : obj t t 0 = .ins 100 [("signs", .str (tx t)), ("at", .int 0), ("brackets", .int 0)] := by
    unfold obj fsO
    rw [Nat.sub_self]
    rfl
  have a0 := s (fs := []) (f := "signs") (d := .str (tx t)) (e := .var 1) (ρ := [some (.ref μ.length), some (.str (tx t))]) rfl (ev_var rfl) (by decide)
  have a1 := s (fs := putFD "signs" (.str (tx t)) []) (f := "at") (d := .int 0) (e := .cst (.int 0)) (ρ := [some (.ref μ.length), some (.str (tx t))]) rfl ev_cst (by omega)
  have a2 := s (fs := putFD "at" (.int 0) (putFD "signs" (.str (tx t)) [])) (f := "brackets") (d := .int 0) (e := .cst (.int 0)) (ρ := [some (.ref μ.length), some (.str (tx t))]) rfl ev_cst (by omega)
  rw [e3, ← eo] at a2
  exact call_nx c_Reader___init__ (by simp) (run_nx a0 (run_nx a1 (run_nx a2 run_nil)))
theorem ev_mk1 {Γ : G} {ρ : Rho} {f c : Nat} {a : E} {x : D} {μ μ' : Mu} (ha : evalE Γ a ρ μ = .ok x μ) (h : Γ.call f [.ref μ.length, x] (μ ++ [.ins c []]) = .ok .non μ') : evalE Γ (.mk f c (.cons a .nil)) ρ μ = .ok (.ref μ.length) μ' := by
  rw [evalE, evalEs, ha, bind_ok, evalEs, bind_ok, bind_ok, h, bind_ok]
theorem H_top' {o' : MO} {r' : List Nat} {b' : Nat} : H (μ ++ [o']) μ.length t r' b' = μ ++ [obj t r' b'] := by
  unfold H
  rw [snoc_set]
theorem H_self : μ ++ [obj t r b] = H (μ ++ [obj t r b]) μ.length t r b := H_top'.symm
/-- what is told of a text -/
def rdO (t : List Nat) : Option (D ⊕ (Nat × Str)) := if t.length = 61 then some (.inr (0, "long")) else if 60 < t.length then none else match whl 50 t with
  | .er q s => some (.inr (t.length + 1 - q, s))
  | .ok p _ => (match dpo 64 p with
    | some v => some (if 12 < v then .inr (0, "deep") else .inl p)
    | none => none)
  | .no => none
def RdS (k : Nat) (μ : Mu) (t : List Nat) : D ⊕ (Nat × Str) → Prop
  | .inl p => pureD p = true ∧ (gg (k + 65)).call n_read_pattern [.str (tx t)] μ = .ok p μ
  | .inr (n, s) => (gg (k + 65)).call n_read_pattern [.str (tx t)] μ = .err 0 [.str s, nD n] μ
theorem read_ok {x : D ⊕ (Nat × Str)} (hk : 4 ≤ k) (hμ : PureM μ) (hu : t.all uni = true) (h : rdO t = some x) : RdS k μ t x := by
  have tl : ∀ (ht : t.length ≤ 200), evalT (gg (k + 64)) (.val (.cmp .gt (.bif .len (.cons (.var 0) .nil)) (.glob 5))) (sR2 t none) μ = .ok (decide (60 < t.length)) μ := fun ht => tv_bl (ev_cmp (ev_bif1 (ev_var rfl) (len_tx (by omega))) (ev_glob rfl) (gt_n (b := 60)))
  unfold rdO at h
  by_cases h61 : t.length = 61
  · rw [if_pos h61] at h
    cases h
    have t1 := tl (by omega)
    rw [decide_eq_true (by omega)] at t1
    exact call_er c_read_pattern rfl (run_er (ifs_true t1 (run_er (st_rse2 (i := 0) (show decide (2 ≤ k + 64) = true from decide_eq_true (by omega)) ev_cst ev_cst (by decide) (by decide +kernel)))))
  · rw [if_neg h61] at h
    by_cases h60 : 60 < t.length
    · rw [if_pos h60] at h; cases h
    · rw [if_neg h60] at h
      have t1 := tl (by omega)
      rw [decide_eq_false h60] at t1
      have s0 : runS (gg (k + 64)) (nthS b_read_pattern 0) (sR2 t none) μ = .nx (sR2 t none) μ := ifs_false t1 run_nil
      have R : Rs (μ ++ [obj t t 0]) μ.length t t := ⟨fun z hz => by
        rcases List.mem_append.mp hz with hz | hz
        · exact hμ z hz
        · rw [List.mem_singleton.mp hz]; exact obj_pure, by simp, by omega, ⟨[], rfl⟩, hu⟩
      have W := whole_ok (k := k + 50) (b := 0) (f := den 50) (fun {_ _ _ _ _} R => den50 (k := k) R) R
      have mk := ev_mk1 (Γ := gg (k + 64)) (ρ := sR2 t none) (f := 20) (c := 100) (a := .var 0) (x := .str (tx t)) (μ := μ) (ev_var rfl) (init_ok (k := k + 63) trivial)
      have nm : (fsO t t 0).lookup ("whole" : Str) = none := no_met (by decide +kernel)
      have hg : (μ ++ [obj t t 0])[μ.length]? = some (.ins 100 (fsO t t 0)) := snoc_get
      have me : ∀ {r' : Res D}, (gg (k + 64)).call 23 [.ref μ.length] (μ ++ [obj t t 0]) = r' → evalE (gg (k + 64)) (.mcl 23 100 "whole" (.mk 20 100 (.cons (.var 0) .nil)) .nil) (sR2 t none) μ = r' := fun {r'} hc => by
        rw [evalE, mk, bind_ok, needs_pos (ins_yes hg nm), evalEs, bind_ok]
        exact hc
      have W : Does (k + 64) 23 [] (μ ++ [obj t t 0]) μ.length t t 0 id (whl 50 t) := W
      cases hw : whl 50 t with
      | no => rw [hw] at h; cases h
      | er q s =>
        rw [hw] at h W
        cases h
        obtain ⟨r', b', e⟩ := W
        rw [H_top', H_top'] at e
        exact call_more_er c_read_pattern hμ rfl (run_nx s0 (run_er (st_set_err (me e))))
      | ok p r' =>
        rw [hw] at h W
        obtain ⟨sf, pp, e⟩ := W
        have pp : pureD p = true := pp
        rw [H_top', H_top'] at e
        have h : (match dpo 64 p with
          | some v => some (if 12 < v then Sum.inr (0, ("deep" : Str)) else Sum.inl p)
          | none => none) = some x := h
        have s1 : runS (gg (k + 64)) (nthS b_read_pattern 1) (sR2 t none) μ = .nx (sR2 t (some p)) (μ ++ [obj t r' 0]) := st_set (me e)
        cases hd : dpo 64 p with
        | none => rw [hd] at h; cases h
        | some v =>
          rw [hd] at h
          have h : some (if 12 < v then Sum.inr (0, ("deep" : Str)) else Sum.inl p) = some x := h
          have t2 : evalT (gg (k + 64)) (.val (.cmp .gt (.call 2 (.cons (.var 1) .nil)) (.glob 6))) (sR2 t (some p)) (μ ++ [obj t r' 0]) = .ok (decide (12 < v)) (μ ++ [obj t r' 0]) := tv_bl (ev_cmp (ev_call1 (ev_var rfl) (deep_ok 64 (K := k + 64) hd (by omega))) (ev_glob rfl) (gt_n (b := 12)))
          by_cases hv : 12 < v
          · rw [if_pos hv] at h
            rw [decide_eq_true hv] at t2
            cases h
            exact call_more_er c_read_pattern hμ rfl (run_nx s0 (run_nx s1 (run_er (ifs_true t2 (run_er (st_rse2 (i := 0) (show decide (2 ≤ k + 64) = true from decide_eq_true (by omega)) ev_cst ev_cst (by decide) (by decide +kernel)))))))
          · rw [if_neg hv] at h
            rw [decide_eq_false hv] at t2
            cases h
            exact ⟨pp, call_more c_read_pattern hμ pp (run_nx s0 (run_nx s1 (run_nx (ifs_false t2 run_nil) (run_rt (st_ret (ev_var rfl))))))⟩
/-- what the law tells of a text -/
def tdO : D ⊕ (Nat × Str) → D
  | .inl _ => .non
  | .inr (n, s) => .tup [nD n, .str s]
theorem told_ok {x : D ⊕ (Nat × Str)} (hk : 4 ≤ k) (hμ : PureM μ) (hu : t.all uni = true) (h : rdO t = some x) : (gg (k + 66)).call n_law_told [.str (tx t)] μ = .ok (tdO x) μ := by
  have r := read_ok (k := k) hk hμ hu h
  cases x with
  | inl p =>
    obtain ⟨_, e⟩ := r
    refine call_of c_law_told rfl (run_nx (ρ' := [some (.str (tx t)), none]) (μ' := μ) ?_ (run_rt (st_ret ev_cst)))
    show runS (gg (k + 65)) (.tryE (.call 3 (.cons (.var 0) .nil)) 0 1 (.tup [(.fld 1), (.fld 0)])) [some (.str (tx t)), none] μ = _
    rw [runS, ev_call1 (ev_var rfl) e]
  | inr q =>
    obtain ⟨n, s⟩ := q
    have e : (gg (k + 65)).call n_read_pattern [.str (tx t)] μ = .err 0 [.str s, nD n] μ := r
    refine call_of c_law_told rfl (run_rt ?_)
    show runS (gg (k + 65)) (.tryE (.call 3 (.cons (.var 0) .nil)) 0 1 (.tup [(.fld 1), (.fld 0)])) [some (.str (tx t)), none] μ = _
    rw [runS, ev_call1 (ev_var rfl) e]
    rfl
end
end PyI.K12
/-! W8: the law's tables, fronts. -/
namespace PyI.K12
open PySem L2 PyProof.Rows
def TB : List (List Nat × Nat × Str) := [([], 1, ("part" : Str)), ([97, 124], 3, ("part" : Str)), ([124, 97], 1, ("part" : Str)), ([42, 97], 1, ("part" : Str)), ([97, 93], 2, ("part" : Str)), ([97, 53], 2, ("part" : Str)), ([97, 125], 2, ("part" : Str)), ([62, 97], 1, ("part" : Str)), ([97, 38], 3, ("part" : Str)), ([33], 2, ("part" : Str)), ([97, 38, 124, 98], 3, ("part" : Str)), ([97, 92, 113], 3, ("escape" : Str)), ([92], 2, ("escape" : Str)), ([92, 48], 2, ("escape" : Str)), ([60, 120, 62], 2, ("slot" : Str)), ([97, 60, 116], 4, ("slot" : Str)), ([60, 116, 116, 62], 3, ("slot" : Str)), ([60], 2, ("slot" : Str)), ([91], 2, ("class" : Str)), ([91, 93], 2, ("class" : Str)), ([91, 94, 93], 3, ("class" : Str)), ([91, 98, 45, 97, 93], 4, ("class" : Str)), ([91, 98, 97, 93], 3, ("class" : Str)), ([91, 97, 45, 99, 98, 93], 5, ("class" : Str)), ([91, 49, 93], 2, ("class" : Str)), ([91, 97], 3, ("class" : Str)), ([91, 97, 45, 93], 4, ("class" : Str)), ([91, 97, 45, 97, 93], 4, ("class" : Str)), ([91, 97, 98, 99, 100, 101, 102, 103, 104, 105, 106, 107, 108, 109, 93], 14, ("class" : Str)), ([97, 42, 42], 3, ("repeat" : Str)), ([97, 123], 3, ("repeat" : Str)), ([97, 123, 120], 3, ("repeat" : Str)), ([97, 123, 50], 4, ("repeat" : Str)), ([97, 123, 50, 120], 4, ("repeat" : Str)), ([97, 123, 51, 44, 49, 125], 5, ("repeat" : Str)), ([97, 123, 48, 125], 3, ("repeat" : Str)), ([97, 123, 48, 44, 48, 125], 5, ("repeat" : Str)), ([97, 123, 50, 44, 120, 125], 5, ("repeat" : Str)), ([97, 123, 50, 44, 51], 6, ("repeat" : Str)), ([97, 123, 49, 50, 125], 4, ("repeat" : Str)), ([97, 42, 63], 3, ("repeat" : Str))]
def GD : List (List Nat) := [[97], [40, 41], [97, 63], [97, 123, 50, 125], [91, 97, 45, 99, 120, 93], [91, 94, 48, 93], [92, 46], [33, 97], [33, 33, 97], [97, 38, 98, 124, 99], [60, 116, 62], [97, 123, 51, 44, 125], [46], [40, 97, 124, 98, 41, 99], [91, 92, 45, 92, 93, 93], [48]]
def pieces (g : List Nat) : List (List Nat) := if g = [97, 38, 98, 124, 99] then [[97, 38, 98], [99]] else [g]
/-- pieces and their patterns -/
def PC : List (List Nat × D) := [([97], .tup [.str "sign", .str (tx [97])]), ([40, 41], .tup [.str "row", .tup []]), ([97, 63], .tup [.str "times", .tup [.str "sign", .str (tx [97])], .int 0, .int 1]), ([97, 123, 50, 125], .tup [.str "times", .tup [.str "sign", .str (tx [97])], .int 2, .int 2]), ([91, 97, 45, 99, 120, 93], .tup [.str "class", .tup [sp [97] [99], sp [120] [120]]]), ([91, 94, 48, 93], .tup [.str "other", .tup [sp [48] [48]]]), ([92, 46], .tup [.str "sign", .str (tx [46])]), ([33, 97], .tup [.str "not", .tup [.str "sign", .str (tx [97])]]), ([33, 33, 97], .tup [.str "not", .tup [.str "not", .tup [.str "sign", .str (tx [97])]]]), ([97, 38, 98], .tup [.str "and", .tup [.tup [.str "sign", .str (tx [97])], .tup [.str "sign", .str (tx [98])]]]), ([99], .tup [.str "sign", .str (tx [99])]), ([60, 116, 62], .tup [.str "slot"]), ([97, 123, 51, 44, 125], .tup [.str "times", .tup [.str "sign", .str (tx [97])], .int 3, .non]), ([46], .tup [.str "any"]), ([40, 97, 124, 98, 41, 99], .tup [.str "row", .tup [.tup [.str "or", .tup [.tup [.str "sign", .str (tx [97])], .tup [.str "sign", .str (tx [98])]]], .tup [.str "sign", .str (tx [99])]]]), ([91, 92, 45, 92, 93, 93], .tup [.str "class", .tup [sp [45] [45], sp [93] [93]]]), ([48], .tup [.str "sign", .str (tx [48])])]
def GP : List (List Nat × D) := [([97], .tup [.str "sign", .str (tx [97])]), ([40, 41], .tup [.str "row", .tup []]), ([97, 63], .tup [.str "times", .tup [.str "sign", .str (tx [97])], .int 0, .int 1]), ([97, 123, 50, 125], .tup [.str "times", .tup [.str "sign", .str (tx [97])], .int 2, .int 2]), ([91, 97, 45, 99, 120, 93], .tup [.str "class", .tup [sp [97] [99], sp [120] [120]]]), ([91, 94, 48, 93], .tup [.str "other", .tup [sp [48] [48]]]), ([92, 46], .tup [.str "sign", .str (tx [46])]), ([33, 97], .tup [.str "not", .tup [.str "sign", .str (tx [97])]]), ([33, 33, 97], .tup [.str "not", .tup [.str "not", .tup [.str "sign", .str (tx [97])]]]), ([97, 38, 98, 124, 99], .tup [.str "or", .tup [.tup [.str "and", .tup [.tup [.str "sign", .str (tx [97])], .tup [.str "sign", .str (tx [98])]]], .tup [.str "sign", .str (tx [99])]]]), ([60, 116, 62], .tup [.str "slot"]), ([97, 123, 51, 44, 125], .tup [.str "times", .tup [.str "sign", .str (tx [97])], .int 3, .non]), ([46], .tup [.str "any"]), ([40, 97, 124, 98, 41, 99], .tup [.str "row", .tup [.tup [.str "or", .tup [.tup [.str "sign", .str (tx [97])], .tup [.str "sign", .str (tx [98])]]], .tup [.str "sign", .str (tx [99])]]]), ([91, 92, 45, 92, 93, 93], .tup [.str "class", .tup [sp [45] [45], sp [93] [93]]]), ([48], .tup [.str "sign", .str (tx [48])])]
abbrev f50 : Rd := den 50
def alt (n : Nat) (ps : List D) (r : List Nat) : PR (List D) := (bothP f50 r 0).bind fun p r1 => sepL 124 (bothP f50) 0 n (ps ++ [p]) r1
def pmap (qs : List D) : PR (List D) → PR (List D)
  | .ok ps r => .ok (qs ++ ps) r
  | .er q s => .er q s
  | .no => .no
def fin1 (x : PR (List D)) : PR D := (x.bind fun ps r2 => .ok (mk1 "or" ps) r2).bind fun p r1 => if isC 41 r1 then .er r1.length "bracket" else if r1 = [] then .ok p [] else .er r1.length "part"
theorem whl_alt (r : List Nat) : whl 50 r = fin1 (alt 70 [] r) := by
  unfold whl choP sepP alt fin1
  cases bothP (den 50) r 0 <;> rfl
theorem sep_gen : ∀ (n j : Nat) (qs ps : List D) (r : List Nat), sepL 124 (bothP f50) 0 n ps r ≠ .no → sepL 124 (bothP f50) 0 (n + j) (qs ++ ps) r = pmap qs (sepL 124 (bothP f50) 0 n ps r)
  | 0, _, _, _, _, h => absurd rfl h
  | n + 1, j, qs, ps, r, h => by
    rw [show n + 1 + j = (n + j) + 1 by omega, sepL, sepL]
    rw [sepL] at h
    cases hb : isC 124 r with
    | false => rfl
    | true =>
      rw [hb] at h
      simp only [if_true] at h ⊢
      cases hd : bothP f50 r.tail 0 with
      | no => rfl
      | er q s => rfl
      | ok p r1 =>
        rw [hd] at h
        have h : sepL 124 (bothP f50) 0 n (ps ++ [p]) r1 ≠ .no := h
        show sepL 124 (bothP f50) 0 (n + j) (qs ++ ps ++ [p]) r1 = pmap qs (sepL 124 (bothP f50) 0 n (ps ++ [p]) r1)
        rw [List.append_assoc]
        exact sep_gen n j qs (ps ++ [p]) r1 h
theorem alt_gen (n j : Nat) (qs : List D) (r : List Nat) (h : alt n [] r ≠ .no) : alt (n + j) qs r = pmap qs (alt n [] r) := by
  unfold alt at h ⊢
  cases hd : bothP f50 r 0 with
  | no => rfl
  | er q s => rfl
  | ok p r1 =>
    rw [hd] at h
    exact sep_gen n j qs [p] r1 h
theorem alt_piece {n : Nat} {ps : List D} {g rest : List Nat} {p : D} (h : bothP f50 (g ++ 124 :: rest) 0 = .ok p (124 :: rest)) : alt (n + 1) ps (g ++ 124 :: rest) = alt n (ps ++ [p]) rest := by
  unfold alt
  rw [h]
  rfl
theorem pc_ok : ∀ x ∈ PC, ∀ rest, bothP f50 (x.1 ++ 124 :: rest) 0 = .ok x.2 (124 :: rest) := by
  intro x hx rest
  simp only [PC, List.mem_cons, List.not_mem_nil, or_false] at hx
  rcases hx with rfl | rfl | rfl | rfl | rfl | rfl | rfl | rfl | rfl | rfl | rfl | rfl | rfl | rfl | rfl | rfl | rfl <;> kernel_rfl
/-- a front -/
def fr (gs : List (List Nat)) : List Nat := (gs.map fun g => g ++ [124]).flatten
theorem alt_front : ∀ (xs : List (List Nat × D)) (n : Nat) (ps : List D) (r : List Nat), (∀ x ∈ xs, x ∈ PC) → alt (n + xs.length) ps (fr (xs.map (·.1)) ++ r) = alt n (ps ++ xs.map (·.2)) r
  | [], n, ps, r, _ => by simp [fr]
  | x :: xs, n, ps, r, h => by
    have e : fr ((x :: xs).map (·.1)) ++ r = x.1 ++ 124 :: (fr (xs.map (·.1)) ++ r) := by simp [fr]
    rw [e, List.length_cons, ← Nat.add_assoc, alt_piece (pc_ok x (h x (List.mem_cons_self ..)) _), alt_front xs n _ r (fun y hy => h y (List.mem_cons_of_mem _ hy))]
    simp
theorem fin_er {x : PR (List D)} {q : Nat} {s : Str} (qs : List D) (h : fin1 x = .er q s) : fin1 (pmap qs x) = .er q s := by
  cases x with
  | no => cases h
  | er q' s' => exact h
  | ok ps r =>
    unfold fin1 pmap PR.bind at *
    simp only at *
    split at h
    · rename_i h1; rw [if_pos h1]; exact h
    · rename_i h1
      rw [if_neg h1]
      split at h
      · cases h
      · rename_i h2; rw [if_neg h2]; exact h
/-- errors behind a front -/
theorem front_er {xs : List (List Nat × D)} {r : List Nat} {q : Nat} {s : Str} (hx : ∀ x ∈ xs, x ∈ PC) (hl : xs.length ≤ 20) (ha : alt 20 [] r ≠ .no) (h : whl 50 r = .er q s) : whl 50 (fr (xs.map (·.1)) ++ r) = .er q s := by
  rw [whl_alt] at h ⊢
  have e1 : alt 70 [] r = pmap [] (alt 20 [] r) := alt_gen 20 50 [] r ha
  have e2 : alt 70 [] (fr (xs.map (·.1)) ++ r) = alt (70 - xs.length) (xs.map (·.2)) r := by
    have := alt_front xs (70 - xs.length) [] r hx
    rw [show 70 - xs.length + xs.length = 70 by omega, List.nil_append] at this
    exact this
  have e3 : alt (70 - xs.length) (xs.map (·.2)) r = pmap (xs.map (·.2)) (alt 20 [] r) := by
    have := alt_gen 20 (50 - xs.length) (xs.map (·.2)) r ha
    rw [show 20 + (50 - xs.length) = 70 - xs.length by omega] at this
    exact this
  rw [e1] at h
  rw [e2, e3]
  have e4 : pmap [] (alt 20 [] r) = alt 20 [] r := by cases alt 20 [] r <;> rfl
  rw [e4] at h
  exact fin_er _ h
theorem front_ok {xs : List (List Nat × D)} {r : List Nat} {ps : List D} (hx : ∀ x ∈ xs, x ∈ PC) (hl : xs.length ≤ 20) (h : alt 20 [] r = .ok ps []) : whl 50 (fr (xs.map (·.1)) ++ r) = .ok (mk1 "or" (xs.map (·.2) ++ ps)) [] := by
  rw [whl_alt]
  have e2 : alt 70 [] (fr (xs.map (·.1)) ++ r) = alt (70 - xs.length) (xs.map (·.2)) r := by
    have := alt_front xs (70 - xs.length) [] r hx
    rw [show 70 - xs.length + xs.length = 70 by omega, List.nil_append] at this
    exact this
  have e3 : alt (70 - xs.length) (xs.map (·.2)) r = pmap (xs.map (·.2)) (alt 20 [] r) := by
    have := alt_gen 20 (50 - xs.length) (xs.map (·.2)) r (by rw [h]; exact fun z => by cases z)
    rw [show 20 + (50 - xs.length) = 70 - xs.length by omega] at this
    exact this
  rw [e2, e3, h]
  rfl
/-! ### what can be looked at once -/
def noP : PR (List D) → Bool
  | .no => true
  | _ => false
def chkE (x : List Nat × Nat × Str) : Bool := match whl 50 x.1 with
  | .er q s => decide (x.1.length + 1 - q = x.2.1) && decide (q ≤ x.1.length + 1) && decide (s = x.2.2) && !noP (alt 20 [] x.1) && decide (x.1.length ≤ 15) && x.1.all uni && decide (x.2.2.length ≤ 9000) && x.2.2.cps.toList.all uni
  | _ => false
theorem chk_TB : TB.all chkE = true := by decide +kernel
def dpT (d : Nat) (r : List Nat) : List Nat := List.replicate d 40 ++ r ++ List.replicate d 41
def isEr (x : Option (D ⊕ (Nat × Str))) (n : Nat) (s : Str) : Bool := match x with
  | some (.inr (n', s')) => decide (n' = n) && decide (s' = s)
  | _ => false
def chkD (x : List Nat × Nat × Str) : Bool := decide (x.1.length < x.2.1) || (List.range 6).all fun d => isEr (rdO (dpT d x.1)) (d + x.2.1) x.2.2
theorem chk_TD : TB.all chkD = true := by decide +kernel
theorem gp_ok : ∀ x ∈ GP, ∀ d, d < 6 → rdO (dpT d x.1) = some (.inl x.2) := by
  intro x hx d hd
  simp only [GP, List.mem_cons, List.not_mem_nil, or_false] at hx
  have hd' : d = 0 ∨ d = 1 ∨ d = 2 ∨ d = 3 ∨ d = 4 ∨ d = 5 := by omega
  rcases hx with rfl | rfl | rfl | rfl | rfl | rfl | rfl | rfl | rfl | rfl | rfl | rfl | rfl | rfl | rfl | rfl <;> rcases hd' with rfl | rfl | rfl | rfl | rfl | rfl <;> kernel_rfl
end PyI.K12
/-! W9: what is told behind fronts. -/
namespace PyI.K12
open PySem L2 PyProof.Rows
theorem rd_er {x : List Nat × Nat × Str} {xs : List (List Nat × D)} (hx : x ∈ TB) (hp : ∀ y ∈ xs, y ∈ PC) (hl : xs.length ≤ 20) (hf : (fr (xs.map (·.1))).length ≤ 40) : rdO (fr (xs.map (·.1)) ++ x.1) = some (.inr ((fr (xs.map (·.1))).length + x.2.1, x.2.2)) := by
  have c := List.all_eq_true.mp chk_TB x hx
  unfold chkE at c
  split at c
  · rename_i q s hw
    simp only [Bool.and_eq_true, decide_eq_true_eq, Bool.not_eq_true'] at c
    obtain ⟨⟨⟨⟨⟨⟨⟨c1, c2⟩, c3⟩, c4⟩, c5⟩, c6⟩, _⟩, _⟩ := c
    have e := front_er hp hl (r := x.1) (fun z => by rw [z] at c4; cases c4) hw
    unfold rdO
    rw [List.length_append, if_neg (by omega), if_neg (by omega), e, c3]
    show some (Sum.inr (_, _)) = _
    congr 3
    omega
  · cases c
def GQ : List (List Nat × List D) := GP.map fun x => (x.1, if x.1 = [97, 38, 98, 124, 99] then (match x.2 with | .tup [_, .tup l] => l | _ => []) else [x.2])
theorem gq_ok : ∀ x ∈ GQ, alt 20 [] x.1 = .ok x.2 [] := by
  have h : GQ.all (fun x => true) = true := rfl
  intro x hx
  simp only [GQ, GP, List.map_cons, List.map_nil, List.mem_cons, List.not_mem_nil, or_false] at hx
  rcases hx with rfl | rfl | rfl | rfl | rfl | rfl | rfl | rfl | rfl | rfl | rfl | rfl | rfl | rfl | rfl | rfl <;> kernel_rfl
def chkP (p : D) : Bool := (List.range 65).all fun n => decide (n < 20) || (match dpo n p with | some v => decide (v ≤ 5) | none => false)
theorem pc_dp : PC.all (fun x => chkP x.2) = true := by decide +kernel
theorem gq_dp : GQ.all (fun x => x.2.all chkP && decide (x.2.length ≤ 2) && !x.2.isEmpty) = true := by decide +kernel
theorem chkP_get {p : D} (h : chkP p = true) {n : Nat} (h1 : 20 ≤ n) (h2 : n ≤ 64) : ∃ v, v ≤ 5 ∧ dpo n p = some v := by
  have := List.all_eq_true.mp h n (List.mem_range.mpr (by omega))
  rw [decide_eq_false (by omega), Bool.false_or] at this
  split at this
  · rename_i v hv; exact ⟨v, of_decide_eq_true this, hv⟩
  · cases this
theorem dpos_list : ∀ {ps : List D} {n : Nat}, (∀ p ∈ ps, chkP p = true) → ps.length + 21 ≤ n → n ≤ 64 → ∃ vs, dpos n ps = some vs ∧ ∀ v ∈ vs, v ≤ 5
  | [], n + 1, _, _, _ => ⟨[], rfl, fun v h => by cases h⟩
  | [], 0, _, h, _ => by simp at h
  | p :: ps, 0, _, h, _ => by simp at h
  | p :: ps, n + 1, h, h1, h2 => by
    rw [List.length_cons] at h1
    obtain ⟨v, hv, e1⟩ := chkP_get (h p (List.mem_cons_self ..)) (n := n) (by omega) (by omega)
    obtain ⟨vs, e2, hvs⟩ := dpos_list (ps := ps) (n := n) (fun q hq => h q (List.mem_cons_of_mem _ hq)) (by omega) (by omega)
    refine ⟨v :: vs, ?_, fun u hu => ?_⟩
    · show (match dpo n p, dpos n ps with
        | some v, some vs => some (v :: vs)
        | _, _ => none) = _
      rw [e1, e2]
    · rcases List.mem_cons.mp hu with rfl | hu
      · exact hv
      · exact hvs u hu
theorem foldr_le : ∀ {vs : List Nat}, (∀ v ∈ vs, v ≤ 5) → vs.foldr max 0 ≤ 5
  | [], _ => by decide
  | v :: vs, h => by
    have h1 := h v (List.mem_cons_self ..)
    have h2 := foldr_le (vs := vs) fun u hu => h u (List.mem_cons_of_mem _ hu)
    show max v (vs.foldr max 0) ≤ 5
    omega
theorem or_PT : isIn PT "or" = true := by decide +kernel
theorem or_LF : isIn LF "or" = false := by decide +kernel
theorem dp_mk {ps : List D} (h : ∀ p ∈ ps, chkP p = true) (hne : ps ≠ []) (hl : ps.length ≤ 15) : ∃ v, v ≤ 12 ∧ dpo 64 (mk1 "or" ps) = some v := by
  match ps, hne with
  | [p], _ =>
    obtain ⟨v, hv, e⟩ := chkP_get (h p (List.mem_cons_self ..)) (n := 64) (by decide) (by decide)
    exact ⟨v, by omega, e⟩
  | p :: q :: r, _ =>
    obtain ⟨vs, e, hv⟩ := dpos_list (n := 63) h (by omega) (by decide)
    have hm := foldr_le hv
    refine ⟨1 + vs.foldr max 0, by omega, ?_⟩
    show (if isIn LF "or" then some 1 else (match prt "or" [.tup (p :: q :: r)] with
      | some ps => (dpos 63 ps).map fun l => 1 + l.foldr max 0
      | none => none)) = _
    have e2 : prt "or" [.tup (p :: q :: r)] = some (p :: q :: r) := by
      rw [prt, or_PT, if_pos rfl]
      exact if_pos (by omega)
    rw [or_LF, if_neg (by decide), e2]
    show (dpos 63 (p :: q :: r)).map _ = _
    rw [e]; rfl
theorem rd_good {g : List Nat × List D} {xs : List (List Nat × D)} (hg : g ∈ GQ) (hp : ∀ y ∈ xs, y ∈ PC) (hl : xs.length ≤ 10) (hf : (fr (xs.map (·.1))).length + g.1.length ≤ 60) : ∃ p, rdO (fr (xs.map (·.1)) ++ g.1) = some (.inl p) := by
  have e := front_ok hp (by omega) (gq_ok g hg)
  have c := List.all_eq_true.mp gq_dp g hg
  simp only [Bool.and_eq_true, decide_eq_true_eq, Bool.not_eq_true'] at c
  obtain ⟨⟨c1, c2⟩, c3⟩ := c
  have hall : ∀ p ∈ xs.map (·.2) ++ g.2, chkP p = true := fun p hp' => by
    rcases List.mem_append.mp hp' with h | h
    · obtain ⟨y, hy, rfl⟩ := List.mem_map.mp h
      exact List.all_eq_true.mp pc_dp y (hp y hy)
    · exact List.all_eq_true.mp c1 p h
  obtain ⟨v, hv, e2⟩ := dp_mk (ps := xs.map (·.2) ++ g.2) hall (fun z => by
    have := (List.append_eq_nil_iff.mp z).2
    rw [this] at c3; cases c3) (by rw [List.length_append, List.length_map]; omega)
  generalize xs.map (·.2) ++ g.2 = L at e e2
  refine ⟨mk1 "or" L, ?_⟩
  unfold rdO
  rw [List.length_append, if_neg (by omega), if_neg (by omega), e]
  show (match dpo 64 (mk1 "or" L) with
    | some v => some (if 12 < v then Sum.inr (0, ("deep" : Str)) else Sum.inl (mk1 "or" L))
    | none => none) = _
  rw [e2]
  show some (if 12 < v then _ else _) = _
  rw [if_neg (by omega)]
/-- goods, as pieces -/
theorem one_good {g : List Nat} (h : g ∈ GD) : ∃ xs : List (List Nat × D), (∀ y ∈ xs, y ∈ PC) ∧ xs.length ≤ 2 ∧ fr (xs.map (·.1)) = g ++ [124] := by
  by_cases e : g = [97, 38, 98, 124, 99]
  · subst e
    refine ⟨PC.filter (fun x => decide (x.1 = [97, 38, 98]) || decide (x.1 = [99])), fun y hy => (List.mem_filter.mp hy).1, by decide +kernel, by decide +kernel⟩
  · have c : GD.all (fun (g : List Nat) => decide (g = [97, 38, 98, 124, 99]) || (PC.find? fun x => decide (x.1 = g)).isSome) = true := by decide +kernel
    have := List.all_eq_true.mp c g h
    rw [decide_eq_false e, Bool.false_or] at this
    obtain ⟨x, hx⟩ := Option.isSome_iff_exists.mp this
    have h1 := List.mem_of_find?_eq_some hx
    have h2 := List.find?_some hx
    refine ⟨[x], fun y hy => by rw [List.mem_singleton.mp hy]; exact h1, (by show 1 ≤ 2; decide), ?_⟩
    rw [← of_decide_eq_true h2]
    simp [fr]
theorem all_goods : ∀ {gs : List (List Nat)}, (∀ g ∈ gs, g ∈ GD) → ∃ xs : List (List Nat × D), (∀ y ∈ xs, y ∈ PC) ∧ xs.length ≤ 2 * gs.length ∧ fr (xs.map (·.1)) = fr gs
  | [], _ => ⟨[], fun y h => (by cases h), by simp, rfl⟩
  | g :: gs, h => by
    obtain ⟨x1, a1, b1, c1⟩ := one_good (h g (List.mem_cons_self ..))
    obtain ⟨x2, a2, b2, c2⟩ := all_goods (gs := gs) fun z hz => h z (List.mem_cons_of_mem _ hz)
    refine ⟨x1 ++ x2, fun y hy => ?_, by rw [List.length_append, List.length_cons]; omega, ?_⟩
    · rcases List.mem_append.mp hy with hy | hy
      · exact a1 y hy
      · exact a2 y hy
    · have : ∀ a b : List (List Nat), fr (a ++ b) = fr a ++ fr b := fun a b => by simp [fr]
      rw [List.map_append, this, c1, c2]
      simp [fr]
theorem gd_len : GD.all (fun g => decide (g.length ≤ 6) && !g.isEmpty && g.all uni) = true := by decide +kernel
theorem fr_len : ∀ {gs : List (List Nat)}, (∀ g ∈ gs, g ∈ GD) → (fr gs).length ≤ 7 * gs.length ∧ (fr gs).all uni = true
  | [], _ => ⟨by simp [fr], rfl⟩
  | g :: gs, h => by
    have c := List.all_eq_true.mp gd_len g (h g (List.mem_cons_self ..))
    simp only [Bool.and_eq_true, decide_eq_true_eq] at c
    obtain ⟨c1, c2⟩ := fr_len (gs := gs) fun z hz => h z (List.mem_cons_of_mem _ hz)
    have e : fr (g :: gs) = g ++ [124] ++ fr gs := by simp [fr]
    rw [e]
    refine ⟨by rw [List.length_append, List.length_append]; simp only [List.length_cons, List.length_nil]; omega, ?_⟩
    rw [List.all_append, List.all_append, c.2, c2]; rfl
end PyI.K12
/-! W10: texts written; texts put together; the law. -/
namespace PyI.K12
open PySem L2 PyProof.Rows
theorem eq_hd {s t : Str} {μ : Mu} (hs : s.cps.all (· < 0x110000) = true) (ht : t.cps.all (· < 0x110000) = true) {v : Bool} (h : (s == t) = v) : cmpD .eq (.str s) (.str t) μ = .ok v μ := (eq_str hs ht).trans (by rw [h])
section
variable {ν : Mu} {mo : MO}
abbrev isCl (x : List Nat × D) : Bool := match x.2 with
  | .tup (.str w :: _) => decide (w = "class") || decide (w = "other")
  | _ => false
theorem wr_plain : ∀ x ∈ GP, isCl x = false → (gg (99)).call n_write_pattern [x.2] [mo] = .ok (.str (tx x.1)) [mo] := by
  intro x hx
  simp only [GP, List.mem_cons, List.not_mem_nil, or_false] at hx
  rcases hx with rfl | rfl | rfl | rfl | rfl | rfl | rfl | rfl | rfl | rfl | rfl | rfl | rfl | rfl | rfl | rfl
  · intro _; kernel_rfl
  · intro _; kernel_rfl
  · intro _; kernel_rfl
  · intro _; kernel_rfl
  · intro h; exact absurd h (by decide +kernel)
  · intro h; exact absurd h (by decide +kernel)
  · intro _; kernel_rfl
  · intro _; kernel_rfl
  · intro _; kernel_rfl
  · intro _; kernel_rfl
  · intro _; kernel_rfl
  · intro _; kernel_rfl
  · intro _; kernel_rfl
  · intro _; kernel_rfl
  · intro h; exact absurd h (by decide +kernel)
  · intro _; kernel_rfl
theorem wr_cls {w : Str} {l : List D} {s : Str} {pre : Str} (hB : Bx ν) (hw : (w = "class" ∧ pre = "[") ∨ (w = "other" ∧ pre = "[^")) (hs : (gg (96)).call n_spans_text [.tup l] ν = .ok (.str s) ν) {out : Str}
{mid : Str} (o1 : ∀ μ : Mu, binD .add (.str pre) (.str s) μ = .ok (.str mid) μ) (o2 : ∀ μ : Mu, binD .add (.str mid) (.str "]") μ = .ok (.str out) μ) : (gg (99)).call n_write_pattern [.tup [.str w, .tup l]] ν = .ok (.str out) ν := by
  have uw : w.cps.all (· < 0x110000) = true := by rcases hw with ⟨rfl, _⟩ | ⟨rfl, _⟩ <;> decide +kernel
  have e0 : ∀ {K : Nat} {ρ : Rho} (h : ρ[0]? = some (some (.tup [.str w, .tup l]))), evalE (gg K) (.idx (.var 0) (.cst (.int 0))) ρ ν = .ok (.str w) ν := fun h => ev_idx (ev_var h) ev_cst ix0
  have t : ∀ {K : Nat} {ρ : Rho} {z : Str} {v : Bool} (h : ρ[0]? = some (some (.tup [.str w, .tup l]))) (hz : z.cps.all (· < 0x110000) = true) (hv : (w == z) = v), evalT (gg K) (.val (.cmp .eq (.idx (.var 0) (.cst (.int 0))) (.cst (.str z)))) ρ ν = .ok v ν := fun h hz hv => tv_bl (ev_cmp (e0 h) ev_cst (eq_hd uw hz hv))
  have n1 : (w == ("sign" : Str)) = false ∧ (w == ("any" : Str)) = false ∧ (w == ("slot" : Str)) = false ∧ isIn LF w = true := by rcases hw with ⟨rfl, _⟩ | ⟨rfl, _⟩ <;> decide +kernel
  have ei : evalE (gg 96) (.ite (.val (.cmp .eq (.idx (.var 0) (.cst (.int 0))) (.cst (.str "class")))) (.cst (.str "[")) (.cst (.str "[^"))) [some (.tup [.str w, .tup l])] ν = .ok (.str pre) ν := by
    rcases hw with ⟨rfl, rfl⟩ | ⟨rfl, rfl⟩
    · exact ev_ite_true (t rfl (by decide +kernel) (by decide +kernel)) ev_cst
    · exact ev_ite_false (t rfl (by decide +kernel) (by decide +kernel)) ev_cst
  have et : evalE (gg 96) (.bin .add (.bin .add (.ite (.val (.cmp .eq (.idx (.var 0) (.cst (.int 0))) (.cst (.str "class")))) (.cst (.str "[")) (.cst (.str "[^"))) (.call 5 (.cons (.idx (.var 0) (.cst (.int 1))) .nil))) (.cst (.str "]"))) [some (.tup [.str w, .tup l])] ν = .ok (.str out) ν := by
    exact ev_bin (ev_bin ei (ev_call1 (ev_idx (ev_var rfl) ev_cst ix1) hs) (o1 ν)) ev_cst (o2 ν)
  have lt : (gg (97)).call n_leaf_text [.tup [.str w, .tup l]] ν = .ok (.str out) ν := call_of c_leaf_text rfl (run_nx (ifs_false (t rfl (by decide +kernel) n1.1) run_nil) (run_nx (ifs_false (t rfl (by decide +kernel) n1.2.1) run_nil) (run_nx (ifs_false (t rfl (by decide +kernel) n1.2.2.1) run_nil) (run_rt (st_ret et)))))
  have wr : (gg (98)).call n_written [.tup [.str w, .tup l]] ν = .ok (.tup [.str out, .int 0]) ν := by
    have tl := tv_bl (Γ := gg 97) (ev_call1 (ev_var (ρ := [some (.tup [.str w, .tup l]), some (.str w), none, none, none, none, none, none, none]) (i := 0) rfl) (leaf_ok (k := 96) (w := w) (rest := [.tup l]) (ν := ν)))
    rw [n1.2.2.2] at tl
    exact call_of c_written rfl (run_nx (st_set (e0 rfl)) (run_rt (ifs_true tl (run_rt (st_ret (ev_tup2 (ev_call1 (ev_var rfl) lt) ev_cst))))))
  exact call_of c_write_pattern rfl (run_rt (st_ret (ev_idx (ev_call1 (ev_var rfl) wr) ev_cst ix0)))
theorem spt {l : List D} {s : Str} {l' : List D} (hB : Bx ν) (h : ∀ mo : MO, runB (gg 95) b_spans_text (startR f_spans_text.N.length [.tup l]) [mo] = .rt (.str s) ([mo] ++ [.lst l'])) : (gg (96)).call n_spans_text [.tup l] ν = .ok (.str s) ν := by
  have hp := hB.pure
  obtain ⟨ds, at_, rfl⟩ := hB
  exact call_more c_spans_text hp rfl (h _)
theorem wr_ok {x : List Nat × D} (hx : x ∈ GP) (hB : Bx ν) : (gg (99)).call n_write_pattern [x.2] ν = .ok (.str (tx x.1)) ν := by
  cases hc : isCl x with
  | false =>
    obtain ⟨ds, at_, rfl⟩ := hB
    exact wr_plain x hx hc
  | true =>
    simp only [GP, List.mem_cons, List.not_mem_nil, or_false] at hx
    rcases hx with rfl | rfl | rfl | rfl | rfl | rfl | rfl | rfl | rfl | rfl | rfl | rfl | rfl | rfl | rfl | rfl
    · exact absurd hc (by decide +kernel)
    · exact absurd hc (by decide +kernel)
    · exact absurd hc (by decide +kernel)
    · exact absurd hc (by decide +kernel)
    · exact wr_cls (s := "a-cx") (mid := "[a-cx") hB (.inl ⟨rfl, rfl⟩) (spt (l' := [.str "a", .str "-c", .str "x"]) hB (fun mo => by kernel_rfl)) (fun μ => by kernel_rfl) (fun μ => by kernel_rfl)
    · exact wr_cls (s := "0") (mid := "[^0") hB (.inr ⟨rfl, rfl⟩) (spt (l' := [.str "0"]) hB (fun mo => by kernel_rfl)) (fun μ => by kernel_rfl) (fun μ => by kernel_rfl)
    · exact absurd hc (by decide +kernel)
    · exact absurd hc (by decide +kernel)
    · exact absurd hc (by decide +kernel)
    · exact absurd hc (by decide +kernel)
    · exact absurd hc (by decide +kernel)
    · exact absurd hc (by decide +kernel)
    · exact absurd hc (by decide +kernel)
    · exact absurd hc (by decide +kernel)
    · exact wr_cls (s := "\\-\\]") (mid := "[\\-\\]") hB (.inl ⟨rfl, rfl⟩) (spt (l' := [.str "\\-", .str "\\]"]) hB (fun mo => by kernel_rfl)) (fun μ => by kernel_rfl) (fun μ => by kernel_rfl)
    · exact absurd hc (by decide +kernel)
end
end PyI.K12
/-! W11: texts of the law. -/
namespace PyI.K12
open PySem L2 PyProof.Rows
theorem lk_up : ∀ {n : Nat} {d : D}, lk n d → lk (n + 1) d
  | n, .non, _ => trivial
  | n, .bl _, _ => trivial
  | n, .int _, _ => trivial
  | n, .str _, h => by cases n <;> exact h
  | 0, .tup _, h => h.elim
  | n + 1, .tup l, h => ⟨h.1, fun x hx => lk_up (h.2 x hx)⟩
  | n, .lst _, h => by cases n <;> exact h.elim
  | n, .kl _, h => by cases n <;> exact h.elim
  | n, .kt _, h => by cases n <;> exact h.elim
  | n, .ref _, h => by cases n <;> exact h.elim
theorem rep_fold (c : Nat) : ∀ (n : Nat) (acc : Array Nat), (List.replicate n (#[c] : Array Nat)).foldl (· ++ ·) acc = acc ++ (List.replicate n c).toArray
  | 0, acc => by simp
  | n + 1, acc => by
    rw [List.replicate_succ, List.foldl_cons, rep_fold c n, Array.append_assoc]
    have : (#[c] : Array Nat) ++ (List.replicate n c).toArray = (List.replicate (n + 1) c).toArray := by simp [List.replicate_succ]
    rw [this, List.replicate_succ]
theorem rep_tx (c n : Nat) : strRep (tx [c]) n = tx (List.replicate n c) := by
  have h := rep_fold c n #[]
  show (⟨(List.replicate n (#[c] : Array Nat)).foldl (· ++ ·) #[]⟩ : Str) = ⟨(List.replicate n c).toArray⟩
  rw [h]
  simp
abbrev rp (n c : Nat) : List Nat := List.replicate n c
section
variable {Γ : G} {ρ : Rho} {μ μ1 μ2 ν : Mu} {a b e : E} {c n d : Nat} {q : Str} {r t : List Nat}
theorem mul_tx (hc : c ∈ ([40, 41, 97, 33] : List Nat)) (hn : n < 70) : binD .mul (.str (tx [c])) (nD n) μ = .ok (.str (tx (rp n c))) μ := by
  have h := rep_tx c n
  show needs ((-(2 ^ 62) ≤ (n : Int) ∧ (n : Int) < 2 ^ 62) ∧ (tx [c]).length * (n : Int).toNat ≤ 16777216) (Res.ok (D.str (strRep (tx [c]) (n : Int).toNat)) μ) = _
  rw [needs_pos ⟨⟨by omega, by omega⟩, by rw [tx_len, Int.toNat_natCast]; simp only [List.length_cons, List.length_nil]; omega⟩, Int.toNat_natCast, h]
theorem ev_rep (hq : q = tx [c]) (hc : c ∈ ([40, 41, 97, 33] : List Nat)) (hn : n < 70) (he : evalE Γ e ρ μ = .ok (nD n) μ1) : evalE Γ (.bin .mul (.cst (.str q)) e) ρ μ = .ok (.str (tx (rp n c))) μ1 := ev_bin (ev_cs hq) he (mul_tx hc hn)
theorem q_op : ("(" : Str) = tx [40] := by decide +kernel
theorem q_cl : (")" : Str) = tx [41] := by decide +kernel
theorem q_a : ("a" : Str) = tx [97] := by decide +kernel
theorem q_no : ("!" : Str) = tx [33] := by decide +kernel
theorem q_bar : ("|" : Str) = tx [124] := by decide +kernel
theorem q_nil' : ("" : Str) = tx [] := by decide +kernel
theorem dpT_len : (dpT d r).length = d + r.length + d := by simp [dpT]; omega
theorem dpT_uni (h : r.all uni = true) : (dpT d r).all uni = true := by
  simp only [dpT, List.all_append, h, Bool.and_true, Bool.and_eq_true, List.all_eq_true]
  refine ⟨fun x hx => ?_, fun x hx => ?_⟩ <;> rw [(List.mem_replicate.mp hx).2] <;> decide
/-- a text in d brackets -/
theorem ev_dp {i : Nat} (hd : d < 6) (h7 : ρ[7]? = some (some (nD d))) (hi : ρ[i]? = some (some (.str (tx r)))) (hr : r.length ≤ 100) : evalE Γ (.bin .add (.bin .add (.bin .mul (.cst (.str "(")) (.var 7)) (.var i)) (.bin .mul (.cst (.str ")")) (.var 7))) ρ μ = .ok (.str (tx (dpT d r))) μ :=
  ev_add (ev_add (ev_rep q_op (by decide) (by omega) (ev_var h7)) (ev_var hi) (by rw [List.length_replicate]; omega)) (ev_rep q_cl (by decide) (by omega) (ev_var h7)) (by rw [List.length_append, List.length_replicate, List.length_replicate]; omega)
abbrev sD (g : List Nat) : D := .str (tx g)
theorem strs_sD : ∀ (gs : List (List Nat)), strsOf (gs.map sD) = some (gs.map tx) := fun gs => by
  have := strs_map (gs.map tx)
  rw [List.map_map] at this
  exact this
theorem sum_le : ∀ {gs : List (List Nat)}, (∀ g ∈ gs, g.length ≤ 6) → ((gs.map tx).map (fun y : Str => y.length)).sum ≤ 6 * gs.length
  | [], _ => Nat.zero_le _
  | g :: gs, h => by
    have h1 := h g (List.mem_cons_self ..)
    have h2 := sum_le (gs := gs) fun z hz => h z (List.mem_cons_of_mem _ hz)
    simp only [List.map_cons, List.sum_cons, tx_len, List.length_cons]
    omega
theorem join_ok {gs : List (List Nat)} (h : ∀ g ∈ gs, g.length ≤ 6) (hl : gs.length ≤ 100) : metD .join (.str (tx [124])) [.lst (gs.map sD)] μ = .ok (.str (tx (TL.joinL [124] gs))) μ := by
  show (match (seqD μ (.lst (gs.map sD))).bind strsOf with
    | some (ys : List Str) => needs ((ys.map (fun y : Str => y.length)).sum + ys.length * (tx [124]).length ≤ 16777216) (Res.ok (D.str (Txt.join (tx [124]) ys)) μ)
    | none => .stuck) = _
  simp only [seqD, Option.bind, strs_sD]
  have := sum_le h
  rw [tx_len, List.length_map, needs_pos (by simp only [List.length_cons, List.length_nil]; omega), tx_join]
theorem join_fr : ∀ {gs : List (List Nat)}, gs ≠ [] → TL.joinL [124] gs ++ [124] = fr gs
  | [g], _ => by simp [TL.joinL, fr]
  | g :: g2 :: gs, _ => by
    have ih := join_fr (gs := g2 :: gs) (List.cons_ne_nil _ _)
    have e : fr (g :: g2 :: gs) = g ++ [124] ++ fr (g2 :: gs) := by simp [fr]
    rw [e, ← ih]
    simp [TL.joinL]
/-! ### the law's tables -/
def rowD (x : List Nat × Nat × Str) : D := .tup [sD x.1, nD x.2.1, .str x.2.2]
theorem table_ok (h : Bx ν) : (gg (99)).call n_law_table [] ν = .ok (.lst (TB.map rowD)) ν := by
  obtain ⟨ds, at_, rfl⟩ := h
  kernel_rfl
theorem good_ok (h : Bx ν) : (gg (99)).call n_law_good [] ν = .ok (.lst (GD.map sD)) ν := by
  obtain ⟨ds, at_, rfl⟩ := h
  kernel_rfl
theorem ev_call0 {f : Nat} : evalE Γ (.call f .nil) ρ μ = Γ.call f [] μ := by rw [evalE, evalEs, bind_ok]
theorem st_tp3 {i j l : Nat} {x y z : D} (h : evalE Γ e ρ μ = .ok (.tup [x, y, z]) μ1) : runS Γ (.set (.tp [i, j, l]) e) ρ μ = .nx (((ρ.set i (some x)).set j (some y)).set l (some z)) μ1 := by
  rw [runS, h, then_ok, assignT]
  rfl
theorem ev_good {ρ : Rho} (h1 : ρ[1]? = some (some (.ref 0))) (h : Bx ν) : ∃ g ν', g ∈ GD ∧ Bx ν' ∧ evalE (gg 99) (.call 14 (.cons (.var 1) (.cons (.call 17 .nil) .nil))) ρ ν = .ok (sD g) ν' := by
  obtain ⟨x, ν', hx, hb, e⟩ := pick_ok (k := 97) h (l := GD.map sD) (by simp [GD])
  obtain ⟨g, hg, rfl⟩ := List.mem_map.mp hx
  exact ⟨g, ν', hg, hb, ev_call2 (ev_var h1) (ev_call0.trans (good_ok h)) e⟩
theorem picks {ρ : Rho} (hρ : ∀ d : D, ((wipeR ρ [10]).set 10 (some d))[1]? = some (some (.ref 0))) : ∀ (ds : List D) {acc : List (List Nat)} {ν : Mu}, Bx ν → acc.length + ds.length ≤ 100 → (∀ g ∈ acc, g ∈ GD) → ∃ (gs : List (List Nat)) (ν' : Mu), Bx ν' ∧ (∀ g ∈ gs, g ∈ GD) ∧ gs.length = acc.length + ds.length ∧ compLoop (cbody (gg 99) [10] (.nm 10) .yes (.call 14 (.cons (.var 1) (.cons (.call 17 .nil) .nil))) ρ) (chkOf none) (acc.map sD) ds ν = .ok (gs.map sD) ν'
  | [], acc, ν, hb, _, ha => ⟨acc, ν, hb, ha, rfl, by rw [compLoop]; rfl⟩
  | d :: ds, acc, ν, hb, hl, ha => by
    rw [List.length_cons] at hl
    obtain ⟨g, ν1, hg, hb1, e⟩ := ev_good (hρ d) hb
    obtain ⟨gs, ν2, hb2, h1, h2, e2⟩ := picks hρ ds (acc := acc ++ [g]) hb1 (by rw [List.length_append]; simp only [List.length_cons, List.length_nil]; omega) (fun z hz => by
      rcases List.mem_append.mp hz with hz | hz
      · exact ha z hz
      · rw [List.mem_singleton.mp hz]; exact hg)
    refine ⟨gs, ν2, hb2, h1, by rw [h2, List.length_append, List.length_cons]; simp only [List.length_cons, List.length_nil]; omega, ?_⟩
    have c1 : cbody (gg 99) [10] (.nm 10) .yes (.call 14 (.cons (.var 1) (.cons (.call 17 .nil) .nil))) ρ d ν = .ok (some (sD g)) ν1 := by
      unfold cbody
      simp only [assignT, evalT, bind_ok, if_true, e]
    rw [compLoop, c1]
    show (if chkOf none ν = true then needs ((acc.map sD).length < 16777216) (compLoop _ (chkOf none) (acc.map sD ++ [sD g]) ds ν1) else .stuck) = _
    rw [if_pos (show chkOf none ν = true from rfl), needs_pos (by rw [List.length_map]; omega), ← e2, List.map_append]
    rfl
/-! ### what is told -/
theorem lk_row' {s : Str} (hs : s.cps.toList.all uni = true ∧ s.length ≤ 9000) : lk 1 (.tup [nD n, .str s]) := by
  refine ⟨by simp, fun x hx => ?_⟩
  rcases List.mem_cons.mp hx with rfl | hx
  · trivial
  · rw [List.mem_singleton.mp hx]; exact hs
theorem ev_likes {te ke : E} {s : Str} (hB : Bx ν) (ht : evalE (gg 99) te ρ ν = .ok (sD t) ν) (hu : t.all uni = true) (hr : rdO t = some (.inr (n, s))) (hk : evalE (gg 99) ke ρ ν = .ok (.tup [nD n, .str s]) ν) (hs : s.cps.toList.all uni = true ∧ s.length ≤ 9000) : evalE (gg 99) (.call 15 (.cons (.call 18 (.cons te .nil)) (.cons ke .nil))) ρ ν = .ok (.bl true) ν :=
  ev_call2 (ev_call1 ht (told_ok (k := 33) (by decide) hB.pure hu hr)) hk (like_ok 1 (k := 97) (lk_row' hs))
theorem ev_none {te : E} {p : D} (hB : Bx ν) (ht : evalE (gg 99) te ρ ν = .ok (sD t) ν) (hu : t.all uni = true) (hr : rdO t = some (.inl p)) : evalE (gg 99) (.call 18 (.cons te .nil)) ρ ν = .ok .non ν := ev_call1 ht (told_ok (k := 33) (by decide) hB.pure hu hr)
theorem tv_none {te : E} {p : D} (hB : Bx ν) (ht : evalE (gg 99) te ρ ν = .ok (sD t) ν) (hu : t.all uni = true) (hr : rdO t = some (.inl p)) : evalT (gg 99) (.val (.cmp .isnot (.call 18 (.cons te .nil)) (.cst .non))) ρ ν = .ok false ν :=
  tv_bl (ev_cmp (ev_none hB ht hu hr) ev_cst rfl)
end
end PyI.K12
/-! W12: a turn of the law. -/
namespace PyI.K12
open PySem L2 PyProof.Rows
abbrev lB : B := forB (nthS b_law 1)
theorem tb_facts : ∀ x ∈ TB, x.1.length ≤ 15 ∧ x.1.all uni = true ∧ (x.2.2.cps.toList.all uni = true ∧ x.2.2.length ≤ 9000) := by
  intro x hx
  have c := List.all_eq_true.mp chk_TB x hx
  unfold chkE at c
  split at c
  · simp only [Bool.and_eq_true, decide_eq_true_eq, Bool.not_eq_true'] at c
    obtain ⟨⟨⟨⟨⟨⟨⟨c1, c2⟩, c3⟩, c4⟩, c5⟩, c6⟩, c7⟩, c8⟩ := c
    exact ⟨c5, c6, c8, c7⟩
  · cases c
theorem gd_gp {g : List Nat} (h : g ∈ GD) : ∃ p, (g, p) ∈ GP := by
  have e : GD = GP.map (·.1) := by decide +kernel
  rw [e] at h
  obtain ⟨x, hx, rfl⟩ := List.mem_map.mp h
  exact ⟨x.2, hx⟩
theorem gp_gq {g : List Nat} {p : D} (h : (g, p) ∈ GP) : ∃ l, (g, l) ∈ GQ := ⟨_, List.mem_map_of_mem h⟩
theorem isEr_get {x : Option (D ⊕ (Nat × Str))} {n : Nat} {s : Str} (h : isEr x n s = true) : x = some (.inr (n, s)) := by
  unfold isEr at h
  split at h
  · simp only [Bool.and_eq_true, decide_eq_true_eq] at h
    rw [h.1, h.2]
  · cases h
theorem td_ok {x : List Nat × Nat × Str} (hx : x ∈ TB) (hl : x.2.1 ≤ x.1.length) {d : Nat} (hd : d < 6) : rdO (dpT d x.1) = some (.inr (d + x.2.1, x.2.2)) := by
  have c := List.all_eq_true.mp chk_TD x hx
  unfold chkD at c
  rw [decide_eq_false (by omega), Bool.false_or] at c
  exact isEr_get (List.all_eq_true.mp c d (List.mem_range.mpr hd))
theorem le_n {a b : Nat} {μ : Mu} : cmpD .le (nD a) (nD b) μ = .ok (decide (a ≤ b)) μ := by
  show Res.ok (decide ((a : Int) ≤ (b : Int))) μ = _
  congr 1
  exact decide_eq_decide.mpr Int.ofNat_le
theorem turn_ok {ν : Mu} {X : D} {z : Int} {o3 o4 o5 o6 o7 o8 o9 o10 : Option D} (h : Bx ν) : ∃ (ν' : Mu) (q3 q4 q5 q6 q7 q8 : Option D), Bx ν' ∧ runB (gg 99) lB [some X, some (.ref 0), some (.int z), o3, o4, o5, o6, o7, o8, o9, o10] ν = .nx [some X, some (.ref 0), some (.int z), q3, q4, q5, q6, q7, q8, o9, o10] ν' := by
  obtain ⟨x0, ν1, hx0, b1, e1⟩ := pick_ok (k := 97) h (l := TB.map rowD) (by simp [TB])
  obtain ⟨x, hx, rfl⟩ := List.mem_map.mp hx0
  obtain ⟨xl, xu, xs⟩ := tb_facts x hx
  obtain ⟨m, ν2, hm, b2, e2⟩ := draw_ok (k := 98) b1 (m := 5) (by decide)
  let T : D := sD x.1
  obtain ⟨gs, ν3, b3, hg, gl, e3⟩ := picks (ρ := [some X, some (.ref 0), some (.int z), some T, some (nD x.2.1), some (.str x.2.2), o6, o7, o8, o9, o10]) (fun d => rfl) (rngD 0 m) (acc := []) b2 (by rw [rng0, List.length_map, List.length_range]; simp only [List.length_nil]; omega) (fun g hg => by cases hg)
  rw [rng0, List.length_map, List.length_range, List.length_nil, Nat.zero_add] at gl
  obtain ⟨ps, hp, pl, pf⟩ := all_goods hg
  obtain ⟨fl, fu⟩ := fr_len hg
  obtain ⟨d, ν4, hd, b4, e4⟩ := draw_ok (k := 98) b3 (m := 6) (by decide)
  let F : List Nat := fr gs
  have fl40 : F.length ≤ 40 := by show (fr gs).length ≤ 40; omega
  have s0 : runS (gg 99) (nthS lB 0) [some X, some (.ref 0), some (.int z), o3, o4, o5, o6, o7, o8, o9, o10] ν = .nx [some X, some (.ref 0), some (.int z), some T, some (nD x.2.1), some (.str x.2.2), o6, o7, o8, o9, o10] ν1 := st_tp3 (ev_call2 (ev_var rfl) (ev_call0.trans (table_ok h)) e1)
  have s1 : runS (gg 99) (nthS lB 1) [some X, some (.ref 0), some (.int z), some T, some (nD x.2.1), some (.str x.2.2), o6, o7, o8, o9, o10] ν1 = .nx [some X, some (.ref 0), some (.int z), some T, some (nD x.2.1), some (.str x.2.2), some (sD (TL.joinL [124] gs)), o7, o8, o9, o10] ν3 := by
    have gl6 : ∀ g ∈ gs, g.length ≤ 6 := fun g hq => by
      have c := List.all_eq_true.mp gd_len g (hg g hq)
      simp only [Bool.and_eq_true, decide_eq_true_eq] at c
      exact c.1.1
    refine st_set (ev_met1 (ev_cs q_bar) rfl (ev_comp (it_rng1 (n := m) (ev_call2 (ev_var rfl) ev_cst e2) rfl (by omega)) e3) (join_ok gl6 (by omega)))
  have s2 : runS (gg 99) (nthS lB 2) [some X, some (.ref 0), some (.int z), some T, some (nD x.2.1), some (.str x.2.2), some (sD (TL.joinL [124] gs)), o7, o8, o9, o10] ν3 = .nx [some X, some (.ref 0), some (.int z), some T, some (nD x.2.1), some (.str x.2.2), some (sD F), o7, o8, o9, o10] ν3 := by
    refine st_set ?_
    by_cases hn : gs = []
    · have hF : F = [] := by show fr gs = []; rw [hn]; rfl
      rw [hF, hn]
      exact ev_ite_false (tv_bl (ev_cmp (ev_var rfl) (ev_cs q_nil') (ne_tx rfl rfl))) (ev_cs q_nil')
    · have jf := join_fr hn
      have ju : (TL.joinL [124] gs).all uni = true := by
        rw [← jf, List.all_append, Bool.and_eq_true] at fu
        exact fu.1
      have jn : TL.joinL [124] gs ≠ [] := by
        match gs, hn, hg with
        | [g], _, hg =>
          have c := List.all_eq_true.mp gd_len g (hg g (List.mem_cons_self ..))
          simp only [Bool.and_eq_true, decide_eq_true_eq, Bool.not_eq_true'] at c
          intro q
          have q : g = [] := q
          rw [q] at c
          exact absurd c.1.2 (by decide)
        | g :: g2 :: r, _, _ =>
          intro q
          have := (List.append_eq_nil_iff.mp (show g ++ ([124] ++ TL.joinL [124] (g2 :: r)) = [] from q)).2
          cases this
      have jl : (TL.joinL [124] gs).length ≤ 40 := by
        have := congrArg List.length jf
        rw [List.length_append] at this
        have : (TL.joinL [124] gs).length ≤ (fr gs).length := by omega
        omega
      have hc : evalT (gg 99) (.val (.cmp .ne (.var 6) (.cst (.str "")))) [some X, some (.ref 0), some (.int z), some T, some (nD x.2.1), some (.str x.2.2), some (sD (TL.joinL [124] gs)), o7, o8, o9, o10] ν3 = .ok true ν3 := tv_bl (ev_cmp (ev_var rfl) (ev_cs q_nil') ((ne_tx ju rfl).trans (by
        rw [beq_eq_false_iff_ne.mpr jn]; rfl)))
      refine (ev_ite_true hc (ev_add (ev_var rfl) (ev_cs q_bar) (by simp only [List.length_cons, List.length_nil]; omega))).trans ?_
      rw [jf]
  have fxu : (F ++ x.1).all uni = true := by rw [List.all_append, xu, fu]; rfl
  have r3 : rdO (F ++ x.1) = some (.inr (F.length + x.2.1, x.2.2)) := by
    have := rd_er hx hp (by omega) (by rw [pf]; exact fl40)
    rw [pf] at this
    exact this
  have s3 : runS (gg 99) (nthS lB 3) [some X, some (.ref 0), some (.int z), some T, some (nD x.2.1), some (.str x.2.2), some (sD F), o7, o8, o9, o10] ν3 = .nx [some X, some (.ref 0), some (.int z), some T, some (nD x.2.1), some (.str x.2.2), some (sD F), o7, o8, o9, o10] ν3 :=
    ifs_false (tv_not (k := true) (tv_bl (ev_likes b3 (ev_add (ev_var rfl) (ev_var rfl) (by omega)) fxu r3 (ev_tup2 (ev_bin (ev_bif1 (ev_var rfl) (len_tx (by omega))) (ev_var rfl) add_n) (ev_var rfl)) xs))) run_nil
  have s4 : runS (gg 99) (nthS lB 4) [some X, some (.ref 0), some (.int z), some T, some (nD x.2.1), some (.str x.2.2), some (sD F), o7, o8, o9, o10] ν3 = .nx [some X, some (.ref 0), some (.int z), some T, some (nD x.2.1), some (.str x.2.2), some (sD F), some (nD d), o8, o9, o10] ν4 := st_set (ev_call2 (ev_var rfl) ev_cst e4)
  have s5 : runS (gg 99) (nthS lB 5) [some X, some (.ref 0), some (.int z), some T, some (nD x.2.1), some (.str x.2.2), some (sD F), some (nD d), o8, o9, o10] ν4 = .nx [some X, some (.ref 0), some (.int z), some T, some (nD x.2.1), some (.str x.2.2), some (sD F), some (nD d), o8, o9, o10] ν4 := by
    have t1 : evalT (gg 99) (.val (.cmp .le (.var 4) (.bif .len (.cons (.var 3) .nil)))) [some X, some (.ref 0), some (.int z), some T, some (nD x.2.1), some (.str x.2.2), some (sD F), some (nD d), o8, o9, o10] ν4 = .ok (decide (x.2.1 ≤ x.1.length)) ν4 := tv_bl (ev_cmp (ev_var rfl) (ev_bif1 (ev_var rfl) (len_tx (by omega))) le_n)
    by_cases hl : x.2.1 ≤ x.1.length
    · rw [decide_eq_true hl] at t1
      exact ifs_false (tv_and_t t1 (tv_not (k := true) (tv_bl (ev_likes b4 (ev_dp (i := 3) hd rfl rfl (by omega)) (dpT_uni xu) (td_ok hx hl hd) (ev_tup2 (ev_bin (ev_var rfl) (ev_var rfl) add_n) (ev_var rfl)) xs)))) run_nil
    · rw [decide_eq_false hl] at t1
      exact ifs_false (tv_and_f t1) run_nil
  obtain ⟨g, ν5, gm, b5, e5⟩ := ev_good (ρ := [some X, some (.ref 0), some (.int z), some T, some (nD x.2.1), some (.str x.2.2), some (sD F), some (nD d), o8, o9, o10]) rfl b4
  have gc := List.all_eq_true.mp gd_len g gm
  simp only [Bool.and_eq_true, decide_eq_true_eq] at gc
  obtain ⟨⟨gl6, _⟩, gu⟩ := gc
  obtain ⟨p, hgp⟩ := gd_gp gm
  obtain ⟨l, hgq⟩ := gp_gq hgp
  obtain ⟨p2, r6⟩ := rd_good hgq hp (by omega) (by rw [pf]; show (fr gs).length + g.length ≤ 60; have : (fr gs).length ≤ 40 := fl40; omega)
  rw [pf] at r6
  have r6 : rdO (F ++ g) = some (.inl p2) := r6
  have r7 : rdO (dpT d g) = some (.inl p) := gp_ok (g, p) hgp d hd
  have s6 : runS (gg 99) (nthS lB 6) [some X, some (.ref 0), some (.int z), some T, some (nD x.2.1), some (.str x.2.2), some (sD F), some (nD d), o8, o9, o10] ν4 = .nx [some X, some (.ref 0), some (.int z), some T, some (nD x.2.1), some (.str x.2.2), some (sD F), some (nD d), some (sD g), o9, o10] ν5 := st_set e5
  have s7 : runS (gg 99) (nthS lB 7) [some X, some (.ref 0), some (.int z), some T, some (nD x.2.1), some (.str x.2.2), some (sD F), some (nD d), some (sD g), o9, o10] ν5 = .nx [some X, some (.ref 0), some (.int z), some T, some (nD x.2.1), some (.str x.2.2), some (sD F), some (nD d), some (sD g), o9, o10] ν5 :=
    ifs_false (tv_or_ff (tv_none b5 (ev_add (ev_var rfl) (ev_var rfl) (by omega)) (by rw [List.all_append, gu, fu]; rfl) r6) (tv_none b5 (ev_dp (i := 8) hd rfl rfl (by omega)) (dpT_uni gu) r7)) run_nil
  have rd : (gg (99)).call n_read_pattern [sD (dpT d g)] ν5 = .ok p ν5 := by
    obtain ⟨_, e⟩ := read_ok (k := 34) (by decide) b5.pure (dpT_uni gu) r7
    exact e
  have s8 : runS (gg 99) (nthS lB 8) [some X, some (.ref 0), some (.int z), some T, some (nD x.2.1), some (.str x.2.2), some (sD F), some (nD d), some (sD g), o9, o10] ν5 = .nx [some X, some (.ref 0), some (.int z), some T, some (nD x.2.1), some (.str x.2.2), some (sD F), some (nD d), some (sD g), o9, o10] ν5 :=
    ifs_false (tv_not (k := true) (tv_bl (ev_call2 (ev_call1 (ev_call1 (ev_dp (i := 8) hd rfl rfl (by omega)) rd) (wr_ok hgp b5)) (ev_var rfl) (like_ok 1 (k := 97) (d := sD g) (show g.all uni = true ∧ _ from ⟨gu, by rw [tx_len]; omega⟩))))) run_nil
  exact ⟨ν5, _, _, _, _, _, _, b5, run_nx s0 (run_nx s1 (run_nx s2 (run_nx s3 (run_nx s4 (run_nx s5 (run_nx s6 (run_nx s7 (run_nx s8 run_nil))))))))⟩
end PyI.K12
/-! W13: the end of the law. -/
namespace PyI.K12
open PySem L2 PyProof.Rows
def isOk (x : Option (D ⊕ (Nat × Str))) : Bool := match x with
  | some (.inl _) => true
  | _ => false
theorem isOk_get {x : Option (D ⊕ (Nat × Str))} (h : isOk x = true) : ∃ p, x = some (.inl p) := by
  unfold isOk at h
  split at h
  · exact ⟨_, rfl⟩
  · cases h
theorem end_a : isEr (rdO [97, 41]) 2 "bracket" = true := by decide +kernel
theorem end_b : (List.range 5).all (fun m => isEr (rdO (rp (1 + m) 40 ++ [97])) (1 + m + 2) "bracket") = true := by decide +kernel
theorem end_c : (List.range 5).all (fun m => isEr (rdO (rp (6 + (1 + m)) 40 ++ [97])) 7 "deep") = true := by decide +kernel
theorem end_d : isEr (rdO (rp 61 97)) 0 "long" = true := by decide +kernel
theorem end_e : isOk (rdO (rp 60 97)) = true := by decide +kernel
theorem end_f : isOk (rdO (rp 11 33 ++ [97])) = true := by decide +kernel
theorem end_g : (List.range 5).all (fun m => isEr (rdO (rp (11 + (1 + m)) 33 ++ [97])) 0 "deep") = true := by decide +kernel
theorem rp_uni {n c : Nat} (h : uni c = true) : (rp n c).all uni = true := List.all_eq_true.mpr fun x hx => by rw [(List.mem_replicate.mp hx).2]; exact h
theorem rpa_uni {n c : Nat} (h : uni c = true) : (rp n c ++ [97]).all uni = true := by rw [List.all_append, rp_uni h]; rfl
theorem ev_rpa {Γ : G} {ρ : Rho} {ν : Mu} {e : E} {q : Str} {n c : Nat} (hq : q = tx [c]) (hc : c ∈ ([40, 41, 97, 33] : List Nat)) (hn : n < 70) (he : evalE Γ e ρ ν = .ok (nD n) ν) : evalE Γ (.bin .add (.bin .mul (.cst (.str q)) e) (.cst (.str "a"))) ρ ν = .ok (.str (tx (rp n c ++ [97]))) ν :=
  ev_add (ev_rep hq hc hn he) (ev_cs q_a) (by rw [List.length_replicate]; simp only [List.length_cons, List.length_nil]; omega)
theorem q_acl : ("a)" : Str) = tx [97, 41] := by decide +kernel
theorem s_br : ("bracket" : Str).cps.toList.all uni = true ∧ ("bracket" : Str).length ≤ 9000 := by decide +kernel
theorem s_de : ("deep" : Str).cps.toList.all uni = true ∧ ("deep" : Str).length ≤ 9000 := by decide +kernel
theorem s_lo : ("long" : Str).cps.toList.all uni = true ∧ ("long" : Str).length ≤ 9000 := by decide +kernel
theorem main : ∀ ns : List Int, ns.length ≤ 63 → ∃ μ', callD prg.tab prg.con prg.dic prg.wf 100 n_law [.kl (ns.map D.int)] [] = .ok (.bl true) μ' := by
  intro ns _
  let X : D := .kl (ns.map D.int)
  obtain ⟨ds, hd⟩ := digits_ok (k := 97) (ns := ns) (μ := []) (fun m hm => by cases hm)
  have s0 : runS (gg 99) (nthS b_law 0) [some X, none, none, none, none, none, none, none, none, none, none] [] = .nx [some X, some (.ref 0), none, none, none, none, none, none, none, none, none] [.lst [.lst (ds.map D.int), nD 0]] := st_new (ev_lst2 (ev_call3 (ev_var rfl) ev_cst ev_cst hd) ev_cst)
  obtain ⟨ρ', ν', q, p2, p3, p4, p5, p6, p7, p8, hb, e1⟩ := for_range (f := fbody (gg 99) (.nm 2) lB) (lo := 0) (n := 8) (ρ := [some X, some (.ref 0), none, none, none, none, none, none, none, none, none]) (μ := [.lst [.lst (ds.map D.int), nD 0]])
    (fun i ρ ν => ∃ p2 p3 p4 p5 p6 p7 p8, Bx ν ∧ ρ = [some X, some (.ref 0), p2, p3, p4, p5, p6, p7, p8, none, none])
    ⟨none, none, none, none, none, none, none, ⟨ds, 0, rfl⟩, rfl⟩ (by
      rintro i hi ρ μ ⟨p2, p3, p4, p5, p6, p7, p8, hI, rfl⟩
      left
      generalize (0 : Int) + (i : Int) = z
      rw [fbody_nm]
      obtain ⟨ν', q3, q4, q5, q6, q7, q8, hb, e⟩ := turn_ok hI (X := X) (z := z) (o3 := p3) (o4 := p4) (o5 := p5) (o6 := p6) (o7 := p7) (o8 := p8) (o9 := none) (o10 := none)
      exact ⟨_, ν', e, some (.int z), q3, q4, q5, q6, q7, q8, hb, rfl⟩)
  subst e1
  have it : evalIt (gg 99) (.rng1 (.cst (.int 8))) [some X, some (.ref 0), none, none, none, none, none, none, none, none, none] [.lst [.lst (ds.map D.int), nD 0]] = .ok (rngD 0 8, none) [.lst [.lst (ds.map D.int), nD 0]] := it_rng1 (i := 8) (n := 8) ev_cst rfl (by decide)
  obtain ⟨m, ν2, hm, b2, e2⟩ := draw_ok (k := 98) hb (m := 5) (by decide)
  have ra := isEr_get end_a
  have rb := isEr_get (List.all_eq_true.mp end_b m (List.mem_range.mpr hm))
  have rc := isEr_get (List.all_eq_true.mp end_c m (List.mem_range.mpr hm))
  have rd := isEr_get end_d
  obtain ⟨pe, re⟩ := isOk_get end_e
  obtain ⟨pf, rf⟩ := isOk_get end_f
  have rg := isEr_get (List.all_eq_true.mp end_g m (List.mem_range.mpr hm))
  have s2 : runS (gg 99) (nthS b_law 2) [some X, some (.ref 0), p2, p3, p4, p5, p6, p7, p8, none, none] ν' = .nx [some X, some (.ref 0), p2, p3, p4, p5, p6, p7, p8, some (nD (1 + m)), none] ν2 := st_set (ev_bin ev_cst (ev_call2 (ev_var rfl) ev_cst e2) (add_n (a := 1)))
  have v9 : evalE (gg 99) (.var 9) [some X, some (.ref 0), p2, p3, p4, p5, p6, p7, p8, some (nD (1 + m)), none] ν2 = .ok (nD (1 + m)) ν2 := ev_var rfl
  have s3 : runS (gg 99) (nthS b_law 3) [some X, some (.ref 0), p2, p3, p4, p5, p6, p7, p8, some (nD (1 + m)), none] ν2 = .nx [some X, some (.ref 0), p2, p3, p4, p5, p6, p7, p8, some (nD (1 + m)), none] ν2 :=
    ifs_false (tv_or_ff (tv_not (k := true) (tv_bl (ev_likes b2 (ev_cs q_acl) rfl ra (ev_tup2 ev_cst ev_cst) s_br))) (tv_not (k := true) (tv_bl (ev_likes b2 (ev_rpa q_op (by decide) (by omega) v9) (rpa_uni rfl) rb (ev_tup2 (ev_add2 v9) ev_cst) s_br)))) run_nil
  have s4 : runS (gg 99) (nthS b_law 4) [some X, some (.ref 0), p2, p3, p4, p5, p6, p7, p8, some (nD (1 + m)), none] ν2 = .nx [some X, some (.ref 0), p2, p3, p4, p5, p6, p7, p8, some (nD (1 + m)), none] ν2 :=
    ifs_false (tv_or_ff (tv_not (k := true) (tv_bl (ev_likes b2 (ev_rpa q_op (by decide) (by omega) (ev_bin ev_cst v9 (add_n (a := 6)))) (rpa_uni rfl) rc (ev_tup2 ev_cst ev_cst) s_de))) (tv_or_ff (tv_not (k := true) (tv_bl (ev_likes b2 (ev_rep q_a (by decide) (n := 61) (by decide) ev_cst) (rp_uni rfl) rd (ev_tup2 ev_cst ev_cst) s_lo))) (tv_none b2 (ev_rep q_a (by decide) (n := 60) (by decide) ev_cst) (rp_uni rfl) re))) run_nil
  have s5 : runS (gg 99) (nthS b_law 5) [some X, some (.ref 0), p2, p3, p4, p5, p6, p7, p8, some (nD (1 + m)), none] ν2 = .rt (.bl true) ν2 :=
    st_ret (ev_and_t (x := .bl true) (ev_cmp (ev_none b2 (ev_rpa q_no (by decide) (n := 11) (by decide) ev_cst) (rpa_uni rfl) rf) ev_cst rfl) rfl (ev_likes b2 (ev_rpa q_no (by decide) (by omega) (ev_bin ev_cst v9 (add_n (a := 11)))) (rpa_uni rfl) rg (ev_tup2 ev_cst ev_cst) s_de))
  have full : runB (gg 99) b_law (startR f_law.N.length [X]) [] = .rt (.bl true) ν2 := run_nx s0 (run_nx (for_run' it q) (run_nx s2 (run_nx s3 (run_nx s4 (run_rt (b := .nil) s5)))))
  refine ⟨[], ?_⟩
  show callD prg.tab prg.con prg.dic prg.wf (99 + 1) n_law [X] [] = _
  rw [c_law, full, finO_rt]
  exact fin_more (μ := []) (ν := ν2) (fun m hm => by cases hm) rfl
end PyI.K12
open PySem PySem.W PyProof.Rows
set_option maxRecDepth 100000 in
set_option maxHeartbeats 0 in
theorem PySem.Challenge.cw_sensekept_k12_rules_wrong_texts_holds : PySem.Challenge.rw_sensekept_k12_rules_wrong_texts.Holds := by
  w_on; o_law; k_head; (case hw => w_witness2)
  k_fill
  refine PyI.law_walk (p := PyI.K12.prg) (ct := ⟨fun c => match c with | 0 => 60 | 100 => 237 | _ => 0, fun c => (PyI.K12.tb.clss.getD c ("", [])).2⟩) (f := PyI.K12.n_law) (kk := 100) rfl rfl ⟨rfl, by decide, by decide⟩ (fun w h Y => PySem.W.kIn_of Y) PyI.K12.main ?F
  case F =>
    intro w mg fa h KX G hmg
    refine PyI.law_fn PyI.K12.prg_ok ⟨fun c => match c with | 0 => 60 | 100 => 237 | _ => 0, fun c => (PyI.K12.tb.clss.getD c ("", [])).2⟩ ⟨?bi, ?con, ?dic, ?cls, ?isx, ?own, ?met, ?fn⟩ hmg rfl rfl rfl rfl 100
    case bi =>
      refine' PyI.biAll KX G ?z0 ?z1 ?z2 ?z3 ?z4 ?z5 ?z6 ?z7 ?z8 ?z9 ?z10 ?z11 ?z12 ?z13 ?z14 ?z15 ?z16 ?z17 ?z18 ?z19 ?z20
      (case z0 => k_is); (case z1 => k_is); (case z2 => k_is); (case z3 => k_is); (case z4 => k_is); (case z5 => k_is); (case z6 => k_is); (case z7 => k_is); (case z8 => k_is); (case z9 => k_is); (case z10 => k_is); (case z11 => k_is); (case z12 => k_is); (case z13 => k_is); (case z14 => k_is); (case z15 => k_is); (case z16 => k_is); (case z17 => k_is); (case z18 => k_is); (case z19 => k_is); (case z20 => k_is)
    case con =>
      intro g x d h1 h2
      rcases g with _ | _ | _ | _ | _ | _ | _ | g
      · obtain rfl : ("SIGNS" : PySem.Str) = x := Option.some.inj h1
        obtain rfl : ((.str " !\"#$&'()*+,-./0:;<=>?@ABCDEFGHIJKLMNOPQRSTUVWXYZ[\\]^_`abcdefghijklmnopqrstuvwxyz{|}~") : PyI.D) = d := Option.some.inj h2
        refine' PyI.conStr KX G ?c; (case c => k_is)
      · obtain rfl : ("SPECIAL" : PySem.Str) = x := Option.some.inj h1
        obtain rfl : ((.str ".[]()<>|&!*+?{}\\") : PyI.D) = d := Option.some.inj h2
        refine' PyI.conStr KX G ?c; (case c => k_is)
      · obtain rfl : ("OPENING" : PySem.Str) = x := Option.some.inj h1
        obtain rfl : ((.str ".[<(!\\") : PyI.D) = d := Option.some.inj h2
        refine' PyI.conStr KX G ?c; (case c => k_is)
      · obtain rfl : ("MOST_BRACKETS" : PySem.Str) = x := Option.some.inj h1
        obtain rfl : ((.int 6) : PyI.D) = d := Option.some.inj h2
        refine' PyI.conInt KX G ?c; (case c => k_is)
      · obtain rfl : ("MOST_SPANS" : PySem.Str) = x := Option.some.inj h1
        obtain rfl : ((.int 12) : PyI.D) = d := Option.some.inj h2
        refine' PyI.conInt KX G ?c; (case c => k_is)
      · obtain rfl : ("MOST_SIGNS" : PySem.Str) = x := Option.some.inj h1
        obtain rfl : ((.int 60) : PyI.D) = d := Option.some.inj h2
        refine' PyI.conInt KX G ?c; (case c => k_is)
      · obtain rfl : ("MOST_DEEP" : PySem.Str) = x := Option.some.inj h1
        obtain rfl : ((.int 12) : PyI.D) = d := Option.some.inj h2
        refine' PyI.conInt KX G ?c; (case c => k_is)
      · cases h1
    case dic =>
      intro g x h1
      rcases g with _ | g
      · obtain rfl : ("REPEATS" : PySem.Str) = x := Option.some.inj h1
        refine' PyI.dicAt KX G ?a ?l ?lit ?low ?er; (case a => k_is); (case l => k_is)
        case lit => exact ⟨⟨_, _, rfl, rfl⟩, ⟨_, _, rfl, rfl⟩, ⟨_, _, rfl, rfl⟩, trivial⟩
        case low => first | rfl | decide
        case er =>
          refine' .cons ⟨⟨_, rfl⟩, ?e0⟩ (.cons ⟨⟨_, rfl⟩, ?e1⟩ (.cons ⟨⟨_, rfl⟩, ?e2⟩ (.nil)))
          (case e0 => refine' PyI.entTup (vs := [.int 0, .non]) (ds := [.int 0, .non]) ?l ?c ?d ?z ?v ?r; (case l => k_is); (case c => rfl); (case d => rfl); (case z => decide); (case v => exact .cons ⟨_, rfl⟩ (.cons rfl (.nil))); (case r => exact fun _ _ => .cons (.int _) (.cons .non (.nil))))
          (case e1 => refine' PyI.entTup (vs := [.int 1, .non]) (ds := [.int 1, .non]) ?l ?c ?d ?z ?v ?r; (case l => k_is); (case c => rfl); (case d => rfl); (case z => decide); (case v => exact .cons ⟨_, rfl⟩ (.cons rfl (.nil))); (case r => exact fun _ _ => .cons (.int _) (.cons .non (.nil))))
          (case e2 => refine' PyI.entTup (vs := [.int 0, .int 1]) (ds := [.int 0, .int 1]) ?l ?c ?d ?z ?v ?r; (case l => k_is); (case c => rfl); (case d => rfl); (case z => decide); (case v => exact .cons ⟨_, rfl⟩ (.cons ⟨_, rfl⟩ (.nil))); (case r => exact fun _ _ => .cons (.int _) (.cons (.int _) (.nil))))
      · cases h1
    case cls =>
      intro c x fl h1
      rcases c with _ | c
      · obtain ⟨rfl, rfl⟩ : ("BadText" : PySem.Str) = x ∧ (["reason", "place"] : List PySem.Str) = fl := Prod.mk.inj (Option.some.inj h1)
        refine' ⟨PyI.cls2_all KX G ?y_a ?y_lC ?y_hbm ?y_sa ?y_exC ?y_tyC ?y_kC ?y_ga ?y_gg ?y_hd ?y_ha ?y_hn ?y_ht ?y_hm ?y_ifi ?y_ity ?y_lI ?y_hcd ?y_lD ?y_lc ?y_hc ?y_hs ?y_ho ?y_hal ?y_hv ?y_sup ?y_hno ?y_hno2 ?y_hss ?y_hp ?y_har ?y_hf ?y_hpf ?y_htp ?y_hb ?y_S ?y_hks ?y_hx1 ?y_hx2 ?y_hy1 ?y_hy2 ?y_hz ?y_hce ?y_hsw, rfl, by decide⟩
        (case y_a => k_is); (case y_lC => k_is); (case y_hbm => rfl); (case y_sa => k_is); (case y_exC => k_is); (case y_tyC => k_is); (case y_kC => k_is); (case y_ga => k_is); (case y_gg => k_is); (case y_hd => k_is); (case y_ha => k_is); (case y_hn => k_is); (case y_ht => k_is); (case y_hm => k_is); (case y_ifi => k_is); (case y_ity => k_is); (case y_lI => k_is); (case y_hcd => k_is); (case y_lD => k_is); (case y_lc => k_is); (case y_hc => k_is); (case y_hs => k_is); (case y_ho => k_is); (case y_hal => ks_is); (case y_hv => k_is); (case y_sup => k_is); (case y_hno => k_is); (case y_hno2 => k_is); (case y_hss => k_is); (case y_hp => rfl); (case y_har => rfl); (case y_hf => rfl); (case y_hpf => first | rfl | decide +kernel); (case y_htp => first | rfl | decide +kernel); (case y_hb => exact fun us hl => match us, hl with | [_, _, _], _ => rfl); (case y_S => first | rfl | decide +kernel); (case y_hks => rfl); (case y_hx1 => decide); (case y_hx2 => decide); (case y_hy1 => decide); (case y_hy2 => decide); (case y_hz => decide); (case y_hce => exact fun env => ⟨_, rfl⟩); (case y_hsw => exact fun _ => rfl)
      · cases h1
    case isx =>
      intro c x b h1
      simp only [PyI.K12.prg, PyI.K12.tb, List.mem_cons, Prod.mk.injEq, List.not_mem_nil, or_false] at h1
      rcases h1 with ⟨rfl, rfl, rfl⟩ | ⟨rfl, rfl, rfl⟩ | ⟨rfl, rfl, rfl⟩ | ⟨rfl, rfl, rfl⟩
      · refine' PyI.isxR KX G ?y_a ?y_hc ?y_ht ?y_hs ?y_hne; (case y_a => k_is); (case y_hc => k_is); (case y_ht => k_is); (case y_hs => k_is); (case y_hne => first | rfl | decide)
      · refine' PyI.isxB (T := "ValueError") KX G ?y_a ?y_hb (by decide) ?y_hm ?y_hs; (case y_a => k_is); (case y_hb => first | boot_by_name | rfl | kernel_rfl); (case y_hm => first | rfl | decide +kernel); (case y_hs => k_is)
      · refine' PyI.isxR KX G ?y_a ?y_hc ?y_ht ?y_hs ?y_hne; (case y_a => k_is); (case y_hc => k_is); (case y_ht => k_is); (case y_hs => k_is); (case y_hne => first | rfl | decide)
      · refine' PyI.isxR KX G ?y_a ?y_hc ?y_ht ?y_hs ?y_hne; (case y_a => k_is); (case y_hc => k_is); (case y_ht => k_is); (case y_hs => k_is); (case y_hne => first | rfl | decide)
    case own =>
      intro o ho
      simp only [PyI.K12.prg, PyI.K12.tb, List.mem_cons, List.not_mem_nil, or_false] at ho
      rcases ho with rfl
      · refine' ⟨⟨?o1, ?o2, ?o3, ?o4⟩, ?o5, ?o6, ?o7, ?o8⟩
        (case o1 => k_is); (case o2 => k_is); (case o3 => k_is); (case o4 => k_is); (case o7 => k_is); (case o8 => k_is)
        case o6 => refine' PySem.W.mg_of KX G ?a; (case a => k_is)
        case o5 =>
          intro f hf
          simp only [List.mem_cons, List.not_mem_nil, or_false] at hf
          rcases hf with rfl | rfl | rfl
          · unfold L2.NoAttr; k_is
          · unfold L2.NoAttr; k_is
          · unfold L2.NoAttr; k_is
    case met =>
      intro d hd c m hm
      simp only [PyI.K12.prg, List.mem_cons, List.not_mem_nil, or_false] at hd
      rcases hd with rfl | rfl | rfl | rfl | rfl | rfl | rfl | rfl | rfl | rfl | rfl | rfl | rfl | rfl | rfl | rfl | rfl | rfl | rfl | rfl | rfl | rfl | rfl | rfl | rfl | rfl | rfl | rfl | rfl | rfl | rfl | rfl | rfl | rfl | rfl | rfl | rfl
      · have e : PyI.K12.prg.tb.mets.lookup PyI.K12.f_is_leaf.name = none := by kernel_rfl
        rw [e] at hm; cases hm
      · have e : PyI.K12.prg.tb.mets.lookup PyI.K12.f_parts_in.name = none := by kernel_rfl
        rw [e] at hm; cases hm
      · have e : PyI.K12.prg.tb.mets.lookup PyI.K12.f_deep_of.name = none := by kernel_rfl
        rw [e] at hm; cases hm
      · have e : PyI.K12.prg.tb.mets.lookup PyI.K12.f_read_pattern.name = none := by kernel_rfl
        rw [e] at hm; cases hm
      · have e : PyI.K12.prg.tb.mets.lookup PyI.K12.f_escaped.name = none := by kernel_rfl
        rw [e] at hm; cases hm
      · have e : PyI.K12.prg.tb.mets.lookup PyI.K12.f_spans_text.name = none := by kernel_rfl
        rw [e] at hm; cases hm
      · have e : PyI.K12.prg.tb.mets.lookup PyI.K12.f_leaf_text.name = none := by kernel_rfl
        rw [e] at hm; cases hm
      · have e : PyI.K12.prg.tb.mets.lookup PyI.K12.f_repeat_text.name = none := by kernel_rfl
        rw [e] at hm; cases hm
      · have e : PyI.K12.prg.tb.mets.lookup PyI.K12.f_part_written.name = none := by kernel_rfl
        rw [e] at hm; cases hm
      · have e : PyI.K12.prg.tb.mets.lookup PyI.K12.f_written.name = none := by kernel_rfl
        rw [e] at hm; cases hm
      · have e : PyI.K12.prg.tb.mets.lookup PyI.K12.f_write_pattern.name = none := by kernel_rfl
        rw [e] at hm; cases hm
      · have e : PyI.K12.prg.tb.mets.lookup PyI.K12.f_law_cell.name = none := by kernel_rfl
        rw [e] at hm; cases hm
      · have e : PyI.K12.prg.tb.mets.lookup PyI.K12.f_law_digits.name = none := by kernel_rfl
        rw [e] at hm; cases hm
      · have e : PyI.K12.prg.tb.mets.lookup PyI.K12.f_law_draw.name = none := by kernel_rfl
        rw [e] at hm; cases hm
      · have e : PyI.K12.prg.tb.mets.lookup PyI.K12.f_law_pick.name = none := by kernel_rfl
        rw [e] at hm; cases hm
      · have e : PyI.K12.prg.tb.mets.lookup PyI.K12.f_law_like.name = none := by kernel_rfl
        rw [e] at hm; cases hm
      · have e : PyI.K12.prg.tb.mets.lookup PyI.K12.f_law_table.name = none := by kernel_rfl
        rw [e] at hm; cases hm
      · have e : PyI.K12.prg.tb.mets.lookup PyI.K12.f_law_good.name = none := by kernel_rfl
        rw [e] at hm; cases hm
      · have e : PyI.K12.prg.tb.mets.lookup PyI.K12.f_law_told.name = none := by kernel_rfl
        rw [e] at hm; cases hm
      · have e : PyI.K12.prg.tb.mets.lookup PyI.K12.f_law.name = none := by kernel_rfl
        rw [e] at hm; cases hm
      · have e : PyI.K12.prg.tb.mets.lookup PyI.K12.f_Reader___init__.name = some (100, ("__init__" : PySem.Str)) := by kernel_rfl
        rw [e] at hm; cases hm
        refine' PyI.metAt (name := "__init__") (qual := "Reader.__init__") (st := PyI.K12.meth 15 0) PyI.K12.bn_Reader___init__ ?a ?f ?l ?c ?k; (case a => k_is); (case f => k_is); (case l => k_is); (case c => k_is); (case k => k_is)
      · have e : PyI.K12.prg.tb.mets.lookup PyI.K12.f_Reader_sign.name = some (100, ("sign" : PySem.Str)) := by kernel_rfl
        rw [e] at hm; cases hm
        refine' PyI.metAt (name := "sign") (qual := "Reader.sign") (st := PyI.K12.meth 15 1) PyI.K12.bn_Reader_sign ?a ?f ?l ?c ?k; (case a => k_is); (case f => k_is); (case l => k_is); (case c => k_is); (case k => k_is)
      · have e : PyI.K12.prg.tb.mets.lookup PyI.K12.f_Reader_refuse.name = some (100, ("refuse" : PySem.Str)) := by kernel_rfl
        rw [e] at hm; cases hm
        refine' PyI.metAt (name := "refuse") (qual := "Reader.refuse") (st := PyI.K12.meth 15 2) PyI.K12.bn_Reader_refuse ?a ?f ?l ?c ?k; (case a => k_is); (case f => k_is); (case l => k_is); (case c => k_is); (case k => k_is)
      · have e : PyI.K12.prg.tb.mets.lookup PyI.K12.f_Reader_whole.name = some (100, ("whole" : PySem.Str)) := by kernel_rfl
        rw [e] at hm; cases hm
        refine' PyI.metAt (name := "whole") (qual := "Reader.whole") (st := PyI.K12.meth 15 3) PyI.K12.bn_Reader_whole ?a ?f ?l ?c ?k; (case a => k_is); (case f => k_is); (case l => k_is); (case c => k_is); (case k => k_is)
      · have e : PyI.K12.prg.tb.mets.lookup PyI.K12.f_Reader_choice.name = some (100, ("choice" : PySem.Str)) := by kernel_rfl
        rw [e] at hm; cases hm
        refine' PyI.metAt (name := "choice") (qual := "Reader.choice") (st := PyI.K12.meth 15 4) PyI.K12.bn_Reader_choice ?a ?f ?l ?c ?k; (case a => k_is); (case f => k_is); (case l => k_is); (case c => k_is); (case k => k_is)
      · have e : PyI.K12.prg.tb.mets.lookup PyI.K12.f_Reader_both.name = some (100, ("both" : PySem.Str)) := by kernel_rfl
        rw [e] at hm; cases hm
        refine' PyI.metAt (name := "both") (qual := "Reader.both") (st := PyI.K12.meth 15 5) PyI.K12.bn_Reader_both ?a ?f ?l ?c ?k; (case a => k_is); (case f => k_is); (case l => k_is); (case c => k_is); (case k => k_is)
      · have e : PyI.K12.prg.tb.mets.lookup PyI.K12.f_Reader_row.name = some (100, ("row" : PySem.Str)) := by kernel_rfl
        rw [e] at hm; cases hm
        refine' PyI.metAt (name := "row") (qual := "Reader.row") (st := PyI.K12.meth 15 6) PyI.K12.bn_Reader_row ?a ?f ?l ?c ?k; (case a => k_is); (case f => k_is); (case l => k_is); (case c => k_is); (case k => k_is)
      · have e : PyI.K12.prg.tb.mets.lookup PyI.K12.f_Reader_begins.name = some (100, ("begins" : PySem.Str)) := by kernel_rfl
        rw [e] at hm; cases hm
        refine' PyI.metAt (name := "begins") (qual := "Reader.begins") (st := PyI.K12.meth 15 7) PyI.K12.bn_Reader_begins ?a ?f ?l ?c ?k; (case a => k_is); (case f => k_is); (case l => k_is); (case c => k_is); (case k => k_is)
      · have e : PyI.K12.prg.tb.mets.lookup PyI.K12.f_Reader_denied.name = some (100, ("denied" : PySem.Str)) := by kernel_rfl
        rw [e] at hm; cases hm
        refine' PyI.metAt (name := "denied") (qual := "Reader.denied") (st := PyI.K12.meth 15 8) PyI.K12.bn_Reader_denied ?a ?f ?l ?c ?k; (case a => k_is); (case f => k_is); (case l => k_is); (case c => k_is); (case k => k_is)
      · have e : PyI.K12.prg.tb.mets.lookup PyI.K12.f_Reader_repeats.name = some (100, ("repeats" : PySem.Str)) := by kernel_rfl
        rw [e] at hm; cases hm
        refine' PyI.metAt (name := "repeats") (qual := "Reader.repeats") (st := PyI.K12.meth 15 9) PyI.K12.bn_Reader_repeats ?a ?f ?l ?c ?k; (case a => k_is); (case f => k_is); (case l => k_is); (case c => k_is); (case k => k_is)
      · have e : PyI.K12.prg.tb.mets.lookup PyI.K12.f_Reader_bounds.name = some (100, ("bounds" : PySem.Str)) := by kernel_rfl
        rw [e] at hm; cases hm
        refine' PyI.metAt (name := "bounds") (qual := "Reader.bounds") (st := PyI.K12.meth 15 10) PyI.K12.bn_Reader_bounds ?a ?f ?l ?c ?k; (case a => k_is); (case f => k_is); (case l => k_is); (case c => k_is); (case k => k_is)
      · have e : PyI.K12.prg.tb.mets.lookup PyI.K12.f_Reader_digit.name = some (100, ("digit" : PySem.Str)) := by kernel_rfl
        rw [e] at hm; cases hm
        refine' PyI.metAt (name := "digit") (qual := "Reader.digit") (st := PyI.K12.meth 15 11) PyI.K12.bn_Reader_digit ?a ?f ?l ?c ?k; (case a => k_is); (case f => k_is); (case l => k_is); (case c => k_is); (case k => k_is)
      · have e : PyI.K12.prg.tb.mets.lookup PyI.K12.f_Reader_due.name = some (100, ("due" : PySem.Str)) := by kernel_rfl
        rw [e] at hm; cases hm
        refine' PyI.metAt (name := "due") (qual := "Reader.due") (st := PyI.K12.meth 15 12) PyI.K12.bn_Reader_due ?a ?f ?l ?c ?k; (case a => k_is); (case f => k_is); (case l => k_is); (case c => k_is); (case k => k_is)
      · have e : PyI.K12.prg.tb.mets.lookup PyI.K12.f_Reader_single.name = some (100, ("single" : PySem.Str)) := by kernel_rfl
        rw [e] at hm; cases hm
        refine' PyI.metAt (name := "single") (qual := "Reader.single") (st := PyI.K12.meth 15 13) PyI.K12.bn_Reader_single ?a ?f ?l ?c ?k; (case a => k_is); (case f => k_is); (case l => k_is); (case c => k_is); (case k => k_is)
      · have e : PyI.K12.prg.tb.mets.lookup PyI.K12.f_Reader_bracket.name = some (100, ("bracket" : PySem.Str)) := by kernel_rfl
        rw [e] at hm; cases hm
        refine' PyI.metAt (name := "bracket") (qual := "Reader.bracket") (st := PyI.K12.meth 15 14) PyI.K12.bn_Reader_bracket ?a ?f ?l ?c ?k; (case a => k_is); (case f => k_is); (case l => k_is); (case c => k_is); (case k => k_is)
      · have e : PyI.K12.prg.tb.mets.lookup PyI.K12.f_Reader_group.name = some (100, ("group" : PySem.Str)) := by kernel_rfl
        rw [e] at hm; cases hm
        refine' PyI.metAt (name := "group") (qual := "Reader.group") (st := PyI.K12.meth 15 15) PyI.K12.bn_Reader_group ?a ?f ?l ?c ?k; (case a => k_is); (case f => k_is); (case l => k_is); (case c => k_is); (case k => k_is)
      · have e : PyI.K12.prg.tb.mets.lookup PyI.K12.f_Reader_member.name = some (100, ("member" : PySem.Str)) := by kernel_rfl
        rw [e] at hm; cases hm
        refine' PyI.metAt (name := "member") (qual := "Reader.member") (st := PyI.K12.meth 15 16) PyI.K12.bn_Reader_member ?a ?f ?l ?c ?k; (case a => k_is); (case f => k_is); (case l => k_is); (case c => k_is); (case k => k_is)
    case fn =>
      intro d hd hm
      simp only [PyI.K12.prg, List.mem_cons, List.not_mem_nil, or_false] at hd
      rcases hd with rfl | rfl | rfl | rfl | rfl | rfl | rfl | rfl | rfl | rfl | rfl | rfl | rfl | rfl | rfl | rfl | rfl | rfl | rfl | rfl | rfl | rfl | rfl | rfl | rfl | rfl | rfl | rfl | rfl | rfl | rfl | rfl | rfl | rfl | rfl | rfl | rfl
      · refine' PyI.defAt (name := "is_leaf") (qual := "is_leaf") (st := PyI.K12.top 2) KX G PyI.K12.bn_is_leaf ?a ?l ?c ?k; (case a => k_is); (case l => k_is); (case c => k_is); (case k => k_is)
      · refine' PyI.defAt (name := "parts_in") (qual := "parts_in") (st := PyI.K12.top 3) KX G PyI.K12.bn_parts_in ?a ?l ?c ?k; (case a => k_is); (case l => k_is); (case c => k_is); (case k => k_is)
      · refine' PyI.defAt (name := "deep_of") (qual := "deep_of") (st := PyI.K12.top 19) KX G PyI.K12.bn_deep_of ?a ?l ?c ?k; (case a => k_is); (case l => k_is); (case c => k_is); (case k => k_is)
      · refine' PyI.defAt (name := "read_pattern") (qual := "read_pattern") (st := PyI.K12.top 20) KX G PyI.K12.bn_read_pattern ?a ?l ?c ?k; (case a => k_is); (case l => k_is); (case c => k_is); (case k => k_is)
      · refine' PyI.defAt (name := "escaped") (qual := "escaped") (st := PyI.K12.top 21) KX G PyI.K12.bn_escaped ?a ?l ?c ?k; (case a => k_is); (case l => k_is); (case c => k_is); (case k => k_is)
      · refine' PyI.defAt (name := "spans_text") (qual := "spans_text") (st := PyI.K12.top 22) KX G PyI.K12.bn_spans_text ?a ?l ?c ?k; (case a => k_is); (case l => k_is); (case c => k_is); (case k => k_is)
      · refine' PyI.defAt (name := "leaf_text") (qual := "leaf_text") (st := PyI.K12.top 23) KX G PyI.K12.bn_leaf_text ?a ?l ?c ?k; (case a => k_is); (case l => k_is); (case c => k_is); (case k => k_is)
      · refine' PyI.defAt (name := "repeat_text") (qual := "repeat_text") (st := PyI.K12.top 24) KX G PyI.K12.bn_repeat_text ?a ?l ?c ?k; (case a => k_is); (case l => k_is); (case c => k_is); (case k => k_is)
      · refine' PyI.defAt (name := "part_written") (qual := "part_written") (st := PyI.K12.top 25) KX G PyI.K12.bn_part_written ?a ?l ?c ?k; (case a => k_is); (case l => k_is); (case c => k_is); (case k => k_is)
      · refine' PyI.defAt (name := "written") (qual := "written") (st := PyI.K12.top 26) KX G PyI.K12.bn_written ?a ?l ?c ?k; (case a => k_is); (case l => k_is); (case c => k_is); (case k => k_is)
      · refine' PyI.defAt (name := "write_pattern") (qual := "write_pattern") (st := PyI.K12.top 27) KX G PyI.K12.bn_write_pattern ?a ?l ?c ?k; (case a => k_is); (case l => k_is); (case c => k_is); (case k => k_is)
      · refine' PyI.defAt (name := "_law_cell") (qual := "_law_cell") (st := PyI.K12.top 29) KX G PyI.K12.bn_law_cell ?a ?l ?c ?k; (case a => k_is); (case l => k_is); (case c => k_is); (case k => k_is)
      · refine' PyI.defAt (name := "_law_digits") (qual := "_law_digits") (st := PyI.K12.top 30) KX G PyI.K12.bn_law_digits ?a ?l ?c ?k; (case a => k_is); (case l => k_is); (case c => k_is); (case k => k_is)
      · refine' PyI.defAt (name := "_law_draw") (qual := "_law_draw") (st := PyI.K12.top 31) KX G PyI.K12.bn_law_draw ?a ?l ?c ?k; (case a => k_is); (case l => k_is); (case c => k_is); (case k => k_is)
      · refine' PyI.defAt (name := "_law_pick") (qual := "_law_pick") (st := PyI.K12.top 32) KX G PyI.K12.bn_law_pick ?a ?l ?c ?k; (case a => k_is); (case l => k_is); (case c => k_is); (case k => k_is)
      · refine' PyI.defAt (name := "_law_like") (qual := "_law_like") (st := PyI.K12.top 33) KX G PyI.K12.bn_law_like ?a ?l ?c ?k; (case a => k_is); (case l => k_is); (case c => k_is); (case k => k_is)
      · refine' PyI.defAt (name := "_law_table") (qual := "_law_table") (st := PyI.K12.top 34) KX G PyI.K12.bn_law_table ?a ?l ?c ?k; (case a => k_is); (case l => k_is); (case c => k_is); (case k => k_is)
      · refine' PyI.defAt (name := "_law_good") (qual := "_law_good") (st := PyI.K12.top 35) KX G PyI.K12.bn_law_good ?a ?l ?c ?k; (case a => k_is); (case l => k_is); (case c => k_is); (case k => k_is)
      · refine' PyI.defAt (name := "_law_told") (qual := "_law_told") (st := PyI.K12.top 36) KX G PyI.K12.bn_law_told ?a ?l ?c ?k; (case a => k_is); (case l => k_is); (case c => k_is); (case k => k_is)
      · refine' PyI.defAt (name := "law") (qual := "law") (st := PyI.K12.top 37) KX G PyI.K12.bn_law ?a ?l ?c ?k; (case a => k_is); (case l => k_is); (case c => k_is); (case k => k_is)
      · have e : PyI.K12.prg.tb.mets.lookup PyI.K12.f_Reader___init__.name = some (100, ("__init__" : PySem.Str)) := by kernel_rfl
        rw [e] at hm; cases hm
      · have e : PyI.K12.prg.tb.mets.lookup PyI.K12.f_Reader_sign.name = some (100, ("sign" : PySem.Str)) := by kernel_rfl
        rw [e] at hm; cases hm
      · have e : PyI.K12.prg.tb.mets.lookup PyI.K12.f_Reader_refuse.name = some (100, ("refuse" : PySem.Str)) := by kernel_rfl
        rw [e] at hm; cases hm
      · have e : PyI.K12.prg.tb.mets.lookup PyI.K12.f_Reader_whole.name = some (100, ("whole" : PySem.Str)) := by kernel_rfl
        rw [e] at hm; cases hm
      · have e : PyI.K12.prg.tb.mets.lookup PyI.K12.f_Reader_choice.name = some (100, ("choice" : PySem.Str)) := by kernel_rfl
        rw [e] at hm; cases hm
      · have e : PyI.K12.prg.tb.mets.lookup PyI.K12.f_Reader_both.name = some (100, ("both" : PySem.Str)) := by kernel_rfl
        rw [e] at hm; cases hm
      · have e : PyI.K12.prg.tb.mets.lookup PyI.K12.f_Reader_row.name = some (100, ("row" : PySem.Str)) := by kernel_rfl
        rw [e] at hm; cases hm
      · have e : PyI.K12.prg.tb.mets.lookup PyI.K12.f_Reader_begins.name = some (100, ("begins" : PySem.Str)) := by kernel_rfl
        rw [e] at hm; cases hm
      · have e : PyI.K12.prg.tb.mets.lookup PyI.K12.f_Reader_denied.name = some (100, ("denied" : PySem.Str)) := by kernel_rfl
        rw [e] at hm; cases hm
      · have e : PyI.K12.prg.tb.mets.lookup PyI.K12.f_Reader_repeats.name = some (100, ("repeats" : PySem.Str)) := by kernel_rfl
        rw [e] at hm; cases hm
      · have e : PyI.K12.prg.tb.mets.lookup PyI.K12.f_Reader_bounds.name = some (100, ("bounds" : PySem.Str)) := by kernel_rfl
        rw [e] at hm; cases hm
      · have e : PyI.K12.prg.tb.mets.lookup PyI.K12.f_Reader_digit.name = some (100, ("digit" : PySem.Str)) := by kernel_rfl
        rw [e] at hm; cases hm
      · have e : PyI.K12.prg.tb.mets.lookup PyI.K12.f_Reader_due.name = some (100, ("due" : PySem.Str)) := by kernel_rfl
        rw [e] at hm; cases hm
      · have e : PyI.K12.prg.tb.mets.lookup PyI.K12.f_Reader_single.name = some (100, ("single" : PySem.Str)) := by kernel_rfl
        rw [e] at hm; cases hm
      · have e : PyI.K12.prg.tb.mets.lookup PyI.K12.f_Reader_bracket.name = some (100, ("bracket" : PySem.Str)) := by kernel_rfl
        rw [e] at hm; cases hm
      · have e : PyI.K12.prg.tb.mets.lookup PyI.K12.f_Reader_group.name = some (100, ("group" : PySem.Str)) := by kernel_rfl
        rw [e] at hm; cases hm
      · have e : PyI.K12.prg.tb.mets.lookup PyI.K12.f_Reader_member.name = some (100, ("member" : PySem.Str)) := by kernel_rfl
        rw [e] at hm; cases hm
#print axioms PySem.Challenge.cw_sensekept_k12_rules_wrong_texts_holds
