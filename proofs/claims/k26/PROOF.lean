import PyProof.Rows.All
import Wide.All
import OpenK.AllK
import Wide.FinOn
import HandS.ForMost
import HandS.ForExc
import HandS.ForSpec
import HandS.Style
import HandS.Dict
import HandS.Iter
import HandS.Flt
import HandS.TupAny
import KE.GoesEnum
import PyProof.EqKinds
import HandS.IsInst
import HandS.StrMore
import HandS.StrSplit
import HandS.Flow
import HandS.CallSlots
import HandS.ReplaceLit
import HandS.More
import HandS.WrittenGet
import HandS.WideBits
import HandS.SortInts
import HandS.ExcInit
import HandS.ExcField
import HandS.ExcIs
import HandS.Translate
import HandS.FStr
import HandS.NoneIn
import HandS.Nested
import KE.KExcSuper
import KE.RegKSuper
import KE.KExcIs
import HandS.ReplaceDef
import HandS.ReplaceList
import PySem.Challenge.RW_sensekept_k26_memory_distance
set_option Elab.async false
set_option linter.all false
set_option maxRecDepth 100000
set_option maxHeartbeats 4000000
/-! A1: data values D, the small heap Mu, how they stand in the abstract heap. -/
namespace PyI
open PySem L2

inductive D where
  | non | bl (b : Bool) | int (i : Int) | str (s : Str)
  | tup (l : List D) | lst (l : List D) | ref (n : Nat) | kl (l : List D) | kt (l : List D)
  deriving Inhabited

/-- an object that may change -/
inductive MO where
  | lst (l : List D)
  | dead
  | ins (c : Nat) (fs : List (Str × D))
  | dk (kvs : List (Key × D))
  | dt (kvs : List (List Key × D))
  deriving Inhabited

abbrev Mu := List MO
abbrev Rho := List (Option D)

/-- the part of SqT, SqL that no heap changes -/
def TK (K : PySem.W.Frag) (a : Addr) (xs : List V) : Prop := SqT K (fun _ => none) a xs
def LK (K : PySem.W.Frag) (a : Addr) (xs : List V) : Prop := SqL K (fun _ => none) a xs
theorem TK.sq {K : PySem.W.Frag} {H : Hp} {a : Addr} {xs : List V} (h : TK K a xs) : SqT K H a xs := by
  rcases h with h | h
  · rcases h with h | ⟨o, h⟩ <;> cases h
  · exact .inr h
theorem LK.sq {K : PySem.W.Frag} {H : Hp} {a : Addr} {xs : List V} (h : LK K a xs) : SqL K H a xs := by
  rcases h with h | h
  · rcases h with h | ⟨o, h⟩ <;> cases h
  · exact .inr h
/-- our addresses: of the small heap's objects, by number; and what else is kept out of the data -/
structure AM where
  ix : List Addr
  ex : List Addr
def AM.out (M : AM) (a : Addr) : Prop := a ∉ M.ix ∧ a ∉ M.ex
abbrev AM.hide (M : AM) (p : Addr) : AM := { M with ex := p :: M.ex }
abbrev AM.add (M : AM) (p : Addr) : AM := { M with ix := M.ix ++ [p] }
abbrev AM.cut (M : AM) (n : Nat) : AM := { M with ix := M.ix.take n }

def TA' (_ : PySem.W.Frag) (H : Hp) (M : AM) (a : Addr) (xs : List V) : Prop := H a = some (.tup xs) ∧ M.out a
/-- a list of the written part, or one of ours -/
def KA' (K : PySem.W.Frag) (H : Hp) (M : AM) (a : Addr) (xs : List V) : Prop := (Rd H a (.lst xs) ∧ M.out a) ∨ LK K a xs
def LA' (_ : PySem.W.Frag) (H : Hp) (M : AM) (a : Addr) (xs : List V) : Prop := Rd H a (.lst xs) ∧ M.out a
section
variable {K : PySem.W.Frag} {H H' H1 H2 : Hp} {M M' M1 M2 : AM} {a p : Addr} {xs : List V}
theorem TA'.sq (h : TA' K H M a xs) : SqT K H a xs := .inl (.inl h.1)
theorem KA'.sq (h : KA' K H M a xs) : SqL K H a xs := by
  rcases h with h | h
  · exact .inl h.1
  · exact h.sq
theorem LA'.sq (h : LA' K H M a xs) : SqL K H a xs := .inl h.1
end

mutual
inductive Rep (K : PySem.W.Frag) (H : Hp) (M : AM) : V → D → Prop
  | non : Rep K H M .non .non
  | bl (b : Bool) : Rep K H M (.bl b) (.bl b)
  | int (i : Int) : Rep K H M (.int i) (.int i)
  | str (x : Str) : Rep K H M (.str x) (.str x)
  | tup {a : Addr} {xs : List V} {ds : List D} : TA' K H M a xs → Reps K H M xs ds → Rep K H M (.ref a) (.tup ds)
  | lst {a : Addr} {xs : List V} {ds : List D} : LA' K H M a xs → Reps K H M xs ds → Rep K H M (.ref a) (.lst ds)
  | ref {a : Addr} {n : Nat} : M.ix[n]? = some a → Rep K H M (.ref a) (.ref n)
  | kl {a : Addr} {xs : List V} {ds : List D} : KA' K H M a xs → Reps K H M xs ds → Rep K H M (.ref a) (.kl ds)
  | kt {a : Addr} {xs : List V} {ds : List D} : TK K a xs → Reps K H M xs ds → Rep K H M (.ref a) (.kt ds)
inductive Reps (K : PySem.W.Frag) (H : Hp) (M : AM) : List V → List D → Prop
  | nil : Reps K H M [] []
  | cons {v : V} {vs : List V} {d : D} {ds : List D} : Rep K H M v d → Reps K H M vs ds → Reps K H M (v :: vs) (d :: ds)
end

/-- how heaps go on: what is tracked and no object of ours stays; our objects keep their places -/
structure Evo (M : AM) (H : Hp) (M' : AM) (H' : Hp) : Prop where
  pre : ∀ (n : Nat) (a : Addr), M.ix[n]? = some a → M'.ix[n]? = some a
  len : M.ix.length ≤ M'.ix.length
  ex : M'.ex = M.ex
  keep : ∀ (a : Addr) (o : HO), H a = some o → a ∉ M.ix → H' a = some o ∧ a ∉ M'.ix

/-- what lets a datum stand: the same for the data alone (addresses may leave ex, and new ones come in) -/
structure Stay (M : AM) (H : Hp) (M' : AM) (H' : Hp) : Prop where
  pre : ∀ (n : Nat) (a : Addr), M.ix[n]? = some a → M'.ix[n]? = some a
  keep : ∀ (a : Addr) (o : HO), H a = some o → M.out a → H' a = some o ∧ M'.out a

section
variable {K : PySem.W.Frag} {H H' H1 H2 : Hp} {M M' M1 M2 : AM} {a p : Addr} {xs : List V} {u o : HO}
theorem Evo.refl (M : AM) (H : Hp) : Evo M H M H := ⟨fun _ _ h => h, Nat.le_refl _, rfl, fun _ _ h n => ⟨h, n⟩⟩
theorem Evo.trans (a : Evo M H M1 H1) (b : Evo M1 H1 M2 H2) : Evo M H M2 H2 :=
  ⟨fun n x h => b.pre n x (a.pre n x h), Nat.le_trans a.len b.len, b.ex.trans a.ex, fun x o h n => b.keep x o (a.keep x o h n).1 (a.keep x o h n).2⟩
theorem Evo.stay (e : Evo M H M' H') : Stay M H M' H' := ⟨e.pre, fun a o h n => ⟨(e.keep a o h n.1).1, (e.keep a o h n.1).2, by rw [e.ex]; exact n.2⟩⟩
theorem Stay.trans (a : Stay M H M1 H1) (b : Stay M1 H1 M2 H2) : Stay M H M2 H2 :=
  ⟨fun n x h => b.pre n x (a.pre n x h), fun x o h n => b.keep x o (a.keep x o h n).1 (a.keep x o h n).2⟩
/-- a new address is kept out -/
theorem Stay.hide (h : H p = none) : Stay M H (M.hide p) H := ⟨fun _ _ q => q, fun a o e n => ⟨e, n.1, by
  show a ∉ p :: M.ex
  rw [List.mem_cons]
  rintro (q | q)
  · exact ne_of_none e h q
  · exact n.2 q⟩⟩
theorem Stay.unhide : Stay (M.hide p) H M H := ⟨fun _ _ q => q, fun a o e n => ⟨e, n.1, fun q => n.2 (List.mem_cons_of_mem _ q)⟩⟩
/-- what is kept out becomes ours -/
theorem Stay.take : Stay (M.hide p) H (M.add p) H := ⟨fun n a q => by
    show (M.ix ++ [p])[n]? = some a
    have z : n < M.ix.length := by
      rcases Nat.lt_or_ge n M.ix.length with z | z
      · exact z
      · rw [List.getElem?_eq_none z] at q; cases q
    rw [List.getElem?_append_left z]; exact q, fun a o e n => ⟨e, by
    show a ∉ M.ix ++ [p]
    rw [List.mem_append, List.mem_singleton]
    rintro (q | q)
    · exact n.1 q
    · exact n.2 (by rw [q]; exact List.mem_cons_self ..), fun q => n.2 (List.mem_cons_of_mem _ q)⟩⟩
/-- what is kept out changes -/
theorem Stay.mutEx (h : p ∈ M.ex) : Stay M H M (upd H p o) := ⟨fun _ _ q => q, fun a u e n => ⟨by rw [upd_ne (fun (q : a = p) => n.2 (by rw [q]; exact h))]; exact e, n⟩⟩
theorem Rd.stay (e : Stay M H M' H') (h : Rd H a u) (n : M.out a) : Rd H' a u ∧ M'.out a := by
  rcases h with h | ⟨o, h⟩
  · exact ⟨.inl (e.keep a _ h n).1, (e.keep a _ h n).2⟩
  · exact ⟨.inr ⟨o, (e.keep a _ h n).1⟩, (e.keep a _ h n).2⟩
theorem TA'.stay (e : Stay M H M' H') (h : TA' K H M a xs) : TA' K H' M' a xs := e.keep a _ h.1 h.2
theorem KA'.stay (e : Stay M H M' H') (h : KA' K H M a xs) : KA' K H' M' a xs := by
  rcases h with h | h
  · exact .inl (Rd.stay e h.1 h.2)
  · exact .inr h
theorem LA'.stay (e : Stay M H M' H') (h : LA' K H M a xs) : LA' K H' M' a xs := Rd.stay e h.1 h.2
end
mutual
theorem Rep.stay {K : PySem.W.Frag} {M M' : AM} {H H' : Hp} (e : Stay M H M' H') : ∀ {v : V} {d : D}, Rep K H M v d → Rep K H' M' v d
  | _, _, .non => .non
  | _, _, .bl b => .bl b
  | _, _, .int i => .int i
  | _, _, .str x => .str x
  | _, _, .tup h r => .tup (h.stay e) (Reps.stay e r)
  | _, _, .lst h r => .lst (h.stay e) (Reps.stay e r)
  | _, _, .kl h r => .kl (h.stay e) (Reps.stay e r)
  | _, _, .kt h r => .kt h (Reps.stay e r)
  | _, _, .ref h => .ref (e.pre _ _ h)
theorem Reps.stay {K : PySem.W.Frag} {M M' : AM} {H H' : Hp} (e : Stay M H M' H') : ∀ {vs : List V} {ds : List D}, Reps K H M vs ds → Reps K H' M' vs ds
  | _, _, .nil => .nil
  | _, _, .cons h r => .cons (Rep.stay e h) (Reps.stay e r)
end
theorem Rep.evo {K : PySem.W.Frag} {M M' : AM} {H H' : Hp} {v : V} {d : D} (e : Evo M H M' H') (h : Rep K H M v d) : Rep K H' M' v d := h.stay e.stay
theorem Reps.evo {K : PySem.W.Frag} {M M' : AM} {H H' : Hp} {vs : List V} {ds : List D} (e : Evo M H M' H') (h : Reps K H M vs ds) : Reps K H' M' vs ds := h.stay e.stay

/-! ### no reference from n on -/
mutual
def below (n : Nat) : D → Bool
  | .ref k => decide (k < n)
  | .tup l => belows n l
  | .lst l => belows n l
  | .kl l => belows n l
  | .kt l => belows n l
  | _ => true
def belows (n : Nat) : List D → Bool
  | [] => true
  | d :: ds => below n d && belows n ds
end
def belowMO (n : Nat) : MO → Bool
  | .lst l => belows n l
  | .dead => true
  | .ins _ fs => fs.all fun p => below n p.2
  | .dk kvs => kvs.all fun p => below n p.2
  | .dt kvs => kvs.all fun p => below n p.2

theorem AM.out.cut {M : AM} {a : Addr} (n : Nat) (h : M.out a) : (M.cut n).out a := ⟨fun q => h.1 (List.mem_of_mem_take q), h.2⟩
mutual
theorem Rep.cut {K : PySem.W.Frag} {M : AM} {H : Hp} (n : Nat) : ∀ {v : V} {d : D}, Rep K H M v d → below n d = true → Rep K H (M.cut n) v d
  | _, _, .non, _ => .non
  | _, _, .bl b, _ => .bl b
  | _, _, .int i, _ => .int i
  | _, _, .str x, _ => .str x
  | _, _, .tup h r, q => .tup ⟨h.1, h.2.cut n⟩ (Reps.cut n r (by simpa only [below] using q))
  | _, _, .kt h r, q => .kt h (Reps.cut n r (by simpa only [below] using q))
  | _, _, .lst h r, q => .lst ⟨h.1, h.2.cut n⟩ (Reps.cut n r (by simpa only [below] using q))
  | _, _, .kl (.inl h) r, q => .kl (.inl ⟨h.1, h.2.cut n⟩) (Reps.cut n r (by simpa only [below] using q))
  | _, _, .kl (.inr h) r, q => .kl (.inr h) (Reps.cut n r (by simpa only [below] using q))
  | _, _, .ref (n := k) h, q => .ref (by
      have q' : k < n := by simpa only [below, decide_eq_true_eq] using q
      show (M.ix.take n)[k]? = _
      rw [List.getElem?_take_of_lt q']; exact h)
theorem Reps.cut {K : PySem.W.Frag} {M : AM} {H : Hp} (n : Nat) : ∀ {vs : List V} {ds : List D}, Reps K H M vs ds → belows n ds = true → Reps K H (M.cut n) vs ds
  | _, _, .nil, _ => .nil
  | _, _, .cons h r, q => by
    simp only [belows, Bool.and_eq_true] at q
    exact .cons (Rep.cut n h q.1) (Reps.cut n r q.2)
end

section
variable {K : PySem.W.Frag} {H H' : Hp} {M : AM}
theorem Reps.length : ∀ {vs : List V} {ds : List D}, Reps K H M vs ds → vs.length = ds.length
  | _, _, .nil => rfl
  | _, _, .cons _ r => congrArg (· + 1) (Reps.length r)
theorem Reps.get : ∀ {vs : List V} {ds : List D} {i : Nat} {d : D}, Reps K H M vs ds → ds[i]? = some d → ∃ v, vs[i]? = some v ∧ Rep K H M v d
  | _, _, 0, _, .cons h _, e => by simp at e; subst e; exact ⟨_, rfl, h⟩
  | _, _, i + 1, d, .cons _ r, e => by
    obtain ⟨v, h1, h2⟩ := Reps.get (i := i) (d := d) r (by simpa using e)
    exact ⟨v, by simpa using h1, h2⟩
theorem Reps.append : ∀ {vs ws : List V} {ds es : List D}, Reps K H M vs ds → Reps K H M ws es → Reps K H M (vs ++ ws) (ds ++ es)
  | _, _, _, _, .nil, s => s
  | _, _, _, _, .cons h r, s => .cons h (Reps.append r s)
theorem Reps.takeL : ∀ {vs : List V} {ds : List D} (n : Nat), Reps K H M vs ds → Reps K H M (vs.take n) (ds.take n)
  | _, _, 0, _ => .nil
  | _, _, _ + 1, .nil => .nil
  | _, _, n + 1, .cons h r => .cons h (Reps.takeL n r)
theorem Reps.dropL : ∀ {vs : List V} {ds : List D} (n : Nat), Reps K H M vs ds → Reps K H M (vs.drop n) (ds.drop n)
  | _, _, 0, r => r
  | _, _, _ + 1, .nil => .nil
  | _, _, n + 1, .cons _ r => Reps.dropL n r
theorem Reps.set {v : V} {d : D} (q : Rep K H M v d) : ∀ {vs : List V} {ds : List D} (n : Nat), Reps K H M vs ds → Reps K H M (vs.set n v) (ds.set n d)
  | _, _, _, .nil => .nil
  | _, _, 0, .cons _ r => .cons q r
  | _, _, n + 1, .cons h r => .cons h (Reps.set q n r)
theorem Reps.rev : ∀ {vs : List V} {ds : List D}, Reps K H M vs ds → Reps K H M vs.reverse ds.reverse
  | _, _, .nil => .nil
  | _, _, .cons h r => by rw [List.reverse_cons, List.reverse_cons]; exact (Reps.rev r).append (.cons h .nil)
theorem Reps.one {v : V} {d : D} (h : Rep K H M v d) : Reps K H M [v] [d] := .cons h .nil
theorem Reps.one_inv {vs : List V} {d : D} (h : Reps K H M vs [d]) : ∃ v, vs = [v] ∧ Rep K H M v d := by
  cases h with
  | cons h r => cases r; exact ⟨_, rfl, h⟩
end

/-! ### the small heap in the abstract one -/
def FRep (K : PySem.W.Frag) (H : Hp) (M : AM) : List (Str × V) → List (Str × D) → Prop := Paired fun p q => p.1 = q.1 ∧ Rep K H M p.2 q.2
def KRep (K : PySem.W.Frag) (H : Hp) (M : AM) : List (Key × V) → List (Key × D) → Prop := Paired fun p q => p.1 = q.1 ∧ Rep K H M p.2 q.2
def TRep (K : PySem.W.Frag) (H : Hp) (M : AM) : List (List Key × V) → List (List Key × D) → Prop := Paired fun p q => p.1 = q.1 ∧ Rep K H M p.2 q.2
theorem paired_imp {α β : Type} {R S : α → β → Prop} (h : ∀ x y, R x y → S x y) : ∀ {xs : List α} {ys : List β}, Paired R xs ys → Paired S xs ys
  | _, _, .nil => .nil
  | _, _, .cons a r => .cons (h _ _ a) (paired_imp h r)

/-- the addresses of the classes, by number -/
structure CTab where
  cls : Nat → Addr
  flds : Nat → List Str

def MRep (K : PySem.W.Frag) (ct : CTab) (H : Hp) (M : AM) (a : Addr) : MO → Prop
  | .lst ds => ∃ xs, H a = some (.lst xs) ∧ Reps K H M xs ds
  | .dead => ∃ o, H a = some o
  | .ins c fs => ∃ dx fvs, H a = some (.ins (ct.cls c) dx fvs) ∧ FRep K H M fvs fs
  | .dk kvs => ∃ ks, H a = some (.dK ks) ∧ KRep K H M ks kvs
  | .dt kvs => ∃ ks, H a = some (.dT ks) ∧ TRep K H M ks kvs

structure RelH (K : PySem.W.Frag) (ct : CTab) (H : Hp) (μ : Mu) (M : AM) : Prop where
  len : M.ix.length = μ.length
  nd : M.ix.Nodup
  at_ : ∀ (n : Nat) (mo : MO), μ[n]? = some mo → ∃ a, M.ix[n]? = some a ∧ MRep K ct H M a mo
  exs : ∀ a ∈ M.ex, (∃ o, H a = some o) ∧ a ∉ M.ix

section
variable {K : PySem.W.Frag} {ct : CTab} {H H' : Hp} {M M' : AM} {a p : Addr} {mo : MO} {μ : Mu} {o : HO}
theorem MRep.is (h : MRep K ct H M a mo) : ∃ o, H a = some o := by
  cases mo with
  | lst ds => obtain ⟨xs, h, _⟩ := h; exact ⟨_, h⟩
  | dead => exact h
  | ins c fs => obtain ⟨dx, fvs, h, _⟩ := h; exact ⟨_, h⟩
  | dk kvs => obtain ⟨ks, h, _⟩ := h; exact ⟨_, h⟩
  | dt kvs => obtain ⟨ks, h, _⟩ := h; exact ⟨_, h⟩
theorem RelH.mem (R : RelH K ct H μ M) {a : Addr} (h : a ∈ M.ix) : ∃ o, H a = some o := by
  obtain ⟨n, hn, e⟩ := List.getElem_of_mem h
  have h1 : n < μ.length := R.len ▸ hn
  obtain ⟨a', e', r⟩ := R.at_ n μ[n] (List.getElem?_eq_getElem h1)
  rw [List.getElem?_eq_getElem hn, e] at e'
  cases e'
  exact r.is
theorem RelH.fresh (R : RelH K ct H μ M) {a : Addr} (h : H a = none) : M.out a := by
  refine ⟨fun q => ?_, fun q => ?_⟩
  · obtain ⟨o, e⟩ := R.mem q
    rw [h] at e; cases e
  · obtain ⟨⟨o, e⟩, _⟩ := R.exs a q
    rw [h] at e; cases e

/-- an object is made that is none of ours -/
theorem Evo.new (h : H p = none) : Evo M H M (upd H p o) :=
  ⟨fun _ _ q => q, Nat.le_refl _, rfl, fun a u e n => ⟨by rw [upd_ne (ne_of_none e h)]; exact e, n⟩⟩
theorem ix_add {l : List Addr} {n : Nat} {a p : Addr} (q : l[n]? = some a) : (l ++ [p])[n]? = some a := by
  have z : n < l.length := by
    rcases Nat.lt_or_ge n l.length with z | z
    · exact z
    · rw [List.getElem?_eq_none z] at q; cases q
  rw [List.getElem?_append_left z]; exact q
/-- an object is made that is ours -/
theorem Evo.own (h : H p = none) : Evo M H (M.add p) (upd H p o) :=
  ⟨fun n a q => ix_add q,
    by show _ ≤ (M.ix ++ [p]).length; simp, rfl, fun a u e n => ⟨by rw [upd_ne (ne_of_none e h)]; exact e, by
      show a ∉ M.ix ++ [p]
      rw [List.mem_append, List.mem_singleton]
      rintro (q | q)
      · exact n q
      · exact ne_of_none e h q⟩⟩
/-- one of ours changes -/
theorem Evo.mut (h : p ∈ M.ix) : Evo M H M (upd H p o) :=
  ⟨fun _ _ q => q, Nat.le_refl _, rfl, fun a u e n => ⟨by rw [upd_ne (fun (q : a = p) => n (by rw [q]; exact h))]; exact e, n⟩⟩

theorem MRep.stay (e : Stay M H M' H') (ha : ∀ o, H a = some o → H' a = some o) (h : MRep K ct H M a mo) : MRep K ct H' M' a mo := by
  cases mo with
  | lst ds => obtain ⟨xs, h, r⟩ := h; exact ⟨xs, ha _ h, r.stay e⟩
  | dead => obtain ⟨o, h⟩ := h; exact ⟨o, ha _ h⟩
  | ins c fs => obtain ⟨dx, fvs, h, r⟩ := h; exact ⟨dx, fvs, ha _ h, paired_imp (fun _ _ q => ⟨q.1, q.2.stay e⟩) r⟩
  | dk kvs => obtain ⟨ks, h, r⟩ := h; exact ⟨ks, ha _ h, paired_imp (fun _ _ q => ⟨q.1, q.2.stay e⟩) r⟩
  | dt kvs => obtain ⟨ks, h, r⟩ := h; exact ⟨ks, ha _ h, paired_imp (fun _ _ q => ⟨q.1, q.2.stay e⟩) r⟩

theorem RelH.new (R : RelH K ct H μ M) (h : H p = none) : RelH K ct (upd H p o) μ M :=
  ⟨R.len, R.nd, fun n mo q => by
    obtain ⟨a, e, r⟩ := R.at_ n mo q
    exact ⟨a, e, r.stay (Evo.new h).stay fun u z => by rw [upd_ne (ne_of_none z h)]; exact z⟩, fun a q => by
    obtain ⟨⟨u, z⟩, y⟩ := R.exs a q
    exact ⟨⟨u, by rw [upd_ne (ne_of_none z h)]; exact z⟩, y⟩⟩
/-- a new object is kept out of the data -/
theorem RelH.hide (R : RelH K ct H μ M) (h : H p = none) : RelH K ct (upd H p o) μ (M.hide p) :=
  ⟨R.len, R.nd, fun n mo q => by
    obtain ⟨a, e, r⟩ := R.at_ n mo q
    exact ⟨a, e, r.stay ((Stay.hide h).trans (Evo.new h).stay) fun u z => by rw [upd_ne (ne_of_none z h)]; exact z⟩, fun a q => by
    rcases List.mem_cons.mp q with z | q
    · subst z; exact ⟨⟨o, upd_same⟩, (R.fresh h).1⟩
    · obtain ⟨⟨u, z⟩, y⟩ := R.exs a q
      exact ⟨⟨u, by rw [upd_ne (ne_of_none z h)]; exact z⟩, y⟩⟩
theorem RelH.unhide (R : RelH K ct H μ (M.hide p)) : RelH K ct H μ M :=
  ⟨R.len, R.nd, fun n mo q => by
    obtain ⟨a, e, r⟩ := R.at_ n mo q
    exact ⟨a, e, r.stay Stay.unhide fun _ z => z⟩, fun a q => R.exs a (List.mem_cons_of_mem _ q)⟩
/-- what is kept out changes -/
theorem RelH.mutEx (R : RelH K ct H μ M) (h : p ∈ M.ex) : RelH K ct (upd H p o) μ M :=
  ⟨R.len, R.nd, fun n mo q => by
    obtain ⟨a, e, r⟩ := R.at_ n mo q
    refine ⟨a, e, r.stay (Stay.mutEx h) fun u z => ?_⟩
    rw [upd_ne (fun (x : a = p) => (R.exs p h).2 (by rw [← x]; exact List.mem_of_getElem? e))]; exact z, fun a q => by
    obtain ⟨⟨u, z⟩, y⟩ := R.exs a q
    by_cases x : a = p
    · subst x; exact ⟨⟨o, upd_same⟩, y⟩
    · exact ⟨⟨u, by rw [upd_ne x]; exact z⟩, y⟩⟩
/-- what was kept out becomes ours -/
theorem RelH.takeIn (R : RelH K ct H μ (M.hide p)) (hn : p ∉ M.ex) (hm : MRep K ct H (M.add p) p mo) : RelH K ct H (μ ++ [mo]) (M.add p) := by
  have hp := (R.exs p (List.mem_cons_self ..)).2
  refine ⟨?_, ?_, fun n mo' q => ?_, fun a q => ?_⟩
  · show (M.ix ++ [p]).length = _
    have := R.len
    simp only [List.length_append, List.length_singleton]
    exact congrArg (· + 1) this
  · show (M.ix ++ [p]).Nodup
    rw [List.nodup_append]
    refine ⟨R.nd, by simp, fun a ha b hb => ?_⟩
    rw [List.mem_singleton] at hb
    rintro rfl
    exact hp (hb ▸ ha)
  · rcases Nat.lt_or_ge n μ.length with z | z
    · rw [List.getElem?_append_left z] at q
      obtain ⟨a, e, r⟩ := R.at_ n mo' q
      exact ⟨a, ix_add e, r.stay Stay.take fun _ z => z⟩
    · rw [List.getElem?_append_right z] at q
      have z1 : n - μ.length = 0 := by
        rcases Nat.eq_zero_or_pos (n - μ.length) with y | y
        · exact y
        · rw [List.getElem?_eq_none (by rw [List.length_singleton]; exact y)] at q; cases q
      rw [z1] at q
      simp at q
      subst q
      refine ⟨p, ?_, hm⟩
      show (M.ix ++ [p])[n]? = some p
      have hl : M.ix.length = μ.length := R.len
      rw [List.getElem?_append_right (by rw [hl]; exact z), hl, z1]
      rfl
  · obtain ⟨x, y⟩ := R.exs a (List.mem_cons_of_mem _ q)
    refine ⟨x, ?_⟩
    show a ∉ M.ix ++ [p]
    rw [List.mem_append, List.mem_singleton]
    rintro (z | z)
    · exact y z
    · exact hn (z ▸ q)
theorem RelH.mut (R : RelH K ct H μ M) {n : Nat} (hp : M.ix[n]? = some p) (hm : MRep K ct (upd H p o) M p mo) : RelH K ct (upd H p o) (μ.set n mo) M := by
  have hpm : p ∈ M.ix := List.mem_of_getElem? hp
  refine ⟨by rw [List.length_set]; exact R.len, R.nd, fun k mo' q => ?_, fun a q => ?_⟩
  · rw [List.getElem?_set] at q
    by_cases e : n = k
    · subst e
      rw [if_pos rfl] at q
      split at q
      · cases q; exact ⟨p, hp, hm⟩
      · cases q
    · rw [if_neg e] at q
      obtain ⟨a, e', r⟩ := R.at_ k mo' q
      refine ⟨a, e', r.stay (Evo.mut hpm).stay fun u z => ?_⟩
      have ne : a ≠ p := fun x => e ((List.getElem?_inj (by
        rcases Nat.lt_or_ge n M.ix.length with y | y
        · exact y
        · rw [List.getElem?_eq_none y] at hp; cases hp) R.nd).mp (by rw [hp, e', x]))
      rw [upd_ne ne]; exact z
  · obtain ⟨⟨u, z⟩, y⟩ := R.exs a q
    exact ⟨⟨u, by rw [upd_ne (fun (x : a = p) => y (by rw [x]; exact hpm))]; exact z⟩, y⟩
theorem RelH.cut (R : RelH K ct H μ M) (n : Nat) (hb : (μ.take n).all (belowMO n) = true) : RelH K ct H (μ.take n) (M.cut n) := by
  refine ⟨by show (M.ix.take n).length = _; rw [List.length_take, List.length_take, R.len], R.nd.sublist (List.take_sublist _ _), fun k mo q => ?_, fun a q => ?_⟩
  · have hk : k < n := by
      rcases Nat.lt_or_ge k n with y | y
      · exact y
      · rw [List.getElem?_eq_none (by rw [List.length_take]; omega)] at q; cases q
    have hb' : belowMO n mo = true := (List.all_eq_true.mp hb) mo (List.mem_of_getElem? q)
    rw [List.getElem?_take_of_lt hk] at q
    obtain ⟨a, e, r⟩ := R.at_ k mo q
    refine ⟨a, by show (M.ix.take n)[k]? = _; rw [List.getElem?_take_of_lt hk]; exact e, ?_⟩
    cases mo with
    | lst ds => obtain ⟨xs, h, r⟩ := r; exact ⟨xs, h, r.cut n hb'⟩
    | dead => exact r
    | ins c fs =>
      obtain ⟨dx, fvs, h, r⟩ := r
      refine ⟨dx, fvs, h, ?_⟩
      have hb2 : ∀ p ∈ fs, below n p.2 = true := by simpa [belowMO, List.all_eq_true] using hb'
      clear hb' q h e
      induction r with
      | nil => exact .nil
      | cons a r ih => exact .cons ⟨a.1, a.2.cut n (hb2 _ (List.mem_cons_self ..))⟩ (ih fun p hp => hb2 p (List.mem_cons_of_mem _ hp))
    | dk kvs =>
      obtain ⟨ks, h, r⟩ := r
      refine ⟨ks, h, ?_⟩
      have hb2 : ∀ p ∈ kvs, below n p.2 = true := by simpa [belowMO, List.all_eq_true] using hb'
      clear hb' q h e
      induction r with
      | nil => exact .nil
      | cons a r ih => exact .cons ⟨a.1, a.2.cut n (hb2 _ (List.mem_cons_self ..))⟩ (ih fun p hp => hb2 p (List.mem_cons_of_mem _ hp))
    | dt kvs =>
      obtain ⟨ks, h, r⟩ := r
      refine ⟨ks, h, ?_⟩
      have hb2 : ∀ p ∈ kvs, below n p.2 = true := by simpa [belowMO, List.all_eq_true] using hb'
      clear hb' q h e
      induction r with
      | nil => exact .nil
      | cons a r ih => exact .cons ⟨a.1, a.2.cut n (hb2 _ (List.mem_cons_self ..))⟩ (ih fun p hp => hb2 p (List.mem_cons_of_mem _ hp))
  · obtain ⟨x, y⟩ := R.exs a q
    exact ⟨x, fun z => y (List.mem_of_mem_take z)⟩
/-- evolution seen from the beginning, when what was made is cut off -/
theorem Evo.cut (e : Evo M H M' H') : Evo M H (M'.cut M.ix.length) H' :=
  ⟨fun n a h => by
      have z : n < M.ix.length := by
        rcases Nat.lt_or_ge n M.ix.length with z | z
        · exact z
        · rw [List.getElem?_eq_none z] at h; cases h
      show (M'.ix.take M.ix.length)[n]? = some a
      rw [List.getElem?_take_of_lt z]; exact e.pre n a h,
    by show _ ≤ (M'.ix.take M.ix.length).length; rw [List.length_take]; exact Nat.le_min.mpr ⟨Nat.le_refl _, e.len⟩, e.ex,
    fun a o h n => ⟨(e.keep a o h n).1, fun q => (e.keep a o h n).2 (List.mem_of_mem_take q)⟩⟩
/-- with one address kept out -/
theorem Evo.hide (e : Evo M H M' H') : Evo (M.hide p) H (M'.hide p) H' := ⟨e.pre, e.len, congrArg (p :: ·) e.ex, e.keep⟩
theorem Evo.unhide (e : Evo (M.hide p) H (M'.hide p) H') : Evo M H M' H' := ⟨e.pre, e.len, (List.cons.inj e.ex).2, e.keep⟩
end

/-- slots -/
structure RelE (K : PySem.W.Frag) (H : Hp) (M : AM) (σ : St) (ρ : Rho) : Prop where
  len : σ.length = ρ.length
  at_ : ∀ (i : Nat) (d : D), ρ[i]? = some (some d) → ∃ v, σ[i]? = some (some v) ∧ Rep K H M v d
section
variable {K : PySem.W.Frag} {H H' : Hp} {M M' : AM} {σ : St} {ρ : Rho}
theorem RelE.stay (e : Stay M H M' H') (R : RelE K H M σ ρ) : RelE K H' M' σ ρ :=
  ⟨R.len, fun i d h => by obtain ⟨v, h1, h2⟩ := R.at_ i d h; exact ⟨v, h1, h2.stay e⟩⟩
theorem RelE.evo (e : Evo M H M' H') (R : RelE K H M σ ρ) : RelE K H' M' σ ρ := R.stay e.stay
theorem RelE.set (R : RelE K H M σ ρ) {v : V} {d : D} (r : Rep K H M v d) (i : Nat) : RelE K H M (σ.set i (some v)) (ρ.set i (some d)) := by
  refine ⟨by rw [List.length_set, List.length_set]; exact R.len, fun k d' h => ?_⟩
  rw [List.getElem?_set] at h ⊢
  by_cases e : i = k
  · rw [if_pos e] at h ⊢
    by_cases z : i < ρ.length
    · rw [if_pos z] at h; cases h
      rw [if_pos (by rw [R.len]; exact z)]
      exact ⟨v, rfl, r⟩
    · rw [if_neg z] at h; cases h
  · rw [if_neg e] at h ⊢
    exact R.at_ k d' h
/-- a slot is emptied -/
theorem RelE.clear (R : RelE K H M σ ρ) (i : Nat) (x : Option V) : RelE K H M (σ.set i x) (ρ.set i none) := by
  refine ⟨by rw [List.length_set, List.length_set]; exact R.len, fun k d h => ?_⟩
  rw [List.getElem?_set] at h ⊢
  by_cases e : i = k
  · rw [if_pos e] at h
    split at h <;> simp at h
  · rw [if_neg e] at h ⊢
    exact R.at_ k d h
def wipeR (ρ : Rho) : List Nat → Rho
  | [] => ρ
  | i :: is => (wipeR ρ is).set i none
theorem RelE.wipe (R : RelE K H M σ ρ) : ∀ is : List Nat, RelE K H M (L2.wipe σ is) (wipeR ρ is)
  | [] => R
  | i :: is => (R.wipe is).clear i none
end
theorem wipe_set {σ : St} {i : Nat} {v : Option V} : ∀ {vs : List Nat}, i ∈ vs → L2.wipe (σ.set i v) vs = L2.wipe σ vs := by
  intro vs h
  apply List.ext_getElem?
  intro k
  by_cases hk : k ∈ vs
  · have w : ∀ (τ : St) (vs : List Nat), k ∈ vs → k < τ.length → (L2.wipe τ vs)[k]? = some none := by
      intro τ vs
      induction vs with
      | nil => intro h; cases h
      | cons j js ih =>
        intro hk hl
        unfold L2.wipe
        rw [List.getElem?_set]
        by_cases e : j = k
        · rw [if_pos e, if_pos (by rw [wipe_length, e]; exact hl)]
        · rw [if_neg e]
          rcases List.mem_cons.mp hk with z | z
          · exact absurd z.symm e
          · exact ih z hl
    rcases Nat.lt_or_ge k σ.length with z | z
    · rw [w σ vs hk z, w _ vs hk (by rw [List.length_set]; exact z)]
    · rw [List.getElem?_eq_none (by rw [wipe_length, List.length_set]; exact z), List.getElem?_eq_none (by rw [wipe_length]; exact z)]
  · rw [L2.wipe_out hk, L2.wipe_out hk, List.getElem?_set, if_neg (fun (e : i = k) => hk (by rw [← e]; exact h))]
end PyI
/-! A2: the resolved syntax and its interpreter. -/
namespace PyI
open PySem L2

inductive Bop where
  | add | sub | mul | fdiv | mod | pow | shl | shr | band | bor | bxor
  deriving DecidableEq
inductive Cop where
  | eq | ne | lt | le | gt | ge | is_ | isnot | in_ | notin
  deriving DecidableEq
inductive Ty where
  | str | int | bool | tuple | list
  deriving DecidableEq
inductive Bif where
  | len | int | str | tuple | list | sorted | min | max | sum | any | all | abs | ord | bool
  deriving DecidableEq
inductive Met where
  | append | join | find | isascii | isprintable | split | endswith | startswith | extend | pop | index | isdigit | isalpha | islower
  deriving DecidableEq
inductive Tg where
  | nm (i : Nat)
  | tp (l : List Nat)
  deriving DecidableEq

mutual
inductive E where
  | var (i : Nat)
  | cst (d : D)
  | glob (g : Nat)
  | bin (o : Bop) (a b : E)
  | neg (a : E)
  | inv (a : E)
  | bits (a : E)
  | notv (t : T)
  | and (a b : E)
  | or (a b : E)
  | cmp (o : Cop) (a b : E)
  | chn (o o' : Cop) (a b c : E)
  | ite (t : T) (a b : E)
  | call (f : Nat) (as : Es)
  | bif (b : Bif) (as : Es)
  | isi (a : E) (t : Ty)
  | met (m : Met) (o : E) (as : Es)
  | tr37 (o : E)
  | idx (a b : E)
  | slc (a : E) (lo hi : O)
  | tup (es : Es)
  | lst (es : Es)
  | comp (own : List Nat) (tg : Tg) (it : IT) (c : T) (e : E)
  | gdict (g : Nat) (k : E)            -- CONST[k], a dict of the module with text keys
  | gin (neg : Bool) (g : Nat) (k : E)  -- k in CONST
  | fmt (a : E)                        -- a part {a} of an f-string
  | fs (es : Es)                       -- an f-string of two parts or more
  | dgl (l : List (Str × D)) (k : E)   -- {'..': .., ..}[k]
  | dgt (l : List (Str × D)) (k d : E) -- {'..': .., ..}.get(k, d)
  | get1 (o k : E)                     -- o.get(k)
  | get2 (o k d : E)                   -- o.get(k, d)
  | dnew (tp : Bool)                   -- {}, its keys to be tuples
  | disp (ks : List Str) (es : Es)     -- {'..': e, ..}
  | newL (e : E)                       -- a new list, to be changed
  | revs (a : E)                       -- a[::-1]
inductive Es where
  | nil
  | cons (e : E) (es : Es)
inductive O where
  | none
  | some (e : E)
inductive T where
  | yes
  | val (e : E)
  | not (t : T)
  | and (t u : T)
  | or (t u : T)
inductive IT where
  | seq (e : E)
  | rng1 (a : E)
  | rng2 (a b : E)
  | rng3 (a b c : E)
  | enum (a : E)
end
/-- e.replace(y, z).replace(..).. -/
inductive R where
  | base (e : E)
  | repl (r : R) (y z : Str)
/-- what a suite of except hands back: literals, fields of the error -/
inductive XA where
  | cst (d : D)
  | fld (k : Nat)
inductive XR where
  | one (a : XA)
  | tup (l : List XA)
mutual
inductive S where
  | rse (c n : Nat) (es : Es)                -- raise C(e, ..)
  | tryR (r : E) (c : Nat) (i : Nat) (h : XR)  -- try: return r / except C as i: return h
  | setR (i : Nat) (r : R)
  | retR (pre : Str) (r : R) (post : Str)      -- return 'pre' + r + 'post'
  | set (tg : Tg) (e : E)
  | new (i : Nat) (e : E)
  | setIx (o i v : E)
  | aug (i : Nat) (o : Bop) (e : E)
  | par2 (i j : Nat) (es : Es)              -- a, b = x, y
  | daug (o k : E) (b : Bop) (e : E)        -- o[k] += e
  | expr (e : E)
  | ifs (t : T) (a b : B)
  | for_ (tg : Tg) (it : IT) (b : B)
  | whl (t : T) (b : B)
  | ret (e : E)
  | retN
  | pass
  | brk
  | cnt
  | bad                                   -- nothing is known of it
inductive B where
  | nil
  | cons (s : S) (b : B)
end

inductive Res (α : Type) where
  | ok (a : α) (μ : Mu)
  | err (c : Nat) (fs : List D) (μ : Mu)
  | stuck

def Res.bind {α β : Type} (r : Res α) (f : α → Mu → Res β) : Res β := match r with
  | .ok a μ => f a μ
  | .err c fs μ => .err c fs μ
  | .stuck => .stuck
def needs {α : Type} (p : Prop) [Decidable p] (r : Res α) : Res α := if p then r else .stuck
theorem needs_pos {α : Type} {p : Prop} [Decidable p] {r : Res α} (h : p) : needs p r = r := if_pos h

structure G where
  call : Nat → List D → Mu → Res D
  con : Nat → Option D
  dic : Nat → List (Str × D)
  wf : Nat
  mkr : Bool

/-! ### equality -/
mutual
def D.beq : D → D → Bool
  | .non, .non => true
  | .bl a, .bl b => a == b
  | .int a, .int b => a == b
  | .str a, .str b => a == b
  | .ref a, .ref b => a == b
  | .tup a, .tup b => D.beqs a b
  | .lst a, .lst b => D.beqs a b
  | _, _ => false
def D.beqs : List D → List D → Bool
  | [], [] => true
  | x :: xs, y :: ys => D.beq x y && D.beqs xs ys
  | _, _ => false
end
mutual
/-- Python's == on data -/
def eqD : D → D → Bool
  | .non, .non => true
  | .bl a, .bl b => a == b
  | .bl a, .int j => (if a then 1 else 0) == j
  | .int i, .bl b => i == (if b then 1 else 0)
  | .int i, .int j => i == j
  | .str x, .str y => x == y
  | .lst xs, .lst ys => eqDs xs ys
  | .tup xs, .tup ys => eqDs xs ys
  | _, _ => false
def eqDs : List D → List D → Bool
  | [], [] => true
  | x :: xs, y :: ys => eqD x y && eqDs xs ys
  | _, _ => false
end
mutual
/-- what == is told of: no references, texts of signs, at most n deep -/
def eqOk : Nat → D → Bool
  | _, .non | _, .bl _ | _, .int _ => true
  | _, .str s => s.cps.all (· < 0x110000)
  | 0, .tup _ | 0, .lst _ => false
  | n + 1, .tup l => eqOks n l
  | n + 1, .lst l => eqOks n l
  | _, .ref _ => false
  | _, .kl _ => false
  | _, .kt _ => false
def eqOks : Nat → List D → Bool
  | _, [] => true
  | n, d :: ds => eqOk n d && eqOks n ds
end
/-- a list object's content as a datum -/
def deref (μ : Mu) : D → D
  | .ref n => match μ[n]? with
    | some (.lst l) => .lst l
    | _ => .ref n
  | d => d
def flatD : D → Bool
  | .non | .bl _ | .int _ | .str _ => true
  | _ => false
/-- the items of a list or a tuple -/
def seqD (μ : Mu) : D → Option (List D)
  | .tup l => some l
  | .lst l => some l
  | .kl l => some l
  | .kt l => some l
  | .ref n => match μ[n]? with
    | some (.lst l) => some l
    | _ => none
  | _ => none
/-- the items of a list -/
def lstD (μ : Mu) : D → Option (List D)
  | .lst l => some l
  | .ref n => match μ[n]? with
    | some (.lst l) => some l
    | _ => none
  | _ => none
def truD (μ : Mu) : D → Mu → Res Bool
  | .non, ν => .ok false ν
  | .bl b, ν => .ok b ν
  | .int i, ν => .ok (i != 0) ν
  | .str s, ν => needs (s.length ≤ 16777216) (.ok (s.length != 0) ν)
  | .tup l, ν => .ok (!l.isEmpty) ν
  | .lst l, ν => .ok (!l.isEmpty) ν
  | .kl _, _ => .stuck
  | .kt l, ν => .ok (!l.isEmpty) ν
  | .ref n, ν => match μ[n]? with
    | some (.lst l) => .ok (!l.isEmpty) ν
    | _ => .stuck

/-! ### dicts -/
def keyD : D → Option Key
  | .int i => some (.inl i)
  | .str s => some (.inr s)
  | _ => none
def keysL : List D → Option (List Key)
  | [] => some []
  | d :: ds => match keyD d, keysL ds with
    | some k, some ks => some (k :: ks)
    | _, _ => none
def keysD : D → Option (List Key)
  | .tup ds => keysL ds
  | _ => none
section
variable {κ : Type} [DecidableEq κ]
def valD (kvs : List (κ × D)) (k : κ) : Option D := (kvs.find? fun kv => decide (kv.1 = k)).map (·.2)
def putD (kvs : List (κ × D)) (k : κ) (v : D) : List (κ × D) := if kvs.any (fun kv => decide (kv.1 = k)) then kvs.map fun kv => if kv.1 = k then (kv.1, v) else kv else kvs ++ [(k, v)]
def mergeD (kvs more : List (κ × D)) : List (κ × D) := more.foldl (fun acc kv => putD acc kv.1 kv.2) kvs
end
/-- what is asked of a dict: none where this is no dict, or no key of its kind -/
def getDic (μ : Mu) (o k : D) : Option (Option D) := match o with
  | .ref n => match μ[n]? with
    | some (.dk kvs) => (keyD k).map fun k => valD kvs k
    | some (.dt kvs) => (keysD k).map fun k => valD kvs k
    | _ => none
  | _ => none
/-- the same for o.get(k, x) -/
def getDicS (μ : Mu) (o k : D) : Option (Option D) := match o, k with
  | .ref n, .str s => match μ[n]? with
    | some (.dt _) => some none
    | _ => getDic μ o k
  | _, _ => getDic μ o k
def isDic (μ : Mu) (o : D) : Bool := match o with
  | .ref n => match μ[n]? with
    | some (.dk _) => true
    | some (.dt _) => true
    | _ => false
  | _ => false
def putDic (μ : Mu) (o k v : D) : Option (Nat × Mu) := match o with
  | .ref n => match μ[n]? with
    | some (.dk kvs) => (keyD k).map fun k => (kvs.length, μ.set n (.dk (putD kvs k v)))
    | some (.dt kvs) => (keysD k).map fun k => (kvs.length, μ.set n (.dt (putD kvs k v)))
    | _ => none
  | _ => none
/-! ### operators -/
/-- a text, so many times -/
def strRep (x : Str) (n : Nat) : Str := ⟨(List.replicate n x.cps).foldl (· ++ ·) #[]⟩
abbrev lim64 (i : Int) : Prop := -(2 ^ 64) < i ∧ i < 2 ^ 64
def binD (o : Bop) (x y : D) (μ : Mu) : Res D := match o, x, y with
  | .add, .int i, .int j => .ok (.int (i + j)) μ
  | .sub, .int i, .int j => .ok (.int (i - j)) μ
  | .mul, .int i, .int j => needs ((lim64 i ∨ lim64 j) ∨ i.natAbs.log2 + j.natAbs.log2 < 1000000) (.ok (.int (i * j)) μ)
  | .fdiv, .int i, .int j => needs (0 < j ∧ (j < 1073741824 ∨ j.natAbs.log2 < 9000)) (.ok (.int (i / j)) μ)
  | .mod, .int i, .int j => needs (0 < j) (.ok (.int (i % j)) μ)
  | .pow, .int i, .int j => needs (0 ≤ j ∧ j ≤ 1000000 ∧ i.natAbs < 2 ^ 64) (.ok (.int (i ^ j.toNat)) μ)
  | .shl, .int i, .int j => needs ((0 ≤ j ∧ j ≤ 1000000 ∧ i.natAbs < 2 ^ 64) ∨ (0 ≤ j ∧ (Builtin.Int.intBits i : Int) + j ≤ 2 ^ 27)) (.ok (.int (i * 2 ^ j.toNat)) μ)
  | .shr, .int i, .int j => needs (0 ≤ j) (.ok (.int (i / 2 ^ j.toNat)) μ)
  | .band, .int i, .int j => .ok (.int (Builtin.bitAnd i j)) μ
  | .bor, .int i, .int j => .ok (.int (Builtin.bitOr i j)) μ
  | .bxor, .int i, .int j => .ok (.int (Builtin.bitXor i j)) μ
  | .add, .str i, .str j => needs (i.length + j.length ≤ 16777216) (.ok (.str (i ++ j)) μ)
  | .add, .tup i, .tup j => needs (i.length + j.length ≤ 16777216) (.ok (.tup (i ++ j)) μ)
  | .mul, .str i, .int j => needs ((-(2 ^ 62) ≤ j ∧ j < 2 ^ 62) ∧ i.length * j.toNat ≤ 16777216) (.ok (.str (strRep i j.toNat)) μ)
  | .mul, x, .int j => match lstD μ x with
    | some l => needs ((-(2 ^ 62) ≤ j ∧ j < 2 ^ 62) ∧ l.length * j.toNat ≤ 16777216) (.ok (.lst (List.replicate j.toNat l).flatten) μ)
    | none => .stuck
  | .add, x, y => match lstD μ x, lstD μ y with
    | some i, some j => needs (i.length + j.length ≤ 16777216) (.ok (.lst (i ++ j)) μ)
    | _, _ => .stuck
  | _, _, _ => .stuck
def ltS (i j : Str) : Bool := decide (i.cps.toList < j.cps.toList)
def cmpD (o : Cop) (x y : D) (μ : Mu) : Res Bool := match o with
  | .eq => let x := deref μ x; let y := deref μ y; needs (eqOk 64 x = true ∧ eqOk 64 y = true) (.ok (eqD x y) μ)
  | .ne => let x := deref μ x; let y := deref μ y; needs (eqOk 64 x = true ∧ eqOk 64 y = true) (.ok (!eqD x y) μ)
  | .lt => match x, y with
    | .int i, .int j => .ok (decide (i < j)) μ
    | .str i, .str j => .ok (ltS i j) μ
    | _, _ => .stuck
  | .le => match x, y with
    | .int i, .int j => .ok (decide (i ≤ j)) μ
    | .str i, .str j => .ok (!ltS j i) μ
    | _, _ => .stuck
  | .gt => match x, y with
    | .int i, .int j => .ok (decide (j < i)) μ
    | .str i, .str j => .ok (ltS j i) μ
    | _, _ => .stuck
  | .ge => match x, y with
    | .int i, .int j => .ok (decide (j ≤ i)) μ
    | .str i, .str j => .ok (!ltS i j) μ
    | _, _ => .stuck
  | .is_ => match x, y with
    | .non, .non => .ok true μ
    | _, .non => .ok false μ
    | .bl a, .bl b => .ok (a == b) μ
    | _, .bl _ => .ok false μ
    | _, _ => .stuck
  | .isnot => match x, y with
    | .non, .non => .ok false μ
    | _, .non => .ok true μ
    | .bl a, .bl b => .ok (!(a == b)) μ
    | _, .bl _ => .ok true μ
    | _, _ => .stuck
  | .in_ => match x, y with
    | .str i, .str j => .ok (!(Builtin.Str.occurrences j i 0 j.length 1).isEmpty) μ
    | x, y => match getDic μ y x with
     | some r => .ok r.isSome μ
     | none => match seqD μ y with
      | some l => needs (flatD x = true ∧ l.all flatD = true) (.ok (l.any fun y => eqD y x) μ)
      | none => .stuck
  | .notin => match x, y with
    | .str i, .str j => .ok (!(!(Builtin.Str.occurrences j i 0 j.length 1).isEmpty)) μ
    | x, y => match getDic μ y x with
     | some r => .ok (!r.isSome) μ
     | none => match seqD μ y with
      | some l => needs (flatD x = true ∧ l.all flatD = true) (.ok (!(l.any fun y => eqD y x)) μ)
      | none => .stuck
def isiD (x : D) (t : Ty) (μ : Mu) : Res D := match x with
  | .non => .ok (.bl false) μ
  | .bl _ => .ok (.bl (t == .bool || t == .int)) μ
  | .int _ => .ok (.bl (t == .int)) μ
  | .str _ => .ok (.bl (t == .str)) μ
  | .tup _ => .ok (.bl (t == .tuple)) μ
  | .lst _ => .ok (.bl (t == .list)) μ
  | .kl _ => .stuck
  | .kt _ => .ok (.bl (t == .tuple)) μ
  | .ref n => match μ[n]? with
    | some (.lst _) => .ok (.bl (t == .list)) μ
    | _ => .stuck
def strsOf : List D → Option (List Str)
  | [] => some []
  | .str s :: ds => (strsOf ds).map (s :: ·)
  | _ => none
def intsOf : List D → Option (List Int)
  | [] => some []
  | .int s :: ds => (intsOf ds).map (s :: ·)
  | _ => none
def boolsOf : List D → Option (List Bool)
  | [] => some []
  | .bl s :: ds => (boolsOf ds).map (s :: ·)
  | _ => none
def maxL : List Int → Int
  | [] => 0
  | [a] => a
  | a :: b :: r => if a < maxL (b :: r) then maxL (b :: r) else a
def minL : List Int → Int
  | [] => 0
  | [a] => a
  | a :: b :: r => if minL (b :: r) < a then minL (b :: r) else a
def insI (a : Int) : List Int → List Int
  | [] => [a]
  | b :: r => if a ≤ b then a :: b :: r else b :: insI a r
def sortI : List Int → List Int
  | [] => []
  | a :: r => insI a (sortI r)
def bifD (b : Bif) (ds : List D) (μ : Mu) : Res D := match b, ds with
  | .len, [.str s] => needs (s.length ≤ 16777216) (.ok (.int s.length) μ)
  | .len, [d] => match seqD μ d with
    | some l => .ok (.int l.length) μ
    | none => .stuck
  | .int, [.int i] => .ok (.int i) μ
  | .int, [.bl k] => .ok (.int (if k then 1 else 0)) μ
  | .int, [.str s] => match PySem.intText? s with
    | some n => needs (s.length ≤ 640) (.ok (.int n) μ)
    | none => .stuck
  | .str, [.int i] => needs (i.natAbs.log2 < 1920) (.ok (.str (toString i)) μ)
  | .abs, [.int i] => .ok (.int (if i < 0 then -i else i)) μ
  | .max, [.int i, .int j] => .ok (.int (if j > i then j else i)) μ
  | .min, [.int i, .int j] => .ok (.int (if j < i then j else i)) μ
  | .min, [.int a, .int b, .int c] => .ok (.int (if c < (if b < a then b else a) then c else (if b < a then b else a))) μ
  | .tuple, [.tup l] => .ok (.tup l) μ
  | .tuple, [.kt l] => .ok (.kt l) μ
  | .tuple, [d] => match seqD μ d with
    | some l => .ok (.tup l) μ
    | none => .stuck
  | .list, [d] => match seqD μ d with
    | some l => .ok (.lst l) μ
    | none => .stuck
  | .ord, [.str s] => needs (s.length = 1) (.ok (.int (s.cps.getD 0 0 : Nat)) μ)
  | .sum, [d] => match (lstD μ d).bind intsOf with
    | some l => .ok (.int l.sum) μ
    | none => .stuck
  | .any, [d] => match (lstD μ d).bind boolsOf with
    | some l => .ok (.bl (l.any id)) μ
    | none => .stuck
  | .all, [d] => match (lstD μ d).bind boolsOf with
    | some l => .ok (.bl (l.all id)) μ
    | none => .stuck
  | .max, [d] => match (lstD μ d).bind intsOf with
    | some l => needs (0 < l.length) (.ok (.int (maxL l)) μ)
    | none => .stuck
  | .min, [d] => match (lstD μ d).bind intsOf with
    | some l => needs (0 < l.length) (.ok (.int (minL l)) μ)
    | none => .stuck
  | .sorted, [d] => match (lstD μ d).bind intsOf with
    | some l => .ok (.lst ((sortI l).map D.int)) μ
    | none => .stuck
  | _, _ => .stuck
def metD (m : Met) (o : D) (ds : List D) (μ : Mu) : Res D := match m, o, ds with
  | .append, .ref n, [d] => match μ[n]? with
    | some (.lst l) => needs (l.length < 16777216) (.ok .non (μ.set n (.lst (l ++ [d]))))
    | _ => .stuck
  | .extend, .ref n, [d] => match μ[n]?, lstD μ d with
    | some (.lst l), some r => needs (l.length + r.length ≤ 16777216) (.ok .non (μ.set n (.lst (l ++ r))))
    | _, _ => .stuck
  | .index, .ref n, [d] => match μ[n]? with
    | some (.lst l) => needs (flatD d = true ∧ l.all flatD = true ∧ l.any (fun y => eqD y d) = true) (.ok (.int (l.findIdx fun y => eqD y d)) μ)
    | _ => .stuck
  | .join, .str a, [d] => match (seqD μ d).bind strsOf with
    | some ys => needs ((ys.map (·.length)).sum + ys.length * a.length ≤ 16777216) (.ok (.str (Txt.join a ys)) μ)
    | none => .stuck
  | .find, .str a, [.str b, .int i] => .ok (.int (Txt.find3 a b i)) μ
  | .find, .str a, [.str b] => .ok (.int (Txt.find a b)) μ
  | .isascii, .str a, [] => .ok (.bl (Txt.isascii a)) μ
  | .isprintable, .str a, [] => .ok (.bl (Txt.isprintable a)) μ
  | .isdigit, .str a, [] => .ok (.bl (Txt.isdigit a)) μ
  | .isalpha, .str a, [] => .ok (.bl (Txt.isalpha a)) μ
  | .islower, .str a, [] => .ok (.bl (Txt.islower a)) μ
  | .startswith, .str a, [.str b] => .ok (.bl (Txt.startswith a b)) μ
  | .endswith, .str a, [.str b] => .ok (.bl (Txt.endswith a b)) μ
  | .split, .str a, [.str b] => needs (¬ b.length = 0 ∧ a.length + 2 ≤ 16777216) (.ok (.lst ((Txt.split a b).map D.str)) μ)
  | _, _, _ => .stuck
/-- the receiver is of the method's type -/
def tyD (m : Met) (o : D) (μ : Mu) : Bool := match m, o with
  | .append, .ref n => (match μ[n]? with
    | some (.lst _) => true
    | _ => false)
  | .extend, .ref n => (match μ[n]? with
    | some (.lst _) => true
    | _ => false)
  | .index, .ref n => (match μ[n]? with
    | some (.lst _) => true
    | _ => false)
  | .extend, _ | .pop, _ | .append, _ | .index, _ => false
  | _, .str _ => true
  | _, _ => false
def replD (o : D) (y z : Str) (μ : Mu) : Res D := match o with
  | .str x => needs (x.length + (x.length + 1) * z.length ≤ 16777216) (.ok (.str (Txt.replace x y z)) μ)
  | _ => .stuck
def tr37S (x : Str) : Str := ⟨(x.cps.toList.filter (· != 37)).toArray⟩
def tr37D (o : D) (μ : Mu) : Res D := match o with
  | .str x => needs (x.length ≤ 1000000 ∧ x.cps.all (· < 128) = true) (.ok (.str (tr37S x)) μ)
  | _ => .stuck
def revD (o : D) (μ : Mu) : Res D := match o with
  | .tup l => .ok (.tup l.reverse) μ
  | d => match lstD μ d with
    | some l => .ok (.lst l.reverse) μ
    | none => .stuck
def idxD (o i : D) (μ : Mu) : Res D := match o, i with
  | .str z, .int k => match atI z.cps.toList k with
    | some c => needs (z.length ≤ 16777216) (.ok (.str ⟨#[c]⟩) μ)
    | none => .stuck
  | o, .int k => match seqD μ o with
    | some l => match atI l k with
      | some d => .ok d μ
      | none => .stuck
    | none => .stuck
  | _, _ => .stuck
def cutD (xs : List D) (lo hi : Option Int) : List D := (xs.drop (HT.sIx xs.length 0 lo)).take (HT.sIx xs.length xs.length hi - HT.sIx xs.length 0 lo)
/-- o[i], a dict's too -/
def idxA (o i : D) (μ : Mu) : Res D := match getDic μ o i with
  | some (some d) => .ok d μ
  | some none => .stuck
  | none => idxD o i μ
def slcD (o : D) (lo hi : Option Int) (μ : Mu) : Res D := match o with
  | .str z => needs (z.length ≤ 16777216) (.ok (.str (cutS z lo hi)) μ)
  | .lst l => .ok (.lst (cutD l lo hi)) μ
  | .ref n => match μ[n]? with
    | some (.lst l) => .ok (.lst (cutD l lo hi)) μ
    | _ => .stuck
  | .tup l => .ok (.tup (cutD l lo hi)) μ
  | _ => .stuck
def setIxD (o i v : D) (μ : Mu) : Res Unit := match o, i with
  | .ref n, .int k => match μ[n]? with
    | some (.lst l) => match ixN l.length k with
      | some j => .ok () (μ.set n (.lst (l.set j v)))
      | none => .stuck
    | _ => .stuck
  | _, _ => .stuck
/-- o[i] = v, a dict's too -/
def putA (o i v : D) (μ : Mu) : Res Unit := match putDic μ o i v with
  | some (n, μ') => needs (n < 16777216) (.ok () μ')
  | none => setIxD o i v μ
def assignT (t : Tg) (d : D) (ρ : Rho) : Option Rho := match t with
  | .nm i => some (ρ.set i (some d))
  | .tp l => match d with
    | .tup ds => if ds.length = l.length then some ((l.zip ds).foldl (fun ρ p => ρ.set p.1 (some p.2)) ρ) else none
    | .lst ds => if ds.length = l.length then some ((l.zip ds).foldl (fun ρ p => ρ.set p.1 (some p.2)) ρ) else none
    | .kt ds => if ds.length = l.length then some ((l.zip ds).foldl (fun ρ p => ρ.set p.1 (some p.2)) ρ) else none
    | _ => none

/-! ### loops of comprehensions -/
def compLoop (f : D → Mu → Res (Option D)) (chk : Mu → Bool) : List D → List D → Mu → Res (List D)
  | acc, [], μ => if chk μ then .ok acc μ else .stuck
  | acc, d :: ds, μ => if chk μ then (match f d μ with
      | .ok none μ' => compLoop f chk acc ds μ'
      | .ok (some y) μ' => needs (acc.length < 16777216) (compLoop f chk (acc ++ [y]) ds μ')
      | _ => .stuck) else .stuck
/-- the items, and the list object that must stay while they are walked -/
abbrev Its := List D × Option (Nat × List D)
def chkOf (src : Option (Nat × List D)) (μ : Mu) : Bool := match src with
  | none => true
  | some (n, l) => match μ[n]? with
    | some (.lst l') => D.beqs l' l
    | _ => false
def rngD (lo : Int) (n : Nat) : List D := (List.range n).map fun (i : Nat) => D.int (lo + (i : Int))
def lim62 (i : Int) : Prop := -(2 ^ 62) ≤ i ∧ i < 2 ^ 62
instance (i : Int) : Decidable (lim62 i) := by unfold lim62; infer_instance
def itD (d : D) (μ : Mu) : Res Its := match d with
  | .tup l => .ok (l, none) μ
  | .kt l => .ok (l, none) μ
  | .lst l => .ok (l, none) μ
  | .ref n => match μ[n]? with
    | some (.lst l) => .ok (l, some (n, l)) μ
    | _ => .stuck
  | .str s => .ok (s.cps.toList.map fun c => D.str ⟨#[c]⟩, none) μ
  | _ => .stuck

/-- what enumerate yields -/
def enumL (l : List D) : List D := (l.zipIdx 0).map fun p => D.tup [.int (p.2 : Nat), p.1]
def enumD (d : D) (μ : Mu) : Res Its := match d with
  | .tup l => .ok (enumL l, none) μ
  | .lst l => .ok (enumL l, none) μ
  | _ => .stuck
/-- range(a, b, -1) -/
def rngDown (lo : Int) (n : Nat) : List D := (List.range n).map fun (i : Nat) => D.int (lo + (i : Int) * (-1))
/-- the last one of a name -/
def lkL : List (Str × D) → Str → Option D → Option D
  | [], _, r => r
  | (k, d) :: l, s, r => lkL l s (if s = k then some d else r)
mutual
def evalE (Γ : G) : E → Rho → Mu → Res D
  | .var i, ρ, μ => match ρ[i]? with
    | some (some d) => .ok d μ
    | _ => .stuck
  | .cst d, _, μ => .ok d μ
  | .glob g, _, μ => match Γ.con g with
    | some d => .ok d μ
    | none => .stuck
  | .bin o a b, ρ, μ => (evalE Γ a ρ μ).bind fun x μ => (evalE Γ b ρ μ).bind fun y μ => binD o x y μ
  | .neg a, ρ, μ => (evalE Γ a ρ μ).bind fun x μ => match x with
    | .int i => .ok (.int (-i)) μ
    | _ => .stuck
  | .inv a, ρ, μ => (evalE Γ a ρ μ).bind fun x μ => match x with
    | .int i => .ok (.int (Builtin.bitNot i)) μ
    | _ => .stuck
  | .bits a, ρ, μ => (evalE Γ a ρ μ).bind fun x μ => match x with
    | .int i => .ok (.int (Builtin.Int.intBits i)) μ
    | _ => .stuck
  | .notv t, ρ, μ => (evalT Γ t ρ μ).bind fun b μ => .ok (.bl (!b)) μ
  | .and a b, ρ, μ => (evalE Γ a ρ μ).bind fun x μ => (truD μ x μ).bind fun k μ => if k then evalE Γ b ρ μ else .ok x μ
  | .or a b, ρ, μ => (evalE Γ a ρ μ).bind fun x μ => (truD μ x μ).bind fun k μ => if k then .ok x μ else evalE Γ b ρ μ
  | .cmp o a b, ρ, μ => (evalE Γ a ρ μ).bind fun x μ => (evalE Γ b ρ μ).bind fun y μ => (cmpD o x y μ).bind fun k μ => .ok (.bl k) μ
  | .chn o o' a b c, ρ, μ => (evalE Γ a ρ μ).bind fun x μ => (evalE Γ b ρ μ).bind fun y μ => (cmpD o x y μ).bind fun k μ =>
      if k then (evalE Γ c ρ μ).bind fun z μ => (cmpD o' y z μ).bind fun k μ => .ok (.bl k) μ else .ok (.bl false) μ
  | .ite t a b, ρ, μ => (evalT Γ t ρ μ).bind fun k μ => if k then evalE Γ a ρ μ else evalE Γ b ρ μ
  | .call f as, ρ, μ => (evalEs Γ as ρ μ).bind fun ds μ => Γ.call f ds μ
  | .bif b as, ρ, μ => (evalEs Γ as ρ μ).bind fun ds μ => bifD b ds μ
  | .isi a t, ρ, μ => (evalE Γ a ρ μ).bind fun x μ => isiD x t μ
  | .met m o as, ρ, μ => (evalE Γ o ρ μ).bind fun x μ => needs (tyD m x μ = true) ((evalEs Γ as ρ μ).bind fun ds μ => metD m x ds μ)
  | .tr37 o, ρ, μ => (evalE Γ o ρ μ).bind fun x μ => tr37D x μ
  | .idx a b, ρ, μ => (evalE Γ a ρ μ).bind fun x μ => (evalE Γ b ρ μ).bind fun y μ => idxA x y μ
  | .slc a lo hi, ρ, μ => (evalE Γ a ρ μ).bind fun x μ => (evalO Γ lo ρ μ).bind fun l μ => (evalO Γ hi ρ μ).bind fun h μ => slcD x l h μ
  | .tup es, ρ, μ => (evalEs Γ es ρ μ).bind fun ds μ => needs (ds.length ≤ 16777216) (.ok (.tup ds) μ)
  | .lst es, ρ, μ => (evalEs Γ es ρ μ).bind fun ds μ => needs (ds.length ≤ 16777216) (.ok (.lst ds) μ)
  | .comp own tg it c e, ρ, μ => (evalIt Γ it ρ μ).bind fun ds μ =>
      (compLoop (fun d μ => match assignT tg d (wipeR ρ own) with
        | none => .stuck
        | some ρ' => (evalT Γ c ρ' μ).bind fun k μ => if k then (evalE Γ e ρ' μ).bind fun y μ => .ok (some y) μ else .ok none μ) (chkOf ds.2) [] ds.1 μ).bind fun l μ => .ok (.lst l) μ
  | .gdict g k, ρ, μ => (evalE Γ k ρ μ).bind fun x μ => match x with
    | .str s => match (Γ.dic g).lookup s with
      | some d => .ok d μ
      | none => .stuck
    | _ => .stuck
  | .gin neg g k, ρ, μ => (evalE Γ k ρ μ).bind fun x μ => match x with
    | .str s => .ok (.bl (if neg then !((Γ.dic g).lookup s).isSome else ((Γ.dic g).lookup s).isSome)) μ
    | _ => .stuck
  | .fmt a, ρ, μ => (evalE Γ a ρ μ).bind fun x μ => match x with
    | .str y => needs (y.length ≤ 16777216) (.ok (.str y) μ)
    | .int i => needs (i.natAbs.log2 < 1920) (.ok (.str (toString i)) μ)
    | _ => .stuck
  | .fs es, ρ, μ => evalJ Γ es Str.empty ρ μ
  | .dgl l k, ρ, μ => (evalE Γ k ρ μ).bind fun x μ => match x with
    | .str s => match lkL l s none with
      | some d => .ok d μ
      | none => .stuck
    | _ => .stuck
  | .dgt l k d, ρ, μ => (evalE Γ k ρ μ).bind fun x μ => (evalE Γ d ρ μ).bind fun z μ => match x with
    | .str s => .ok ((lkL l s none).getD z) μ
    | _ => .stuck
  | .get1 o k, ρ, μ => (evalE Γ o ρ μ).bind fun x μ => needs (isDic μ x = true) ((evalE Γ k ρ μ).bind fun y μ => match getDic μ x y with
    | some r => .ok (r.getD .non) μ
    | none => .stuck)
  | .get2 o k d, ρ, μ => (evalE Γ o ρ μ).bind fun x μ => needs (isDic μ x = true) ((evalE Γ k ρ μ).bind fun y μ => (evalE Γ d ρ μ).bind fun z μ => match getDicS μ x y with
    | some r => .ok (r.getD z) μ
    | none => .stuck)
  | .dnew tp, _, μ => .ok (.ref μ.length) (μ ++ [if tp then .dt [] else .dk []])
  | .disp ks es, ρ, μ => (evalEs Γ es ρ μ).bind fun ds μ => needs (ds.length = ks.length ∧ ks.length ≤ 15) (.ok (.ref μ.length) (μ ++ [.dk (mergeD [] (ks.zip ds |>.map fun p => (Sum.inr p.1, p.2)))]))
  | .newL e, ρ, μ => (evalE Γ e ρ μ).bind fun d μ => match d with
    | .lst l => .ok (.ref μ.length) (μ ++ [.lst l])
    | _ => .stuck
  | .revs a, ρ, μ => (evalE Γ a ρ μ).bind fun x μ => revD x μ
def evalJ (Γ : G) : Es → Str → Rho → Mu → Res D
  | .nil, acc, _, μ => .ok (.str acc) μ
  | .cons e es, acc, ρ, μ => (evalE Γ e ρ μ).bind fun x μ => match x with
    | .str y => needs ((acc ++ y).length ≤ 16777216) (evalJ Γ es (acc ++ y) ρ μ)
    | _ => .stuck
def evalEs (Γ : G) : Es → Rho → Mu → Res (List D)
  | .nil, _, μ => .ok [] μ
  | .cons e es, ρ, μ => (evalE Γ e ρ μ).bind fun d μ => (evalEs Γ es ρ μ).bind fun ds μ => .ok (d :: ds) μ
def evalO (Γ : G) : O → Rho → Mu → Res (Option Int)
  | .none, _, μ => .ok none μ
  | .some e, ρ, μ => (evalE Γ e ρ μ).bind fun d μ => match d with
    | .int i => .ok (some i) μ
    | _ => .stuck
def evalT (Γ : G) : T → Rho → Mu → Res Bool
  | .yes, _, μ => .ok true μ
  | .val e, ρ, μ => (evalE Γ e ρ μ).bind fun d μ => truD μ d μ
  | .not t, ρ, μ => (evalT Γ t ρ μ).bind fun b μ => .ok (!b) μ
  | .and t u, ρ, μ => (evalT Γ t ρ μ).bind fun b μ => if b then evalT Γ u ρ μ else .ok false μ
  | .or t u, ρ, μ => (evalT Γ t ρ μ).bind fun b μ => if b then .ok true μ else evalT Γ u ρ μ
def evalIt (Γ : G) : IT → Rho → Mu → Res Its
  | .seq e, ρ, μ => (evalE Γ e ρ μ).bind fun d μ => itD d μ
  | .rng1 a, ρ, μ => (evalE Γ a ρ μ).bind fun x μ => match x with
    | .int j => needs (lim62 j) (.ok (rngD 0 j.toNat, none) μ)
    | _ => .stuck
  | .rng2 a b, ρ, μ => (evalE Γ a ρ μ).bind fun x μ => (evalE Γ b ρ μ).bind fun y μ => match x, y with
    | .int i, .int j => needs (lim62 i ∧ lim62 j) (.ok (rngD i (j - i).toNat, none) μ)
    | _, _ => .stuck
  | .rng3 a b c, ρ, μ => (evalE Γ a ρ μ).bind fun x μ => (evalE Γ b ρ μ).bind fun y μ => (evalE Γ c ρ μ).bind fun z μ => match x, y, z with
    | .int i, .int j, .int k => needs (k = -1 ∧ lim62 i ∧ lim62 j) (.ok (rngDown i (i - j).toNat, none) μ)
    | _, _, _ => .stuck
  | .enum a, ρ, μ => (evalE Γ a ρ μ).bind fun d μ => enumD d μ
end

/-! ### statements -/
def evalR (Γ : G) : R → Rho → Mu → Res D
  | .base e, ρ, μ => evalE Γ e ρ μ
  | .repl r y z, ρ, μ => (evalR Γ r ρ μ).bind fun x μ => replD x y z μ
inductive Out where
  | nx (ρ : Rho) (μ : Mu)
  | br (ρ : Rho) (μ : Mu)
  | ct (ρ : Rho) (μ : Mu)
  | rt (d : D) (μ : Mu)
  | er (c : Nat) (fs : List D) (ρ : Rho) (μ : Mu)
  | stuck
def Res.then {α : Type} (r : Res α) (ρ : Rho) (f : α → Mu → Out) : Out := match r with
  | .ok a μ => f a μ
  | .err c fs μ => .er c fs ρ μ
  | .stuck => .stuck
def Out.next (o : Out) (f : Rho → Mu → Out) : Out := match o with
  | .nx ρ μ => f ρ μ
  | o => o
def forLoop (f : D → Rho → Mu → Out) (chk : Mu → Bool) : List D → Rho → Mu → Out
  | [], ρ, μ => if chk μ then .nx ρ μ else .stuck
  | d :: ds, ρ, μ => if chk μ then (match f d ρ μ with
      | .nx ρ' μ' => forLoop f chk ds ρ' μ'
      | .ct ρ' μ' => forLoop f chk ds ρ' μ'
      | .br ρ' μ' => .nx ρ' μ'
      | o => o) else .stuck
def whileLoop (c : Rho → Mu → Res Bool) (f : Rho → Mu → Out) : Nat → Rho → Mu → Out
  | 0, _, _ => .stuck
  | n + 1, ρ, μ => (c ρ μ).then ρ fun k μ => if k then (match f ρ μ with
      | .nx ρ' μ' => whileLoop c f n ρ' μ'
      | .ct ρ' μ' => whileLoop c f n ρ' μ'
      | .br ρ' μ' => .nx ρ' μ'
      | o => o) else .nx ρ μ
/-- what may stand in an error's text -/
def okArg : D → Bool
  | .int i => decide (0 ≤ i) && decide (i < 1000000000000000000)
  | .str s => decide (s.length ≤ 1000000)
  | _ => false
def XA.val (fs : List D) : XA → Option D
  | .cst d => some d
  | .fld k => fs[k]?
def XA.vals (fs : List D) : List XA → Option (List D)
  | [] => some []
  | a :: l => match a.val fs, XA.vals fs l with
    | some d, some ds => some (d :: ds)
    | _, _ => none
def XR.val (fs : List D) : XR → Option D
  | .one a => a.val fs
  | .tup l => if l.length ≤ 100 then (XA.vals fs l).map D.tup else none
mutual
def runS (Γ : G) : S → Rho → Mu → Out
  | .setR i r, ρ, μ => (evalR Γ r ρ μ).then ρ fun d μ => .nx (ρ.set i (some d)) μ
  | .retR pre r post, ρ, μ => (evalR Γ r ρ μ).then ρ fun x μ => ((binD .add (.str pre) x μ).bind fun y μ => binD .add y (.str post) μ).then ρ fun d μ => .rt d μ
  | .set tg e, ρ, μ => (evalE Γ e ρ μ).then ρ fun d μ => match assignT tg d ρ with
    | some ρ' => .nx ρ' μ
    | none => .stuck
  | .new i e, ρ, μ => (evalE Γ e ρ μ).then ρ fun d μ => match d with
    | .lst l => .nx (ρ.set i (some (.ref μ.length))) (μ ++ [.lst l])
    | _ => .stuck
  | .setIx o i v, ρ, μ => (evalE Γ v ρ μ).then ρ fun x μ => (evalE Γ o ρ μ).then ρ fun y μ => (evalE Γ i ρ μ).then ρ fun z μ => (putA y z x μ).then ρ fun _ μ => .nx ρ μ
  | .aug i o e, ρ, μ => match ρ[i]? with
    | some (some (.int x)) => (evalE Γ e ρ μ).then ρ fun y μ => match o, y with
      | .add, .int j => .nx (ρ.set i (some (.int (x + j)))) μ
      | .sub, .int j => .nx (ρ.set i (some (.int (x - j)))) μ
      | _, _ => .stuck
    | _ => .stuck
  | .par2 i j es, ρ, μ => (evalEs Γ es ρ μ).then ρ fun ds μ => match ds with
    | [x, y] => .nx ((ρ.set i (some x)).set j (some y)) μ
    | _ => .stuck
  | .daug o k b e, ρ, μ => (evalE Γ o ρ μ).then ρ fun x μ => (evalE Γ k ρ μ).then ρ fun y μ => match getDic μ x y with
    | some (some (.int i)) => (evalE Γ e ρ μ).then ρ fun z μ => match b, z with
      | .add, .int j => (match putDic μ x y (.int (i + j)) with
        | some (n, μ') => if n < 16777216 then .nx ρ μ' else .stuck
        | none => .stuck)
      | _, _ => .stuck
    | _ => .stuck
  | .expr e, ρ, μ => (evalE Γ e ρ μ).then ρ fun _ μ => .nx ρ μ
  | .ifs t a b, ρ, μ => (evalT Γ t ρ μ).then ρ fun k μ => if k then runB Γ a ρ μ else runB Γ b ρ μ
  | .for_ tg it b, ρ, μ => (evalIt Γ it ρ μ).then ρ fun ds μ => forLoop (fun d ρ μ => match assignT tg d ρ with
      | some ρ' => runB Γ b ρ' μ
      | none => .stuck) (chkOf ds.2) ds.1 ρ μ
  | .whl t b, ρ, μ => whileLoop (fun ρ μ => evalT Γ t ρ μ) (fun ρ μ => runB Γ b ρ μ) Γ.wf ρ μ
  | .ret e, ρ, μ => (evalE Γ e ρ μ).then ρ fun d μ => .rt d μ
  | .retN, _, μ => .rt .non μ
  | .pass, ρ, μ => .nx ρ μ
  | .brk, ρ, μ => .br ρ μ
  | .cnt, ρ, μ => .ct ρ μ
  | .bad, _, _ => .stuck
  | .rse c n es, ρ, μ => if Γ.mkr then (evalEs Γ es ρ μ).then ρ fun ds μ => if ds.length = n ∧ ds.all okArg = true then .er c ds.reverse ρ μ else .stuck else .stuck
  | .tryR r c i h, ρ, μ => match evalE Γ r ρ μ with
    | .ok d μ' => .rt d μ'
    | .err c' fs μ' => if c' = c then (match h.val fs with
      | some d => .rt d μ'
      | none => .stuck) else .stuck
    | .stuck => .stuck
def runB (Γ : G) : B → Rho → Mu → Out
  | .nil, ρ, μ => .nx ρ μ
  | .cons s b, ρ, μ => (runS Γ s ρ μ).next fun ρ μ => runB Γ b ρ μ
end

/-! ### defs -/
structure Fn where
  np : Nat
  ns : Nat
  body : B
/-- what a def made is forgotten where nothing points at it; a list that it made is handed back by value -/
def fin (n : Nat) (d : D) (μ : Mu) : Res D :=
  if μ.length = n then .ok d μ else
    let d' := match d with
      | .ref k => if n ≤ k then (match μ[k]? with
          | some (.lst l) => .lst l
          | _ => d) else d
      | _ => d
    if below n d' = true ∧ (μ.take n).all (belowMO n) = true ∧ n ≤ μ.length then .ok d' (μ.take n) else .ok d μ
def finO (n : Nat) : Out → Res D
  | .nx _ μ => fin n .non μ
  | .rt d μ => fin n d μ
  | .er c fs _ μ => if μ.length = n then .err c fs μ else if belows n fs = true ∧ (μ.take n).all (belowMO n) = true ∧ n ≤ μ.length then .err c fs (μ.take n) else .err c fs μ
  | _ => .stuck
def startR (ns : Nat) (ds : List D) : Rho := ds.map some ++ List.replicate (ns - ds.length) none
def callD (tab : List Fn) (con : Nat → Option D) (dic : Nat → List (Str × D)) (wf : Nat) : Nat → Nat → List D → Mu → Res D
  | 0, _, _, _ => .stuck
  | k + 1, f, ds, μ => match tab[f]? with
    | some fn => if ds.length = fn.np then finO μ.length (runB ⟨callD tab con dic wf k, con, dic, wf, decide (2 ≤ k)⟩ fn.body (startR fn.ns ds) μ) else .stuck
    | none => .stuck
end PyI
/-! N1: rules of my own: a text asked of a dict with tuple keys; lists times ints; t[::-1]; enumerate of tuples. -/
namespace PyI.Nw
open PySem PySem.Spec PyProof.Rows L2

/-! ### d.get(text, x), d's keys are tuples -/
section
variable {prog : Program} {w : World} {K : Type} [DecidableEq K] {knd : KeyKind prog w K} {A : Around} {E : Value → Shared → Prop} {s : Shared}
theorem quiet_str {x : Str} {t : Tok} {Q : Bool → Shared → Prop} (h : Q true s) : wpAny (model prog w) A (eqIsQuiet 8 (.str x t)) Q E s := by
  unfold eqIsQuiet
  exact wpAny_pure h
theorem find_str {d : Addr} {o : Obj} {es : Array DictEntry} {ep : Nat} {xs : List (List K × Addr × Value)} {x : Str} {t : Tok} {hv : Int} {Q : Option Nat → Shared → Prop} (hu : A.units < cLine)
    (ho : s.heap.get? d = some o) (hd : o.data = .dict es ep) (he : es.toList = xs.map (entryOfKey (tupleKind knd))) (his : ∀ y ∈ xs, (tupleKind knd).is s.heap y.1 y.2.1) (hq : Q none s) :
    wpAny (model prog w) A (dictFind d (.str x t) hv) Q E s := by
  have hmem : ∀ e ∈ es, ∃ y ∈ xs, e = entryOfKey (tupleKind knd) y := by
    intro e hin
    have : e ∈ xs.map (entryOfKey (tupleKind knd)) := he ▸ Array.mem_toList_iff.mpr hin
    obtain ⟨y, hy, rfl⟩ := List.mem_map.mp this
    exact ⟨y, hy, rfl⟩
  unfold dictFind
  try with_reducible refine wpAny_holding ?_
  refine wpAny_bind (wpAny_dictEntries ho hd ?_)
  dsimp only
  have hno : es.findIdx? (fun e => e.key.isStr x) = none := Array.findIdx?_eq_none_iff.mpr fun e hin => by
    obtain ⟨y, _, rfl⟩ := hmem e hin
    rfl
  by_cases hall : (es.all fun e => isExactStrKey e.key) = true
  · rw [if_pos hall]
    unfold foundByValue
    rw [hno]
    exact wpAny_bind (wpAny_pure (wpAny_pure hq))
  · rw [if_neg hall]
    have hst : ∀ v ∈ (placesWithHash es.size (fun i => es[i]?.map (·.hash)) hv).filterMap (fun i => es[i]?.map (·.key)), ∃ k' b, v = .ref b ∧ (tupleKind knd).is s.heap k' b := by
      intro v hv'
      obtain ⟨i, _, hi⟩ := List.mem_filterMap.mp hv'
      cases hei : es[i]? with
      | none => rw [hei] at hi; cases hi
      | some e =>
        rw [hei] at hi
        obtain rfl : e.key = v := by simpa using hi
        obtain ⟨y, hy, rfl⟩ := hmem e (Array.mem_of_getElem? hei)
        exact ⟨y.1, y.2.1, rfl, his y hy⟩
    have hplain : (Value.str x t :: (placesWithHash es.size (fun i => es[i]?.map (·.hash)) hv).filterMap (fun i => es[i]?.map (·.key))).all carriedByValue = true → (placesWithHash es.size (fun i => es[i]?.map (·.hash)) hv) = [] := by
      intro q
      cases hp : placesWithHash es.size (fun i => es[i]?.map (·.hash)) hv with
      | nil => rfl
      | cons i r =>
        exfalso
        have hi : i ∈ placesWithHash es.size (fun i => es[i]?.map (·.hash)) hv := by rw [hp]; exact List.mem_cons_self ..
        have hlt : i < es.size := by
          unfold placesWithHash at hi
          exact List.mem_range.mp (List.mem_filter.mp hi).1
        have hk : es[i].key ∈ (placesWithHash es.size (fun i => es[i]?.map (·.hash)) hv).filterMap (fun i => es[i]?.map (·.key)) := List.mem_filterMap.mpr ⟨i, hi, by rw [Array.getElem?_eq_getElem hlt]; rfl⟩
        have h2 := List.all_eq_true.mp q _ (List.mem_cons_of_mem _ hk)
        obtain ⟨k', b, e, _⟩ := hst _ hk
        rw [e] at h2
        simp [carriedByValue] at h2
    by_cases hc : (Value.str x t :: (placesWithHash es.size (fun i => es[i]?.map (·.hash)) hv).filterMap (fun i => es[i]?.map (·.key))).all carriedByValue = true
    · rw [if_pos hc, hplain hc]
      unfold dictWalkPlain
      refine wpAny_bind ?_
      refine wpAny_forIn_list _ (fun rest b s' => s' = s ∧ b = (none, ()) ∧ rest = []) _ ?_ ?_ _ _ ⟨rfl, rfl, rfl⟩
      · rintro i rest b s' ⟨_, _, q⟩
        cases q
      · rintro b s' ⟨rfl, rfl, _⟩
        exact wpAny_pure hq
    · rw [if_neg hc]
      have hone : ¬ ((((placesWithHash es.size (fun i => es[i]?.map (·.hash)) hv).filterMap (fun i => es[i]?.map (·.key))) == [Value.str x t]) = true) := by
        intro q
        have q := eq_of_beq q
        obtain ⟨k', b, e, _⟩ := hst (.str x t) (by rw [q]; exact List.mem_singleton_self _)
        cases e
      rw [if_neg hone]
      refine wpAny_bind ?_
      have tell : ∀ {Q' : Bool → Shared → Prop}, Q' false s → wpAny (model prog w) A (tableMayTell (.str x t) ((placesWithHash es.size (fun i => es[i]?.map (·.hash)) hv).filterMap (fun i => es[i]?.map (·.key)))) Q' E s := by
        intro Q' h
        unfold tableMayTell
        split
        · exact wpAny_pure h
        · refine wpAny_bind (quiet_str ?_)
          simp only [Bool.not_true, Bool.false_eq_true, if_false]
          refine wpAny_bind ?_
          refine wpAny_forIn_list _ (fun rest r s' => s' = s ∧ r = (none, ()) ∧ ∀ v ∈ rest, ∃ k' b, v = .ref b ∧ (tupleKind knd).is s.heap k' b) _ ?_ ?_ _ _ ⟨rfl, rfl, hst⟩
          · rintro y rest r s' ⟨rfl, rfl, hr⟩
            obtain ⟨k', b, rfl, hb⟩ := hr y List.mem_cons_self
            refine wpAny_bind ((tupleKind knd).quiet hb ?_)
            simp only [Bool.not_true, Bool.false_eq_true, if_false]
            exact wpAny_pure ⟨rfl, rfl, fun v hv => hr v (List.mem_cons_of_mem _ hv)⟩
          · rintro r s' ⟨rfl, rfl, _⟩
            exact wpAny_pure h
      refine tell ?_
      rw [if_neg (by simp)]
      refine wpAny_bind ?_
      refine wpAny_forIn_list _ (fun rest b s' => s' = s ∧ b = (none, none)) _ ?_ ?_ _ _ ⟨rfl, rfl⟩
      · rintro i rest b s' ⟨rfl, rfl⟩
        cases hei : es[i]? with
        | none => exact wpAny_pure ⟨rfl, rfl⟩
        | some e =>
          obtain ⟨y, hy, rfl⟩ := hmem e (Array.mem_of_getElem? hei)
          dsimp only
          split
          · have hT := his y hy
            refine wpAny_bind (wpAny_dictEpoch ho hd (wpAny_bind ?_))
            obtain ⟨oT, its, n, t1, t2, t3, t4⟩ := hT
            refine SeqAt.EqAt.tuple_str (items := its) x t ⟨oT, t1, t2, n, t3⟩ hu prog w E _ ?_
            refine wpAny_bind (wpAny_dictEpoch ho hd ?_)
            show wpAny _ _ (if (ep != ep) = true then _ else _) _ E _
            rw [if_neg (by simp)]
            simp only [Bool.false_eq_true, if_false]
            refine wpAny_bind (wpAny_rule ?_)
            first | rw [if_neg (by simp)] | skip
            first
              | exact wpAny_pure ⟨rfl, rfl⟩
              | exact wpAny_bind (wpAny_pure (wpAny_pure ⟨rfl, rfl⟩))
          · exact wpAny_pure ⟨rfl, rfl⟩
      · rintro b s' ⟨rfl, rfl⟩
        exact wpAny_pure hq
theorem get_str {d : Addr} {xs : List (List K × Addr × Value)} {x : Str} {t : Tok} {Q : Option Value → Shared → Prop} (hu : A.units < cLine) (hm : s.heap.DictOfH (tupleKind knd) d xs) (hq : Q none { s with toks := s.toks + 1 }) :
    wpAny (model prog w) A (dictGet d (.str x t)) Q E s := by
  obtain ⟨o, es, ep, ho, _, hd, he, his, hn⟩ := hm
  unfold dictGet
  try with_reducible refine wpAny_holding ?_
  refine wpAny_bind (wpAny_pyHash_str (wpAny_bind (find_str (s := { s with toks := s.toks + 1 }) hu ho hd he his ?_)))
  exact wpAny_pure hq
theorem meets_get_str (d : Addr) (x : Str) (t : Tok) (hd : (d == sysModules) = false) (dflt : Value) :
    MeetsIn prog w (Builtin.«dict.get» ⟨[.ref d, .str x t, dflt], []⟩) (fun A R s => A.in1.units < cLine ∧ ∃ xs : List (List K × Addr × Value), s.heap.DictOfH (tupleKind knd) d xs ∧ R (.ok (.ret dflt)) { s with toks := s.toks + 1 }) :=
  .of_wp fun A R s ⟨hu, xs, hm, h⟩ => by
    show wpAny _ _ (dictGet d (.str x t) >>= _) _ _ s
    refine wpAny_bind (get_str (knd := knd) (Nat.lt_of_le_of_lt (Nat.le_refl _) hu) hm ?_)
    show wpAny _ _ (Builtin.Dict.missed d (.str x t) >>= _) _ _ _
    exact wpAny_bind (wpAny_missed_other hd (wpAny_pure ⟨dflt, rfl, h⟩))
end

/-- what d.get(y, x) looks up: a text is no key of a dict with tuple keys -/
def DGetS (H : Hp) (a : Addr) (y : V) (r : Option V) : Prop := DGet H a y r ∨ ((∃ kvs, Rd H a (.dT kvs)) ∧ (∃ z, y = .str z) ∧ r = none)
def tDGet2S (td ty tx : TE) : TE := fun σ H Q => td σ H fun x H1 => ∃ a, x = .ref a ∧ IsD H1 a ∧ ty σ H1 fun y H2 => tx σ H2 fun z H3 => ∃ o, DGetS H3 a y o ∧ Q (o.getD z) H3
section
variable {X : Cx} {o e f : Expr} {apos cpos : Pos} {td ty tx : TE}
theorem d_get2S {pins : List (Addr × Obj)} {σ : L2.St} {H : Hp} {s : Shared} {a : Addr} {y d : V} {u r : Value} {o : Option V} {A : Around} {E : Value → Shared → Prop} {Q : Value → Shared → Prop} (hu : A.units + 1 < cLine) (I : Inv X pins σ H s) (g : DGetS H a y o) (ry : RelV y u) (rd : RelV d r) (h : ∀ w' s', Inv X pins σ H s' → RelV (o.getD d) w' → Q w' s') :
    wpAny (model X.prog X.w) A (call (.builtin "dict.get") [.ref a, u, r]) Q E s := by
  rcases g with g | ⟨⟨kvs, e⟩, ⟨z, ey⟩, l⟩
  · exact d_get2 hu I g ry rd h
  · subst ey l
    obtain ⟨t, rfl⟩ := ry
    obtain ⟨_, hd, xs, rel, dd⟩ := dt_rd I.hok e
    refine call_meetsIn PySem.F.slot_dict_get dd.typeIs PySem.F.entry_dict_get (PySem.F.args_dict_get_3 _ _ _) (meets_get_str (knd := mixKind X.prog X.w) a z t hd r) ⟨hu, xs, dd, h _ _ (I.tok _) rd⟩
theorem pe_dget2S (hu : X.A.units + 1 < cLine) (ho : PE X o td) (he : PE X e ty) (hf : PE X f tx) (m : M2 X o "get" apos e f cpos) : PE X (.Call (.Attribute o "get" apos) [e, f] [] cpos) (tDGet2S td ty tx) := by
  refine ⟨fun pins s σ H Q I h => ?_⟩
  refine wpAny_Call_method m.base m.few m.line PySem.F.plainAttrs_dict PySem.F.slot_dict_get PySem.F.type_dict_get (thn (ho.run pins s σ H _ I h) fun u s1 ⟨x, H1, I1, rx, a, ex, d, q1⟩ => ?_)
  subst ex
  obtain rfl : u = Value.ref a := rx
  obtain ⟨t1, t2, _⟩ := isD_at I1 d
  refine ⟨t1, t2, ?_⟩
  rw [m.trees]
  refine Calls.callWith_builtin rfl (Calls.evalArgs_plain (Calls.spliced_cons (thn (he.run pins s1 σ H1 _ I1 q1) fun iv s2 ⟨y, H2, I2, ry, q2⟩ =>
    Calls.spliced_cons (thn (hf.run pins s2 σ H2 _ I2 q2) fun fv s3 ⟨z, H3, I3, rz, ov, g, q3⟩ => Calls.spliced_nil ?_))))
  exact d_get2S hu I3 g ry rz fun w' s4 I4 rw' => ⟨_, H3, I4, rw', q3⟩
/-- y in d, y not in d, by values -/
theorem op_din (hu : X.A.units + 1 < cLine) : OpR X (compareOp .In) (fun y x H Q => ∃ a o, x = .ref a ∧ DGet H a y o ∧ Q (.bl o.isSome) H) := by
  intro pins s σ H y x u v Q I ry rx h
  obtain ⟨a, ov, rfl, g, q⟩ := h
  obtain rfl : v = Value.ref a := rx
  exact d_in hu I g ry fun s3 I3 => ⟨.bl ov.isSome, H, I3, rfl, q⟩
theorem op_dnotin (hu : X.A.units + 1 < cLine) : OpR X (compareOp .NotIn) (fun y x H Q => ∃ a o, x = .ref a ∧ DGet H a y o ∧ Q (.bl (!o.isSome)) H) := by
  intro pins s σ H y x u v Q I ry rx h
  obtain ⟨a, ov, rfl, g, q⟩ := h
  obtain rfl : v = Value.ref a := rx
  exact d_notIn hu I g ry fun s3 I3 => ⟨.bl (!ov.isSome), H, I3, rfl, q⟩

/-! ### list * int -/
theorem op_repL : OpR X (binaryOp .Mult) (fun x y H Q => ∃ l k xs, x = .ref l ∧ y = .int k ∧ Rd H l (.lst xs) ∧ -(2 ^ 63) ≤ k ∧ k < 2 ^ 63 ∧ xs.length * k.toNat ≤ sizeLine ∧ ∀ p, H p = none → Q (.ref p) (upd H p (.lst (List.replicate k.toNat xs).flatten))) := by
  intro pins s σ H x y v u Q I rx ry h
  obtain ⟨l, k, xs, rfl, rfl, hl, h1, h2, hz, q⟩ := h
  cases rx
  obtain ⟨t, rfl⟩ := ry
  obtain ⟨_, its, n, r, e⟩ := hl.ok I.hok
  have hn := r.length
  have hlen : its.toArray.size * k.toNat ≤ sizeLine := by rw [List.size_toArray, ← hn]; exact hz
  have hcap : ¬ its.toArray.size * k.toNat > (2 ^ 63 - 1) / 8 := by
    have : (sizeLine : Nat) ≤ (2 ^ 63 - 1) / 8 := by decide
    omega
  have hfit : ¬ (!Builtin.List.listFitsIndex k) = true := by
    rw [fitsIndex_both h1 h2]
    exact Bool.false_ne_true
  have hlong : ¬ Builtin.List.listTooLong (its.toArray.size * k.toNat) = true := by
    rw [notLongL hlen]
    exact Bool.false_ne_true
  have hnew : List.foldl (fun x1 x2 => x1 ++ x2) #[] (List.replicate (if its.toArray.isEmpty = true then 0 else k.toNat) its.toArray) = (List.replicate k.toNat its).flatten.toArray := by
    have f0 : ∀ m : Nat, List.foldl (fun x1 x2 => x1 ++ x2) #[] (List.replicate m its.toArray) = (List.replicate m its).flatten.toArray := fun m => by
      have := foldl_rep its m []
      rw [List.nil_append] at this
      exact this
    rw [f0]
    cases its with
    | nil => simp
    | cons a r' => rw [if_neg (by simp)]
  refine wpAny_binaryOp_repeat_ref (T := "list") (U := "int") (by decide) ⟨_, e, rfl⟩ (fun s' => typeIs_int s' k t) noFill_list_mul F.fills_int_mul F.slot_int_rmul repeat_list F.slot_int_index.lookup
    (call_meets F.slot_int_rmul (typeIs_int s k t) F.entry_int_rmul (F.args_int_rmul_2 _ _) (int___rmul___int_list k t l its.toArray n)
      ⟨e, rfl, ⟨_, e, rfl⟩, call_meets F.slot_list_mul ⟨_, e, rfl⟩ F.entry_list_mul (F.args_list_mul_2 _ _) (AutoListH.list___mul___list_int_3 l its.toArray n k t hfit hcap hlong) ⟨e, ?_⟩⟩)
  rw [hnew]
  exact ⟨.ref _, _, I.lnew (t' := s.toks) (r.rep k.toNat) (by rw [PyProof.Rows.lm_len_rep_flat, Nat.mul_comm]; exact hz), rfl, q _ I.fresh⟩

/-- xs.extend(ys), ys any list that stands -/
theorem mt_extendR : MtR X "list.extend" (fun x vs H Q => ∃ l b xs zs, x = .ref l ∧ vs = [.ref b] ∧ H l = some (.lst xs) ∧ Rd H b (.lst zs) ∧ xs.length + zs.length ≤ sizeLine ∧ Q .non (upd H l (.lst (xs ++ zs)))) := by
  intro pins s σ H x vs v us Q I rx rv h
  obtain ⟨l, b, xs, zs, rfl, rfl, hH, hB, hz, q⟩ := h
  cases rx
  obtain ⟨u, rfl, ru⟩ := rv.one
  cases ru
  obtain ⟨z, its, n, r, hl, e⟩ := I.lstM hH
  obtain ⟨_, its2, n2, r2, e2⟩ := hB.ok I.hok
  have hl2 := r2.length
  have hsz : its.toArray.size + its2.toArray.size ≤ sizeLine := by rw [List.size_toArray, List.size_toArray]; omega
  have hlong : ¬ (!its.toArray.isEmpty && Builtin.List.listTooLong (its.toArray.size + its2.toArray.size)) = true := by
    rw [notLongL hsz, Bool.and_false]
    exact Bool.false_ne_true
  refine call_meets F.slot_list_extend ⟨_, e, rfl⟩ F.entry_list_extend (F.args_list_extend_2 _ _)
    (AutoSeq1.list_extend_list_list_0 l its.toArray n b its2.toArray n2 hlong (by rw [List.size_toArray]; omega) (by omega)) ⟨e, e2, ?_⟩
  refine ⟨.non, _, I.lset (its' := its ++ its2) hH e (by simp) (r.append r2) ?_, rfl, q⟩
  rw [List.length_append]
  omega

/-! ### min of three ints -/
theorem call_min3 (hc : X.calm = true) : CallR X (.builtin "min") (fun xs H Q => ∃ a b c : Int, xs = [.int a, .int b, .int c] ∧ Q (.int (if c < (if b < a then b else a) then c else (if b < a then b else a))) H) := by
  intro pins s σ H xs us Q I r h
  obtain ⟨a, b, c, rfl, q⟩ := h
  refine call_min3Nu hc pins s σ H _ us Q I r ⟨_, _, _, _, rfl, ?_, q⟩
  show ((some (decide (b < a))).map (fun c => if c = true then V.int b else V.int a)).bind (fun m => nuMin2 m (.int c)) = _
  by_cases h1 : b < a
  · rw [decide_eq_true h1, if_pos h1]
    show (some (decide (c < b))).map (fun k => if k = true then V.int c else V.int b) = _
    by_cases h2 : c < b
    · rw [decide_eq_true h2, if_pos h2]; rfl
    · rw [decide_eq_false h2, if_neg h2]; rfl
  · rw [decide_eq_false h1, if_neg h1]
    show (some (decide (c < a))).map (fun k => if k = true then V.int c else V.int a) = _
    by_cases h2 : c < a
    · rw [decide_eq_true h2, if_pos h2]; rfl
    · rw [decide_eq_false h2, if_neg h2]; rfl

/-! ### t[::-1] -/
theorem fm_congr {α β : Type} {f g : α → Option β} : ∀ {l : List α}, (∀ x ∈ l, f x = g x) → l.filterMap f = l.filterMap g
  | [], _ => rfl
  | x :: l, h => by
    rw [List.filterMap_cons, List.filterMap_cons, h x (List.mem_cons_self ..), fm_congr fun y hy => h y (List.mem_cons_of_mem _ hy)]
theorem getItem_tuple_rev {prog : Program} {w : World} {A : Around} {E : Value → Shared → Prop} {s : Shared} {t sl : Addr} {items : Array Value} {u : Tok} {Q : Value → Shared → Prop} (ht : IsTup s.heap t items) (hs : s.heap.IsSliceOf sl .none .none (.int (-1) u))
    (h : Q (.ref s.heap.objs.size) { s with heap := s.heap.push { cls := .type "tuple", data := .seq items.toList.reverse.toArray } })
    (hsz : items.size ≤ sizeLine) : wpAny (model prog w) A (getItem (.ref t) (.ref sl)) Q E s := by
  have hrev : sizeOk (.seq (items.toList.reverse).toArray) := by
    show (items.toList.reverse).toArray.size ≤ sizeLine
    rw [List.size_toArray, List.length_reverse, Array.length_toList]
    omega
  obtain ⟨os, hos, hcs, hds⟩ := id hs
  have hTs : s.TypeIs (.ref sl) "slice" := ⟨os, hos, hcs⟩
  have appl : ∀ {Q' : Int × Int × Nat → Shared → Prop}, Q' ((items.size : Int) - 1, -1, items.size) s → wpAny (model prog w) A.in1 (Builtin.Slice.sliceApplied (.ref sl) (pure (items.size : Int))) Q' (fun v s' => E v s') s := by
    intro Q' h
    unfold Builtin.Slice.sliceApplied Builtin.Slice.sliceFields
    refine wpAny_bind (wpAny_bind (wpAny_field hos hds (x := .none) rfl (wpAny_bind (wpAny_field hos hds (x := .none) rfl (wpAny_bind (wpAny_field hos hds (x := .int (-1) u) rfl (wpAny_pure ?_)))))))
    refine wpAny_bind (slicePart_int ?_)
    show wpAny _ _ (if ((-1 : Int) == 0) = true then _ else _) _ _ s
    rw [if_neg (by decide)]
    refine wpAny_bind (slicePart_none (wpAny_bind (slicePart_none (wpAny_bind (wpAny_pure ?_)))))
    show wpAny _ _ (match Builtin.Slice.sliceAdjust none none (-1) (items.size : Int) with | (lo, hi) => pure (lo, (-1 : Int), Builtin.Slice.slicePlaces lo hi (-1))) _ _ s
    have e1 : Builtin.Slice.sliceAdjust none none (-1) (items.size : Int) = ((items.size : Int) - 1, -1) := rfl
    rw [e1]
    have e2 : Builtin.Slice.slicePlaces ((items.size : Int) - 1) (-1) (-1) = items.size := by
      unfold Builtin.Slice.slicePlaces
      rw [if_neg (by decide)]
      by_cases hz : (items.size : Int) - 1 > -1
      · rw [if_pos hz, show (- -1 : Int) = 1 by decide, Int.ediv_one]
        omega
      · rw [if_neg hz]
        omega
    show wpAny _ _ (pure ((items.size : Int) - 1, (-1 : Int), Builtin.Slice.slicePlaces ((items.size : Int) - 1) (-1) (-1))) _ _ s
    rw [e2]
    exact wpAny_pure h
  unfold getItem
  try with_reducible refine wpAny_holding ?_
  first | refine wpAny_bind (wpAny_pure ?_) | skip
  refine wpAny_bind (wpAny_sequenceKey ht.typeIs (by decide) ?_)
  refine wpAny_bind (wpAny_callSpecial?_slot (name := Str.ofString "__getitem__") ht.typeIs slot_tuple_getitem
    (wpAny_call_entry slot_tuple_getitem ht.typeIs PyProof.Rows.entry_tuple_getitem ?_ (PyProof.Rows.args_tuple_getitem _ _)))
  show wpAny _ _ (Builtin.Tuple.tupleItemsOf (.ref t) >>= _) _ _ s
  refine wpAny_bind (PyProof.Rows.tupleItemsOf_ ht ?_)
  refine wpAny_bind (wpAny_typeOf hTs ?_)
  rw [if_pos (by decide)]
  refine wpAny_bind (appl ?_)
  have hno : ¬ (((((items.size : Int) - 1) == 0) && ((-1 : Int) == 1) && (items.size == items.size)) = true) := by
    simp
  show wpAny _ _ (if ((((items.size : Int) - 1) == 0) && ((-1 : Int) == 1) && (items.size == items.size)) = true then _ else _) _ _ s
  rw [if_neg hno]
  have pick : ((List.range items.size).filterMap fun (k : Nat) => items[(((items.size : Int) - 1) + (k : Int) * (-1)).toNat]?).toArray = items.toList.reverse.toArray := by
    have e : (List.range items.size).filterMap (fun (k : Nat) => items[(((items.size : Int) - 1) + (k : Int) * (-1)).toNat]?) = ((List.range items.size).map fun k => items.size - 1 - k).filterMap (items[·]?) := by
      rw [List.filterMap_map]
      refine fm_congr fun k hk => ?_
      have := List.mem_range.mp hk
      have e3 : (((items.size : Int) - 1) + (k : Int) * (-1)).toNat = items.size - 1 - k := by omega
      simp only [Function.comp, e3]
    rw [e, PySem.W.krv_range, List.filterMap_reverse, PySem.W.krv_all]
  rw [pick]
  first
    | exact wpAny_bind (m := Builtin.Tuple.tupleExact _) (wpAny_newObj_type (wpAny_pure ⟨_, rfl, wpAny_pure h⟩) hrev)
    | exact wpAny_bind (m := Builtin.Tuple.tupleExact _) (wpAny_newObj_type (wpAny_bind (wpAny_pure (wpAny_pure ⟨_, rfl, wpAny_pure h⟩))) hrev)
    | exact wpAny_bind (wpAny_bind (m := Builtin.Tuple.tupleExact _) (wpAny_newObj_type (wpAny_pure (wpAny_pure ⟨_, rfl, wpAny_pure h⟩)) hrev))
    | exact wpAny_bind (wpAny_bind (m := Builtin.Tuple.tupleExact _) (wpAny_newObj_type (wpAny_pure ⟨_, rfl, wpAny_pure h⟩) hrev))
/-- xs[::-1] of a list or a tuple -/
def tRevA (K : PySem.W.Frag) (te : TE) : TE := fun σ H Q => te σ H fun x H1 => ∃ a xs, x = .ref a ∧ ((SqL K H1 a xs ∧ ∀ p, H1 p = none → Q (.ref p) (upd H1 p (.lst xs.reverse))) ∨ (SqT K H1 a xs ∧ ∀ p, H1 p = none → Q (.ref p) (upd H1 p (.tup xs.reverse))))
theorem pe_revA {e : Expr} {te : TE} {k : Nat} {p1 p2 p3 pos : Pos} (he : PE X e te) : PE X (.Subscript e (.Slice none none (some (.UnaryOp .USub (.Constant (.int 1) k p1) p2)) p3) pos) (tRevA X.K te) := by
  refine ⟨fun pins s σ H Q I h => ?_⟩
  refine Subscript_ (thn (he.run pins s σ H _ I h) fun v s1 ⟨x, H1, I1, r1, q1⟩ => ?_)
  obtain ⟨a, xs, ex, q⟩ := q1
  subst ex
  cases r1
  have hst : PO X (some (.UnaryOp .USub (.Constant (.int 1) k p1) p2)) (tPart (tUn (rU fun i => .int (-i)) (tC (.int 1)))) := po_some (pe_un un_neg pe_int)
  refine wpAny_Slice (thn (po_none.run pins s1 σ H1 (fun o H2 => o = none ∧ H2 = H1) I1 ⟨rfl, rfl⟩) fun vl s2 ⟨l, H2, I2, pl, el, e2⟩ => ?_)
  subst el e2
  refine thn (po_none.run pins s2 σ H2 (fun o H3 => o = none ∧ H3 = H2) I2 ⟨rfl, rfl⟩) fun vu s3 ⟨u, H3, I3, pu, eu, e3⟩ => ?_
  subst eu e3
  refine thn (hst.run pins s3 σ H3 (fun o H4 => o = some (-1) ∧ H4 = H3) I3 ⟨1, rfl, -1, rfl, rfl, rfl⟩) fun vs s4 ⟨o, H4, I4, ps, eo, e4⟩ => ?_
  subst eo e4
  have I5 : Inv X pins σ H4 { s4 with heap := s4.heap.push { cls := .type "slice", data := .fields #[vl, vu, vs] } } := I4.kept (t' := s4.toks) fun b ob q => Heap.get?_push_of_some _ q
  show wpAny (model X.prog X.w) X.A (subscriptTail e (.Slice none none (some (.UnaryOp .USub (.Constant (.int 1) k p1) p2)) p3) (.ref a) (.ref s4.heap.objs.size)) (EP X pins σ Q) X.xe { s4 with heap := s4.heap.push { cls := .type "slice", data := .fields #[vl, vu, vs] } }
  rcases q with ⟨hx, q⟩ | ⟨hx, q⟩
  · obtain ⟨its, r, ht, hz⟩ := I5.list hx
    have hlen := r.length
    refine tail_any (ops := [.ref a, .ref s4.heap.objs.size]) ht.isList.typeIs (PySem.slot_list_getitem.lookup) ?_ (by with_unfolding_all rfl)
    refine wpAny_getItem_list_slice ht.isList (Heap.IsSliceOf.new _ vl vu vs) pl pu ps (by decide) ?_ (by rw [List.size_toArray]; omega)
    rw [PySem.W.krv_pick]
    refine ⟨.ref _, _, I5.laid (t' := s4.toks) (o := .lst xs.reverse) (fun b ob q => Heap.get?_push_of_some _ q) (Nat.le_refl _) ?_, rfl, q _ (I5.hok.fresh (Nat.le_refl _))⟩
    exact ⟨by rw [List.length_reverse]; exact hz, _, 0, r.reverse, Heap.get?_push_size _ rfl⟩
  · obtain ⟨its, r, ht, hz⟩ := I5.tuple hx
    have hlen := r.length
    cases pl with
    | none =>
      cases pu with
      | none =>
        cases ps with
        | int i u =>
          refine tail_any (ops := [.ref a, .ref s4.heap.objs.size]) ht.typeIs (PyProof.Rows.slot_tuple_getitem.lookup) ?_ (by with_unfolding_all rfl)
          refine getItem_tuple_rev ht (Heap.IsSliceOf.new _ _ _ _) ?_ (by rw [List.size_toArray]; omega)
          refine ⟨.ref _, _, I5.laid (t' := s4.toks) (o := .tup xs.reverse) (fun b ob q => Heap.get?_push_of_some _ q) (Nat.le_refl _) ?_, rfl, q _ (I5.hok.fresh (Nat.le_refl _))⟩
          exact ⟨by rw [List.length_reverse]; exact hz, its.reverse, r.reverse, ⟨_, Heap.get?_push_size _ rfl, rfl, 0, by simp⟩⟩
end

/-! ### enumerate(tuple) -/
theorem meets_enumB1 {v : Value} {o : Obj} {H : Heap → Prop} (B : Begins v o H) :
    Meets (Builtin.«enumerate.__new__» ⟨[.type "enumerate", v], []⟩) (fun _ R s => H s.heap ∧
      R (.ok (.ret (.ref (s.heap.push o).objs.size))) { s with heap := (s.heap.push o).push { cls := .type "enumerate", data := .fields #[.none, .bool false, .ref s.heap.objs.size, rawInt 0, .none, .none] } }) :=
  .of_wp fun prog w A R s h => by
    obtain ⟨hp, g, d, tk, os⟩ := s; obtain ⟨h1, h⟩ := h
    have hsub := sub_enumerate
    have q1 : ∀ {A' : Around} {E : Value → Shared → Prop} {Q : Value → Shared → Prop}, Q (.ref hp.objs.size) ⟨hp.push o, g, d, tk, os⟩ → wpAny (model prog w) A' (pyIter v) Q E ⟨hp, g, d, tk, os⟩ :=
      fun q => B.iter prog w _ _ ⟨hp, g, d, tk, os⟩ _ h1 q
    wp_walk using q1
    refine wpAny_stack_any fun st => wpAny_pure ?_
    split
    · rename_i c _ _ _ _ _
      cases (c == Value.type "enumerate")
      · wp_walk using q1
        exact ⟨_, rfl, h⟩
      · wp_walk using q1
        exact ⟨_, rfl, h⟩
    · wp_walk using q1
      exact ⟨_, rfl, h⟩
section
variable {prog : Program} {w : World} {A : Around} {E : Value → Shared → Prop} {s : Shared}
theorem enum_begins1 {v : Value} {o : Obj} {H : Heap → Prop} {Q : Value → Shared → Prop} (B : Begins v o H) (h1 : H s.heap)
    (h : ∀ h', IsEnum h' (s.heap.objs.size + 1) s.heap.objs.size 0 .none → h'.get? s.heap.objs.size = some o → h'.objs.size = s.heap.objs.size + 2 →
      (∀ b o, s.heap.get? b = some o → h'.get? b = some o) → Q (.ref (s.heap.objs.size + 1)) { s with heap := h' }) :
    wpAny (model prog w) A (call (.type "enumerate") [v]) Q E s := by
  refine callType_new F.called_enumerate (by decide) (F.typeCall_enumerate_1 _) (F.newCall_enumerate_1 _) (fun obj => F.args_object_init_2 obj _) F.entry_enumerate_new
    (meets_enumB1 B) ⟨h1, ?_⟩
  have hz : (s.heap.push o).objs.size = s.heap.objs.size + 1 := Heap.size_push ..
  show _ ∧ _
  rw [hz]
  have he : IsEnum ((s.heap.push o).push { cls := .type "enumerate", data := .fields #[.none, .bool false, .ref s.heap.objs.size, rawInt 0, .none, .none] }) (s.heap.objs.size + 1) s.heap.objs.size 0 .none := by
    have := Heap.get?_push_size (s.heap.push o) (o := { cls := .type "enumerate", data := .fields #[.none, .bool false, .ref s.heap.objs.size, rawInt 0, .none, .none] }) rfl
    rw [hz] at this; exact this
  refine ⟨⟨_, he, rfl⟩, h _ he (Heap.get?_push_of_some _ (Heap.get?_push_size _ B.free)) (by rw [Heap.size_push, hz]) fun b o x => Heap.get?_push_of_some _ (Heap.get?_push_of_some _ x)⟩
end
/-- the tuple at a as it stands at each turn, each item in a new pair -/
def IteT (K : PySem.W.Frag) (a : Addr) : L2.It :=
  ⟨fun i H => ∃ (xs : List V) (x : V), SqT K H a xs ∧ xs[i]? = some x, fun i H v H' => ∃ T x, v = .ref T ∧ H T = none ∧ H' = upd H T (.tup [.int (i : Nat), x]) ∧ ∀ xs, SqT K H a xs → xs[i]? = some x, fun i H => ∃ xs : List V, SqT K H a xs ∧ xs.length = i⟩
theorem turn_enumT {P : Program} {w : World} {K : PySem.W.Frag} {elts : List Expr} {kk : Nat} {tpos : Pos} (a e it : Addr) :
    Turn P w K (.Tuple elts kk tpos) (IteT K a) [e, it] e (fun i h => (∃ old, IsEnum h e it ((i : Nat) : Int) old) ∧ h.IsTupleIter it a i ∧ e ≠ it ∧ a ≠ it ∧ a ≠ e) where
  mem := by simp
  obj := fun i h st b hb => by
    obtain ⟨⟨old, he⟩, ⟨o, ho, hc, hd⟩, _⟩ := st
    have e' : b = e ∨ b = it := by simpa using hb
    rcases e' with z | z
    · rw [z]; exact ⟨_, he, fun v q => nomatch q⟩
    · rw [z]; exact ⟨o, ho, fun v q => by rw [hd] at q; cases q⟩
  keep := fun i h h' st k => let ⟨⟨old, he⟩, hi, hne⟩ := st; ⟨⟨old, k e (by simp) _ he⟩, hi.at fun o q => k it (by simp) o q, hne⟩
  item := by
    intro X hP hw hK hc i pins s σ H E I hf st hg
    subst hP hw hK
    obtain ⟨⟨old, he⟩, hit, hne, hai, hae⟩ := st
    obtain ⟨xs, x, hq, hx⟩ := hg
    obtain ⟨its, rv, p, hz⟩ := I.tuple hq
    obtain ⟨u, hu, ru⟩ := rv.get hx
    have hel : e < s.heap.objs.size := Heap.lt_size he
    have hil : it < s.heap.objs.size := by obtain ⟨_, q, _⟩ := hit; exact Heap.lt_size q
    have hlt : i < its.toArray.size := by
      have := (List.getElem?_eq_some_iff.mp hu).1
      simpa using this
    have pt : s.heap.IsTuple a its.toArray := by obtain ⟨o, h1, h2, n, h3⟩ := p; exact ⟨o, h1, h2, n, h3⟩
    refine wpAny_pyNext_enum_itemD (Draws.tuple (A := X.A.in1) (I.ok.hd hc) it a hai its.toArray) he ⟨hit, pt⟩ hlt hne (by simp; exact ⟨hne, Ne.symm hae⟩) fun x' h' tk hP ho hit' hT hsz hk => ?_
    have ex : x' = u := by
      have h1 : its.toArray[i]? = some x' := hP
      rw [List.getElem?_toArray, hu] at h1
      exact (Option.some.inj h1).symm
    subst ex
    refine ⟨_, rfl, wpAny_letOwnedTupleGo_enum (s := { s with heap := h', toks := tk + 1 }) ho fun h'' he' sb => ?_⟩
    have hT2 : h''.get? s.heap.objs.size = some { cls := .type "tuple", data := .seq #[.int i tk, x'] } := (sb.2 _ (Nat.ne_of_gt hel)).trans hT
    have new : ObjOk X.prog X.w (upd H s.heap.objs.size (.tup [.int (i : Nat), x])) h'' s.heap.objs.size (.tup [.int (i : Nat), x]) :=
      ⟨by show 2 ≤ sizeLine; decide, [.int i tk, x'], .cons ⟨_, rfl⟩ (.cons ru .nil), ⟨_, hT2, rfl, _, rfl⟩⟩
    have I1 : Inv X pins σ (upd H s.heap.objs.size (.tup [.int (i : Nat), x])) { s with heap := h'', toks := tk + 1 } :=
      I.turnedNew (ch := [e, it]) (fun b ob hb q => (sb.2 b (fun z => hb (by simp [z]))).trans (hk b ob (fun z => hb (by simp [z])) (fun z => hb (by simp [z])) q)) hf (Nat.le_refl _) new
    refine ⟨.ref s.heap.objs.size, _, I1, rfl, ⟨_, x, rfl, I.hok.fresh (Nat.le_refl _), rfl, fun ys hy => by rw [I.tuple_inj hy hq]; exact hx⟩, ⟨⟨x', ?_⟩, hit'.1.at fun o q => (sb.2 it (Ne.symm hne)).trans q, hne, hai, hae⟩, fun b hb => ?_⟩
    · have e1 : ((i + 1 : Nat) : Int) = (i : Int) + 1 := by omega
      rw [e1]; exact he'
    · have hb' : b < s.heap.objs.size := by
        have e' : b = e ∨ b = it := by simpa using hb
        rcases e' with z | z
        · rw [z]; exact hel
        · rw [z]; exact hil
      rw [upd_ne (Nat.ne_of_lt hb')]
      exact (hf b hb).1
  done := by
    intro X hP hw hK hc i pins s σ H E I hf st hg
    subst hP hw hK
    obtain ⟨⟨old, he⟩, hit, hne, hai, hae⟩ := st
    obtain ⟨xs, hq, hx⟩ := hg
    obtain ⟨its, rv, p, hz⟩ := I.tuple hq
    obtain ⟨f0, f1, f2, f3, f4, f5⟩ := hf it (by simp)
    have hl := rv.length
    have pt : s.heap.IsTuple a its.toArray := by obtain ⟨o, h1, h2, n, h3⟩ := p; exact ⟨o, h1, h2, n, h3⟩
    have hi : i = its.toArray.size := by rw [List.size_toArray, ← hl, hx]
    subst hi
    exact wpAny_pyNext_enum_endD (Draws.tuple (A := X.A.in1) (I.ok.hd hc) it a hai its.toArray) he ⟨hit, pt⟩ fun h' eb => ⟨rfl, I.turned (t' := s.toks) (fun b o hb q => eb b o hb q) f0 f1 f3 f4 f5⟩
  self := fun A i s Q E st h => let ⟨⟨_, he⟩, _⟩ := st; wpAny_pyIter_enum he h
def iEnumA (K : PySem.W.Frag) (ta : TA) : TI := fun σ H R => ta σ H fun vs H1 => ∃ a xs, vs = [.ref a] ∧ ((SqL K H1 a xs ∧ R (Ite K a) H1) ∨ (SqT K H1 a xs ∧ R (IteT K a) H1))
theorem pi_enumA {X : Cx} {e : Expr} {ta : TA} {p pos tpos : Pos} {elts : List Expr} {kk : Nat} (hg : Gl X "enumerate") (hm : X.mg "enumerate" = none) (ha : PA X [e] ta) (hs : starEach [e] X.env = [(false, eval e X.env)] := by rfl) :
    PI X (.Tuple elts kk tpos) (.Call (.Name "enumerate" p) [e] [] pos) (iEnumA X.K ta) := by
  refine ⟨fun pins s σ H R I h => ?_⟩
  refine Call_ (ld_blt I hg hm boot_enumerate (PyProof.Rows.callWith_type1 (thn (ha.run pos pins s σ H _ I h) fun us s1 ⟨vs, H1, I1, r1, q1⟩ => ?_) hs rfl))
  obtain ⟨a, xs, ex, q⟩ := q1
  subst ex
  cases r1 with
  | cons r rr =>
    cases rr
    cases r
    rcases q with ⟨hq, q⟩ | ⟨hq, q⟩
    · obtain ⟨its, rv, p', hz⟩ := I1.list hq
      refine call_enumerate_list p'.isList fun h' he hit hsz hk => wpAny_pyIter_enum he ?_
      have I2 : Inv X pins σ H1 { s1 with heap := h' } := I1.kept (t' := s1.toks) hk
      refine ⟨s1.heap.objs.size + 1, [s1.heap.objs.size + 1, s1.heap.objs.size], _, _, H1, rfl, I2, turn_enum a (s1.heap.objs.size + 1) s1.heap.objs.size, ⟨⟨.none, he⟩, hit, Nat.succ_ne_self _⟩, fun b hb => ?_, q⟩
      have e' : b = s1.heap.objs.size + 1 ∨ b = s1.heap.objs.size := by simpa using hb
      have hle : s1.heap.objs.size ≤ b := by
        rcases e' with z | z
        · rw [z]; exact Nat.le_add_right _ _
        · rw [z]; exact Nat.le_refl _
      exact I1.fpOk hle (I1.hok.fresh hle)
    · obtain ⟨its, rv, p', hz⟩ := I1.tuple hq
      have pt : s1.heap.IsTuple a its.toArray := by obtain ⟨o, h1, h2, n, h3⟩ := p'; exact ⟨o, h1, h2, n, h3⟩
      have hal : a < s1.heap.objs.size := by obtain ⟨o, h1, _⟩ := p'; exact Heap.lt_size h1
      refine enum_begins1 (begins_tuple a its.toArray) pt fun h' he hit hsz hk => wpAny_pyIter_enum he ?_
      have I2 : Inv X pins σ H1 { s1 with heap := h' } := I1.kept (t' := s1.toks) hk
      refine ⟨s1.heap.objs.size + 1, [s1.heap.objs.size + 1, s1.heap.objs.size], _, _, H1, rfl, I2, turn_enumT a (s1.heap.objs.size + 1) s1.heap.objs.size, ⟨⟨.none, he⟩, ⟨_, hit, rfl, rfl⟩, Nat.succ_ne_self _, Nat.ne_of_lt hal, Nat.ne_of_lt (Nat.lt_succ_of_lt hal)⟩, fun b hb => ?_, q⟩
      have e' : b = s1.heap.objs.size + 1 ∨ b = s1.heap.objs.size := by simpa using hb
      have hle : s1.heap.objs.size ≤ b := by
        rcases e' with z | z
        · rw [z]; exact Nat.le_add_right _ _
        · rw [z]; exact Nat.le_refl _
      exact I1.fpOk hle (I1.hok.fresh hle)
end PyI.Nw
/-! A3: what the model does, in the words of the interpreter: frames of the proof, and operators. -/
namespace PyI
open PySem L2

/-! ### canonical readings -/
section
variable (X : Cx)
def wE (e : Expr) : TE := fun σ H Q => ∀ pins s, Inv X pins σ H s → wpAny (model X.prog X.w) X.A (eval e X.env) (EP X pins σ Q) X.xe s
def wT (e : Expr) : TT := fun σ H Q => ∀ pins s, Inv X pins σ H s → wpAny (model X.prog X.w) X.A (isTrue e X.env (eval e X.env)) (TP X pins σ Q) X.xe s
def wA (es : List Expr) : TA := fun σ H Q => ∀ (pos : Pos) pins s, Inv X pins σ H s → wpAny (model X.prog X.w) X.A (spliced (backTo pos (starEach es X.env))) (AP X pins σ Q) X.xe s
def wI (tg iter : Expr) : TI := fun σ H (R : L2.It → Hp → Prop) => ∀ pins s, Inv X pins σ H s →
  wpAny (model X.prog X.w) X.A (eval iter X.env) (fun v s1 => wpAny (model X.prog X.w) X.A (pyIter v) (PIE X pins σ tg R) X.xe s1) X.xe s
def wO (f : Value → Value → Sem Value) : R2 := fun x y H Q => ∀ pins s σ v u, Inv X pins σ H s → RelV x v → RelV y u → wpAny (model X.prog X.w) X.A (f v u) (EP X pins σ Q) X.xe s
def wU (f : Value → Sem Value) : V → Hp → VK → Prop := fun x H Q => ∀ pins s σ v, Inv X pins σ H s → RelV x v → wpAny (model X.prog X.w) X.A (f v) (EP X pins σ Q) X.xe s
def wC (f : Value) : List V → Hp → VK → Prop := fun xs H Q => ∀ pins s σ us, Inv X pins σ H s → Vals xs us → wpAny (model X.prog X.w) X.A (call f us) (EP X pins σ Q) X.xe s
def wM (id : String) : V → List V → Hp → VK → Prop := fun x xs H Q => ∀ pins s σ v us, Inv X pins σ H s → RelV x v → Vals xs us → wpAny (model X.prog X.w) X.A (call (.builtin id) (v :: us)) (EP X pins σ Q) X.xe s
end
section
variable {X : Cx} {e : Expr} {es : List Expr} {σ : St} {H : Hp} {Q : VK}
theorem pE : PE X e (wE X e) := ⟨fun pins s _ _ _ I h => h pins s I⟩
theorem pT : PT X e (wT X e) := ⟨fun pins s _ _ _ I h => h pins s I⟩
theorem pA : PA X es (wA X es) := ⟨fun pos pins s _ _ _ I h => h pos pins s I⟩
theorem pI {tg : Expr} : PI X tg e (wI X tg e) := ⟨fun pins s _ _ _ I h => h pins s I⟩
theorem pO {f : Value → Value → Sem Value} : OpR X f (wO X f) := fun pins s σ _ _ _ v u _ I r r' h => h pins s σ v u I r r'
theorem pU {f : Value → Sem Value} : UnR X f (wU X f) := fun pins s σ _ _ v _ I r h => h pins s σ v I r
theorem pC {f : Value} : CallR X f (wC X f) := fun pins s σ _ _ us _ I r h => h pins s σ us I r
theorem pM {id : String} : MtR X id (wM X id) := fun pins s σ _ _ _ v us _ I r r' h => h pins s σ v us I r r'
theorem we {t : TE} (p : PE X e t) (h : t σ H Q) : wE X e σ H Q := fun pins s I => p.run pins s σ H Q I h
theorem wt {t : TT} {Q : Bool → Hp → Prop} (p : PT X e t) (h : t σ H Q) : wT X e σ H Q := fun pins s I => p.run pins s σ H Q I h
theorem wa {t : TA} {Q : List V → Hp → Prop} (p : PA X es t) (h : t σ H Q) : wA X es σ H Q := fun pos pins s I => p.run pos pins s σ H Q I h
theorem wi {tg : Expr} {t : TI} {R : L2.It → Hp → Prop} (p : PI X tg e t) (h : t σ H R) : wI X tg e σ H R := fun pins s I => p.run pins s σ H R I h
theorem wo {f : Value → Value → Sem Value} {r : R2} {x y : V} (p : OpR X f r) (h : r x y H Q) : wO X f x y H Q := fun pins s σ v u I r r' => p pins s σ H x y v u Q I r r' h
theorem wu {f : Value → Sem Value} {r : V → Hp → VK → Prop} {x : V} (p : UnR X f r) (h : r x H Q) : wU X f x H Q := fun pins s σ v I r => p pins s σ H x v Q I r h
theorem wc {f : Value} {r : List V → Hp → VK → Prop} {xs : List V} (p : CallR X f r) (h : r xs H Q) : wC X f xs H Q := fun pins s σ us I r => p pins s σ H xs us Q I r h
theorem wm {id : String} {r : V → List V → Hp → VK → Prop} {x : V} {xs : List V} (p : MtR X id r) (h : r x xs H Q) : wM X id x xs H Q := fun pins s σ v us I r r' => p pins s σ H x xs v us Q I r r' h
end

/-! ### what is due of an answer -/
def ErrRep (K : PySem.W.Frag) (ct : CTab) (H : Hp) (M : AM) (c : Nat) (fs : List D) (cls : Value) (d : Option Addr) : Prop :=
  cls = .ref (ct.cls c) ∧ ∃ dx vs, d = some dx ∧ H dx = some (.xd vs) ∧ vs.map (·.1) = ct.flds c ∧ Reps K H M (vs.map (·.2)) fs
def Ok {α β : Type} (K : PySem.W.Frag) (ct : CTab) (R : Hp → AM → β → α → Prop) (M : AM) (H : Hp) (r : Res α) (Q : β → Hp → Prop) (W : XK) : Prop :=
  match r with
  | .ok a μ' => ∀ v H' M', Evo M H M' H' → RelH K ct H' μ' M' → R H' M' v a → Q v H'
  | .err c fs μ' => ∀ cls d H' M', Evo M H M' H' → RelH K ct H' μ' M' → ErrRep K ct H' M' c fs cls d → W cls d H'
  | .stuck => False
abbrev RD (K : PySem.W.Frag) : Hp → AM → V → D → Prop := fun H M v d => Rep K H M v d
abbrev RDs (K : PySem.W.Frag) : Hp → AM → List V → List D → Prop := fun H M v d => Reps K H M v d
abbrev RB : Hp → AM → Bool → Bool → Prop := fun _ _ v d => v = d
abbrev RO : Hp → AM → Option Int → Option Int → Prop := fun _ _ v d => v = d
abbrev RU : Hp → AM → Unit → Unit → Prop := fun _ _ _ _ => True
section
variable {α β γ δ : Type} {K : PySem.W.Frag} {ct : CTab} {R : Hp → AM → β → α → Prop} {R' : Hp → AM → δ → γ → Prop} {M M1 : AM} {H H1 : Hp} {r : Res α} {μ : Mu} {Q Q1 : β → Hp → Prop} {W : XK}
theorem Ok.evo (e : Evo M H M1 H1) (h : Ok K ct R M H r Q W) : Ok K ct R M1 H1 r Q W := by
  cases r with
  | ok a μ' => exact fun v H' M' e' => h v H' M' (e.trans e')
  | err c fs μ' => exact fun cls d H' M' e' => h cls d H' M' (e.trans e')
  | stuck => exact h
theorem Ok.step {f : α → Mu → Res γ} {Q' : δ → Hp → Prop} (h : Ok K ct R' M H (r.bind f) Q' W)
    (k : ∀ a μ1 v H1 M1, Evo M H M1 H1 → RelH K ct H1 μ1 M1 → R H1 M1 v a → Ok K ct R' M1 H1 (f a μ1) Q' W → Q1 v H1) : Ok K ct R M H r Q1 W := by
  cases r with
  | ok a μ' => exact fun v H' M' e R1 r1 => k a μ' v H' M' e R1 r1 (Ok.evo e h)
  | err c fs μ' => exact h
  | stuck => exact h
theorem Ok.ret {a : α} {v : β} (h : Ok K ct R M H (.ok a μ) Q W) (R1 : RelH K ct H μ M) (r1 : R H M v a) : Q v H := h v H M (Evo.refl M H) R1 r1
theorem Ok.needs {p : Prop} [Decidable p] (h : Ok K ct R M H (needs p r) Q W) : p ∧ Ok K ct R M H r Q W := by
  unfold PyI.needs at h
  by_cases q : p
  · rw [if_pos q] at h; exact ⟨q, h⟩
  · rw [if_neg q] at h; exact h.elim
theorem Ok.imp (h : Ok K ct R M H r Q W) (k : ∀ v H', Q v H' → Q1 v H') : Ok K ct R M H r Q1 W := by
  cases r with
  | ok a μ' => exact fun v H' M' e R1 r1 => k v H' (h v H' M' e R1 r1)
  | err c fs μ' => exact h
  | stuck => exact h
end

/-! ### the frame in which a def's text is read -/
structure Tb where
  fns : List (Str × Nat)
  cons : List Str
  dics : List Str
  clss : List (Str × List Str)
  isx : List (Nat × Str × Bool)
def spF (K : PySem.W.Frag) (ct : CTab) (Γ : G) (f n : Nat) : Sp := fun vs H Q E => ∃ ds μ M, vs.length = n ∧ RelH K ct H μ M ∧ Reps K H M vs ds ∧ Ok K ct (RD K) M H (Γ.call f ds μ) Q E
def bins : List Str := ["len", "int", "str", "tuple", "list", "sorted", "min", "max", "sum", "any", "all", "abs", "ord", "bool", "isinstance", "range", "enumerate", "zip", "set", "type", "reversed"]
/-- a dict of the module with text keys -/
def DicAt (K : PySem.W.Frag) (w : World) (d : Addr) (l : List (Str × D)) : Prop := ∃ es n, KDict K w d es n ∧ ∀ z, match l.lookup z with
  | none => PySem.W.nsIn K d z = some none
  | some dd => ∃ u v, PySem.W.nsIn K d z = some (some u) ∧ RelV v u ∧ ∀ H M, Rep K H M v dd
/-- what may stand in an error's text -/
def FmtV (v : V) : Prop := (∃ i : Int, v = .int i ∧ 0 ≤ i ∧ i < 1000000000000000000) ∨ ∃ s : Str, v = .str s ∧ s.length ≤ 1000000
/-- what the __init__ of an own error keeps: its fields, the last one first -/
def iniS (C : Addr) (flds : List Str) : Sp := fun vs H Q E => ∃ a ws, vs = .ref a :: ws ∧ ws.length = flds.length ∧ (∀ y ∈ ws, FmtV y) ∧ H a = some (exo a C none) ∧
  ∀ dx, H dx = none → dx ≠ a → Q .non (upd (upd H dx (exd dx (flds.zip ws.reverse))) a (exo a C (some dx)))
/-- an own error class, as the written part has it -/
structure ClsK (P : Program) (w : World) (K : PySem.W.Frag) (mg : Str → Option Value) (C : Addr) (x : Str) (flds : List Str) : Prop where
  T : OexC K C
  xf : XfC K C
  ex : ExcC K C
  ini : ∃ fI fd ps, PySem.W.findIn K (.ref C) "__init__" = some (some (.ref fI)) ∧ PySem.W.typeIn K (.ref fI) = some (.type "function") ∧ Binds K fd ps [] ∧ ∀ base, FnOk P w K mg base (L2.CX P w) 1 fI fd ps (iniS C flds)
  mgx : mg x = some (.ref C)
  nos : ∀ f ∈ flds, PySem.W.findIn K (.ref C) f = some none
  exm : PySem.W.exmOne K (.ref C) (.ref C) = some true
structure FrG (P : Program) (w : World) (K : PySem.W.Frag) (mg : Str → Option Value) (base : Heap) (A : Around) (ct : CTab) (tb : Tb) (Γ : G) : Prop where
  units : A.units + 64 < cLine
  bi : ∀ x ∈ bins, mg x = none
  call : ∀ f x n, tb.fns[f]? = some (x, n) → ∃ k a fd ps, FnOk P w K mg base (L2.CX P w) k a fd ps (spF K ct Γ f n) ∧ Room k A ∧ mg x = some (.ref a) ∧ PySem.W.keepIn K (.ref a) = true ∧ Binds K fd ps []
  ar : ∀ f x n ds μ, tb.fns[f]? = some (x, n) → ds.length ≠ n → Γ.call f ds μ = .stuck
  con : ∀ g x d, tb.cons[g]? = some x → Γ.con g = some d → ∃ u v, mg x = some u ∧ RelV v u ∧ ∀ H M, Rep K H M v d
  dic : ∀ g x, tb.dics[g]? = some x → ∃ d, mg x = some (.ref d) ∧ DicAt K w d (Γ.dic g)
  cls : ∀ (c : Nat) (x : Str) (fl : List Str), tb.clss[c]? = some (x, fl) → ClsK P w K mg (ct.cls c) x fl ∧ ct.flds c = fl ∧ fl.Nodup
  room : Γ.mkr = true → Room 2 A
  isx : ∀ c x b, (c, x, b) ∈ tb.isx → ∃ (v : V) (cv : Value), ((mg x = some cv) ∨ (mg x = none ∧ bootBuiltins x = some cv ∧ x ≠ "__name__")) ∧ RelV v cv ∧ (∀ u, RelV v u → u = cv) ∧ PySem.W.kitOne K (.ref (ct.cls c)) cv = some b
structure Fr (X : Cx) (ct : CTab) (tb : Tb) (Γ : G) (N : List Str) (sc : Scope) : Prop where
  hN : X.N = N
  hsc : X.env.scope = sc
  nd : N.Nodup
  calm : X.calm = true
  kindF : sc.kind = .function
  g : FrG X.prog X.w X.K X.mg X.base X.A ct tb Γ

/-- e is evaluated as A tells -/
def Snd (X : Cx) (ct : CTab) (Γ : G) (e : Expr) (A : E) : Prop := ∀ (W : WX) (ρ : Rho) (μ : Mu) (σ : St) (H : Hp) (M : AM) (Q : VK), Takes X W → RelE X.K H M σ ρ → RelH X.K ct H μ M →
  Ok X.K ct (RD X.K) M H (evalE Γ A ρ μ) Q (fun c d H' => W c d σ H') → wE X e σ H Q
def SndA (X : Cx) (ct : CTab) (Γ : G) (es : List Expr) (A : Es) : Prop := ∀ (W : WX) (ρ : Rho) (μ : Mu) (σ : St) (H : Hp) (M : AM) (Q : List V → Hp → Prop), Takes X W → RelE X.K H M σ ρ → RelH X.K ct H μ M →
  Ok X.K ct (RDs X.K) M H (evalEs Γ A ρ μ) Q (fun c d H' => W c d σ H') → wA X es σ H Q
def SndT (X : Cx) (ct : CTab) (Γ : G) (e : Expr) (A : T) : Prop := ∀ (W : WX) (ρ : Rho) (μ : Mu) (σ : St) (H : Hp) (M : AM) (Q : Bool → Hp → Prop), Takes X W → RelE X.K H M σ ρ → RelH X.K ct H μ M →
  Ok X.K ct RB M H (evalT Γ A ρ μ) Q (fun c d H' => W c d σ H') → wT X e σ H Q

/-! ### values -/
section
variable {X : Cx} {ct : CTab} {K : PySem.W.Frag} {H : Hp} {M : AM} {μ : Mu} {x y z v : V} {d d' : D} {Q : VK} {W : XK}
theorem sl16 {n : Nat} (h : n ≤ 16777216) : n ≤ sizeLine := by rw [sizeLine_eq]; exact h
theorem sl16' {n : Nat} (h : n < 16777216) : n < sizeLine := by rw [sizeLine_eq]; exact h
/-- a list object of ours -/
theorem RelH.lst (R : RelH K ct H μ M) {n : Nat} {l : List D} {a : Addr} (h : μ[n]? = some (.lst l)) (ha : M.ix[n]? = some a) : ∃ xs, H a = some (.lst xs) ∧ Reps K H M xs l := by
  obtain ⟨a', e, xs, h1, r⟩ := R.at_ n _ h
  rw [ha] at e; cases e
  exact ⟨xs, h1, r⟩
/-- the items of a list or a tuple -/
theorem seq_of (R : RelH K ct H μ M) (r : Rep K H M x d) {l : List D} (h : seqD μ d = some l) : ∃ a xs, x = .ref a ∧ (SqL K H a xs ∨ SqT K H a xs) ∧ Reps K H M xs l := by
  cases r with
  | tup h1 r1 => cases h; exact ⟨_, _, rfl, .inr h1.sq, r1⟩
  | lst h1 r1 => cases h; exact ⟨_, _, rfl, .inl h1.sq, r1⟩
  | kl h1 r1 => cases h; exact ⟨_, _, rfl, .inl h1.sq, r1⟩
  | kt h1 r1 => cases h; exact ⟨_, _, rfl, .inr h1.sq, r1⟩
  | ref ha =>
    unfold seqD at h
    simp only at h
    split at h
    · rename_i l' hl
      cases h
      obtain ⟨xs, h1, r1⟩ := R.lst hl ha
      exact ⟨_, _, rfl, .inl (.inl (.inl h1)), r1⟩
    · cases h
  | non => cases h
  | bl => cases h
  | int => cases h
  | str => cases h
/-! ### dicts -/
theorem key_ok {k : D} {kk : Key} (r : Rep K H M y k) (h : keyD k = some kk) : y = kV kk := by
  cases r <;> unfold keyD at h <;> simp only [Option.some.injEq, reduceCtorEq] at h
  · subst h; rfl
  · subst h; rfl
theorem keys_ok : ∀ {xs : List V} {ds : List D} {ks : List Key}, Reps K H M xs ds → keysL ds = some ks → xs = ks.map kV
  | _, _, _, .nil, h => by cases h; rfl
  | _, _, _, .cons h r, e => by
    unfold keysL at e
    split at e
    · rename_i k ks e1 e2
      cases e
      rw [key_ok h e1, keys_ok r e2]; rfl
    · cases e
theorem keysT_ok {k : D} {ks : List Key} (r : Rep K H M y k) (h : keysD k = some ks) : ∃ b, y = .ref b ∧ H b = some (.tup (ks.map kV)) := by
  cases r with
  | tup h1 r1 =>
    have e := keys_ok r1 (show keysL _ = some ks from h)
    subst e
    exact ⟨_, rfl, h1.1⟩
  | _ => cases h
theorem prep_val {κ : Type} [DecidableEq κ] {ks : List (κ × V)} {kvs : List (κ × D)} (r : Paired (fun p q => p.1 = q.1 ∧ Rep K H M p.2 q.2) ks kvs) (k : κ) : match valD kvs k with
    | none => valV ks k = none
    | some d => ∃ v, valV ks k = some v ∧ Rep K H M v d := by
  induction r with
  | nil => rfl
  | @cons p q ps qs hq t ih =>
    by_cases e : q.1 = k
    · have e1 : valD (q :: qs) k = some q.2 := by simp [valD, List.find?_cons, e]
      rw [e1]
      exact ⟨p.2, valV_pos (hq.1.trans e), hq.2⟩
    · have e1 : valD (q :: qs) k = valD qs k := by simp [valD, List.find?_cons, e]
      rw [e1, valV_neg (fun z => e (hq.1.symm.trans z))]
      exact ih
theorem prep_any {κ : Type} [DecidableEq κ] {ks : List (κ × V)} {kvs : List (κ × D)} (r : Paired (fun p q => p.1 = q.1 ∧ Rep K H M p.2 q.2) ks kvs) (k : κ) : (ks.any fun kv => decide (kv.1 = k)) = kvs.any fun kv => decide (kv.1 = k) := by
  induction r with
  | nil => rfl
  | cons hq t ih => rw [List.any_cons, List.any_cons, ih, hq.1]
theorem prep_map {κ : Type} [DecidableEq κ] {ks : List (κ × V)} {kvs : List (κ × D)} (r : Paired (fun p q => p.1 = q.1 ∧ Rep K H M p.2 q.2) ks kvs) (k : κ) {v : V} {d : D} (rv : Rep K H M v d) :
    Paired (fun p q => p.1 = q.1 ∧ Rep K H M p.2 q.2) (ks.map fun kv => if kv.1 = k then (kv.1, v) else kv) (kvs.map fun kv => if kv.1 = k then (kv.1, d) else kv) := by
  induction r with
  | nil => exact .nil
  | @cons p q ps qs hq t ih =>
    rw [List.map_cons, List.map_cons]
    refine .cons ?_ ih
    by_cases e : q.1 = k
    · rw [if_pos e, if_pos (hq.1.trans e)]; exact ⟨hq.1, rv⟩
    · rw [if_neg e, if_neg (fun z => e (hq.1.symm.trans z))]; exact hq
theorem prep_snoc {κ : Type} {ks : List (κ × V)} {kvs : List (κ × D)} (r : Paired (fun p q => p.1 = q.1 ∧ Rep K H M p.2 q.2) ks kvs) (k : κ) {v : V} {d : D} (rv : Rep K H M v d) :
    Paired (fun p q => p.1 = q.1 ∧ Rep K H M p.2 q.2) (ks ++ [(k, v)]) (kvs ++ [(k, d)]) := by
  induction r with
  | nil => exact .cons ⟨rfl, rv⟩ .nil
  | cons hq t ih => exact .cons hq ih
theorem prep_put {κ : Type} [DecidableEq κ] {ks : List (κ × V)} {kvs : List (κ × D)} (r : Paired (fun p q => p.1 = q.1 ∧ Rep K H M p.2 q.2) ks kvs) (k : κ) {v : V} {d : D} (rv : Rep K H M v d) :
    Paired (fun p q => p.1 = q.1 ∧ Rep K H M p.2 q.2) (putK ks k v) (putD kvs k d) := by
  unfold putK putD
  rw [prep_any r k]
  split
  · exact prep_map r k rv
  · exact prep_snoc r k rv
theorem prep_len {κ : Type} {ks : List (κ × V)} {kvs : List (κ × D)} (r : Paired (fun p q => p.1 = q.1 ∧ Rep K H M p.2 q.2) ks kvs) : ks.length = kvs.length := by
  induction r with
  | nil => rfl
  | cons hq t ih => rw [List.length_cons, List.length_cons, ih]
theorem RelH.dk (R : RelH K ct H μ M) {n : Nat} {l : List (Key × D)} {a : Addr} (h : μ[n]? = some (.dk l)) (ha : M.ix[n]? = some a) : ∃ ks, H a = some (.dK ks) ∧ KRep K H M ks l := by
  obtain ⟨a', e, ks, h1, r⟩ := R.at_ n _ h
  rw [ha] at e; cases e
  exact ⟨ks, h1, r⟩
theorem RelH.dt (R : RelH K ct H μ M) {n : Nat} {l : List (List Key × D)} {a : Addr} (h : μ[n]? = some (.dt l)) (ha : M.ix[n]? = some a) : ∃ ks, H a = some (.dT ks) ∧ TRep K H M ks l := by
  obtain ⟨a', e, ks, h1, r⟩ := R.at_ n _ h
  rw [ha] at e; cases e
  exact ⟨ks, h1, r⟩
abbrev ROp (K : PySem.W.Frag) (H : Hp) (M : AM) (ov : Option V) (r : Option D) : Prop := match r with
  | none => ov = none
  | some d => ∃ v, ov = some v ∧ Rep K H M v d
theorem getDic_ok (R : RelH K ct H μ M) (rx : Rep K H M x d) (ry : Rep K H M y d') {r : Option D} (h : getDic μ d d' = some r) : ∃ a ov, x = .ref a ∧ DGet H a y ov ∧ ROp K H M ov r := by
  cases rx with
  | ref ha =>
    unfold getDic at h
    simp only at h
    split at h
    · rename_i kvs hk
      obtain ⟨k, hk2, rfl⟩ := Option.map_eq_some_iff.mp h
      obtain ⟨ks, h1, r1⟩ := R.dk hk ha
      have e := key_ok ry hk2
      subst e
      exact ⟨_, _, rfl, DGet.k h1, prep_val r1 k⟩
    · rename_i kvs hk
      obtain ⟨k, hk2, rfl⟩ := Option.map_eq_some_iff.mp h
      obtain ⟨ks, h1, r1⟩ := R.dt hk ha
      obtain ⟨b, rfl, hb⟩ := keysT_ok ry hk2
      exact ⟨_, _, rfl, DGet.t h1 hb, prep_val r1 k⟩
    · cases h
  | _ => cases h
theorem getDicS_ok (R : RelH K ct H μ M) (rx : Rep K H M x d) (ry : Rep K H M y d') {r : Option D} (h : getDicS μ d d' = some r) : ∃ a ov, x = .ref a ∧ Nw.DGetS H a y ov ∧ ROp K H M ov r := by
  unfold getDicS at h
  split at h
  · split at h
    · rename_i n s kvs hk
      cases h
      cases rx with
      | ref ha =>
        cases ry
        obtain ⟨ks, h1, r1⟩ := R.dt hk ha
        exact ⟨_, none, rfl, .inr ⟨⟨_, .inl h1⟩, ⟨_, rfl⟩, rfl⟩, rfl⟩
    · obtain ⟨a, ov, q1, q2, q3⟩ := getDic_ok R rx ry h
      exact ⟨a, ov, q1, .inl q2, q3⟩
  · obtain ⟨a, ov, q1, q2, q3⟩ := getDic_ok R rx ry h
    exact ⟨a, ov, q1, .inl q2, q3⟩
theorem isDic_ok (R : RelH K ct H μ M) (rx : Rep K H M x d) (h : isDic μ d = true) : ∃ a, x = .ref a ∧ IsD H a := by
  cases rx with
  | ref ha =>
    unfold isDic at h
    simp only at h
    split at h
    · rename_i kvs hk
      obtain ⟨ks, h1, r1⟩ := R.dk hk ha
      exact ⟨_, rfl, .inl ⟨_, .inl h1⟩⟩
    · rename_i kvs hk
      obtain ⟨ks, h1, r1⟩ := R.dt hk ha
      exact ⟨_, rfl, .inr ⟨_, .inl h1⟩⟩
    · cases h
  | _ => cases h
theorem putDic_ok (R : RelH K ct H μ M) (rx : Rep K H M x d) (ry : Rep K H M y d') {v : V} {e : D} (rv : Rep K H M v e) {n : Nat} {μ' : Mu} (h : putDic μ d d' e = some (n, μ')) (hn : n < 16777216) : ∃ a H', x = .ref a ∧ DPut H a y v H' ∧ Evo M H M H' ∧ RelH K ct H' μ' M := by
  cases rx with
  | ref ha =>
    unfold putDic at h
    simp only at h
    split at h
    · rename_i kvs hk
      obtain ⟨k, hk2, hh⟩ := Option.map_eq_some_iff.mp h
      cases hh
      obtain ⟨ks, h1, r1⟩ := R.dk hk ha
      have e := key_ok ry hk2
      subst e
      have ev : Evo M H M (upd H _ (.dK (putK ks k v))) := Evo.mut (List.mem_of_getElem? ha)
      exact ⟨_, _, rfl, DPut.k h1 (sl16' (by rw [prep_len r1]; exact hn)), ev, R.mut ha ⟨_, upd_same, paired_imp (fun _ _ q => ⟨q.1, q.2.evo ev⟩) (prep_put r1 k rv)⟩⟩
    · rename_i kvs hk
      obtain ⟨k, hk2, hh⟩ := Option.map_eq_some_iff.mp h
      cases hh
      obtain ⟨ks, h1, r1⟩ := R.dt hk ha
      obtain ⟨b, rfl, hb⟩ := keysT_ok ry hk2
      have ev : Evo M H M (upd H _ (.dT (putK ks k v))) := Evo.mut (List.mem_of_getElem? ha)
      exact ⟨_, _, rfl, DPut.t h1 hb (sl16' (by rw [prep_len r1]; exact hn)), ev, R.mut ha ⟨_, upd_same, paired_imp (fun _ _ q => ⟨q.1, q.2.evo ev⟩) (prep_put r1 k rv)⟩⟩
    · cases h
  | _ => cases h
theorem rep_flat : ∀ (n : Nat) {xs : List V} {ds : List D}, Reps K H M xs ds → Reps K H M (List.replicate n xs).flatten (List.replicate n ds).flatten
  | 0, _, _, _ => .nil
  | n + 1, _, _, r => by
    rw [List.replicate_succ, List.replicate_succ, List.flatten_cons, List.flatten_cons]
    exact r.append (rep_flat n r)
theorem Rep.int_inv {i : Int} (r : Rep K H M x (.int i)) : x = .int i := by cases r; rfl
theorem Rep.str_inv {s : Str} (r : Rep K H M x (.str s)) : x = .str s := by cases r; rfl
theorem Rep.bl_inv {b : Bool} (r : Rep K H M x (.bl b)) : x = .bl b := by cases r; rfl
theorem Rep.non_inv (r : Rep K H M x .non) : x = .non := by cases r; rfl

/-- a new tuple, a new list -/
theorem Ok.newT {ds : List D} (h : Ok K ct (RD K) M H (.ok (.tup ds) μ) Q W) (R : RelH K ct H μ M) (r : Reps K H M xs ds) {p : Addr} (hp : H p = none) : Q (.ref p) (upd H p (.tup xs)) :=
  h _ _ M (Evo.new hp) (R.new hp) (.tup ⟨upd_same, R.fresh hp⟩ (r.evo (Evo.new hp)))
theorem Ok.newL {ds : List D} (h : Ok K ct (RD K) M H (.ok (.lst ds) μ) Q W) (R : RelH K ct H μ M) (r : Reps K H M xs ds) {p : Addr} (hp : H p = none) : Q (.ref p) (upd H p (.lst xs)) :=
  h _ _ M (Evo.new hp) (R.new hp) (.lst ⟨.inl upd_same, R.fresh hp⟩ (r.evo (Evo.new hp)))
theorem lst_of (R : RelH K ct H μ M) (r : Rep K H M x d) {l : List D} (h : lstD μ d = some l) : ∃ a xs, x = .ref a ∧ Rd H a (.lst xs) ∧ Reps K H M xs l := by
  cases r with
  | lst h1 r1 => cases h; exact ⟨_, _, rfl, h1.1, r1⟩
  | kl => cases h
  | kt => cases h
  | ref ha =>
    unfold lstD at h
    simp only at h
    split at h
    · rename_i l' hl
      cases h
      obtain ⟨xs, h1, r1⟩ := R.lst hl ha
      exact ⟨_, _, rfl, .inl h1, r1⟩
    · cases h
  | tup => cases h
  | non => cases h
  | bl => cases h
  | int => cases h
  | str => cases h
theorem strRep_one {s : Str} : strRep s (Int.toNat 1) = s := by
  show Str.mk (#[] ++ s.cps) = s
  rw [Array.empty_append]
theorem strRep_len (s : Str) (n : Nat) : (strRep s n).length = n * s.length := by
  have f : ∀ (n : Nat) (acc : Array Nat), ((List.replicate n s.cps).foldl (· ++ ·) acc).size = acc.size + n * s.cps.size := fun n => by
    induction n with
    | zero => intro acc; simp
    | succ n ih =>
      intro acc
      rw [List.replicate_succ, List.foldl_cons, ih, Array.size_append, Nat.add_assoc, Nat.succ_mul, Nat.add_comm s.cps.size]
  exact (f n #[]).trans (by show 0 + _ = n * s.cps.size; rw [Nat.zero_add])
theorem strRep_nil {s : Str} (h : s.length = 0) {n : Nat} : strRep s n = s := by
  have e : s.cps = #[] := Array.eq_empty_of_size_eq_zero h
  have f : ∀ n : Nat, (List.replicate n (#[] : Array Nat)).foldl (· ++ ·) #[] = #[] := fun n => by
    induction n with
    | zero => rfl
    | succ n ih => rw [List.replicate_succ, List.foldl_cons]; exact ih
  cases s with
  | mk c =>
    unfold strRep
    simp only at e
    rw [e]
    simp only [f]
/-- a text, so many times -/
theorem op_mulS : OpR X (binaryOp .Mult) (fun x y H Q => ∃ s k, x = .str s ∧ y = .int k ∧ -(2 ^ 62) ≤ k ∧ k < 2 ^ 62 ∧ s.length * k.toNat ≤ sizeLine ∧ Q (.str (strRep s k.toNat)) H) := by
  intro pins st σ H x y v u Q I rx ry h
  obtain ⟨s, k, rfl, rfl, k1, k2, hz, q⟩ := h
  obtain ⟨t, rfl⟩ := rx
  obtain ⟨u, rfl⟩ := ry
  refine PySem.P.mul_str ?_ ?_ ?_ ?_
  · rw [decide_eq_false (by omega), decide_eq_false (by omega)]; rfl
  · intro h1 _ h2
    have h3 : (0 : Int) < k := by omega
    have h4 := Int.lt_mul_of_ediv_lt h3 h2
    rw [sizeLine_eq] at hz
    have h5 : ((s.length * k.toNat : Nat) : Int) ≤ ((16777216 : Nat) : Int) := Int.ofNat_le.mpr hz
    rw [Int.natCast_mul, Int.toNat_of_nonneg (Int.le_of_lt h3)] at h5
    generalize (s.length : Int) * k = m at h4 h5
    omega
  · intro _ _
    have : s.length * k.toNat ≤ 16777216 := by rw [sizeLine_eq] at hz; exact hz
    exact decide_eq_false (by omega)
  · split
    · rename_i h1
      have e : strRep s k.toNat = Str.empty := by
        unfold strRep
        rw [Int.toNat_eq_zero.mpr (by omega)]; rfl
      rw [e] at q
      exact ⟨Nat.zero_le _, .str _, H, I.tok _, ⟨_, rfl⟩, q⟩
    · rename_i h1
      split
      · rename_i h2
        have e : strRep s k.toNat = s := by
          simp only [Bool.or_eq_true, beq_iff_eq] at h2
          rcases h2 with h2 | h2
          · rw [h2]; exact strRep_one
          · exact strRep_nil h2
        rw [e] at q
        exact ⟨.str _, H, I, ⟨_, rfl⟩, q⟩
      · exact ⟨by have := strRep_len s k.toNat; unfold strRep at this; rw [this, Nat.mul_comm]; exact hz, .str _, H, I.tok _, ⟨_, rfl⟩, q⟩
/-- a list put behind a list: of our data too -/
theorem op_catL : OpR X (binaryOp .Add) (fun x y H Q => ∃ l b xs zs, x = .ref l ∧ y = .ref b ∧ Rd H l (.lst xs) ∧ Rd H b (.lst zs) ∧ xs.length + zs.length ≤ sizeLine ∧ ∀ p, H p = none → Q (.ref p) (upd H p (.lst (xs ++ zs)))) := by
  intro pins s σ H x y v u Q I rx ry h
  obtain ⟨l, b, xs, zs, rfl, rfl, hl, hb, hz, q⟩ := h
  cases rx
  cases ry
  obtain ⟨_, its, n1, r1, e1⟩ := hl.ok I.hok
  obtain ⟨_, its2, n2, r2, e2⟩ := hb.ok I.hok
  have hlen : its.toArray.size + its2.toArray.size ≤ sizeLine := by
    rw [List.size_toArray, List.size_toArray, ← r1.length, ← r2.length]
    exact hz
  refine PySem.P.add_list e1 e2 ?_ hlen
  rw [List.append_toArray]
  exact ⟨.ref _, _, I.lnew (t' := s.toks) (r1.append r2) (by rw [List.length_append]; exact hz), rfl, q _ I.fresh⟩
theorem bin_ok {op : Operator} {o : Bop} (ho : (match op with | .Add => some Bop.add | .Sub => some .sub | .Mult => some .mul | .FloorDiv => some .fdiv | .Mod => some .mod | .Pow => some .pow | .LShift => some .shl | .RShift => some .shr | .BitAnd => some .band | .BitOr => some .bor | .BitXor => some .bxor | _ => none) = some o)
    (R : RelH X.K ct H μ M) (rx : Rep X.K H M x d) (ry : Rep X.K H M y d') (h : Ok X.K ct (RD X.K) M H (binD o d d' μ) Q W) : wO X (binaryOp op) x y H Q := by
  unfold binD at h
  split at h
  case h_1 i j => cases op <;> cases ho; cases rx; cases ry; exact wo op_add ⟨i, j, rfl, rfl, h.ret R (.int _)⟩
  case h_2 i j => cases op <;> cases ho; cases rx; cases ry; exact wo op_sub ⟨i, j, rfl, rfl, h.ret R (.int _)⟩
  case h_3 i j =>
    cases op <;> cases ho
    cases rx; cases ry
    rcases h.needs.1 with q | q
    · exact wo op_mul ⟨i, j, rfl, rfl, q, h.needs.2.ret R (.int _)⟩
    · exact wo op_mulW ⟨i, j, rfl, rfl, q, h.needs.2.ret R (.int _)⟩
  case h_4 i j =>
    cases op <;> cases ho
    cases rx; cases ry
    rcases h.needs.1 with ⟨q0, q | q⟩
    · exact wo op_fdiv ⟨i, j, rfl, rfl, ⟨q0, q⟩, h.needs.2.ret R (.int _)⟩
    · exact wo op_fdivW ⟨i, j, rfl, rfl, ⟨q0, q⟩, h.needs.2.ret R (.int _)⟩
  case h_5 i j => cases op <;> cases ho; cases rx; cases ry; exact wo op_mod ⟨i, j, rfl, rfl, h.needs.1, h.needs.2.ret R (.int _)⟩
  case h_6 i j => cases op <;> cases ho; cases rx; cases ry; exact wo op_pow ⟨i, j, rfl, rfl, h.needs.1, h.needs.2.ret R (.int _)⟩
  case h_7 i j =>
    cases op <;> cases ho
    cases rx; cases ry
    rcases h.needs.1 with q | q
    · exact wo op_shl ⟨i, j, rfl, rfl, q, h.needs.2.ret R (.int _)⟩
    · exact wo op_shlW ⟨i, j, rfl, rfl, q, h.needs.2.ret R (.int _)⟩
  case h_8 i j => cases op <;> cases ho; cases rx; cases ry; exact wo op_shr ⟨i, j, rfl, rfl, h.needs.1, h.needs.2.ret R (.int _)⟩
  case h_9 i j => cases op <;> cases ho; cases rx; cases ry; exact wo op_and ⟨i, j, rfl, rfl, h.ret R (.int _)⟩
  case h_10 i j => cases op <;> cases ho; cases rx; cases ry; exact wo op_or ⟨i, j, rfl, rfl, h.ret R (.int _)⟩
  case h_11 i j => cases op <;> cases ho; cases rx; cases ry; exact wo op_xor ⟨i, j, rfl, rfl, h.ret R (.int _)⟩
  case h_12 i j => cases op <;> cases ho; cases rx; cases ry; exact wo op_add_str ⟨i, j, rfl, rfl, sl16 h.needs.1, h.needs.2.ret R (.str _)⟩
  case h_13 i j =>
    cases op <;> cases ho
    cases rx with
    | tup h1 r1 =>
      cases ry with
      | tup h2 r2 =>
        have h3 := h.needs.2
        refine wo op_catA ⟨_, _, _, _, rfl, rfl, h1.sq, h2.sq, ?_, fun e => ?_, fun _ e => ?_, fun _ _ p hp => Ok.newT (μ := μ) h3 R (r1.append r2) hp⟩
        · rw [r1.length, r2.length]; exact sl16 h.needs.1
        · subst e; cases r1; exact h3.ret R (.tup h2 r2)
        · subst e
          cases r2
          rw [List.append_nil] at h3
          exact h3.ret R (.tup h1 r1)
  case h_14 i j =>
    cases op <;> cases ho
    cases rx; cases ry
    exact wo op_mulS ⟨i, j, rfl, rfl, h.needs.1.1.1, h.needs.1.1.2, sl16 h.needs.1.2, h.needs.2.ret R (.str _)⟩
  case h_15 =>
    cases op <;> cases ho
    cases ry
    split at h
    · rename_i l e1
      obtain ⟨a, xs, rfl, hs, rs⟩ := lst_of R rx e1
      refine wo Nw.op_repL ⟨_, _, _, rfl, rfl, hs, by have := h.needs.1.1.1; omega, by have := h.needs.1.1.2; omega, by rw [rs.length]; exact sl16 h.needs.1.2, fun p hp => Ok.newL (μ := μ) h.needs.2 R (rep_flat _ rs) hp⟩
    · exact h.elim
  case h_16 =>
    cases op <;> cases ho
    split at h
    · rename_i i j e1 e2
      obtain ⟨a, xs, rfl, hs, rs⟩ := lst_of R rx e1
      obtain ⟨b, ys, rfl, ht, rt⟩ := lst_of R ry e2
      refine wo op_catL ⟨_, _, _, _, rfl, rfl, hs, ht, ?_, fun p hp => Ok.newL (μ := μ) h.needs.2 R (rs.append rt) hp⟩
      rw [rs.length, rt.length]; exact sl16 h.needs.1
    · exact h.elim
  case h_17 => exact h.elim


/-! ### equality -/
mutual
def PD : D → PyData
  | .non => .none
  | .bl b => .bool b
  | .int i => .int i
  | .str s => .str s
  | .tup l => .tuple (PDs l)
  | .lst l => .list (PDs l)
  | .ref _ => .none
  | .kl _ => .none
  | .kt _ => .none
def PDs : List D → List PyData
  | [] => []
  | d :: ds => PD d :: PDs ds
end
mutual
theorem dp_of {n : Nat} : ∀ {x : V} {d : D}, Rep K H M x d → eqOk n d = true → Dp K H x (PD d)
  | _, _, .non, _ => .non
  | _, _, .bl b, _ => .bl b
  | _, _, .int i, _ => .int i
  | _, _, .str s, _ => .str s
  | _, _, .tup h r, q => by
    cases n with
    | zero => simp [eqOk] at q
    | succ n => exact .tup h.sq (dps_of r (by simpa only [eqOk] using q))
  | _, _, .lst h r, q => by
    cases n with
    | zero => simp [eqOk] at q
    | succ n => exact .lst h.sq (dps_of r (by simpa only [eqOk] using q))
  | _, _, .ref _, q => by cases n <;> simp [eqOk] at q
  | _, _, .kl _ _, q => by cases n <;> simp [eqOk] at q
  | _, _, .kt _ _, q => by cases n <;> simp [eqOk] at q
theorem dps_of {n : Nat} : ∀ {xs : List V} {ds : List D}, Reps K H M xs ds → eqOks n ds = true → DpAll K H xs (PDs ds)
  | _, _, .nil, _ => .nil
  | _, _, .cons h r, q => by
    simp only [eqOks, Bool.and_eq_true] at q
    exact .cons (dp_of h q.1) (dps_of r q.2)
end
mutual
theorem lay_of : ∀ {n : Nat} {d : D}, eqOk n d = true → (PD d).canLay0 = true ∧ (PD d).depth ≤ n
  | _, .non, _ => ⟨rfl, Nat.zero_le _⟩
  | _, .bl _, _ => ⟨rfl, Nat.zero_le _⟩
  | _, .int _, _ => ⟨rfl, Nat.zero_le _⟩
  | n, .str s, q => ⟨by cases n <;> simpa [eqOk, PD, PyData.canLay0, PyData.strOk] using q, Nat.zero_le _⟩
  | 0, .tup _, q => by simp [eqOk] at q
  | 0, .lst _, q => by simp [eqOk] at q
  | n + 1, .tup l, q => by
    have z := lays_of (n := n) (ds := l) (by simpa only [eqOk] using q)
    exact ⟨by simpa only [PD, PyData.canLay0] using z.1, by simpa only [PD, PyData.depth] using Nat.succ_le_succ z.2⟩
  | n + 1, .lst l, q => by
    have z := lays_of (n := n) (ds := l) (by simpa only [eqOk] using q)
    exact ⟨by simpa only [PD, PyData.canLay0] using z.1, by simpa only [PD, PyData.depth] using Nat.succ_le_succ z.2⟩
  | n, .ref _, q => by cases n <;> simp [eqOk] at q
  | n, .kl _, q => by cases n <;> simp [eqOk] at q
  | n, .kt _, q => by cases n <;> simp [eqOk] at q
theorem lays_of : ∀ {n : Nat} {ds : List D}, eqOks n ds = true → PyData.canLayAll0 (PDs ds) = true ∧ PyData.depthAll (PDs ds) ≤ n
  | _, [], _ => ⟨rfl, Nat.zero_le _⟩
  | n, d :: ds, q => by
    simp only [eqOks, Bool.and_eq_true] at q
    have a := lay_of q.1
    have b := lays_of q.2
    exact ⟨by simp only [PDs, PyData.canLayAll0, a.1, b.1, Bool.and_self], by simp only [PDs, PyData.depthAll]; exact Nat.max_le.mpr ⟨a.2, b.2⟩⟩
end
mutual
theorem eqv_of : ∀ {n m : Nat} {d e : D}, eqOk n d = true → eqOk m e = true → PyData.eqv (PD d) (PD e) = eqD d e
  | n, m, .ref _, _, q, _ => by cases n <;> simp [eqOk] at q
  | n, m, _, .ref _, _, q => by cases m <;> simp [eqOk] at q
  | n, m, .kl _, _, q, _ => by cases n <;> simp [eqOk] at q
  | n, m, _, .kl _, _, q => by cases m <;> simp [eqOk] at q
  | n, m, .kt _, _, q, _ => by cases n <;> simp [eqOk] at q
  | n, m, _, .kt _, _, q => by cases m <;> simp [eqOk] at q
  | 0, _, .tup _, _, q, _ => by simp [eqOk] at q
  | 0, _, .lst _, _, q, _ => by simp [eqOk] at q
  | _, 0, _, .tup _, _, q => by simp [eqOk] at q
  | _, 0, _, .lst _, _, q => by simp [eqOk] at q
  | n + 1, m + 1, .tup a, .tup b, q, p => by
    simp only [PD, PyData.eqv, eqD]
    exact eqvs_of (n := n) (m := m) (by simpa only [eqOk] using q) (by simpa only [eqOk] using p)
  | n + 1, m + 1, .lst a, .lst b, q, p => by
    simp only [PD, PyData.eqv, eqD]
    exact eqvs_of (n := n) (m := m) (by simpa only [eqOk] using q) (by simpa only [eqOk] using p)
  | n + 1, m + 1, .tup a, .lst b, q, p => by simp only [PD, PyData.eqv, eqD]
  | n + 1, m + 1, .lst a, .tup b, q, p => by simp only [PD, PyData.eqv, eqD]
  | n + 1, m, .tup a, .non, q, p => by simp only [PD, PyData.eqv, eqD]
  | n + 1, m, .tup a, .bl _, q, p => by simp only [PD, PyData.eqv, eqD]
  | n + 1, m, .tup a, .int _, q, p => by simp only [PD, PyData.eqv, eqD]
  | n + 1, m, .tup a, .str _, q, p => by simp only [PD, PyData.eqv, eqD]
  | n + 1, m, .lst a, .non, q, p => by simp only [PD, PyData.eqv, eqD]
  | n + 1, m, .lst a, .bl _, q, p => by simp only [PD, PyData.eqv, eqD]
  | n + 1, m, .lst a, .int _, q, p => by simp only [PD, PyData.eqv, eqD]
  | n + 1, m, .lst a, .str _, q, p => by simp only [PD, PyData.eqv, eqD]
  | n, m + 1, .non, .tup _, q, p => by simp only [PD, PyData.eqv, eqD]
  | n, m + 1, .bl _, .tup _, q, p => by simp only [PD, PyData.eqv, eqD]
  | n, m + 1, .int _, .tup _, q, p => by simp only [PD, PyData.eqv, eqD]
  | n, m + 1, .str _, .tup _, q, p => by simp only [PD, PyData.eqv, eqD]
  | n, m + 1, .non, .lst _, q, p => by simp only [PD, PyData.eqv, eqD]
  | n, m + 1, .bl _, .lst _, q, p => by simp only [PD, PyData.eqv, eqD]
  | n, m + 1, .int _, .lst _, q, p => by simp only [PD, PyData.eqv, eqD]
  | n, m + 1, .str _, .lst _, q, p => by simp only [PD, PyData.eqv, eqD]
  | n, m, .non, .non, q, p => by simp only [PD, PyData.eqv, eqD]
  | n, m, .non, .bl _, q, p => by simp only [PD, PyData.eqv, eqD]
  | n, m, .non, .int _, q, p => by simp only [PD, PyData.eqv, eqD]
  | n, m, .non, .str _, q, p => by simp only [PD, PyData.eqv, eqD]
  | n, m, .bl _, .non, q, p => by simp only [PD, PyData.eqv, eqD]
  | n, m, .bl _, .bl _, q, p => by simp only [PD, PyData.eqv, eqD]
  | n, m, .bl _, .int _, q, p => by simp only [PD, PyData.eqv, eqD]
  | n, m, .bl _, .str _, q, p => by simp only [PD, PyData.eqv, eqD]
  | n, m, .int _, .non, q, p => by simp only [PD, PyData.eqv, eqD]
  | n, m, .int _, .bl _, q, p => by simp only [PD, PyData.eqv, eqD]
  | n, m, .int _, .int _, q, p => by simp only [PD, PyData.eqv, eqD]
  | n, m, .int _, .str _, q, p => by simp only [PD, PyData.eqv, eqD]
  | n, m, .str _, .non, q, p => by simp only [PD, PyData.eqv, eqD]
  | n, m, .str _, .bl _, q, p => by simp only [PD, PyData.eqv, eqD]
  | n, m, .str _, .int _, q, p => by simp only [PD, PyData.eqv, eqD]
  | n, m, .str _, .str _, q, p => by simp only [PD, PyData.eqv, eqD]
theorem eqvs_of : ∀ {n m : Nat} {ds es : List D}, eqOks n ds = true → eqOks m es = true → PyData.eqvAll (PDs ds) (PDs es) = eqDs ds es
  | _, _, [], [], _, _ => by simp only [PDs, PyData.eqvAll, eqDs]
  | _, _, [], _ :: _, _, _ => by simp only [PDs, PyData.eqvAll, eqDs]
  | _, _, _ :: _, [], _, _ => by simp only [PDs, PyData.eqvAll, eqDs]
  | n, m, d :: ds, e :: es, q, p => by
    simp only [eqOks, Bool.and_eq_true] at q p
    simp only [PDs, PyData.eqvAll, eqDs, eqv_of q.1 p.1, eqvs_of q.2 p.2]
end
theorem shaped_of {d : D} (h : eqOk 64 d = true) : SeqAt.shaped (PD d) = true := by
  unfold SeqAt.shaped
  rw [(lay_of h).1, decide_eq_true (lay_of h).2]
  rfl
theorem Rep.deref (R : RelH K ct H μ M) (r : Rep K H M x d) (h : eqOk 64 (deref μ d) = true) : Dp K H x (PD (PyI.deref μ d)) := by
  cases r with
  | ref ha =>
    unfold PyI.deref at h ⊢
    simp only at h ⊢
    split at h
    · rename_i l' hl
      obtain ⟨xs, h1, r1⟩ := R.lst hl ha
      exact .lst (.inl (.inl h1)) (dps_of (n := 63) r1 (by simpa only [eqOk] using h))
    · simp [eqOk] at h
  | non => exact .non
  | bl b => exact .bl b
  | int i => exact .int i
  | str s => exact .str s
  | tup h1 r1 => exact dp_of (.tup h1 r1) h
  | lst h1 r1 => exact dp_of (.lst h1 r1) h
  | kl => simp [PyI.deref, eqOk] at h
  | kt => simp [PyI.deref, eqOk] at h
/-- flat values -/
theorem flat_of (r : Rep K H M x d) (h : flatD d = true) : flatV x = true := by cases r <;> first | rfl | (simp [flatD] at h)
theorem flats_of : ∀ {xs : List V} {ds : List D}, Reps K H M xs ds → ds.all flatD = true → xs.all flatV = true
  | _, _, .nil, _ => rfl
  | _, _, .cons h r, q => by
    simp only [List.all_cons, Bool.and_eq_true] at q ⊢
    exact ⟨flat_of h q.1, flats_of r q.2⟩
theorem eqV_of (rx : Rep K H M x d) (ry : Rep K H M y d') (h : flatD d = true) (h' : flatD d' = true) : eqV x y = eqD d d' := by
  cases rx <;> first | (simp [flatD] at h; done) | (cases ry <;> first | (simp [flatD] at h'; done) | simp only [eqV, eqD])
theorem inV_of (rx : Rep K H M x d) (h : flatD d = true) : ∀ {xs : List V} {ds : List D}, Reps K H M xs ds → ds.all flatD = true → inV x xs = ds.any fun y => eqD y d
  | _, _, .nil, _ => rfl
  | _, _, .cons hh r, q => by
    simp only [List.all_cons, Bool.and_eq_true] at q
    have ih := inV_of rx h r q.2
    unfold inV at ih ⊢
    rw [List.any_cons, List.any_cons, ih, eqV_of hh rx q.1 h]
/-- is of a bool -/
def rIsB' (neg : Bool) : R2 := fun x y H Q => ∃ b, y = .bl b ∧ (match x with | .byt _ => False | .flt _ => False | .ty _ => False | _ => True) ∧ Q (.bl (if neg then !decide (x = .bl b) else decide (x = .bl b))) H
theorem op_isB' : OpR X (compareOp .Is) (rIsB' false) := by
  intro pins s σ H x y v u Q I rx ry h
  obtain ⟨b, rfl, hx, q⟩ := h
  cases (show u = Value.bool b from ry)
  cases x with
  | non => cases (show v = Value.none from rx); exact wpAny_is_other rfl (by intro z; cases z) ⟨.bl false, H, I, rfl, by simpa using q⟩
  | bl a =>
    cases (show v = Value.bool a from rx)
    by_cases e : a = b
    · subst e; exact wpAny_is_self rfl ⟨.bl true, H, I, rfl, by simpa using q⟩
    · exact wpAny_is_other rfl (fun z => e (Value.bool.inj z)) ⟨.bl false, H, I, rfl, by simpa [e] using q⟩
  | int i => obtain ⟨t, rfl⟩ := rx; exact wpAny_is_other rfl (by intro z; cases z) ⟨.bl false, H, I, rfl, by simpa using q⟩
  | str i => obtain ⟨t, rfl⟩ := rx; exact wpAny_is_other rfl (by intro z; cases z) ⟨.bl false, H, I, rfl, by simpa using q⟩
  | ref a => cases (show v = Value.ref a from rx); exact wpAny_is_other rfl (by intro z; cases z) ⟨.bl false, H, I, rfl, by simpa using q⟩
  | byt _ => exact hx.elim
  | flt _ => exact hx.elim
  | ty _ => exact hx.elim
theorem op_isnB' : OpR X (compareOp .IsNot) (rIsB' true) := by
  intro pins s σ H x y v u Q I rx ry h
  obtain ⟨b, rfl, hx, q⟩ := h
  cases (show u = Value.bool b from ry)
  cases x with
  | non => cases (show v = Value.none from rx); exact wpAny_isNot_other rfl (by intro z; cases z) ⟨.bl true, H, I, rfl, by simpa using q⟩
  | bl a =>
    cases (show v = Value.bool a from rx)
    by_cases e : a = b
    · subst e; exact wpAny_isNot_self rfl ⟨.bl false, H, I, rfl, by simpa using q⟩
    · exact wpAny_isNot_other rfl (fun z => e (Value.bool.inj z)) ⟨.bl true, H, I, rfl, by simpa [e] using q⟩
  | int i => obtain ⟨t, rfl⟩ := rx; exact wpAny_isNot_other rfl (by intro z; cases z) ⟨.bl true, H, I, rfl, by simpa using q⟩
  | str i => obtain ⟨t, rfl⟩ := rx; exact wpAny_isNot_other rfl (by intro z; cases z) ⟨.bl true, H, I, rfl, by simpa using q⟩
  | ref a => cases (show v = Value.ref a from rx); exact wpAny_isNot_other rfl (by intro z; cases z) ⟨.bl true, H, I, rfl, by simpa using q⟩
  | byt _ => exact hx.elim
  | flt _ => exact hx.elim
  | ty _ => exact hx.elim
def copOf : CmpOp → Cop
  | .Eq => .eq | .NotEq => .ne | .Lt => .lt | .LtE => .le | .Gt => .gt | .GtE => .ge | .Is => .is_ | .IsNot => .isnot | .In => .in_ | .NotIn => .notin
/-- comparisons: Q is asked at a bool -/
theorem cmp_ok {op : CmpOp} {B : Bool → Hp → Prop} (hu : X.A.units + 64 < cLine) (R : RelH X.K ct H μ M) (rx : Rep X.K H M x d) (ry : Rep X.K H M y d') (h : Ok X.K ct RB M H (cmpD (copOf op) d d' μ) B W) (hq : ∀ b H', B b H' → Q (.bl b) H') : wO X (compareOp op) x y H Q := by
  cases op
  case Eq =>
    obtain ⟨⟨h1, h2⟩, h⟩ := (show Ok X.K ct RB M H (needs (eqOk 64 (deref μ d) = true ∧ eqOk 64 (deref μ d') = true) (.ok (eqD (deref μ d) (deref μ d')) μ)) B W from h).needs
    refine wo (op_eqD hu) ⟨_, _, rx.deref R h1, ry.deref R h2, shaped_of h1, shaped_of h2, hq _ _ ?_⟩
    rw [eqv_of h1 h2]
    exact h.ret R rfl
  case NotEq =>
    obtain ⟨⟨h1, h2⟩, h⟩ := (show Ok X.K ct RB M H (needs (eqOk 64 (deref μ d) = true ∧ eqOk 64 (deref μ d') = true) (.ok (!eqD (deref μ d) (deref μ d')) μ)) B W from h).needs
    refine wo (op_neD hu) ⟨_, _, rx.deref R h1, ry.deref R h2, shaped_of h1, shaped_of h2, hq _ _ ?_⟩
    rw [eqv_of h1 h2]
    exact h.ret R rfl
  case Lt =>
    unfold cmpD copOf at h
    simp only at h
    split at h
    · cases rx; cases ry; exact wo op_lt ⟨_, _, rfl, rfl, hq _ _ (h.ret R rfl)⟩
    · cases rx; cases ry; exact wo op_lt_str ⟨_, _, rfl, rfl, hq _ _ (h.ret R rfl)⟩
    · exact h.elim
  case LtE =>
    unfold cmpD copOf at h
    simp only at h
    split at h
    · cases rx; cases ry; exact wo op_le ⟨_, _, rfl, rfl, hq _ _ (h.ret R rfl)⟩
    · cases rx; cases ry; exact wo op_le_str ⟨_, _, rfl, rfl, hq _ _ (h.ret R rfl)⟩
    · exact h.elim
  case Gt =>
    unfold cmpD copOf at h
    simp only at h
    split at h
    · cases rx; cases ry; exact wo op_gt ⟨_, _, rfl, rfl, hq _ _ (h.ret R rfl)⟩
    · cases rx; cases ry; exact wo op_gt_str ⟨_, _, rfl, rfl, hq _ _ (h.ret R rfl)⟩
    · exact h.elim
  case GtE =>
    unfold cmpD copOf at h
    simp only at h
    split at h
    · cases rx; cases ry; exact wo op_ge ⟨_, _, rfl, rfl, hq _ _ (h.ret R rfl)⟩
    · cases rx; cases ry; exact wo op_ge_str ⟨_, _, rfl, rfl, hq _ _ (h.ret R rfl)⟩
    · exact h.elim
  case Is =>
    unfold cmpD copOf at h
    simp only at h
    split at h
    · cases rx; cases ry; exact wo op_isN ⟨rfl, hq _ _ (by simpa using h.ret R rfl)⟩
    · rename_i hn
      cases ry
      refine wo op_isN ⟨rfl, hq _ _ ?_⟩
      have e : decide (x = V.non) = false := decide_eq_false (by rintro rfl; cases rx; exact hn rfl)
      rw [e]; exact h.ret R rfl
    · rename_i a b
      cases rx; cases ry
      refine wo op_isB' ⟨b, rfl, trivial, hq _ _ ?_⟩
      have z := h.ret R rfl
      by_cases e : a = b
      · simpa [e] using z
      · have e2 : (a == b) = false := beq_eq_false_iff_ne.mpr e
        rw [e2] at z
        simpa [e] using z
    · rename_i b hn
      cases ry
      refine wo op_isB' ⟨b, rfl, by cases rx <;> trivial, hq _ _ ?_⟩
      have e : decide (x = V.bl b) = false := decide_eq_false (by rintro rfl; cases rx; exact hn _ rfl)
      simp only [Bool.false_eq_true, if_false, e]
      exact h.ret R rfl
    · exact h.elim
  case IsNot =>
    unfold cmpD copOf at h
    simp only at h
    split at h
    · cases rx; cases ry; exact wo op_notN ⟨rfl, hq _ _ (by simpa using h.ret R rfl)⟩
    · rename_i hn
      cases ry
      refine wo op_notN ⟨rfl, hq _ _ ?_⟩
      have e : decide (x = V.non) = false := decide_eq_false (by rintro rfl; cases rx; exact hn rfl)
      rw [e]; exact h.ret R rfl
    · rename_i a b
      cases rx; cases ry
      refine wo op_isnB' ⟨b, rfl, trivial, hq _ _ ?_⟩
      have z := h.ret R rfl
      by_cases e : a = b
      · simpa [e] using z
      · have e2 : (a == b) = false := beq_eq_false_iff_ne.mpr e
        rw [e2] at z
        simpa [e] using z
    · rename_i b hn
      cases ry
      refine wo op_isnB' ⟨b, rfl, by cases rx <;> trivial, hq _ _ ?_⟩
      have e : decide (x = V.bl b) = false := decide_eq_false (by rintro rfl; cases rx; exact hn _ rfl)
      simp only [if_true, e, Bool.not_false]
      exact h.ret R rfl
    · exact h.elim
  case In =>
    unfold cmpD copOf at h
    simp only at h
    split at h
    · cases rx; cases ry; exact wo op_in_str ⟨_, _, rfl, rfl, hq _ _ (h.ret R rfl)⟩
    · split at h
      · rename_i r hr
        obtain ⟨a, ov, rfl, g, ro⟩ := getDic_ok R ry rx hr
        refine wo (Nw.op_din (by omega)) ⟨a, ov, rfl, g, hq _ _ ?_⟩
        have e : ov.isSome = r.isSome := by
          cases r with
          | none => rw [show ov = none from ro]; rfl
          | some d => obtain ⟨v, rfl, _⟩ := ro; rfl
        rw [e]
        exact h.ret R rfl
      split at h
      · rename_i l hl
        obtain ⟨⟨h1, h2⟩, h⟩ := h.needs
        obtain ⟨a, xs, rfl, hs, rs⟩ := seq_of R ry hl
        refine wo op_in_seq ⟨a, xs, rfl, hs, flat_of rx h1, flats_of rs h2, hq _ _ ?_⟩
        simp only [Bool.false_eq_true, if_false, inV_of rx h1 rs h2]
        exact h.ret R rfl
      · exact h.elim
  case NotIn =>
    unfold cmpD copOf at h
    simp only at h
    split at h
    · cases rx; cases ry; exact wo op_notIn_str ⟨_, _, rfl, rfl, hq _ _ (h.ret R rfl)⟩
    · split at h
      · rename_i r hr
        obtain ⟨a, ov, rfl, g, ro⟩ := getDic_ok R ry rx hr
        refine wo (Nw.op_dnotin (by omega)) ⟨a, ov, rfl, g, hq _ _ ?_⟩
        have e : ov.isSome = r.isSome := by
          cases r with
          | none => rw [show ov = none from ro]; rfl
          | some d => obtain ⟨v, rfl, _⟩ := ro; rfl
        rw [e]
        exact h.ret R rfl
      split at h
      · rename_i l hl
        obtain ⟨⟨h1, h2⟩, h⟩ := h.needs
        obtain ⟨a, xs, rfl, hs, rs⟩ := seq_of R ry hl
        refine wo op_notIn_seq ⟨a, xs, rfl, hs, flat_of rx h1, flats_of rs h2, hq _ _ ?_⟩
        simp only [if_true, inV_of rx h1 rs h2]
        exact h.ret R rfl
      · exact h.elim
/-- truth -/
theorem tru_ok {B : Bool → Hp → Prop} {ν : Mu} (R : RelH K ct H μ M) (rx : Rep K H M x d) (h : Ok K ct RB M H (truD μ d μ) B W) : ∃ k, TruV K x H k ∧ truD μ d μ = .ok k μ ∧ B k H := by
  cases rx with
  | non => exact ⟨false, rfl, rfl, h.ret R rfl⟩
  | bl b => exact ⟨b, rfl, rfl, h.ret R rfl⟩
  | int i => exact ⟨i != 0, rfl, rfl, h.ret R rfl⟩
  | str s =>
    have h' := (show Ok K ct RB M H (needs (s.length ≤ 16777216) (.ok (s.length != 0) μ)) B W from h).needs
    refine ⟨s.length != 0, ⟨sl16 h'.1, ?_⟩, needs_pos h'.1, h'.2.ret R rfl⟩
    cases e : s.length with
    | zero => rfl
    | succ n =>
      have e1 : (n + 1 != 0) = true := by simp
      have e2 : (((n + 1 : Nat) : Int) != 0) = true := by simp; omega
      rw [e1, e2]
  | tup h1 r1 =>
    rename_i a xs ds
    refine ⟨!ds.isEmpty, .inr (.inl ⟨_, h1.sq, ?_⟩), rfl, h.ret R rfl⟩
    cases r1 <;> rfl
  | lst h1 r1 =>
    rename_i a xs ds
    refine ⟨!ds.isEmpty, .inl ⟨_, h1.sq, ?_⟩, rfl, h.ret R rfl⟩
    cases r1 <;> rfl
  | kl => exact (h : False).elim
  | kt h1 r1 =>
    rename_i a xs ds
    refine ⟨!ds.isEmpty, .inr (.inl ⟨_, h1.sq, ?_⟩), rfl, h.ret R rfl⟩
    cases r1 <;> rfl
  | ref ha =>
    unfold truD at h ⊢
    simp only at h ⊢
    split at h
    · rename_i l' hl
      obtain ⟨xs, h1, r1⟩ := R.lst hl ha
      refine ⟨!l'.isEmpty, .inl ⟨_, .inl (.inl h1), ?_⟩, rfl, h.ret R rfl⟩
      cases r1 <;> rfl
    · exact h.elim
end
end PyI
/-! A4: text.translate({37: None}); built-in calls, methods, subscripts. -/
namespace PyI.Tr
open PySem Builtin Builtin.Str L2
section
variable {prog : Program} {w : World} {A : Around} {E : Value → Shared → Prop} {s : Shared} {d : Addr} {c : Nat}
abbrev M37 (prog : Program) (w : World) (h : Heap) (d : Addr) : Prop := h.DictOf (mixKind prog w) d [(Sum.inl 37, Value.none)]
theorem m37_keeps {h h' : Heap} (m : M37 prog w h d) (k : ∀ b o, h.get? b = some o → h'.get? b = some o) : M37 prog w h' d := by
  obtain ⟨o, es, ep, ho, r⟩ := m
  exact ⟨o, es, ep, k _ _ ho, r⟩
theorem tl37 {Q : Mapped → Shared → Prop} (hh : A.handled = none) (hd : (d == sysModules) = false) (hm : M37 prog w s.heap d)
    (h1 : c = 37 → ∀ k, Q .drop { s with toks := k })
    (h2 : c ≠ 37 → ∀ h' k, (∀ b o, s.heap.get? b = some o → h'.get? b = some o) → Q .keep { s with heap := h', toks := k }) : wpAny (model prog w) A (tableLookup (.ref d) c) Q E s := by
  unfold tableLookup
  refine wpAny_bind (wpAny_attempt (wpAny_bind (wpAny_mkInt ?_)))
  by_cases hc : c = 37
  · refine wpAny_getItem_of (knd := mixKind prog w) (k := (Sum.inl (c : Int))) (v := Value.none) (mixKind_int ..) hm.mapOf (by subst hc; rfl) ?_
    exact wpAny_pure (h1 hc _)
  · refine wpAny_getItem_missing_of (knd := mixKind prog w) (k := (Sum.inl (c : Int))) (mixKind_int ..) hd hh hm.mapOf ?_ fun h' e hx => ?_
    · unfold valueAt
      rw [List.find?_cons, List.find?_nil]
      have : decide (((Sum.inl 37 : Key), Value.none).1 = Sum.inl (c : Int)) = false := decide_eq_false (fun z => hc (by have := Sum.inl.inj z; omega))
      rw [this]; rfl
    show wpAny _ _ (do let b ← isInstance (.ref e) (.type "LookupError"); _) _ _ _
    obtain ⟨ob, t, ho, hc', _⟩ := hx.there
    refine wpAny_bind (wpAny_isInstance (T := "KeyError") (b := true) ⟨ob, ho, hc'⟩ key_is_lookup ?_)
    show wpAny _ _ (if true = true then (do rule "str.translate.not-in-table"; pure Mapped.keep) else _) _ _ _
    rw [if_pos rfl]
    exact wpAny_bind (wpAny_rule (wpAny_pure (h2 hc h' _ hx.keeps)))
end
abbrev one37 (c : Nat) : Option Nat := if c = 37 then none else some c
theorem pieces37 : ∀ (l : List Nat) (acc : Array Nat), List.foldl (fun acc (p : Str) => acc ++ p.cps) acc (l.map fun c => (⟨#[c]⟩ : Str)) = acc ++ l.toArray
  | [], acc => by
    show acc = acc ++ #[]
    rw [Array.append_empty]
  | c :: l, acc => by
    rw [List.map_cons, List.foldl_cons, pieces37 l]
    apply Array.toList_inj.mp
    simp
/-- what stands while the signs are walked -/
def At37 (x : List Nat) (s : Shared) (rest : List Nat) (st : List Str × Nat × Bool × List (Nat × Option Nat) × Bool) (s' : Shared) : Prop :=
  ∃ (past : List Nat) (pieces : List Str) (known : List (Nat × Option Nat)) (n : Nat) (h' : Heap) (k : Nat), x = past ++ rest ∧ n ≤ past.length ∧ st = (pieces, n, true, known, false) ∧ pieces.reverse = (past.filter (· != 37)).map (fun c => (⟨#[c]⟩ : Str)) ∧
    (∀ c a, List.lookup c known = some a → a = one37 c) ∧ s' = { s with heap := h', toks := k } ∧ ∀ b o, s.heap.get? b = some o → h'.get? b = some o
theorem At37.keep {x : List Nat} {s : Shared} {rest past : List Nat} {n : Nat} {c : Nat} {pieces : List Str} {known : List (Nat × Option Nat)} {h' : Heap} {k : Nat} (hc : c ≠ 37) (h1 : x = past ++ c :: rest) (hn : n ≤ past.length)
    (h3 : pieces.reverse = (past.filter (· != 37)).map (fun c => (⟨#[c]⟩ : Str))) (h4 : ∀ c a, List.lookup c known = some a → a = one37 c) (h6 : ∀ b o, s.heap.get? b = some o → h'.get? b = some o) :
    At37 x s rest (⟨#[c]⟩ :: pieces, n + 1, true, known, false) { s with heap := h', toks := k } := by
  refine ⟨past ++ [c], ⟨#[c]⟩ :: pieces, known, n + 1, h', k, ?_, ?_, rfl, ?_, h4, rfl, h6⟩
  · rw [h1, List.append_assoc] <;> rfl
  · rw [List.length_append]; exact Nat.succ_le_succ hn
  · rw [List.reverse_cons, h3, List.filter_append, List.map_append]
    have : List.filter (fun x => x != 37) [c] = [c] := by simp [hc]
    rw [this]; rfl
theorem At37.drop {x : List Nat} {s : Shared} {rest past : List Nat} {n : Nat} {c : Nat} {pieces : List Str} {known : List (Nat × Option Nat)} {h' : Heap} {k : Nat} (hc : c = 37) (h1 : x = past ++ c :: rest) (hn : n ≤ past.length)
    (h3 : pieces.reverse = (past.filter (· != 37)).map (fun c => (⟨#[c]⟩ : Str))) (h4 : ∀ c a, List.lookup c known = some a → a = one37 c) (h6 : ∀ b o, s.heap.get? b = some o → h'.get? b = some o) :
    At37 x s rest (pieces, n, true, known, false) { s with heap := h', toks := k } := by
  refine ⟨past ++ [c], pieces, known, n, h', k, ?_, ?_, rfl, ?_, h4, rfl, h6⟩
  · rw [h1, List.append_assoc] <;> rfl
  · rw [List.length_append]; exact Nat.le_succ_of_le hn
  · rw [h3, List.filter_append]
    have : List.filter (fun x => x != 37) [c] = [] := by simp [hc]
    rw [this, List.append_nil]
theorem meets37 {prog : Program} {w : World} (x : List Nat) (t : Tok) (d : Addr) (hd : (d == sysModules) = false) (hz : x.length ≤ 1000000) (hf : x.toArray.all (fun y => decide (y < 128)) = true) : MeetsIn prog w («str.translate» ⟨[.str ⟨x.toArray⟩ t, .ref d], []⟩) (fun A R s =>
    A.handled = none ∧ M37 prog w s.heap d ∧ ∀ (v : Value) (h' : Heap) (k : Nat), (∀ b o, s.heap.get? b = some o → h'.get? b = some o) → (∃ t', v = .str ⟨(x.filter (· != 37)).toArray⟩ t') → R (.ok (.ret v)) { s with heap := h', toks := k }) := by
  refine .of_wp fun A R s h => ?_
  obtain ⟨hh, hm, h⟩ := h
  have hh1 : A.in1.handled = none := hh
  have hlen : (⟨x.toArray⟩ : Str).length = x.length := by show x.toArray.size = _; simp
  show wpAny _ _ (if ((⟨x.toArray⟩ : Str).length == 0) = true then (do rule "str.translate.empty"; ret (.str ⟨x.toArray⟩ t)) else (do
    let st ← forIn x.toArray (([], 0, x.toArray.all fun y => decide (y < 128), [], false) : List Str × Nat × Bool × List (Nat × Option Nat) × Bool) _
    _)) _ _ s
  by_cases h0 : ((⟨x.toArray⟩ : Str).length == 0) = true
  · rw [if_pos h0]
    have hx : x = [] := by
      rw [beq_iff_eq, hlen] at h0
      exact List.eq_nil_of_length_eq_zero h0
    subst hx
    exact wpAny_bind (wpAny_rule (wpAny_pure ⟨_, rfl, h _ s.heap s.toks (fun _ _ e => e) ⟨t, rfl⟩⟩))
  · rw [if_neg h0, hf]
    refine wpAny_bind (MeetsSeq2.wpAny_forIn_array _ (At37 x s) _ (fun c rest st s' hI => ?turn) (fun st s' hI => ?fin) x.toArray ([], 0, true, [], false) ?h0)
    case h0 =>
      refine ⟨[], [], [], 0, s.heap, s.toks, ?_, Nat.le_refl _, rfl, rfl, fun c a z => ?_, rfl, fun _ _ e => e⟩
      · rw [List.nil_append]
      · rw [List.lookup_nil] at z
        cases z
    case turn =>
      obtain ⟨past, pieces, known, n, h', k, e1, en, e2, e3, e4, e5, e6⟩ := hI
      subst e2
      subst e5
      have hpl : n ≤ 1000000 := by
        have q := congrArg List.length e1
        rw [List.length_append] at q
        omega
      have hm' : M37 prog w ({ s with heap := h', toks := k } : Shared).heap d := m37_keeps hm e6
      show wpAny _ _ (if tooLong n = true then _ else (if true = true then _ else _)) _ _ _
      rw [show tooLong n = false from PyProof.Rows.short24 (by omega), if_neg Bool.false_ne_true]
      rw [if_pos rfl]
      cases hl : List.lookup c known with
      | some a =>
        have ha := e4 c a hl
        by_cases hc : c = 37
        · have ha' : a = none := by rw [ha]; exact if_pos hc
          subst ha'
          refine wpAny_bind (wpAny_pure ?_)
          exact wpAny_pure (At37.drop hc e1 en e3 e4 e6)
        · have ha' : a = some c := by rw [ha]; exact if_neg hc
          subst ha'
          refine wpAny_bind (wpAny_pure ?_)
          exact wpAny_pure (At37.keep hc e1 en e3 e4 e6)
      | none =>
        have new : ∀ b, b = one37 c → ∀ c' a, List.lookup c' ((c, b) :: known) = some a → a = one37 c' := fun b hb c' a z => by
          rcases PySem.lookup_new z with ⟨q1, q2⟩ | q
          · rw [q2, hb, q1]
          · exact e4 c' a q
        refine wpAny_bind (tl37 hh1 hd hm' (fun hc k2 => ?_) (fun hc h2 k2 k3 => ?_))
        · refine wpAny_bind (wpAny_pure ?_)
          refine wpAny_pure ?_
          exact At37.drop (k := k2) (known := (c, none) :: known) hc e1 en e3 (new none (by rw [one37, if_pos hc])) e6
        · refine wpAny_bind (wpAny_pure ?_)
          refine wpAny_pure ?_
          exact At37.keep (k := k2) (known := (c, some c) :: known) hc e1 en e3 (new (some c) (by rw [one37, if_neg hc])) (fun b o z => k3 b o (e6 b o z))
    case fin =>
      obtain ⟨past, pieces, known, n, h', k, e1, en, e2, e3, e4, e5, e6⟩ := hI
      subst e2
      subst e5
      have ex : x = past := by rw [e1, List.append_nil]
      show wpAny _ _ (if tooLong n = true then _ else retStr { cps := List.foldl (fun acc (p : Str) => acc ++ p.cps) #[] pieces.reverse }) _ _ _
      rw [show tooLong n = false from PyProof.Rows.short24 (by rw [← ex] at en; omega), if_neg Bool.false_ne_true, e3, pieces37, ← ex]
      have ev : (⟨#[] ++ (x.filter (· != 37)).toArray⟩ : Str) = ⟨(x.filter (· != 37)).toArray⟩ := by
        rw [Array.empty_append]
      rw [ev]
      refine wpAny_bind (wpAny_mkStr (wpAny_pure ⟨_, rfl, h _ h' _ e6 ⟨_, rfl⟩⟩) ?_)
      show (x.filter (· != 37)).toArray.size ≤ sizeLine
      have hfl : (x.filter (· != 37)).length ≤ x.length := List.length_filter_le ..
      rw [sizeLine_eq]; simp; omega
end PyI.Tr
namespace PyI
open PySem L2
def rTr37 : V → List V → Hp → VK → Prop := fun x xs H Q => ∃ (z : Str) (d : Addr), x = .str z ∧ xs = [.ref d] ∧ H d = some (.dK [(.inl 37, .non)]) ∧ z.length ≤ 1000000 ∧ z.cps.all (· < 128) = true ∧ Q (.str (tr37S z)) H
theorem mt_tr37 {X : Cx} (hc : X.calm = true) : MtR X "str.translate" rTr37 := by
  intro pins s σ H x xs v us Q I rx rs h
  obtain ⟨a, d, rfl, rfl, hd, h3, hf, h⟩ := h
  obtain ⟨t, rfl⟩ := rx
  cases rs with
  | cons r1 rs =>
    cases rs
    cases r1
    obtain ⟨_, low, vs, kv, dd⟩ := dk_of I.hok hd
    have dd' : Tr.M37 X.prog X.w s.heap d := by
      cases kv with
      | cons p kv =>
        cases kv
        rename_i q
        obtain ⟨q1, q2⟩ := q
        obtain ⟨p1, p2⟩ := p
        cases p1
        cases (show q2 = Value.none from p2)
        exact dd
    obtain ⟨⟨l⟩⟩ := a
    refine call_meetsIn F.slot_str_translate (typeIs_str _ _ _) F.entry_str_translate (F.args_str_translate_2 _ _) (Tr.meets37 l t d low (by have h3' : (l.toArray).size ≤ 1000000 := h3; simpa using h3') hf) ⟨I.ok.hd hc, dd', ?_⟩
    intro v h' k hk ⟨t', e⟩
    subst e
    refine ⟨.str _, H, I.kept (t' := k) hk, ⟨t', rfl⟩, ?_⟩
    have e : tr37S ⟨l.toArray⟩ = ⟨(l.filter (· != 37)).toArray⟩ := by unfold tr37S; rfl
    rw [e] at h
    exact h
end PyI
/-! A5: built-in calls, methods, subscripts by values. -/
namespace PyI
open PySem L2
section
variable {X : Cx} {ct : CTab} {K : PySem.W.Frag} {H : Hp} {M : AM} {μ : Mu} {x y z v : V} {d d' : D} {xs : List V} {ds : List D} {Q : VK} {W : XK}

def tyN : Ty → String
  | .str => "str" | .int => "int" | .bool => "bool" | .tuple => "tuple" | .list => "list"
theorem tyx_t {a : Addr} {xs : List V} (h : SqT K H a xs) : TyX K H (.ref a) (.type "tuple") := by
  rcases h with (h | ⟨o, h⟩) | ⟨o, its, n, h1, h2, _⟩
  · exact .base (.tup h)
  · exact .fTuple h
  · exact .kTuple h1 h2
theorem tyx_l {a : Addr} {xs : List V} (h : SqL K H a xs) : TyX K H (.ref a) (.type "list") := by
  rcases h with (h | ⟨o, h⟩) | ⟨o, its, n, h1, h2, _⟩
  · exact .base (.lst h)
  · exact .base (.frz h)
  · exact .kList h1 h2
theorem isi_ok {t : Ty} (R : RelH X.K ct H μ M) (rx : Rep X.K H M x d) (h : Ok X.K ct (RD X.K) M H (isiD d t μ) Q W) : wC X (.builtin "isinstance") [x, .ty (tyN t)] H Q := by
  have go : ∀ {tn : String} {b : Bool}, TyX X.K H x (.type tn) → kitB tn (tyN t) = some b → Q (.bl b) H → wC X (.builtin "isinstance") [x, .ty (tyN t)] H Q :=
    fun ty k q => wc call_isi ⟨x, _, _, _, _, rfl, .ty _, ty, kit_ty k, q⟩
  cases rx with
  | non => exact go (.base .non) (by cases t <;> decide) (h.ret R (.bl _))
  | bl b => exact go (.base (.bl b)) (by cases t <;> decide) (h.ret R (.bl _))
  | int i => exact go (.base (.int i)) (by cases t <;> decide) (h.ret R (.bl _))
  | str s => exact go (.base (.str s)) (by cases t <;> decide) (h.ret R (.bl _))
  | tup h1 r1 => exact go (tyx_t h1.sq) (by cases t <;> decide) (h.ret R (.bl _))
  | lst h1 r1 => exact go (tyx_l h1.sq) (by cases t <;> decide) (h.ret R (.bl _))
  | kl => exact (h : False).elim
  | kt h1 r1 => exact go (tyx_t h1.sq) (by cases t <;> decide) (h.ret R (.bl _))
  | ref ha =>
    unfold isiD at h
    simp only at h
    split at h
    · rename_i l hl
      obtain ⟨xs, h1, r1⟩ := R.lst hl ha
      exact go (.base (.lst h1)) (by cases t <;> decide) (h.ret R (.bl _))
    · exact h.elim

theorem reps1 (r : Reps K H M xs [d]) : ∃ x, xs = [x] ∧ Rep K H M x d := Reps.one_inv r
theorem reps2 (r : Reps K H M xs [d, d']) : ∃ x y, xs = [x, y] ∧ Rep K H M x d ∧ Rep K H M y d' := by
  cases r with
  | cons h r => obtain ⟨y, rfl, h'⟩ := reps1 r; exact ⟨_, _, rfl, h, h'⟩
theorem reps0 (r : Reps K H M xs []) : xs = [] := by cases r; rfl
theorem seqL_of (R : RelH K ct H μ M) (r : Rep K H M x d) {l : List D} (h : seqD μ d = some l) (hn : ∀ t, d = .tup t → False) (hn2 : ∀ t, d = .kt t → False) : ∃ a xs, x = .ref a ∧ SqL K H a xs ∧ Reps K H M xs l := by
  cases r with
  | tup h1 r1 => exact (hn _ rfl).elim
  | lst h1 r1 => cases h; exact ⟨_, _, rfl, h1.sq, r1⟩
  | kl h1 r1 => cases h; exact ⟨_, _, rfl, h1.sq, r1⟩
  | kt h1 r1 => exact (hn2 _ rfl).elim
  | ref ha =>
    unfold seqD at h
    simp only at h
    split at h
    · rename_i l' hl
      cases h
      obtain ⟨xs, h1, r1⟩ := R.lst hl ha
      exact ⟨_, _, rfl, .inl (.inl h1), r1⟩
    · cases h
  | non => cases h
  | bl => cases h
  | int => cases h
  | str => cases h
def bifV : Bif → Value
  | .len => .builtin "len" | .int => .type "int" | .str => .type "str" | .tuple => .type "tuple" | .list => .type "list"
  | .sorted => .builtin "sorted" | .min => .builtin "min" | .max => .builtin "max" | .sum => .builtin "sum" | .any => .builtin "any" | .all => .builtin "all"
  | .abs => .builtin "abs" | .ord => .builtin "ord" | .bool => .type "bool"
theorem ints_of : ∀ {xs : List V} {ds : List D} {ys : List Int}, Reps K H M xs ds → intsOf ds = some ys → xs = ys.map V.int
  | _, _, _, .nil, e => by cases e; rfl
  | _, _, ys, .cons h r, e => by
    cases h <;> unfold intsOf at e <;> simp only [Option.map_eq_some_iff, reduceCtorEq] at e
    obtain ⟨zs, hz, rfl⟩ := e
    rw [ints_of r hz]; rfl
theorem bools_of : ∀ {xs : List V} {ds : List D} {ys : List Bool}, Reps K H M xs ds → boolsOf ds = some ys → xs = ys.map V.bl
  | _, _, _, .nil, e => by cases e; rfl
  | _, _, ys, .cons h r, e => by
    cases h <;> unfold boolsOf at e <;> simp only [Option.map_eq_some_iff, reduceCtorEq] at e
    obtain ⟨zs, hz, rfl⟩ := e
    rw [bools_of r hz]; rfl
theorem reps_ints : ∀ (ys : List Int), Reps K H M (ys.map V.int) (ys.map D.int)
  | [] => .nil
  | y :: ys => .cons (.int y) (reps_ints ys)
theorem maxL_mem : ∀ {l : List Int}, l ≠ [] → maxL l ∈ l
  | [], h => absurd rfl h
  | [a], _ => by simp [maxL]
  | a :: b :: r, _ => by
    have := maxL_mem (l := b :: r) (by simp)
    rw [maxL]
    split
    · exact List.mem_cons_of_mem _ this
    · exact List.mem_cons_self ..
theorem maxL_ge : ∀ {l : List Int}, ∀ y ∈ l, y ≤ maxL l
  | [a], y, h => by rw [List.mem_singleton.mp h]; simp [maxL]
  | a :: b :: r, y, h => by
    have ih := fun y h => maxL_ge (l := b :: r) y h
    rw [maxL]
    rcases List.mem_cons.mp h with rfl | h
    · split <;> omega
    · have := ih y h
      split <;> omega
theorem minL_mem : ∀ {l : List Int}, l ≠ [] → minL l ∈ l
  | [], h => absurd rfl h
  | [a], _ => by simp [minL]
  | a :: b :: r, _ => by
    have := minL_mem (l := b :: r) (by simp)
    rw [minL]
    split
    · exact List.mem_cons_of_mem _ this
    · exact List.mem_cons_self ..
theorem minL_le : ∀ {l : List Int}, ∀ y ∈ l, minL l ≤ y
  | [a], y, h => by rw [List.mem_singleton.mp h]; simp [minL]
  | a :: b :: r, y, h => by
    have ih := fun y h => minL_le (l := b :: r) y h
    rw [minL]
    rcases List.mem_cons.mp h with rfl | h
    · split <;> omega
    · have := ih y h
      split <;> omega
theorem insI_perm (a : Int) : ∀ l : List Int, (insI a l).Perm (a :: l)
  | [] => .refl _
  | b :: r => by
    rw [insI]
    split
    · exact .refl _
    · exact ((insI_perm a r).cons b).trans (.swap a b r)
theorem sortI_perm : ∀ l : List Int, (sortI l).Perm l
  | [] => .refl _
  | a :: r => (insI_perm a _).trans ((sortI_perm r).cons a)
theorem insI_up (a : Int) : ∀ {l : List Int}, l.Pairwise (· ≤ ·) → (insI a l).Pairwise (· ≤ ·)
  | [], _ => by simp [insI]
  | b :: r, h => by
    rw [insI]
    rw [List.pairwise_cons] at h
    split
    · rename_i e
      rw [List.pairwise_cons]
      refine ⟨fun y hy => ?_, List.pairwise_cons.mpr h⟩
      rcases List.mem_cons.mp hy with rfl | hy
      · exact e
      · exact Int.le_trans e (h.1 y hy)
    · rename_i e
      rw [List.pairwise_cons]
      refine ⟨fun y hy => ?_, insI_up a h.2⟩
      rcases List.mem_cons.mp ((insI_perm a r).mem_iff.mp hy) with rfl | hy
      · omega
      · exact h.1 y hy
theorem sortI_up : ∀ l : List Int, (sortI l).Pairwise (· ≤ ·)
  | [] => .nil
  | a :: r => insI_up a (sortI_up r)
theorem bif_ok {b : Bif} (hc : X.calm = true) (R : RelH X.K ct H μ M) (r : Reps X.K H M xs ds) (h : Ok X.K ct (RD X.K) M H (bifD b ds μ) Q W) : wC X (bifV b) xs H Q := by
  unfold bifD at h
  split at h
  case h_1 s => obtain ⟨x, rfl, rx⟩ := reps1 r; cases rx; exact wc call_len_str ⟨s, rfl, sl16 h.needs.1, h.needs.2.ret R (.int _)⟩
  case h_2 =>
    obtain ⟨x, rfl, rx⟩ := reps1 r
    split at h
    · rename_i l hl
      obtain ⟨a, xs, rfl, hs, rs⟩ := seq_of R rx hl
      refine wc call_len_seq ⟨a, xs, rfl, hs, ?_⟩
      rw [rs.length]; exact h.ret R (.int _)
    · exact h.elim
  case h_3 => obtain ⟨x, rfl, rx⟩ := reps1 r; cases rx; exact wc call_int1 (.inl ⟨_, rfl, h.ret R (.int _)⟩)
  case h_4 => obtain ⟨x, rfl, rx⟩ := reps1 r; cases rx; exact wc call_int1 (.inr ⟨_, rfl, h.ret R (.int _)⟩)
  case h_5 =>
    obtain ⟨x, rfl, rx⟩ := reps1 r; cases rx
    split at h
    · rename_i n hn
      exact wc call_int_str ⟨_, n, rfl, hn, h.needs.1, h.needs.2.ret R (.int _)⟩
    · exact h.elim
  case h_6 => obtain ⟨x, rfl, rx⟩ := reps1 r; cases rx; exact wc call_str_int ⟨_, rfl, h.needs.1, h.needs.2.ret R (.str _)⟩
  case h_7 => obtain ⟨x, rfl, rx⟩ := reps1 r; cases rx; exact wc call_abs ⟨_, rfl, h.ret R (.int _)⟩
  case h_8 => obtain ⟨x, y, rfl, rx, ry⟩ := reps2 r; cases rx; cases ry; exact wc (call_max2 hc) ⟨_, _, rfl, h.ret R (.int _)⟩
  case h_9 => obtain ⟨x, y, rfl, rx, ry⟩ := reps2 r; cases rx; cases ry; exact wc (call_min2 hc) ⟨_, _, rfl, h.ret R (.int _)⟩
  case h_10 =>
    cases r with
    | cons r1 r =>
      obtain ⟨y, z, rfl, r2, r3⟩ := reps2 r
      cases r1; cases r2; cases r3
      exact wc (Nw.call_min3 hc) ⟨_, _, _, rfl, h.ret R (.int _)⟩
  case h_11 =>
    obtain ⟨x, rfl, rx⟩ := reps1 r
    cases rx with
    | tup h1 r1 => exact wc call_tuple_of ⟨_, _, rfl, .inr ⟨h1.sq, h.ret R (.tup h1 r1)⟩⟩
  case h_12 =>
    obtain ⟨x, rfl, rx⟩ := reps1 r
    cases rx with
    | kt h1 r1 => exact wc call_tuple_of ⟨_, _, rfl, .inr ⟨h1.sq, h.ret R (.kt h1 r1)⟩⟩
  case h_13 hn hn2 =>
    obtain ⟨x, rfl, rx⟩ := reps1 r
    split at h
    · rename_i l hl
      obtain ⟨a, xs, rfl, hs, rs⟩ := seqL_of R rx hl hn hn2
      exact wc call_tuple_of ⟨a, xs, rfl, .inl ⟨hs, fun p hp => h.newT R rs hp⟩⟩
    · exact h.elim
  case h_14 =>
    obtain ⟨x, rfl, rx⟩ := reps1 r
    split at h
    · rename_i l hl
      obtain ⟨a, xs, rfl, hs, rs⟩ := seq_of R rx hl
      exact wc call_list_of ⟨a, xs, rfl, hs, fun p hp => h.newL R rs hp⟩
    · exact h.elim
  case h_15 s => obtain ⟨x, rfl, rx⟩ := reps1 r; cases rx; exact wc call_ord ⟨s, rfl, h.needs.1, h.needs.2.ret R (.int _)⟩
  case h_16 =>
    obtain ⟨x, rfl, rx⟩ := reps1 r
    split at h
    · rename_i l hl
      obtain ⟨zs, e1, e2⟩ := Option.bind_eq_some_iff.mp hl
      obtain ⟨a, xs, rfl, hs, rs⟩ := lst_of R rx e1
      exact wc (cr_sum hc) ⟨a, l, rfl, .inl (by rw [← ints_of rs e2]; exact hs), h.ret R (.int _)⟩
    · exact h.elim
  case h_17 =>
    obtain ⟨x, rfl, rx⟩ := reps1 r
    split at h
    · rename_i l hl
      obtain ⟨zs, e1, e2⟩ := Option.bind_eq_some_iff.mp hl
      obtain ⟨a, xs, rfl, hs, rs⟩ := lst_of R rx e1
      exact wc (cr_any hc) ⟨a, l, rfl, .inl (by rw [← bools_of rs e2]; exact hs), h.ret R (.bl _)⟩
    · exact h.elim
  case h_18 =>
    obtain ⟨x, rfl, rx⟩ := reps1 r
    split at h
    · rename_i l hl
      obtain ⟨zs, e1, e2⟩ := Option.bind_eq_some_iff.mp hl
      obtain ⟨a, xs, rfl, hs, rs⟩ := lst_of R rx e1
      exact wc (cr_all hc) ⟨a, l, rfl, .inl (by rw [← bools_of rs e2]; exact hs), h.ret R (.bl _)⟩
    · exact h.elim
  case h_19 =>
    obtain ⟨x, rfl, rx⟩ := reps1 r
    split at h
    · rename_i l hl
      obtain ⟨zs, e1, e2⟩ := Option.bind_eq_some_iff.mp hl
      obtain ⟨a, xs, rfl, hs, rs⟩ := lst_of R rx e1
      have hn : l ≠ [] := List.length_pos_iff.mp h.needs.1
      refine wc (cr_max hc) ⟨a, l, rfl, .inl (by rw [← ints_of rs e2]; exact hs), h.needs.1, fun m h1 h2 => ?_⟩
      have e : m = maxL l := Int.le_antisymm (maxL_ge m h1) (h2 _ (maxL_mem hn))
      rw [e]
      exact h.needs.2.ret R (.int _)
    · exact h.elim
  case h_20 =>
    obtain ⟨x, rfl, rx⟩ := reps1 r
    split at h
    · rename_i l hl
      obtain ⟨zs, e1, e2⟩ := Option.bind_eq_some_iff.mp hl
      obtain ⟨a, xs, rfl, hs, rs⟩ := lst_of R rx e1
      have hn : l ≠ [] := List.length_pos_iff.mp h.needs.1
      refine wc (cr_min hc) ⟨a, l, rfl, .inl (by rw [← ints_of rs e2]; exact hs), h.needs.1, fun m h1 h2 => ?_⟩
      have e : m = minL l := Int.le_antisymm (h2 _ (minL_mem hn)) (minL_le m h1)
      rw [e]
      exact h.needs.2.ret R (.int _)
    · exact h.elim
  case h_21 =>
    obtain ⟨x, rfl, rx⟩ := reps1 r
    split at h
    · rename_i l hl
      obtain ⟨zs, e1, e2⟩ := Option.bind_eq_some_iff.mp hl
      obtain ⟨a, xs, rfl, hs, rs⟩ := lst_of R rx e1
      refine wc cr_sortedI ⟨a, l, rfl, .inl (by rw [← ints_of rs e2]; exact hs), fun ns' p h1 h2 hp => ?_⟩
      have e : ns' = sortI l := List.Perm.eq_of_pairwise (fun a b _ _ h1 h2 => Int.le_antisymm h1 h2) h2 (sortI_up l) (h1.trans (sortI_perm l).symm)
      rw [e]
      exact h.newL R (reps_ints _) hp
    · exact h.elim
  case h_22 => exact h.elim

/-! ### methods -/
def metI : Met → String
  | .append => "list.append" | .join => "str.join" | .find => "str.find" | .isascii => "str.isascii" | .isprintable => "str.isprintable" | .split => "str.split"
  | .endswith => "str.endswith" | .startswith => "str.startswith" | .extend => "list.extend" | .pop => "list.pop" | .index => "list.index" | .isdigit => "str.isdigit" | .isalpha => "str.isalpha" | .islower => "str.islower"
def metT : Met → String
  | .append => "list" | .extend => "list" | .pop => "list" | .index => "list"
  | _ => "str"
theorem strs_of : ∀ {xs : List V} {ds : List D} {ys : List Str}, Reps K H M xs ds → strsOf ds = some ys → xs = ys.map V.str
  | _, _, _, .nil, e => by cases e; rfl
  | _, _, ys, .cons h r, e => by
    cases h <;> unfold strsOf at e <;> simp only [Option.map_eq_some_iff, reduceCtorEq] at e
    obtain ⟨zs, hz, rfl⟩ := e
    rw [strs_of r hz]; rfl
theorem reps_strs : ∀ (ys : List Str), Reps K H M (ys.map V.str) (ys.map D.str)
  | [] => .nil
  | y :: ys => .cons (.str y) (reps_strs ys)
theorem met_ty {m : Met} {o : D} (R : RelH K ct H μ M) (rx : Rep K H M x o) (h : tyD m o μ = true) : tyV K (metT m) x H := by
  unfold tyD at h
  split at h
  case h_1 =>
    cases rx with
    | ref ha =>
      split at h
      · rename_i l hl
        obtain ⟨xs, h1, r1⟩ := R.lst hl ha
        exact .inl ⟨rfl, xs, .inl (.inl h1)⟩
      · cases h
  case h_2 =>
    cases rx with
    | ref ha =>
      split at h
      · rename_i l hl
        obtain ⟨xs, h1, r1⟩ := R.lst hl ha
        exact .inl ⟨rfl, xs, .inl (.inl h1)⟩
      · cases h
  case h_3 =>
    cases rx with
    | ref ha =>
      split at h
      · rename_i l hl
        obtain ⟨xs, h1, r1⟩ := R.lst hl ha
        exact .inl ⟨rfl, xs, .inl (.inl h1)⟩
      · cases h
  case h_8 => cases rx; unfold metT; split <;> first | rfl | (exfalso; simp_all; done) | trace_state
  all_goals cases h
theorem met_ok {m : Met} {o : D} (R : RelH X.K ct H μ M) (rx : Rep X.K H M x o) (r : Reps X.K H M xs ds) (h : Ok X.K ct (RD X.K) M H (metD m o ds μ) Q W) : wM X (metI m) x xs H Q := by
  unfold metD at h
  split at h
  case h_1 n d =>
    cases rx with
    | ref ha =>
      obtain ⟨y, rfl, ry⟩ := reps1 r
      split at h
      · rename_i l hl
        obtain ⟨zs, h1, r1⟩ := R.lst hl ha
        obtain ⟨hz, h⟩ := h.needs
        have em : Evo M H M (upd H _ (.lst (zs ++ [y]))) := Evo.mut (List.mem_of_getElem? ha)
        refine wm mt_append ⟨_, zs, y, rfl, rfl, h1, sl16' (by rw [r1.length]; exact hz), ?_⟩
        exact h _ _ M em (R.mut ha ⟨zs ++ [y], upd_same, (r1.evo em).append (Reps.one (ry.evo em))⟩) .non
      · exact h.elim
  case h_2 n d =>
    cases rx with
    | ref ha =>
      obtain ⟨y, rfl, ry⟩ := reps1 r
      split at h
      · rename_i l r' hl hr
        obtain ⟨zs, h1, r1⟩ := R.lst hl ha
        obtain ⟨b, ys, rfl, hb, r2⟩ := lst_of R ry hr
        obtain ⟨hz, h⟩ := h.needs
        have em : Evo M H M (upd H _ (.lst (zs ++ ys))) := Evo.mut (List.mem_of_getElem? ha)
        refine wm Nw.mt_extendR ⟨_, b, zs, ys, rfl, rfl, h1, hb, by rw [r1.length, r2.length]; exact sl16 hz, ?_⟩
        exact h _ _ M em (R.mut ha ⟨zs ++ ys, upd_same, (r1.evo em).append (r2.evo em)⟩) .non
      · exact h.elim
  case h_3 n d =>
    cases rx with
    | ref ha =>
      obtain ⟨y, rfl, ry⟩ := reps1 r
      split at h
      · rename_i l hl
        obtain ⟨zs, h1, r1⟩ := R.lst hl ha
        obtain ⟨⟨f1, f2, f3⟩, h⟩ := h.needs
        have hlt : l.findIdx (fun y => eqD y d) < l.length := List.findIdx_lt_length.mpr (List.any_eq_true.mp f3)
        obtain ⟨z, hz, rz⟩ := r1.get (List.getElem?_eq_getElem hlt)
        have fz : ∀ {m : Nat} {e : D}, l[m]? = some e → flatD e = true := fun he => List.all_eq_true.mp f2 _ (List.mem_of_getElem? he)
        refine wm mt_index ⟨_, zs, y, _, z, rfl, rfl, .inl (.inl h1), flat_of ry f1, flats_of r1 f2, hz, ?_, fun m z' hm hz' => ?_, h.ret R (.int _)⟩
        · rw [eqV_of rz ry (fz (List.getElem?_eq_getElem hlt)) f1]
          exact List.findIdx_getElem (w := hlt)
        · have hml : m < l.length := Nat.lt_trans hm hlt
          obtain ⟨z2, hz2, rz2⟩ := r1.get (List.getElem?_eq_getElem hml)
          rw [hz'] at hz2
          cases hz2
          rw [eqV_of rz2 ry (fz (List.getElem?_eq_getElem hml)) f1]
          exact Bool.eq_false_iff.mpr (by simpa using List.not_of_lt_findIdx hm)
      · exact h.elim
  case h_4 a d =>
    cases rx
    obtain ⟨y, rfl, ry⟩ := reps1 r
    split at h
    · rename_i ys hy
      obtain ⟨hz, h⟩ := h.needs
      obtain ⟨l, hl, hs⟩ := Option.bind_eq_some_iff.mp hy
      obtain ⟨p, xs, rfl, hq, rs⟩ := seq_of R ry hl
      have e := strs_of rs hs
      subst e
      exact wm mt_join ⟨_, p, ys, rfl, rfl, hq, hz, h.ret R (.str _)⟩
    · exact h.elim
  case h_5 => cases rx; obtain ⟨y, z, rfl, ry, rz⟩ := reps2 r; cases ry; cases rz; exact wm mt_find3 ⟨_, _, _, rfl, rfl, h.ret R (.int _)⟩
  case h_6 => cases rx; obtain ⟨y, rfl, ry⟩ := reps1 r; cases ry; exact wm mt_find ⟨_, _, rfl, rfl, h.ret R (.int _)⟩
  case h_7 => cases rx; cases reps0 r; exact wm mt_isascii ⟨_, rfl, rfl, trivial, h.ret R (.bl _)⟩
  case h_8 => cases rx; cases reps0 r; exact wm mt_isprintable ⟨_, rfl, rfl, trivial, h.ret R (.bl _)⟩
  case h_9 => cases rx; cases reps0 r; exact wm mt_isdigit ⟨_, rfl, rfl, trivial, h.ret R (.bl _)⟩
  case h_10 => cases rx; cases reps0 r; exact wm mt_isalpha ⟨_, rfl, rfl, trivial, h.ret R (.bl _)⟩
  case h_11 => cases rx; cases reps0 r; exact wm mt_islower ⟨_, rfl, rfl, trivial, h.ret R (.bl _)⟩
  case h_12 => cases rx; obtain ⟨y, rfl, ry⟩ := reps1 r; cases ry; exact wm mt_startswith ⟨_, _, rfl, rfl, h.ret R (.bl _)⟩
  case h_13 => cases rx; obtain ⟨y, rfl, ry⟩ := reps1 r; cases ry; exact wm mt_endswith ⟨_, _, rfl, rfl, h.ret R (.bl _)⟩
  case h_14 =>
    cases rx; obtain ⟨y, rfl, ry⟩ := reps1 r; cases ry
    obtain ⟨hz, h⟩ := h.needs
    refine wm mt_split ⟨_, _, rfl, rfl, beq_eq_false_iff_ne.mpr hz.1, sl16 hz.2, fun p hp => ?_⟩
    exact h.newL R (reps_strs _) hp
  case h_15 => exact h.elim

/-! ### subscripts -/
theorem idx_ok {i : D} (R : RelH X.K ct H μ M) (rx : Rep X.K H M x d) (ry : Rep X.K H M y i) (h : Ok X.K ct (RD X.K) M H (idxD d i μ) Q W) : rIx X.K x y H Q := by
  unfold idxD at h
  split at h
  case h_1 z k =>
    cases rx; cases ry
    split at h
    · rename_i c hc
      exact .inr (.inr ⟨_, _, c, rfl, rfl, sl16 h.needs.1, hc, h.needs.2.ret R (.str _)⟩)
    · exact h.elim
  case h_2 k hn =>
    cases ry
    split at h
    · rename_i l hl
      obtain ⟨a, xs, rfl, hs, rs⟩ := seq_of R rx hl
      split at h
      · rename_i e he
        have : ∃ v, atI xs k = some v ∧ Rep X.K H M v e := by
          unfold atI at he ⊢
          obtain ⟨j, hj, hd⟩ := Option.bind_eq_some_iff.mp he
          obtain ⟨v, hv, rv⟩ := rs.get hd
          rw [rs.length]
          exact ⟨v, Option.bind_eq_some_iff.mpr ⟨j, hj, hv⟩, rv⟩
        obtain ⟨v, hv, rv⟩ := this
        rcases hs with hs | hs
        · exact .inl ⟨a, xs, _, v, rfl, rfl, hs, hv, h.ret R rv⟩
        · exact .inr (.inl ⟨a, xs, _, v, rfl, rfl, hs, hv, h.ret R rv⟩)
      · exact h.elim
    · exact h.elim
  case h_3 => exact h.elim
abbrev rSl (K : PySem.W.Frag) : V → Option Int → Option Int → Hp → VK → Prop := fun x lo hi H Q => (rSlS x lo hi H Q ∨ rSlL K x lo hi H Q) ∨ rSlA K x lo hi H Q
theorem sl_any : SlR X (rSl X.K) := (sl_str.or sl_list).or sl_tupA
theorem cut_reps {lo hi : Option Int} {l : List D} (r : Reps K H M xs l) : Reps K H M (cutV xs lo hi) (cutD l lo hi) := by
  unfold cutV cutD
  rw [r.length]
  exact (r.dropL _).takeL _
theorem slc_ok {lo hi : Option Int} (R : RelH X.K ct H μ M) (rx : Rep X.K H M x d) (h : Ok X.K ct (RD X.K) M H (slcD d lo hi μ) Q W) : rSl X.K x lo hi H Q := by
  cases rx with
  | str z =>
    obtain ⟨hz, h⟩ := (show Ok X.K ct (RD X.K) M H (needs (z.length ≤ 16777216) (.ok (.str (cutS z lo hi)) μ)) Q W from h).needs
    exact .inl (.inl ⟨z, rfl, sl16 hz, h.ret R (.str _)⟩)
  | lst h1 r1 => exact .inl (.inr ⟨_, _, rfl, h1.sq, fun p hp => Ok.newL (μ := μ) h R (cut_reps r1) hp⟩)
  | tup h1 r1 =>
    rename_i a xs l
    refine .inr ⟨_, _, rfl, h1.sq, fun hw => ?_, fun hw p hp => Ok.newT (μ := μ) h R (cut_reps r1) hp⟩
    have e : cutD l lo hi = l := by
      unfold cutD
      rw [← r1.length, hw.1, hw.2, List.drop_zero, Nat.sub_zero, r1.length, List.take_length]
    have h2 : Ok X.K ct (RD X.K) M H (.ok (.tup (cutD l lo hi)) μ) Q W := h
    rw [e] at h2
    exact h2.ret R (.tup h1 r1)
  | ref ha =>
    unfold slcD at h
    simp only at h
    split at h
    · rename_i l hl
      obtain ⟨xs, h1, r1⟩ := R.lst hl ha
      exact .inl (.inr ⟨_, _, rfl, .inl (.inl h1), fun p hp => h.newL R (cut_reps r1) hp⟩)
    · exact h.elim
  | kl => exact (h : False).elim
  | kt => exact (h : False).elim
  | non => exact h.elim
  | bl => exact h.elim
  | int => exact h.elim
theorem rev_ok (R : RelH X.K ct H μ M) (rx : Rep X.K H M x d) (h : Ok X.K ct (RD X.K) M H (revD d μ) Q W) : ∃ a xs, x = .ref a ∧ ((SqL X.K H a xs ∧ ∀ p, H p = none → Q (.ref p) (upd H p (.lst xs.reverse))) ∨ (SqT X.K H a xs ∧ ∀ p, H p = none → Q (.ref p) (upd H p (.tup xs.reverse)))) := by
  unfold revD at h
  split at h
  · cases rx with
    | tup h1 r1 => exact ⟨_, _, rfl, .inr ⟨h1.sq, fun p hp => Ok.newT (μ := μ) h R r1.rev hp⟩⟩
  · split at h
    · rename_i l hl
      obtain ⟨a, xs, rfl, hs, rs⟩ := lst_of R rx hl
      exact ⟨_, _, rfl, .inl ⟨.inl hs, fun p hp => Ok.newL (μ := μ) h R rs.rev hp⟩⟩
    · exact h.elim
end
end PyI
/-! A6: from the syntax to the resolved syntax. -/
namespace PyI
open PySem L2

structure RC where
  N : List Str
  tb : Tb
def ixOf {α : Type} [DecidableEq α] (x : α) : List α → Option Nat
  | [] => none
  | y :: ys => if x = y then some 0 else (ixOf x ys).map (· + 1)
theorem ixOf_get {α : Type} [DecidableEq α] {x : α} : ∀ {l : List α} {i : Nat}, ixOf x l = some i → l[i]? = some x
  | [], _, h => by cases h
  | y :: ys, i, h => by
    unfold ixOf at h
    by_cases e : x = y
    · rw [if_pos e] at h; cases h; subst e; rfl
    · rw [if_neg e] at h
      obtain ⟨j, hj, rfl⟩ := Option.map_eq_some_iff.mp h
      simpa using ixOf_get hj
/-- a def of the table: its number and how many arguments it takes -/
def fnOf (x : Str) : List (Str × Nat) → Option (Nat × Nat)
  | [] => none
  | (y, n) :: ys => if x = y then some (0, n) else (fnOf x ys).map fun p => (p.1 + 1, p.2)
theorem fnOf_get {x : Str} : ∀ {l : List (Str × Nat)} {i n : Nat}, fnOf x l = some (i, n) → l[i]? = some (x, n)
  | [], _, _, h => by cases h
  | (y, k) :: ys, i, n, h => by
    unfold fnOf at h
    by_cases e : x = y
    · rw [if_pos e] at h; cases h; subst e; rfl
    · rw [if_neg e] at h
      obtain ⟨⟨j, m⟩, hj, q⟩ := Option.map_eq_some_iff.mp h
      cases q
      simpa using fnOf_get hj
def okName (x : Str) : Bool := !(x == ("__debug__" : Str)) && !(x == ("__classdict__" : Str)) && !(x == ("__name__" : Str))
def visB (sc : Scope) (x : Str) : Bool := match sc.names.lookup x with
  | some .local => true
  | some .cell => true
  | some .free => true
  | _ => false
def glB (sc : Scope) (x : Str) : Bool := match sc.names.lookup x with
  | some .globalImplicit => true
  | _ => false
def star : Expr → Bool
  | .Starred _ _ => true
  | _ => false
def isSlc : Expr → Bool
  | .Slice _ _ none _ => true
  | _ => false
def isSet : Expr → Bool
  | .Set _ _ _ => true
  | _ => false
/-- isTrue reads it by its value's truth -/
def plainT : Expr → Bool
  | .UnaryOp .Not _ _ => false
  | .BoolOp _ _ _ => false
  | .IfExp _ _ _ _ => false
  | .Compare _ _ _ _ => false
  | _ => true
def plainO : Expr → Bool
  | .Call (.Name id _) [] [] _ => id != ("super" : Str)
  | _ => true
def bopOf : Operator → Option Bop
  | .Add => some .add | .Sub => some .sub | .Mult => some .mul | .FloorDiv => some .fdiv | .Mod => some .mod | .Pow => some .pow
  | .LShift => some .shl | .RShift => some .shr | .BitAnd => some .band | .BitOr => some .bor | .BitXor => some .bxor | _ => none
def bifOf (x : Str) : Option Bif :=
  if x = "len" then some .len else if x = "int" then some .int else if x = "str" then some .str else if x = "tuple" then some .tuple else if x = "list" then some .list else
  if x = "abs" then some .abs else if x = "max" then some .max else if x = "min" then some .min else if x = "ord" then some .ord else
  if x = "sum" then some .sum else if x = "any" then some .any else if x = "all" then some .all else if x = "sorted" then some .sorted else none
def tyOf (x : Str) : Option Ty :=
  if x = "str" then some .str else if x = "int" then some .int else if x = "bool" then some .bool else if x = "tuple" then some .tuple else if x = "list" then some .list else none
def metOf (x : Str) : Option Met :=
  if x = "append" then some .append else if x = "join" then some .join else if x = "find" then some .find else if x = "isascii" then some .isascii else if x = "isprintable" then some .isprintable else
  if x = "split" then some .split else if x = "isdigit" then some .isdigit else if x = "isalpha" then some .isalpha else if x = "islower" then some .islower else
  if x = "startswith" then some .startswith else if x = "endswith" then some .endswith else if x = "extend" then some .extend else if x = "index" then some .index else none
def guardO {α : Type} (b : Bool) (o : Option α) : Option α := if b then o else none
theorem guardO_some {α : Type} {b : Bool} {o : Option α} {a : α} (h : guardO b o = some a) : b = true ∧ o = some a := by
  unfold guardO at h
  cases b with
  | true => exact ⟨rfl, h⟩
  | false => cases h
def ownOf (N : List Str) (sc : Scope) : List (Str × Nat) := sc.names.filterMap fun p => match p.2 with
  | .local => (ixOf p.1 N).map fun i => (p.1, i)
  | .cell => (ixOf p.1 N).map fun i => (p.1, i)
  | _ => none
/-- targets: names, tuples of names -/
def resNames (N : List Str) (loc : List Str) : List Expr → Option (List Nat)
  | [] => some []
  | .Name x _ :: es => guardO (decide (x ∈ loc)) ((ixOf x N).bind fun i => (resNames N loc es).map (i :: ·))
  | _ => none
def resTg (N : List Str) (loc : List Str) : Expr → Option Tg
  | .Name x _ => guardO (decide (x ∈ loc)) ((ixOf x N).map Tg.nm)
  | .Tuple es _ _ => (resNames N loc es).map Tg.tp
  | _ => none
def slotsOf : Tg → List Nat
  | .nm i => [i]
  | .tp l => l
def litTab : List (Option Expr) → List Expr → Bool
  | [some (.Constant (.int 37) _ _)], [.Constant .none _ _] => true
  | _, _ => false
def isiArgs : List Expr → Option (Expr × Str)
  | [a, .Name t _] => some (a, t)
  | _ => none
theorem isiArgs_eq {args : List Expr} {q : Expr × Str} (h : isiArgs args = some q) : ∃ p, args = [q.1, .Name q.2 p] := by
  unfold isiArgs at h
  split at h
  · cases h; exact ⟨_, rfl⟩
  · cases h
def trArgs : List Expr → Option (List (Option Expr) × List Expr)
  | [.Dict ks vs _] => some (ks, vs)
  | _ => none
theorem trArgs_eq {args : List Expr} {q : List (Option Expr) × List Expr} (h : trArgs args = some q) : ∃ p, args = [.Dict q.1 q.2 p] := by
  unfold trArgs at h
  split at h
  · cases h; exact ⟨_, rfl⟩
  · cases h
/-- a dict of the module -/
def dicOf (C : RC) (sc : Scope) : Expr → Option Nat
  | .Name x _ => guardO (okName x && glB sc x) (ixOf x C.tb.dics)
  | _ => none
theorem dicOf_eq {C : RC} {sc : Scope} {e : Expr} {g : Nat} (h : dicOf C sc e = some g) : ∃ x p, e = .Name x p ∧ okName x = true ∧ glB sc x = true ∧ C.tb.dics[g]? = some x := by
  unfold dicOf at h
  split at h
  · obtain ⟨h1, h⟩ := guardO_some h
    simp only [Bool.and_eq_true] at h1
    exact ⟨_, _, rfl, h1.1, h1.2, ixOf_get h⟩
  · cases h
def inOp : CmpOp → Option Bool
  | .In => some false
  | .NotIn => some true
  | _ => none
theorem inOp_eq {op : CmpOp} {b : Bool} (h : inOp op = some b) : op = if b then .NotIn else .In := by
  cases op <;> simp [inOp] at h <;> subst h <;> rfl
def litC : Expr → Option D
  | .Constant (.int i) _ _ => some (.int i)
  | .Constant (.bool b) _ _ => some (.bl b)
  | .Constant .none _ _ => some .non
  | .Constant (.str s) _ _ => some (.str s)
  | _ => none
def litP : List (Option Expr) → List Expr → Option (List (Str × D))
  | [], [] => some []
  | some (.Constant (.str s) _ _) :: ks, v :: vs => (litC v).bind fun d => (litP ks vs).map fun l => (s, d) :: l
  | _, _ => none
/-- the keys of a display: texts -/
def strKeys : List (Option Expr) → Option (List Str)
  | [] => some []
  | some (.Constant (.str s) _ _) :: ks => (strKeys ks).map (s :: ·)
  | _ => none
def isTupE : Expr → Bool
  | .Tuple _ _ _ => true
  | _ => false
mutual
def resE : Nat → RC → Scope → Expr → Option E
  | 0, _, _, _ => none
  | n + 1, C, sc, e => match e with
    | .Constant (.int i) _ _ => some (.cst (.int i))
    | .Constant (.bool b) _ _ => some (.cst (.bl b))
    | .Constant .none _ _ => some (.cst .non)
    | .Constant (.str s) _ _ => some (.cst (.str s))
    | .Name x _ => guardO (okName x) (if visB sc x then (ixOf x C.N).map E.var else guardO (glB sc x) ((ixOf x C.tb.cons).map E.glob))
    | .BinOp a op b _ => (bopOf op).bind fun o => (resE n C sc a).bind fun A => (resE n C sc b).map fun B => .bin o A B
    | .UnaryOp .USub a _ => (resE n C sc a).map .neg
    | .UnaryOp .Invert a _ => (resE n C sc a).map .inv
    | .UnaryOp .Not a _ => (resE n C sc a).map fun A => .notv (.val A)
    | .BoolOp .And vs _ => resAnd n C sc vs
    | .BoolOp .Or vs _ => resOr n C sc vs
    | .Compare a [op] [b] _ => (match dicOf C sc b with
        | some g => (inOp op).bind fun neg => (resE n C sc a).map fun A => .gin neg g A
        | none => guardO (!isSet b) ((resE n C sc a).bind fun A => (resE n C sc b).map fun B => .cmp (copOf op) A B))
    | .Compare a [op, op'] [b, c] _ => guardO (!isSet b && !isSet c) ((resE n C sc a).bind fun A => (resE n C sc b).bind fun B => (resE n C sc c).map fun D => .chn (copOf op) (copOf op') A B D)
    | .IfExp c a b _ => (resT n C sc c).bind fun T => (resE n C sc a).bind fun A => (resE n C sc b).map fun B => .ite T A B
    | .Call (.Name f _) args [] _ => guardO (okName f && glB sc f) (match fnOf f C.tb.fns with
        | some (i, k) => guardO (args.length == k && !args.isEmpty) ((resEs n C sc args).map (.call i))
        | none => if f = "isinstance" then (isiArgs args).bind fun p => guardO (okName p.2 && glB sc p.2 && !star p.1) ((tyOf p.2).bind fun ty => (resE n C sc p.1).map fun A => .isi A ty) else guardO (!args.isEmpty) ((bifOf f).bind fun b => (resEs n C sc args).map (.bif b)))
    | .Call (.Attribute (.Dict ks vs _) m apos) [k, d] [] pos => guardO (decide (m = "get") && apos.endLine == pos.line && !star k && !star d && !ks.isEmpty) ((litP ks vs).bind fun l => guardO (decide (l.length ≤ 15)) ((resE n C sc k).bind fun A => (resE n C sc d).map fun B => .dgt l A B))
    | .Call (.Attribute o m apos) args [] pos => guardO (plainO o && apos.endLine == pos.line) (if m = "bit_length" ∧ args.isEmpty = true then (resE n C sc o).map .bits else if m = "translate" then (trArgs args).bind fun p => guardO (litTab p.1 p.2) ((resE n C sc o).map .tr37) else if m = "get" then (match args with
        | [k] => guardO (!star k) ((resE n C sc o).bind fun A => (resE n C sc k).map fun B => .get1 A B)
        | [k, d] => guardO (!star k && !star d) ((resE n C sc o).bind fun A => (resE n C sc k).bind fun B => (resE n C sc d).map fun D => .get2 A B D)
        | _ => none) else guardO (decide (args.length < 30)) ((metOf m).bind fun t => (resE n C sc o).bind fun A => (resEs n C sc args).map (.met t A)))
    | .Subscript (.Dict ks vs _) k _ => guardO (!isSlc k && !ks.isEmpty) ((litP ks vs).bind fun l => guardO (decide (l.length ≤ 15)) ((resE n C sc k).map (.dgl l)))
    | .Subscript a (.Slice none none (some (.UnaryOp .USub (.Constant (.int 1) _ _) _)) _) _ => (resE n C sc a).map .revs
    | .Subscript a (.Slice lo hi none _) _ => (resE n C sc a).bind fun A => (resO n C sc lo).bind fun L => (resO n C sc hi).map fun U => .slc A L U
    | .Subscript a b _ => guardO (!isSlc b) (match dicOf C sc a with
      | some g => (resE n C sc b).map fun B => .gdict g B
      | none => (resE n C sc a).bind fun A => (resE n C sc b).map fun B => .idx A B)
    | .Tuple es _ _ => (resEs n C sc es).map .tup
    | .FormattedValue a (-1) none _ => (resE n C sc a).map .fmt
    | .JoinedStr [a] _ => resE n C sc a
    | .JoinedStr (a :: b :: r) _ => (resEs n C sc (a :: b :: r)).map .fs
    | .List es _ => (resEs n C sc es).map .lst
    | .Dict [] [] _ => some (.dnew false)
    | .Dict (k :: ks) vs _ => (strKeys (k :: ks)).bind fun l => guardO (decide (l.length ≤ 15) && decide (l.length = vs.length)) ((resEn n C sc vs).map (.disp l))
    | .ListComp elt [⟨tg, iter, ifs, 0⟩] scope _ =>
      let own : List (Str × Nat) := ownOf C.N scope
      guardO (blkC C.N sc scope own && !isSet iter) ((resTg C.N (own.map Prod.fst) tg).bind fun t => guardO ((slotsOf t).all fun i => decide (i ∈ own.map Prod.snd)) ((resI n C sc tg iter).bind fun it =>
        (match ifs with
          | [] => some T.yes
          | [c] => resT n C (relS scope sc) c
          | _ => none).bind fun c => (resE n C (relS scope sc) elt).map fun e => .comp (own.map Prod.snd) t it c e))
    | _ => none
def resAnd : Nat → RC → Scope → List Expr → Option E
  | 0, _, _, _ => none
  | n + 1, C, sc, es => match es with
    | [a] => resE n C sc a
    | a :: b :: r => (resE n C sc a).bind fun A => (resAnd n C sc (b :: r)).map fun B => .and A B
    | [] => none
def resOr : Nat → RC → Scope → List Expr → Option E
  | 0, _, _, _ => none
  | n + 1, C, sc, es => match es with
    | [a] => resE n C sc a
    | a :: b :: r => (resE n C sc a).bind fun A => (resOr n C sc (b :: r)).map fun B => .or A B
    | [] => none
def resEs : Nat → RC → Scope → List Expr → Option Es
  | 0, _, _, _ => none
  | n + 1, C, sc, es => match es with
    | [] => some .nil
    | e :: r => guardO (!star e) ((resE n C sc e).bind fun A => (resEs n C sc r).map (.cons A))
def resEn : Nat → RC → Scope → List Expr → Option Es
  | 0, _, _, _ => none
  | n + 1, C, sc, es => match es with
    | [] => some .nil
    | .List es _ :: r => (resEs n C sc es).bind fun A => (resEn n C sc r).map (.cons (.newL (.lst A)))
    | e :: r => guardO (!star e) ((resE n C sc e).bind fun A => (resEn n C sc r).map (.cons A))
def resO : Nat → RC → Scope → Option Expr → Option O
  | 0, _, _, _ => none
  | n + 1, C, sc, o => match o with
    | none => some .none
    | some e => (resE n C sc e).map .some
def resT : Nat → RC → Scope → Expr → Option T
  | 0, _, _, _ => none
  | n + 1, C, sc, e => match e with
    | .UnaryOp .Not a _ => (resT n C sc a).map .not
    | .BoolOp .And vs _ => resTAnd n C sc vs
    | .BoolOp .Or vs _ => resTOr n C sc vs
    | .Compare a [op] [b] _ => (match dicOf C sc b with
        | some g => (inOp op).bind fun neg => (resE n C sc a).map fun A => .val (.gin neg g A)
        | none => guardO (!isSet b) ((resE n C sc a).bind fun A => (resE n C sc b).map fun B => .val (.cmp (copOf op) A B)))
    | .Compare a [op, op'] [b, c] _ => guardO (!isSet b && !isSet c) ((resE n C sc a).bind fun A => (resE n C sc b).bind fun B => (resE n C sc c).map fun D => .val (.chn (copOf op) (copOf op') A B D))
    | e => guardO (plainT e) ((resE n C sc e).map .val)
def resTAnd : Nat → RC → Scope → List Expr → Option T
  | 0, _, _, _ => none
  | n + 1, C, sc, es => match es with
    | [a] => resT n C sc a
    | a :: b :: r => (resT n C sc a).bind fun A => (resTAnd n C sc (b :: r)).map fun B => .and A B
    | [] => none
def resTOr : Nat → RC → Scope → List Expr → Option T
  | 0, _, _, _ => none
  | n + 1, C, sc, es => match es with
    | [a] => resT n C sc a
    | a :: b :: r => (resT n C sc a).bind fun A => (resTOr n C sc (b :: r)).map fun B => .or A B
    | [] => none
def resI : Nat → RC → Scope → Expr → Expr → Option IT
  | 0, _, _, _, _ => none
  | n + 1, C, sc, tg, e => match e with
    | .Call (.Name f _) args [] _ => if f = "range" then guardO (glB sc f) (match args with
        | [a] => guardO (!star a) ((resE n C sc a).map .rng1)
        | [a, b] => guardO (!star a && !star b) ((resE n C sc a).bind fun A => (resE n C sc b).map fun B => .rng2 A B)
        | [a, b, c] => guardO (!star a && !star b && !star c) ((resE n C sc a).bind fun A => (resE n C sc b).bind fun B => (resE n C sc c).map fun D => .rng3 A B D)
        | _ => none) else if f = "enumerate" then guardO (glB sc f && isTupE tg) (match args with
        | [a] => guardO (!star a) ((resE n C sc a).map .enum)
        | _ => none) else (resE n C sc e).map .seq
    | e => guardO (!isSet e) ((resE n C sc e).map .seq)
end
end PyI
/-! A7: expressions: each form by itself. -/
namespace PyI
open PySem L2

/-! ### the forms -/
section
variable {env : Env} {e a b o : Expr} {es : List Expr}
theorem star_cons (h : star e = false) : starEach (e :: es) env = (false, eval e env) :: starEach es env := by
  cases e <;> first | rfl | (simp [star] at h)
theorem star_nil : starEach [] env = [] := rfl
theorem star_all {pos : Pos} : ∀ {es : List Expr}, es.all (fun e => !star e) = true → (backTo pos (starEach es env)).any (·.1) = false
  | [], _ => rfl
  | e :: es, h => by
    simp only [List.all_cons, Bool.and_eq_true, Bool.not_eq_true'] at h
    rw [star_cons h.1]
    have ih := star_all (pos := pos) h.2
    show (false || (backTo pos (starEach es env)).any (·.1)) = false
    rw [ih]; rfl
theorem star_all' {pos : Pos} : ∀ {es : List Expr}, es.all (fun e => !star e) = true → (backTo pos (starEach es env)).all (fun x => !x.1) = true
  | [], _ => rfl
  | e :: es, h => by
    simp only [List.all_cons, Bool.and_eq_true, Bool.not_eq_true'] at h
    rw [star_cons h.1]
    have ih := star_all' (pos := pos) h.2
    show (true && (backTo pos (starEach es env)).all (fun x => !x.1)) = true
    rw [ih]; rfl
theorem true_plain (h : plainT e = true) (whole : Sem Value) : isTrue e env whole = (do let v ← whole; standAt e.pos; holding [v] (truthy v)) := by
  cases e <;> first | rfl | (simp [plainT] at h; done) | skip
  rename_i op x pos
  cases op <;> first | rfl | (simp [plainT] at h)
theorem slc_plain (h : isSlc b = false) (x y : Value) : subscripted b false x y = operate [x, y] (getItem x y) := by
  cases b <;> first | rfl | skip
  rename_i l u s p
  cases s with
  | none => simp [isSlc] at h
  | some s => rfl
theorem base_plain {m : Str} (h : plainO o = true) : attributeBase o m env (eval o env) = eval o env := by
  unfold attributeBase
  split
  · rename_i id p pos
    have h' : id ≠ ("super" : Str) := by simpa [plainO] using h
    have e : (id != ("super" : Str)) = true := by simpa using h'
    simp only [e, Bool.true_or, if_true]
  · rfl
theorem set_marks {op : CmpOp} (h : isSet b = false) : behindInMarks op b = false := by
  cases b <;> first | rfl | (simp [isSet] at h)
theorem set_last {op op' : CmpOp} {c : Expr} (h : isSet c = false) : lastMarks [op, op'] [b, c] = false := by
  show lastMarks [op'] [c] = false
  exact set_marks h
theorem set_iter (h : isSet e = false) (x : Value) : foldedSetIterable e env x = pure x := by
  cases e <;> first | rfl | (simp [isSet] at h)
end

mutual
theorem beq_eq : ∀ (a b : D), D.beq a b = true → a = b
  | .non, b, h => by cases b <;> first | rfl | (simp [D.beq] at h)
  | .bl a, b, h => by cases b <;> first | (simp [D.beq] at h; done) | (rw [show a = _ from by simpa [D.beq] using h])
  | .int a, b, h => by cases b <;> first | (simp [D.beq] at h; done) | (rw [show a = _ from by simpa [D.beq] using h])
  | .str a, b, h => by cases b <;> first | (simp [D.beq] at h; done) | (rw [show a = _ from by simpa [D.beq] using h])
  | .ref a, b, h => by cases b <;> first | (simp [D.beq] at h; done) | (rw [show a = _ from by simpa [D.beq] using h])
  | .tup a, b, h => by
    cases b with
    | tup b => rw [beqs_eq a b (by simpa only [D.beq] using h)]
    | _ => simp [D.beq] at h
  | .lst a, b, h => by
    cases b with
    | lst b => rw [beqs_eq a b (by simpa only [D.beq] using h)]
    | _ => simp [D.beq] at h
theorem beqs_eq : ∀ (a b : List D), D.beqs a b = true → a = b
  | [], b, h => by cases b <;> first | rfl | (simp [D.beqs] at h)
  | x :: xs, b, h => by
    cases b with
    | nil => simp [D.beqs] at h
    | cons y ys =>
      simp only [D.beqs, Bool.and_eq_true] at h
      rw [beq_eq x y h.1, beqs_eq xs ys h.2]
end
end PyI
/-! A8: expressions, form by form. -/
namespace PyI
open PySem L2

def SndO (X : Cx) (ct : CTab) (Γ : G) (o : Option Expr) (A : O) : Prop := ∃ t : TO, PO X o t ∧ ∀ (W : WX) (ρ : Rho) (μ : Mu) (σ : St) (H : Hp) (M : AM) (Q : Option Int → Hp → Prop), Takes X W → RelE X.K H M σ ρ → RelH X.K ct H μ M →
  Ok X.K ct RO M H (evalO Γ A ρ μ) Q (fun c d H' => W c d σ H') → t σ H Q
def wW (X : Cx) (e : Expr) : TT := fun σ H Q => ∀ whole pins s, Inv X pins σ H s → wpAny (model X.prog X.w) X.A (isTrue e X.env whole) (TP X pins σ Q) X.xe s
theorem pW {X : Cx} {e : Expr} : PW X e (wW X e) := ⟨fun whole pins s _ _ _ I h => h whole pins s I⟩
theorem ww {X : Cx} {e : Expr} {t : TT} {σ : St} {H : Hp} {Q : Bool → Hp → Prop} (p : PW X e t) (h : t σ H Q) : wW X e σ H Q := fun whole pins s I => p.run whole pins s σ H Q I h
def SndW (X : Cx) (ct : CTab) (Γ : G) (e : Expr) (A : T) : Prop := ∀ (W : WX) (ρ : Rho) (μ : Mu) (σ : St) (H : Hp) (M : AM) (Q : Bool → Hp → Prop), Takes X W → RelE X.K H M σ ρ → RelH X.K ct H μ M →
  Ok X.K ct RB M H (evalT Γ A ρ μ) Q (fun c d H' => W c d σ H') → wW X e σ H Q
section
variable {X : Cx} {ct : CTab} {Γ : G} {N : List Str} {sc : Scope} {tb : Tb} {e a b c o : Expr} {es args : List Expr} {A B C' : E} {As : Es} {pos apos : Pos} {j : Nat}
theorem snd_cst {v : V} {d : D} (p : PE X e (tC v)) (r : ∀ H M, Rep X.K H M v d) : Snd X ct Γ e (.cst d) := by
  intro W ρ μ σ H M Q tk E R h
  exact we p (Ok.ret (μ := μ) h R (r _ _))
theorem snd_var {i : Nat} {x : Str} (F : Fr X ct tb Γ N sc) (hi : N[i]? = some x) (hv : visB sc x = true) (hd : okName x = true) : Snd X ct Γ (.Name x pos) (.var i) := by
  intro W ρ μ σ H M Q tk E R h
  have hd' : (x == ("__debug__" : Str)) = false ∧ (x == ("__classdict__" : Str)) = false := by simp [okName] at hd ⊢; exact ⟨hd.1.1, hd.1.2⟩
  have hvis : Vis X.env.scope x := by
    rw [F.hsc]
    unfold visB at hv
    unfold Vis
    split at hv
    · rename_i q; exact .inl q
    · rename_i q; exact .inr (.inl q)
    · rename_i q; exact .inr (.inr q)
    · cases hv
  refine we (pe_var (i := i) (by rw [F.hN]; exact hi) hvis hd'.1 hd'.2) ?_
  unfold evalE at h
  split at h
  · rename_i d hd
    obtain ⟨v, h1, r⟩ := E.at_ i d hd
    exact ⟨v, h1, h.ret R r⟩
  · exact h.elim
theorem gl_of (F : Fr X ct tb Γ N sc) {x : Str} (h : glB sc x = true) : Gl X x := by
  unfold glB at h
  split at h
  · rename_i q
    show X.env.scope.names.lookup x = _
    rw [F.hsc]; exact q
  · cases h
theorem ok1 {x : Str} (h : okName x = true) : (x == ("__debug__" : Str)) = false := by simp [okName] at h ⊢; exact h.1.1
theorem ok3 {x : Str} (h : okName x = true) : x ≠ "__name__" := by simp [okName] at h ⊢; exact h.2
theorem snd_glob {g : Nat} {x : Str} (F : Fr X ct tb Γ N sc) (hi : tb.cons[g]? = some x) (hv : glB sc x = true) (hd : okName x = true) : Snd X ct Γ (.Name x pos) (.glob g) := by
  intro W ρ μ σ H M Q tk E R h
  unfold evalE at h
  split at h
  · rename_i d hc
    obtain ⟨u, v, h1, h2, h3⟩ := F.g.con g x d hi hc
    exact we (pe_glob (gl_of F hv) h1 h2 (ok1 hd)) (h.ret R (h3 _ _))
  · exact h.elim
theorem snd_bin {op : Operator} {o : Bop} (ho : bopOf op = some o) (ha : Snd X ct Γ a A) (hb : Snd X ct Γ b B) : Snd X ct Γ (.BinOp a op b pos) (.bin o A B) := by
  intro W ρ μ σ H M Q tk E R h
  unfold evalE at h
  refine we (pe_op pO pE pE) ?_
  refine ha W ρ μ σ H M _ tk E R (h.step fun d μ1 v H1 M1 e1 R1 r1 h1 => ?_)
  refine hb W ρ μ1 σ H1 M1 _ tk (E.evo e1) R1 (h1.step fun d2 μ2 u H2 M2 e2 R2 r2 h2 => ?_)
  exact bin_ok ho R2 (r1.evo e2) r2 h2
theorem snd_neg (ha : Snd X ct Γ a A) : Snd X ct Γ (.UnaryOp .USub a pos) (.neg A) := by
  intro W ρ μ σ H M Q tk E R h
  unfold evalE at h
  refine we (pe_un un_neg pE) ?_
  refine ha W ρ μ σ H M _ tk E R (h.step fun d μ1 v H1 M1 e1 R1 r1 h1 => ?_)
  split at h1
  · cases r1; exact ⟨_, rfl, h1.ret R1 (.int _)⟩
  · exact h1.elim
theorem snd_inv (ha : Snd X ct Γ a A) : Snd X ct Γ (.UnaryOp .Invert a pos) (.inv A) := by
  intro W ρ μ σ H M Q tk E R h
  unfold evalE at h
  refine we (pe_un un_inv pE) ?_
  refine ha W ρ μ σ H M _ tk E R (h.step fun d μ1 v H1 M1 e1 R1 r1 h1 => ?_)
  split at h1
  · cases r1; exact ⟨_, rfl, h1.ret R1 (.int _)⟩
  · exact h1.elim
theorem snd_bits (ho : plainO a = true) {apos : Pos} (hl : (apos.endLine == pos.line) = true) (ha : Snd X ct Γ a A) : Snd X ct Γ (.Call (.Attribute a "bit_length" apos) [] [] pos) (.bits A) := by
  intro W ρ μ σ H M Q tk E R h
  unfold evalE at h
  refine we (pe_bits pE (base_plain ho) hl) ?_
  refine ha W ρ μ σ H M _ tk E R (h.step fun d μ1 v H1 M1 e1 R1 r1 h1 => ?_)
  split at h1
  · cases r1; exact ⟨_, rfl, h1.ret R1 (.int _)⟩
  · exact h1.elim
theorem snd_notv (ha : Snd X ct Γ a A) : Snd X ct Γ (.UnaryOp .Not a pos) (.notv (.val A)) := by
  intro W ρ μ σ H M Q tk E R h
  simp only [evalE, evalT] at h
  refine we (pe_notT pE) ?_
  refine ha W ρ μ σ H M _ tk E R ?_
  cases hA : evalE Γ A ρ μ with
  | stuck => rw [hA] at h; exact h.elim
  | err c fs μ' => rw [hA] at h; exact h
  | ok d μ' =>
    rw [hA] at h
    intro v H1 M1 e1 R1 r1
    have h1 : Ok X.K ct (RD X.K) M1 H1 ((truD μ' d μ').bind fun b μ => .ok (.bl (!b)) μ) Q _ := Ok.evo e1 h
    obtain ⟨k, t, et, q⟩ := tru_ok (ν := μ') (B := fun k H' => Q (.bl (!k)) H') R1 r1 (h1.step fun k μ2 v2 H2 M2 e2 R2 r2 h2 => by cases r2; exact h2.ret R2 (.bl _))
    exact ⟨k, t, q⟩
theorem snd_and {rest : List Expr} (ha : Snd X ct Γ a A) (hb : Snd X ct Γ (.BoolOp .And (b :: rest) pos) B) : Snd X ct Γ (.BoolOp .And (a :: b :: rest) pos) (.and A B) := by
  intro W ρ μ σ H M Q tk E R h
  unfold evalE at h
  refine we (pe_andT pE pE) ?_
  refine ha W ρ μ σ H M _ tk E R (h.step fun d μ1 v H1 M1 e1 R1 r1 h1 => ?_)
  have h2 : Ok X.K ct RB M1 H1 (truD μ1 d μ1) (fun k H' => if k = true then wE X (.BoolOp .And (b :: rest) pos) σ H' Q else Q v H') (fun c d H' => W c d σ H') := by
    refine h1.step fun k μ2 v2 H2 M2 e2 R2 r2 h2 => ?_
    cases r2
    cases k with
    | true => exact hb W ρ μ2 σ H2 M2 _ tk ((E.evo e1).evo e2) R2 h2
    | false => exact h2.ret R2 (r1.evo e2)
  obtain ⟨k, t, _, q⟩ := tru_ok (ν := μ1) R1 r1 h2
  exact ⟨k, t, q⟩
theorem snd_or {rest : List Expr} (ha : Snd X ct Γ a A) (hb : Snd X ct Γ (.BoolOp .Or (b :: rest) pos) B) : Snd X ct Γ (.BoolOp .Or (a :: b :: rest) pos) (.or A B) := by
  intro W ρ μ σ H M Q tk E R h
  unfold evalE at h
  refine we (pe_orT pE pE) ?_
  refine ha W ρ μ σ H M _ tk E R (h.step fun d μ1 v H1 M1 e1 R1 r1 h1 => ?_)
  have h2 : Ok X.K ct RB M1 H1 (truD μ1 d μ1) (fun k H' => if k = true then Q v H' else wE X (.BoolOp .Or (b :: rest) pos) σ H' Q) (fun c d H' => W c d σ H') := by
    refine h1.step fun k μ2 v2 H2 M2 e2 R2 r2 h2 => ?_
    cases r2
    cases k with
    | true => exact h2.ret R2 (r1.evo e2)
    | false => exact hb W ρ μ2 σ H2 M2 _ tk ((E.evo e1).evo e2) R2 h2
  obtain ⟨k, t, _, q⟩ := tru_ok (ν := μ1) R1 r1 h2
  exact ⟨k, t, q⟩
theorem snd_cmp {op : CmpOp} (F : Fr X ct tb Γ N sc) (hs : isSet b = false) (ha : Snd X ct Γ a A) (hb : Snd X ct Γ b B) : Snd X ct Γ (.Compare a [op] [b] pos) (.cmp (copOf op) A B) := by
  intro W ρ μ σ H M Q tk E R h
  unfold evalE at h
  refine we (pe_cmpR pO pE pE (set_marks hs)) ?_
  refine ha W ρ μ σ H M _ tk E R (h.step fun d μ1 v H1 M1 e1 R1 r1 h1 => ?_)
  refine hb W ρ μ1 σ H1 M1 _ tk (E.evo e1) R1 (h1.step fun d2 μ2 u H2 M2 e2 R2 r2 h2 => ?_)
  exact cmp_ok (B := fun k H' => Q (.bl k) H') F.g.units R2 (r1.evo e2) r2 (h2.step fun k μ3 v3 H3 M3 e3 R3 r3 h3 => by cases r3; exact h3.ret R3 (.bl _)) fun _ _ q => q
theorem chn_tail {op op' : CmpOp} {Qv : VK} (F : Fr X ct tb Γ N sc) {W : WX} {ρ : Rho} {μ : Mu} {σ : St} {H : Hp} {M : AM} (tk : Takes X W) (E : RelE X.K H M σ ρ) (R : RelH X.K ct H μ M) (ha : Snd X ct Γ a A) (hb : Snd X ct Γ b B) (hc : Snd X ct Γ c C')
    (h : Ok X.K ct (RD X.K) M H (evalE Γ (.chn (copOf op) (copOf op') A B C') ρ μ) Qv (fun c d H' => W c d σ H')) : tChain (wO X (compareOp op)) (wO X (compareOp op')) (wE X a) (wE X b) (wE X c) σ H Qv := by
  unfold evalE at h
  refine ha W ρ μ σ H M _ tk E R (h.step fun d μ1 v H1 M1 e1 R1 r1 h1 => ?_)
  refine hb W ρ μ1 σ H1 M1 _ tk (E.evo e1) R1 (h1.step fun d2 μ2 u H2 M2 e2 R2 r2 h2 => ?_)
  refine cmp_ok (B := fun k H' => ∃ k', V.bl k = .bl k' ∧ if k' = true then wE X c σ H' fun z H4 => wO X (compareOp op') u z H4 Qv else Qv (.bl false) H') F.g.units R2 (r1.evo e2) r2 (h2.step fun k μ3 v3 H3 M3 e3 R3 r3 h3 => ?_) fun k H' q => q
  cases r3
  refine ⟨_, rfl, ?_⟩
  cases k with
  | true =>
    refine hc W ρ μ3 σ H3 M3 _ tk (((E.evo e1).evo e2).evo e3) R3 (h3.step fun d4 μ4 z H4 M4 e4 R4 r4 h4 => ?_)
    exact cmp_ok (B := fun k H' => Qv (.bl k) H') F.g.units R4 ((r2.evo e3).evo e4) r4 (h4.step fun k μ5 v5 H5 M5 e5 R5 r5 h5 => by cases r5; exact h5.ret R5 (.bl _)) fun _ _ q => q
  | false => exact h3.ret R3 (.bl _)
theorem snd_chn {op op' : CmpOp} (F : Fr X ct tb Γ N sc) (hs : isSet c = false) (ha : Snd X ct Γ a A) (hb : Snd X ct Γ b B) (hc : Snd X ct Γ c C') : Snd X ct Γ (.Compare a [op, op'] [b, c] pos) (.chn (copOf op) (copOf op') A B C') := by
  intro W ρ μ σ H M Q tk E R h
  exact we (pe_chain pO pO pE pE pE (set_last hs)) (chn_tail F tk E R ha hb hc h)
theorem snd_ite {t : T} (hc : SndT X ct Γ c t) (ha : Snd X ct Γ a A) (hb : Snd X ct Γ b B) : Snd X ct Γ (.IfExp c a b pos) (.ite t A B) := by
  intro W ρ μ σ H M Q tk E R h
  unfold evalE at h
  refine we (pe_ifExp pT pE pE) ?_
  refine hc W ρ μ σ H M _ tk E R (h.step fun k μ1 v H1 M1 e1 R1 r1 h1 => ?_)
  cases r1
  cases k with
  | true => exact ha W ρ μ1 σ H1 M1 _ tk (E.evo e1) R1 h1
  | false => exact hb W ρ μ1 σ H1 M1 _ tk (E.evo e1) R1 h1
theorem snd_call {f : Str} {i k : Nat} (F : Fr X ct tb Γ N sc) (hd : okName f = true) (hg : glB sc f = true) (hf : tb.fns[i]? = some (f, k)) (hs : (e :: es).all (fun e => !star e) = true) (ha : SndA X ct Γ (e :: es) As) : Snd X ct Γ (.Call (.Name f apos) (e :: es) [] pos) (.call i As) := by
  intro W ρ μ σ H M Q tk E R h
  unfold evalE at h
  obtain ⟨k', ad, fd, ps, FO, hr, hm, hk, hb⟩ := F.g.call i f k hf
  simp only [List.all_cons, Bool.and_eq_true, Bool.not_eq_true'] at hs
  refine we (pe_callSD (E := fun σ cls d H => W cls d σ H) FO hr (gl_of F hg) hm hk hb .nil (fun σ => passAt tk σ) pA (ok1 hd) (star_cons hs.1) (star_all hs.2)) ?_
  refine ha W ρ μ σ H M _ tk E R (h.step fun ds μ1 vs H1 M1 e1 R1 r1 h1 => ?_)
  rw [List.append_nil]
  refine ⟨ds, μ1, M1, ?_, R1, r1, h1⟩
  by_cases q : ds.length = k
  · rw [r1.length]; exact q
  · rw [F.g.ar i f k ds μ1 hf q] at h1; exact h1.elim
theorem bif_boot {f : Str} {b : Bif} (h : bifOf f = some b) : f ∈ bins ∧ bootBuiltins f = some (bifV b) := by
  unfold bifOf at h
  by_cases q0 : f = "len"
  · rw [if_pos q0] at h
    cases h
    rw [q0]
    exact ⟨by decide, by decide +kernel⟩
  rw [if_neg q0] at h
  by_cases q1 : f = "int"
  · rw [if_pos q1] at h
    cases h
    rw [q1]
    exact ⟨by decide, by decide +kernel⟩
  rw [if_neg q1] at h
  by_cases q2 : f = "str"
  · rw [if_pos q2] at h
    cases h
    rw [q2]
    exact ⟨by decide, by decide +kernel⟩
  rw [if_neg q2] at h
  by_cases q3 : f = "tuple"
  · rw [if_pos q3] at h
    cases h
    rw [q3]
    exact ⟨by decide, by decide +kernel⟩
  rw [if_neg q3] at h
  by_cases q4 : f = "list"
  · rw [if_pos q4] at h
    cases h
    rw [q4]
    exact ⟨by decide, by decide +kernel⟩
  rw [if_neg q4] at h
  by_cases q5 : f = "abs"
  · rw [if_pos q5] at h
    cases h
    rw [q5]
    exact ⟨by decide, by decide +kernel⟩
  rw [if_neg q5] at h
  by_cases q6 : f = "max"
  · rw [if_pos q6] at h
    cases h
    rw [q6]
    exact ⟨by decide, by decide +kernel⟩
  rw [if_neg q6] at h
  by_cases q7 : f = "min"
  · rw [if_pos q7] at h
    cases h
    rw [q7]
    exact ⟨by decide, by decide +kernel⟩
  rw [if_neg q7] at h
  by_cases q8 : f = "ord"
  · rw [if_pos q8] at h
    cases h
    rw [q8]
    exact ⟨by decide, by decide +kernel⟩
  rw [if_neg q8] at h
  by_cases q9 : f = "sum"
  · rw [if_pos q9] at h
    cases h
    rw [q9]
    exact ⟨by decide, by decide +kernel⟩
  rw [if_neg q9] at h
  by_cases q10 : f = "any"
  · rw [if_pos q10] at h
    cases h
    rw [q10]
    exact ⟨by decide, by decide +kernel⟩
  rw [if_neg q10] at h
  by_cases q11 : f = "all"
  · rw [if_pos q11] at h
    cases h
    rw [q11]
    exact ⟨by decide, by decide +kernel⟩
  rw [if_neg q11] at h
  by_cases q12 : f = "sorted"
  · rw [if_pos q12] at h
    cases h
    rw [q12]
    exact ⟨by decide, by decide +kernel⟩
  rw [if_neg q12] at h
  cases h
theorem snd_bif {f : Str} {b : Bif} (F : Fr X ct tb Γ N sc) (hd : okName f = true) (hg : glB sc f = true) (hf : bifOf f = some b) (hs : (e :: es).all (fun e => !star e) = true) (ha : SndA X ct Γ (e :: es) As) : Snd X ct Γ (.Call (.Name f apos) (e :: es) [] pos) (.bif b As) := by
  intro W ρ μ σ H M Q tk E R h
  unfold evalE at h
  obtain ⟨hb, hv⟩ := bif_boot hf
  simp only [List.all_cons, Bool.and_eq_true, Bool.not_eq_true'] at hs
  have go : wA X (e :: es) σ H fun vs H1 => wC X (bifV b) vs H1 Q :=
    ha W ρ μ σ H M _ tk E R (h.step fun ds μ1 vs H1 M1 e1 R1 r1 h1 => bif_ok F.calm R1 r1 h1)
  cases hbv : bifV b with
  | builtin id => rw [hbv] at hv go; exact we (pe_callB pC (gl_of F hg) (F.g.bi f hb) hv pA (ok3 hd) (ok1 hd) (star_cons hs.1) (star_all hs.2)) go
  | type T => rw [hbv] at hv go; exact we (pe_callTy pC (gl_of F hg) (F.g.bi f hb) hv pA (ok3 hd) (ok1 hd) (star_cons hs.1) (star_all hs.2)) go
  | _ => cases b <;> cases hbv
theorem ty_boot {f : Str} {t : Ty} (h : tyOf f = some t) : f ∈ bins ∧ bootBuiltins f = some (.type (tyN t)) := by
  unfold tyOf at h
  repeat' (split at h; · rename_i q; subst q; cases h; exact ⟨by decide, by decide +kernel⟩)
  cases h
theorem snd_isi {f : Str} {t : Ty} {p2 : Pos} (F : Fr X ct tb Γ N sc) (hg : glB sc "isinstance" = true) (hd : okName f = true) (hgt : glB sc f = true) (hf : tyOf f = some t) (hs : star a = false) (ha : Snd X ct Γ a A) : Snd X ct Γ (.Call (.Name "isinstance" apos) [a, .Name f p2] [] pos) (.isi A t) := by
  intro W ρ μ σ H M Q tk E R h
  unfold evalE at h
  obtain ⟨hb, hv⟩ := ty_boot hf
  have pt : PE X (.Name f p2) (tC (.ty (tyN t))) := pe_bltn (gl_of F hgt) (F.g.bi f hb) hv rfl (ok3 hd) (ok1 hd)
  refine we (pe_callB (id := "isinstance") pC (gl_of F hg) (F.g.bi _ (by decide)) (by decide +kernel) (pa_cons pE (pa_cons pt pa_nil) (star_cons hs)) (by decide) (by decide) (star_cons hs) rfl) ?_
  refine ha W ρ μ σ H M _ tk E R (h.step fun d μ1 v H1 M1 e1 R1 r1 h1 => ?_)
  exact isi_ok R1 r1 h1
theorem met_boot {f : Str} {m : Met} (h : metOf f = some m) : PlainAttrs (metT m) ∧ Slot (metT m) f (metI m) ∧ typeOf (.builtin (metI m)) = pure (.type "method_descriptor") := by
  unfold metOf at h
  by_cases q0 : f = "append"
  · rw [if_pos q0] at h
    cases h
    rw [q0]
    exact ⟨F.plainAttrs_list, F.slot_list_append, F.type_list_append⟩
  rw [if_neg q0] at h
  by_cases q1 : f = "join"
  · rw [if_pos q1] at h
    cases h
    rw [q1]
    exact ⟨F.plainAttrs_str, F.slot_str_join, F.type_str_join⟩
  rw [if_neg q1] at h
  by_cases q2 : f = "find"
  · rw [if_pos q2] at h
    cases h
    rw [q2]
    exact ⟨F.plainAttrs_str, F.slot_str_find, F.type_str_find⟩
  rw [if_neg q2] at h
  by_cases q3 : f = "isascii"
  · rw [if_pos q3] at h
    cases h
    rw [q3]
    exact ⟨F.plainAttrs_str, F.slot_str_isascii, F.type_str_isascii⟩
  rw [if_neg q3] at h
  by_cases q4 : f = "isprintable"
  · rw [if_pos q4] at h
    cases h
    rw [q4]
    exact ⟨F.plainAttrs_str, F.slot_str_isprintable, F.type_str_isprintable⟩
  rw [if_neg q4] at h
  by_cases q5 : f = "split"
  · rw [if_pos q5] at h
    cases h
    rw [q5]
    exact ⟨F.plainAttrs_str, F.slot_str_split, F.type_str_split⟩
  rw [if_neg q5] at h
  by_cases q6 : f = "isdigit"
  · rw [if_pos q6] at h
    cases h
    rw [q6]
    exact ⟨F.plainAttrs_str, F.slot_str_isdigit, F.type_str_isdigit⟩
  rw [if_neg q6] at h
  by_cases q7 : f = "isalpha"
  · rw [if_pos q7] at h
    cases h
    rw [q7]
    exact ⟨F.plainAttrs_str, F.slot_str_isalpha, F.type_str_isalpha⟩
  rw [if_neg q7] at h
  by_cases q8 : f = "islower"
  · rw [if_pos q8] at h
    cases h
    rw [q8]
    exact ⟨F.plainAttrs_str, F.slot_str_islower, F.type_str_islower⟩
  rw [if_neg q8] at h
  by_cases q9 : f = "startswith"
  · rw [if_pos q9] at h
    cases h
    rw [q9]
    exact ⟨F.plainAttrs_str, F.slot_str_startswith, F.type_str_startswith⟩
  rw [if_neg q9] at h
  by_cases q10 : f = "endswith"
  · rw [if_pos q10] at h
    cases h
    rw [q10]
    exact ⟨F.plainAttrs_str, F.slot_str_endswith, F.type_str_endswith⟩
  rw [if_neg q10] at h
  by_cases q11 : f = "extend"
  · rw [if_pos q11] at h
    cases h
    rw [q11]
    exact ⟨F.plainAttrs_list, F.slot_list_extend, F.type_list_extend⟩
  rw [if_neg q11] at h
  by_cases q12 : f = "index"
  · rw [if_pos q12] at h
    cases h
    rw [q12]
    exact ⟨F.plainAttrs_list, F.slot_list_index, F.type_list_index⟩
  rw [if_neg q12] at h
  cases h
theorem snd_met {f : Str} {m : Met} (ho : plainO o = true) (hl : (apos.endLine == pos.line) = true) (hn : args.length < 30) (hf : metOf f = some m) (hs : args.all (fun e => !star e) = true) (hnil : args = [] → As = .nil) (hO : Snd X ct Γ o A) (ha : SndA X ct Γ args As) : Snd X ct Γ (.Call (.Attribute o f apos) args [] pos) (.met m A As) := by
  intro W ρ μ σ H M Q tk E R h
  unfold evalE at h
  obtain ⟨b1, b2, b3⟩ := met_boot hf
  cases args with
  | nil =>
    refine we (pe_bm0 b1 b2 b3 pM pE (base_plain ho) hl) ?_
    refine hO W ρ μ σ H M _ tk E R (h.step fun d μ1 v H1 M1 e1 R1 r1 h1 => ?_)
    obtain ⟨ht, h1⟩ := h1.needs
    refine ⟨met_ty R1 r1 ht, ?_⟩
    rw [hnil rfl] at h1
    exact met_ok R1 r1 .nil (h1 : Ok X.K ct (RD X.K) M1 H1 (metD m d [] μ1) Q _)
  | cons e es =>
    simp only [List.all_cons, Bool.and_eq_true, Bool.not_eq_true'] at hs
    refine we (pe_bm b1 b2 b3 pM pE pA (base_plain ho) ?_ hl (star_cons hs.1) (star_all hs.2)) ?_
    · rw [star_all' (by simp only [List.all_cons, Bool.and_eq_true, Bool.not_eq_true']; exact hs)]
      simp only [Bool.true_and]
      show (([] : List (Option Str × Sem Value)).all _ && decide _) = true
      simp only [List.all_nil, Bool.true_and, decide_eq_true_eq]
      simpa using hn
    refine hO W ρ μ σ H M _ tk E R (h.step fun d μ1 v H1 M1 e1 R1 r1 h1 => ?_)
    obtain ⟨ht, h1⟩ := h1.needs
    refine ⟨met_ty R1 r1 ht, ?_⟩
    refine ha W ρ μ1 σ H1 M1 _ tk (E.evo e1) R1 (h1.step fun ds μ2 vs H2 M2 e2 R2 r2 h2 => ?_)
    exact met_ok R2 (r1.evo e2) r2 h2
theorem snd_tr37 {ks : List (Option Expr)} {vs : List Expr} {dpos : Pos} (F : Fr X ct tb Γ N sc) (ho : plainO o = true) (hl : (apos.endLine == pos.line) = true) (ht : litTab ks vs = true) (hO : Snd X ct Γ o A) : Snd X ct Γ (.Call (.Attribute o "translate" apos) [.Dict ks vs dpos] [] pos) (.tr37 A) := by
  intro W ρ μ σ H M Q tk E R h
  unfold evalE at h
  unfold litTab at ht
  split at ht
  · refine we (pe_bm PySem.F.plainAttrs_str PySem.F.slot_str_translate PySem.F.type_str_translate (mt_tr37 F.calm) pE (pa_cons (pe_disp (pps_cons pe_int pe_non pps_nil) rfl rfl (fun z => by cases z) (by show 1 ≤ 15; decide)) pa_nil) (base_plain ho) rfl hl rfl rfl) ?_
    refine hO W ρ μ σ H M _ tk E R (h.step fun d μ1 v H1 M1 e1 R1 r1 h1 => ?_)
    unfold tr37D at h1
    split at h1
    · cases r1
      obtain ⟨⟨hz, hf⟩, h1⟩ := h1.needs
      refine ⟨rfl, fun p hp => ?_⟩
      refine ⟨upd_same, [(.inl 37, .non)], rfl, by decide, ?_⟩
      have e2 : Evo M1 H1 M1 (upd (upd H1 p (.dK [])) p (.dK (mergeK [] [(.inl 37, .non)]))) := by rw [upd_upd]; exact Evo.new hp
      refine ⟨_, p, rfl, rfl, upd_same, hz, hf, ?_⟩
      exact h1 _ _ M1 e2 (by rw [upd_upd]; exact R1.new hp) (.str _)
    · exact h1.elim
  · cases ht
theorem snd_idx (F : Fr X ct tb Γ N sc) (hs : isSlc b = false) (ha : Snd X ct Γ a A) (hb : Snd X ct Γ b B) : Snd X ct Γ (.Subscript a b pos) (.idx A B) := by
  intro W ρ μ σ H M Q tk E R h
  unfold evalE at h
  cases hA : evalE Γ A ρ μ with
  | stuck => rw [hA] at h; exact h.elim
  | err c fs μ' =>
    refine we (pe_ix ix_seq pE pE (slc_plain hs)) (ha W ρ μ σ H M _ tk E R ?_)
    rw [hA] at h ⊢; exact h
  | ok d μ1 =>
    rw [hA] at h
    have h : Ok X.K ct (RD X.K) M H ((evalE Γ B ρ μ1).bind fun y μ => idxA d y μ) Q (fun c d H' => W c d σ H') := h
    cases hB : evalE Γ B ρ μ1 with
    | stuck => rw [hB] at h; exact h.elim
    | err c fs μ' =>
      refine we (pe_ix ix_seq pE pE (slc_plain hs)) (ha W ρ μ σ H M _ tk E R ?_)
      rw [hA]
      intro v H1 M1 e1 R1 r1
      refine hb W ρ μ1 σ H1 M1 _ tk (E.evo e1) R1 ?_
      rw [hB] at h ⊢
      exact Ok.evo e1 h
    | ok d2 μ2 =>
      rw [hB] at h
      have h : Ok X.K ct (RD X.K) M H (idxA d d2 μ2) Q (fun c d H' => W c d σ H') := h
      cases hg : getDic μ2 d d2 with
      | none =>
        refine we (pe_ix ix_seq pE pE (slc_plain hs)) (ha W ρ μ σ H M _ tk E R ?_)
        rw [hA]
        intro v H1 M1 e1 R1 r1
        refine hb W ρ μ1 σ H1 M1 _ tk (E.evo e1) R1 ?_
        rw [hB]
        intro u H2 M2 e2 R2 r2
        have h2 := Ok.evo (e1.trans e2) h
        unfold idxA at h2
        rw [hg] at h2
        exact idx_ok R2 (r1.evo e2) r2 h2
      | some r =>
        refine we (pe_dget (by have := F.g.units; omega) pE pE (slc_plain hs)) (ha W ρ μ σ H M _ tk E R ?_)
        rw [hA]
        intro v H1 M1 e1 R1 r1
        refine hb W ρ μ1 σ H1 M1 _ tk (E.evo e1) R1 ?_
        rw [hB]
        intro u H2 M2 e2 R2 r2
        have h2 := Ok.evo (e1.trans e2) h
        unfold idxA at h2
        rw [hg] at h2
        obtain ⟨ad, ov, rfl, g, ro⟩ := getDic_ok R2 (r1.evo e2) r2 hg
        cases r with
        | none => exact (h2 : False).elim
        | some dd =>
          obtain ⟨vv, rfl, rv⟩ := ro
          exact ⟨ad, vv, rfl, g, Ok.ret (μ := μ2) h2 R2 rv⟩
theorem m1_of {o k : Expr} {m : Str} (ho : plainO o = true) (hl : (apos.endLine == pos.line) = true) (h1 : star k = false) : M1 X o m apos k pos := by
  have hst : starEach [k] X.env = [(false, eval k X.env)] := by rw [star_cons h1]; rfl
  exact ⟨base_plain ho, by rw [hst]; rfl, hl, by rw [hst]; rfl⟩
theorem m2_of {o k d : Expr} {m : Str} (ho : plainO o = true) (hl : (apos.endLine == pos.line) = true) (h1 : star k = false) (h2 : star d = false) : M2 X o m apos k d pos := by
  have hst : starEach [k, d] X.env = [(false, eval k X.env), (false, eval d X.env)] := by rw [star_cons h1, star_cons h2]; rfl
  exact ⟨base_plain ho, by rw [hst]; rfl, hl, by rw [hst]; rfl⟩
theorem snd_get1 {k : Expr} (F : Fr X ct tb Γ N sc) (ho : plainO o = true) (hl : (apos.endLine == pos.line) = true) (h1 : star k = false) (ha : Snd X ct Γ o A) (hb : Snd X ct Γ k B) : Snd X ct Γ (.Call (.Attribute o "get" apos) [k] [] pos) (.get1 A B) := by
  intro W ρ μ σ H M Q tk E R h
  unfold evalE at h
  refine we (pe_dget1 (by have := F.g.units; omega) pE pE (m1_of ho hl h1)) ?_
  refine ha W ρ μ σ H M _ tk E R (h.step fun d μ1 v H1 M1 e1 R1 r1 h1 => ?_)
  obtain ⟨hd, h1⟩ := h1.needs
  obtain ⟨ad, rfl, isd⟩ := isDic_ok R1 r1 hd
  refine ⟨ad, rfl, isd, ?_⟩
  refine hb W ρ μ1 σ H1 M1 _ tk (E.evo e1) R1 (h1.step fun d2 μ2 u H2 M2 e2 R2 r2 h2 => ?_)
  split at h2
  · rename_i r hg
    obtain ⟨ad', ov, e, g, ro⟩ := getDic_ok R2 (r1.evo e2) r2 hg
    cases e
    refine ⟨ov, g, ?_⟩
    cases r with
    | none => rw [show ov = none from ro]; exact h2.ret R2 .non
    | some dd => obtain ⟨vv, rfl, rv⟩ := ro; exact h2.ret R2 rv
  · exact h2.elim
theorem snd_get2 {k d : Expr} (F : Fr X ct tb Γ N sc) (ho : plainO o = true) (hl : (apos.endLine == pos.line) = true) (h1 : star k = false) (h2 : star d = false) (ha : Snd X ct Γ o A) (hb : Snd X ct Γ k B) (hc : Snd X ct Γ d C') : Snd X ct Γ (.Call (.Attribute o "get" apos) [k, d] [] pos) (.get2 A B C') := by
  intro W ρ μ σ H M Q tk E R h
  unfold evalE at h
  refine we (Nw.pe_dget2S (by have := F.g.units; omega) pE pE pE (m2_of ho hl h1 h2)) ?_
  refine ha W ρ μ σ H M _ tk E R (h.step fun d μ1 v H1 M1 e1 R1 r1 h1 => ?_)
  obtain ⟨hd, h1⟩ := h1.needs
  obtain ⟨ad, rfl, isd⟩ := isDic_ok R1 r1 hd
  refine ⟨ad, rfl, isd, ?_⟩
  refine hb W ρ μ1 σ H1 M1 _ tk (E.evo e1) R1 (h1.step fun d2 μ2 u H2 M2 e2 R2 r2 h2 => ?_)
  refine hc W ρ μ2 σ H2 M2 _ tk ((E.evo e1).evo e2) R2 (h2.step fun d3 μ3 z H3 M3 e3 R3 r3 h3 => ?_)
  split at h3
  · rename_i r hg
    obtain ⟨ad', ov, e, g, ro⟩ := getDicS_ok R3 ((r1.evo e2).evo e3) (r2.evo e3) hg
    cases e
    refine ⟨ov, g, ?_⟩
    cases r with
    | none => rw [show ov = none from ro]; exact h3.ret R3 r3
    | some dd => obtain ⟨vv, rfl, rv⟩ := ro; exact h3.ret R3 rv
  · exact h3.elim
/-- a new object of ours -/
theorem Ok.own {K : PySem.W.Frag} {μ : Mu} {H : Hp} {M : AM} {Q : VK} {W' : XK} {mo : MO} {u : HO} (h : Ok K ct (RD K) M H (.ok (.ref μ.length) (μ ++ [mo])) Q W') (R : RelH K ct H μ M) {p : Addr} (hp : H p = none) (hm : MRep K ct (upd H p u) (M.add p) p mo) : Q (.ref p) (upd H p u) := by
  have hR := (R.hide (o := u) hp).takeIn (R.fresh hp).2 hm
  refine h (.ref p) _ (M.add p) (Evo.own hp) hR (.ref ?_)
  show (M.ix ++ [p])[μ.length]? = some p
  rw [← R.len, List.getElem?_append_right (Nat.le_refl _), Nat.sub_self]; rfl
theorem snd_dnewK : Snd X ct Γ (.Dict [] [] pos) (.dnew false) := by
  intro W ρ μ σ H M Q tk E R h
  unfold evalE at h
  exact we pe_dnewK fun p hp => Ok.own (μ := μ) h R hp ⟨[], upd_same, .nil⟩
theorem snd_dnewT : Snd X ct Γ (.Dict [] [] pos) (.dnew true) := by
  intro W ρ μ σ H M Q tk E R h
  unfold evalE at h
  exact we pe_dnewT fun p hp => Ok.own (μ := μ) h R hp ⟨[], upd_same, .nil⟩
theorem snd_revs {k : Nat} {p1 p2 p3 : Pos} (ha : Snd X ct Γ a A) : Snd X ct Γ (.Subscript a (.Slice none none (some (.UnaryOp .USub (.Constant (.int 1) k p1) p2)) p3) pos) (.revs A) := by
  intro W ρ μ σ H M Q tk E R h
  unfold evalE at h
  refine we (Nw.pe_revA pE) ?_
  refine ha W ρ μ σ H M _ tk E R (h.step fun d μ1 v H1 M1 e1 R1 r1 h1 => ?_)
  exact rev_ok R1 r1 h1
theorem kd_in {g : Nat} {z : Str} {d : Addr} {es : Array DictEntry} {n : Nat} {neg : Bool} {l : List (Str × D)} {Q : VK} {H : Hp} (D1 : KDict X.K X.w d es n) (D2 : ∀ z, match l.lookup z with
    | none => PySem.W.nsIn X.K d z = some none
    | some dd => ∃ u v, PySem.W.nsIn X.K d z = some (some u) ∧ RelV v u ∧ ∀ H M, Rep X.K H M v dd) (q : Q (.bl (if neg then !(l.lookup z).isSome else (l.lookup z).isSome)) H) : wO X (compareOp (if neg then .NotIn else .In)) (.str z) (.ref d) H Q := by
  have h := D2 z
  cases hz : l.lookup z with
  | none =>
    rw [hz] at h q
    cases neg with
    | false => exact wo (op_in_kd D1) ⟨z, _, rfl, rfl, h, q⟩
    | true => exact wo (op_notIn_kd D1) ⟨z, _, rfl, rfl, h, q⟩
  | some dd =>
    rw [hz] at h q
    obtain ⟨u, v, h1, _, _⟩ := h
    cases neg with
    | false => exact wo (op_in_kd D1) ⟨z, _, rfl, rfl, h1, q⟩
    | true => exact wo (op_notIn_kd D1) ⟨z, _, rfl, rfl, h1, q⟩
theorem snd_gin {g : Nat} {neg : Bool} {x : Str} {p2 : Pos} (F : Fr X ct tb Γ N sc) (hd : okName x = true) (hg : glB sc x = true) (hi : tb.dics[g]? = some x) (ha : Snd X ct Γ a A) : Snd X ct Γ (.Compare a [if neg then .NotIn else .In] [.Name x p2] pos) (.gin neg g A) := by
  intro W ρ μ σ H M Q tk E R h
  unfold evalE at h
  obtain ⟨d, hm, es, n, D1, D2⟩ := F.g.dic g x hi
  refine we (pe_cmpR pO pE (pe_glob (v := .ref d) (gl_of F hg) hm rfl (ok1 hd)) (set_marks rfl)) ?_
  refine ha W ρ μ σ H M _ tk E R (h.step fun dd μ1 v H1 M1 e1 R1 r1 h1 => ?_)
  split at h1
  · cases r1
    exact kd_in (g := g) D1 D2 (h1.ret R1 (.bl _))
  · exact h1.elim
theorem sndT_gin {g : Nat} {neg : Bool} {x : Str} {p2 : Pos} (F : Fr X ct tb Γ N sc) (hd : okName x = true) (hg : glB sc x = true) (hi : tb.dics[g]? = some x) (ha : Snd X ct Γ a A) : SndT X ct Γ (.Compare a [if neg then .NotIn else .In] [.Name x p2] pos) (.val (.gin neg g A)) := by
  intro W ρ μ σ H M Q tk E R h
  simp only [evalT, evalE] at h
  obtain ⟨d, hm, es, n, D1, D2⟩ := F.g.dic g x hi
  refine wt (pt_cmpR pO pE (pe_glob (v := .ref d) (gl_of F hg) hm rfl (ok1 hd)) (set_marks rfl)) ?_
  have assoc : ∀ {α β γ : Type} (r : Res α) (f : α → Mu → Res β) (g : β → Mu → Res γ), (r.bind f).bind g = r.bind fun x μ => (f x μ).bind g := fun r f g => by cases r <;> rfl
  rw [assoc] at h
  refine ha W ρ μ σ H M _ tk E R (h.step fun dd μ1 v H1 M1 e1 R1 r1 h1 => ?_)
  cases r1 with
  | str z => exact kd_in (g := g) D1 D2 ⟨_, rfl, Ok.ret (μ := μ1) h1 R1 rfl⟩
  | _ => exact (h1 : False).elim
theorem snd_gdict {g : Nat} {x : Str} {p2 : Pos} (F : Fr X ct tb Γ N sc) (hs : isSlc a = false) (hd : okName x = true) (hg : glB sc x = true) (hi : tb.dics[g]? = some x) (ha : Snd X ct Γ a A) : Snd X ct Γ (.Subscript (.Name x p2) a pos) (.gdict g A) := by
  intro W ρ μ σ H M Q tk E R h
  unfold evalE at h
  obtain ⟨d, hm, es, n, D1, D2⟩ := F.g.dic g x hi
  refine we (pe_ix ix_kdict (pe_glob (v := .ref d) (gl_of F hg) hm rfl (ok1 hd)) pE (slc_plain hs)) ?_
  refine ha W ρ μ σ H M _ tk E R (h.step fun dd μ1 v H1 M1 e1 R1 r1 h1 => ?_)
  split at h1
  · next z =>
    cases r1
    split at h1
    · next d2 hz =>
      have q := D2 z
      rw [hz] at q
      obtain ⟨u, v, q1, q2, q3⟩ := q
      exact ⟨d, z, v, rfl, rfl, ⟨es, n, u, D1.at_, D1.lit, q1, q2⟩, h1.ret R1 (q3 _ _)⟩
    · exact h1.elim
  · exact h1.elim
theorem sndO_none : SndO X ct Γ none .none := ⟨_, po_none, fun W ρ μ σ H M Q tk E R h => Ok.ret (μ := μ) h R rfl⟩
theorem sndO_some (ha : Snd X ct Γ a A) : SndO X ct Γ (some a) (.some A) := ⟨_, po_some pE, fun W ρ μ σ H M Q tk E R h => by
  unfold evalO at h
  refine ha W ρ μ σ H M _ tk E R (h.step fun d μ1 v H1 M1 e1 R1 r1 h1 => ?_)
  split at h1
  · cases r1; exact ⟨_, rfl, h1.ret R1 rfl⟩
  · exact h1.elim⟩
theorem snd_slc {lo hi : Option Expr} {L U : O} {p2 : Pos} (ha : Snd X ct Γ a A) (hl : SndO X ct Γ lo L) (hh : SndO X ct Γ hi U) : Snd X ct Γ (.Subscript a (.Slice lo hi none p2) pos) (.slc A L U) := by
  intro W ρ μ σ H M Q tk E R h
  unfold evalE at h
  obtain ⟨tl, pl, sl⟩ := hl
  obtain ⟨th, ph, sh⟩ := hh
  refine we (pe_slice sl_any pE pl ph) ?_
  refine ha W ρ μ σ H M _ tk E R (h.step fun d μ1 v H1 M1 e1 R1 r1 h1 => ?_)
  refine sl W ρ μ1 σ H1 M1 _ tk (E.evo e1) R1 (h1.step fun l μ2 u H2 M2 e2 R2 r2 h2 => ?_)
  cases r2
  refine sh W ρ μ2 σ H2 M2 _ tk ((E.evo e1).evo e2) R2 (h2.step fun l μ3 u H3 M3 e3 R3 r3 h3 => ?_)
  cases r3
  exact slc_ok R3 ((r1.evo e2).evo e3) h3
theorem snd_tup {k : Nat} (ha : SndA X ct Γ es As) : Snd X ct Γ (.Tuple es k pos) (.tup As) := by
  intro W ρ μ σ H M Q tk E R h
  unfold evalE at h
  refine we (pe_tup pA) ?_
  refine ha W ρ μ σ H M _ tk E R (h.step fun ds μ1 vs H1 M1 e1 R1 r1 h1 => ?_)
  obtain ⟨hz, h1⟩ := h1.needs
  exact ⟨sl16 (by rw [r1.length]; exact hz), fun p hp => h1.newT R1 r1 hp⟩
theorem snd_lst (ha : SndA X ct Γ es As) : Snd X ct Γ (.List es pos) (.lst As) := by
  intro W ρ μ σ H M Q tk E R h
  unfold evalE at h
  refine we (pe_lst pA) ?_
  refine ha W ρ μ σ H M _ tk E R (h.step fun ds μ1 vs H1 M1 e1 R1 r1 h1 => ?_)
  obtain ⟨hz, h1⟩ := h1.needs
  exact ⟨sl16 (by rw [r1.length]; exact hz), fun p hp => h1.newL R1 r1 hp⟩
/-- each of the expressions -/
inductive SndL (X : Cx) (ct : CTab) (Γ : G) : List Expr → Es → Prop
  | nil : SndL X ct Γ [] .nil
  | cons {e : Expr} {A : E} {es : List Expr} {As : Es} : Snd X ct Γ e A → SndL X ct Γ es As → SndL X ct Γ (e :: es) (.cons A As)
theorem snd_fmt (ha : Snd X ct Γ a A) : Snd X ct Γ (.FormattedValue a (-1) none pos) (.fmt A) := by
  intro W ρ μ σ H M Q tk E R h
  unfold evalE at h
  refine we (pe_fmt pE) ?_
  refine ha W ρ μ σ H M _ tk E R (h.step fun d μ1 v H1 M1 e1 R1 r1 h1 => ?_)
  split at h1
  · cases r1
    exact .inl ⟨_, rfl, sl16 h1.needs.1, h1.needs.2.ret R1 (.str _)⟩
  · cases r1
    exact .inr ⟨_, rfl, h1.needs.1, h1.needs.2.ret R1 (.str _)⟩
  · exact h1.elim
theorem pj_all {X : Cx} : ∀ es : List Expr, PJ X es (es.map (wE X))
  | [] => .nil
  | _ :: es => .cons pE (pj_all es)
theorem tjs_ok {W : WX} {ρ : Rho} (tk : Takes X W) {Q : VK} {es : List Expr} {As : Es} (hs : SndL X ct Γ es As) : ∀ {acc : Str} {μ : Mu} {σ : St} {H : Hp} {M : AM}, RelE X.K H M σ ρ → RelH X.K ct H μ M →
    Ok X.K ct (RD X.K) M H (evalJ Γ As acc ρ μ) Q (fun c d H' => W c d σ H') → tJs (es.map (wE X)) acc σ H (fun out H1 => Q (.str out) H1) := by
  induction hs with
  | nil =>
    intro acc μ σ H M E R h
    exact Ok.ret (μ := μ) h R (.str _)
  | cons ha hr ih =>
    intro acc μ σ H M E R h
    unfold evalJ at h
    refine ha W ρ μ σ H M _ tk E R (h.step fun d μ1 v H1 M1 e1 R1 r1 h1 => ?_)
    split at h1
    · cases r1
      exact ⟨_, rfl, sl16 h1.needs.1, ih (E.evo e1) R1 h1.needs.2⟩
    · exact h1.elim
theorem snd_fs {rest : List Expr} (hs : SndL X ct Γ (a :: b :: rest) As) : Snd X ct Γ (.JoinedStr (a :: b :: rest) pos) (.fs As) := by
  intro W ρ μ σ H M Q tk E R h
  unfold evalE at h
  exact we (pe_joined (pj_all _)) (tjs_ok tk hs E R h)
theorem snd_fs1 (ha : Snd X ct Γ a A) : Snd X ct Γ (.JoinedStr [a] pos) A := by
  intro W ρ μ σ H M Q tk E R h
  exact we (pe_joined1 pE) (ha W ρ μ σ H M _ tk E R h)
theorem sndA_nil : SndA X ct Γ [] .nil := by
  intro W ρ μ σ H M Q tk E R h
  exact wa pa_nil (Ok.ret (μ := μ) h R .nil)
theorem sndA_cons (hs : star e = false) (ha : Snd X ct Γ e A) (hr : SndA X ct Γ es As) : SndA X ct Γ (e :: es) (.cons A As) := by
  intro W ρ μ σ H M Q tk E R h
  unfold evalEs at h
  refine wa (pa_cons pE pA (star_cons hs)) ?_
  refine ha W ρ μ σ H M _ tk E R (h.step fun d μ1 v H1 M1 e1 R1 r1 h1 => ?_)
  refine hr W ρ μ1 σ H1 M1 _ tk (E.evo e1) R1 (h1.step fun ds μ2 vs H2 M2 e2 R2 r2 h2 => ?_)
  exact h2.ret R2 (.cons (r1.evo e2) r2)
/-! tests -/
theorem sndT_val (hp : plainT e = true) (ha : Snd X ct Γ e A) : SndT X ct Γ e (.val A) := by
  intro W ρ μ σ H M Q tk E R h
  unfold evalT at h
  refine wt (pt_truth pE (true_plain hp)) ?_
  refine ha W ρ μ σ H M _ tk E R (h.step fun d μ1 v H1 M1 e1 R1 r1 h1 => ?_)
  obtain ⟨k, t, _, q⟩ := tru_ok (ν := μ1) R1 r1 h1
  exact ⟨k, t, q⟩
theorem bl_of {d : D} {μ1 : Mu} {v : V} {H1 : Hp} {M1 : AM} {k : Bool} {W' : XK} {Q : Bool → Hp → Prop} (R1 : RelH X.K ct H1 μ1 M1) (h1 : Ok X.K ct RB M1 H1 (truD μ1 (.bl k) μ1) Q W') : Q k H1 := h1.ret R1 rfl
theorem sndT_cmp {op : CmpOp} (F : Fr X ct tb Γ N sc) (hs : isSet b = false) (ha : Snd X ct Γ a A) (hb : Snd X ct Γ b B) : SndT X ct Γ (.Compare a [op] [b] pos) (.val (.cmp (copOf op) A B)) := by
  intro W ρ μ σ H M Q tk E R h
  simp only [evalT, evalE] at h
  refine wt (pt_cmpR pO pE pE (set_marks hs)) ?_
  have assoc : ∀ {α β γ : Type} (r : Res α) (f : α → Mu → Res β) (g : β → Mu → Res γ), (r.bind f).bind g = r.bind fun x μ => (f x μ).bind g := fun r f g => by cases r <;> rfl
  simp only [assoc] at h
  refine ha W ρ μ σ H M _ tk E R (h.step fun d μ1 v H1 M1 e1 R1 r1 h1 => ?_)
  refine hb W ρ μ1 σ H1 M1 _ tk (E.evo e1) R1 (h1.step fun d2 μ2 u H2 M2 e2 R2 r2 h2 => ?_)
  exact cmp_ok (B := fun k H' => ∃ k', V.bl k = .bl k' ∧ Q k' H') F.g.units R2 (r1.evo e2) r2 (h2.step fun k μ3 v3 H3 M3 e3 R3 r3 h3 => by cases r3; exact ⟨_, rfl, Ok.ret (μ := μ3) h3 R3 rfl⟩) fun _ _ q => q
theorem sndT_chn {op op' : CmpOp} (F : Fr X ct tb Γ N sc) (hs : isSet c = false) (ha : Snd X ct Γ a A) (hb : Snd X ct Γ b B) (hc : Snd X ct Γ c C') : SndT X ct Γ (.Compare a [op, op'] [b, c] pos) (.val (.chn (copOf op) (copOf op') A B C')) := by
  intro W ρ μ σ H M Q tk E R h
  unfold evalT at h
  refine wt (pt_chain pO pO pE pE pE (set_last hs)) ?_
  refine chn_tail F (Qv := fun x H' => ∃ k, x = .bl k ∧ Q k H') tk E R ha hb hc ?_
  -- the value is a bool
  have bl : ∀ d μ', evalE Γ (.chn (copOf op) (copOf op') A B C') ρ μ = .ok d μ' → ∃ k, d = .bl k := by
    intro d μ' q
    simp only [evalE] at q
    cases h1 : evalE Γ A ρ μ <;> rw [h1] at q <;> simp only [Res.bind, reduceCtorEq] at q
    rename_i x μ1
    cases h2 : evalE Γ B ρ μ1 <;> rw [h2] at q <;> simp only [reduceCtorEq] at q
    rename_i y μ2
    cases h3 : cmpD (copOf op) x y μ2 <;> rw [h3] at q <;> simp only [reduceCtorEq] at q
    rename_i k μ3
    cases k with
    | false => simp only [Bool.false_eq_true, if_false, Res.ok.injEq] at q; exact ⟨_, q.1.symm⟩
    | true =>
      simp only [if_true] at q
      cases h4 : evalE Γ C' ρ μ3 <;> rw [h4] at q <;> simp only [reduceCtorEq] at q
      rename_i z μ4
      cases h5 : cmpD (copOf op') y z μ4 <;> rw [h5] at q <;> simp only [reduceCtorEq, Res.ok.injEq] at q
      exact ⟨_, q.1.symm⟩
  cases hA : evalE Γ (.chn (copOf op) (copOf op') A B C') ρ μ with
  | stuck => rw [hA] at h; exact h.elim
  | err c fs μ' => rw [hA] at h; exact h
  | ok d μ' =>
    obtain ⟨k, rfl⟩ := bl d μ' hA
    rw [hA] at h
    intro v H' M' e' R' r'
    cases r'
    exact ⟨k, rfl, Ok.ret (μ := μ') (Ok.evo e' h) R' rfl⟩
theorem sndT_not {t : T} (ha : SndT X ct Γ a t) : SndT X ct Γ (.UnaryOp .Not a pos) (.not t) := by
  intro W ρ μ σ H M Q tk E R h
  unfold evalT at h
  refine wt (pt_not pT) ?_
  refine ha W ρ μ σ H M _ tk E R (h.step fun k μ1 v H1 M1 e1 R1 r1 h1 => ?_)
  cases r1
  exact h1.ret R1 rfl
theorem sndT_w {t : T} (ha : SndW X ct Γ e t) : SndT X ct Γ e t := by
  intro W ρ μ σ H M Q tk E R h
  exact wt (pW.pt) (ha W ρ μ σ H M Q tk E R h)
theorem sndW_and1 {t : T} (ha : SndT X ct Γ a t) : SndW X ct Γ (.BoolOp .And [a] pos) t := by
  intro W ρ μ σ H M Q tk E R h
  exact ww (pw_and1 pT) (ha W ρ μ σ H M Q tk E R h)
theorem sndW_or1 {t : T} (ha : SndT X ct Γ a t) : SndW X ct Γ (.BoolOp .Or [a] pos) t := by
  intro W ρ μ σ H M Q tk E R h
  exact ww (pw_or1 pT) (ha W ρ μ σ H M Q tk E R h)
theorem sndW_and {t u : T} {rest : List Expr} (ha : SndT X ct Γ a t) (hb : SndW X ct Γ (.BoolOp .And (b :: rest) pos) u) : SndW X ct Γ (.BoolOp .And (a :: b :: rest) pos) (.and t u) := by
  intro W ρ μ σ H M Q tk E R h
  unfold evalT at h
  refine ww (pw_and pT pW) ?_
  refine ha W ρ μ σ H M _ tk E R (h.step fun k μ1 v H1 M1 e1 R1 r1 h1 => ?_)
  cases r1
  cases k with
  | true => exact hb W ρ μ1 σ H1 M1 _ tk (E.evo e1) R1 h1
  | false => exact h1.ret R1 rfl
theorem sndW_or {t u : T} {rest : List Expr} (ha : SndT X ct Γ a t) (hb : SndW X ct Γ (.BoolOp .Or (b :: rest) pos) u) : SndW X ct Γ (.BoolOp .Or (a :: b :: rest) pos) (.or t u) := by
  intro W ρ μ σ H M Q tk E R h
  unfold evalT at h
  refine ww (pw_or pT pW) ?_
  refine ha W ρ μ σ H M _ tk E R (h.step fun k μ1 v H1 M1 e1 R1 r1 h1 => ?_)
  cases r1
  cases k with
  | true => exact h1.ret R1 rfl
  | false => exact hb W ρ μ1 σ H1 M1 _ tk (E.evo e1) R1 h1
end
end PyI
/-! AD: written dicts that are asked at once. -/
namespace PyI
open PySem L2
def vOf : D → V
  | .int i => .int i
  | .bl b => .bl b
  | .str s => .str s
  | _ => .non
section
variable {X : Cx} {ct : CTab} {Γ : G} {N : List Str} {sc : Scope} {tb : Tb} {k f : Expr} {A B : E} {pos p2 apos : Pos} {ks : List (Option Expr)} {vs : List Expr} {l : List (Str × D)}
abbrev LitD (d : D) : Prop := ∀ (K : PySem.W.Frag) (H : Hp) (M : AM), Rep K H M (vOf d) d
theorem litC_ok {e : Expr} {d : D} (h : litC e = some d) : PE X e (tC (vOf d)) ∧ LitD d := by
  unfold litC at h
  split at h
  · cases h; exact ⟨pe_int, fun _ _ _ => .int _⟩
  · cases h; exact ⟨pe_bl, fun _ _ _ => .bl _⟩
  · cases h; exact ⟨pe_non, fun _ _ _ => .non⟩
  · cases h; exact ⟨pe_str, fun _ _ _ => .str _⟩
  · cases h
abbrev prT (l : List (Str × D)) : List (TE × TE) := l.map fun p => (tC (.str p.1), tC (vOf p.2))
abbrev kvT (l : List (Str × D)) : List (Key × V) := l.map fun p => (.inr p.1, vOf p.2)
theorem litP_ok : ∀ {ks : List (Option Expr)} {vs : List Expr} {l : List (Str × D)}, litP ks vs = some l → PPs X pos ks vs (prT l) ∧ ks.all (·.isSome) = true ∧ ks.length = vs.length ∧ ks.length = l.length ∧ ∀ p ∈ l, LitD p.2
  | [], [], l, h => by cases h; exact ⟨pps_nil, rfl, rfl, rfl, fun p h => nomatch h⟩
  | some (.Constant (.str s) _ _) :: ks, v :: vs, l, h => by
    obtain ⟨d, hd, h2⟩ := Option.bind_eq_some_iff.mp (show ((litC v).bind fun d => (litP ks vs).map fun l => (s, d) :: l) = some l from h)
    obtain ⟨l', hl, rfl⟩ := Option.map_eq_some_iff.mp h2
    obtain ⟨q1, q2, q3, q4, q5⟩ := litP_ok hl
    obtain ⟨c1, c2⟩ := litC_ok (X := X) hd
    refine ⟨pps_cons pe_str c1 q1, by rw [List.all_cons, q2]; rfl, by rw [List.length_cons, List.length_cons, q3], by rw [List.length_cons, List.length_cons, q4], fun p hp => ?_⟩
    rcases List.mem_cons.mp hp with rfl | hp
    · exact c2
    · exact q5 p hp
theorem tpairs_ok {σ : St} {H : Hp} : ∀ {l : List (Str × D)} {Q : List (V × V) → Hp → Prop}, Q ((kvT l).map fun kv => (kV kv.1, kv.2)) H → tPairs (prT l) σ H Q
  | [], Q, q => q
  | (s, d) :: l, Q, q => tpairs_ok (l := l) (Q := fun ps H3 => Q ((.str s, vOf d) :: ps) H3) q
theorem merge_ok (s : Str) : ∀ (l : List (Str × D)) {acc : List (Key × V)} {r : Option D}, valV acc (.inr s) = r.map vOf → valV (mergeK acc (kvT l)) (.inr s) = (lkL l s r).map vOf
  | [], acc, r, h => h
  | (k, d) :: l, acc, r, h => by
    show valV (mergeK (putK acc (.inr k) (vOf d)) (kvT l)) (.inr s) = (lkL l s (if s = k then some d else r)).map vOf
    refine merge_ok s l ?_
    rw [valV_put]
    by_cases e : s = k
    · subst e; simp
    · rw [if_neg e, if_neg (fun z => e (Sum.inr.inj z)), h]
theorem lkL_lit (s : Str) : ∀ {l : List (Str × D)} {r : Option D}, (∀ p ∈ l, LitD p.2) → (∀ d, r = some d → LitD d) → ∀ d, lkL l s r = some d → LitD d
  | [], r, _, h, d, e => h d e
  | (k, d') :: l, r, hl, h, d, e => by
    refine lkL_lit s (l := l) (fun p hp => hl p (List.mem_cons_of_mem _ hp)) (fun d0 h0 => ?_) d e
    by_cases z : s = k
    · rw [if_pos z] at h0; cases h0; exact hl _ (List.mem_cons_self ..)
    · rw [if_neg z] at h0; exact h d0 h0
theorem disp_ok {σ : St} {H : Hp} {Q : VK} {l : List (Str × D)} (h15 : l.length ≤ 15) (q : ∀ p, H p = none → Q (.ref p) (upd H p (.dK (mergeK [] (kvT l))))) : tDisp (prT l) σ H Q := by
  intro p hp
  refine tpairs_ok ⟨upd_same, kvT l, rfl, by rw [List.length_map]; exact h15, ?_⟩
  have e : upd (upd H p (.dK [])) p (.dK (mergeK [] (kvT l))) = upd H p (.dK (mergeK [] (kvT l))) := by
    funext b
    by_cases hb : b = p
    · rw [hb, upd_same, upd_same]
    · rw [upd_ne hb, upd_ne hb, upd_ne hb]
  rw [e]
  exact q p hp
theorem snd_dgl (F : Fr X ct tb Γ N sc) (hs : isSlc k = false) (hl : litP ks vs = some l) (h0 : ks ≠ []) (h15 : l.length ≤ 15) (hk : Snd X ct Γ k A) : Snd X ct Γ (.Subscript (.Dict ks vs p2) k pos) (.dgl l A) := by
  intro W ρ μ σ H M Q tk E R h
  unfold evalE at h
  obtain ⟨q1, q2, q3, q4, q5⟩ := litP_ok (X := X) (pos := p2) hl
  refine we (pe_dget (by have := F.g.units; omega) (pe_disp q1 q2 q3 h0 (by rw [q4]; exact h15)) pE (slc_plain hs)) (disp_ok h15 fun p hp => ?_)
  have ev : Evo M H M (upd H p (.dK (mergeK [] (kvT l)))) := Evo.new hp
  refine hk W ρ μ σ _ M _ tk (E.evo ev) (R.new hp) ((Ok.evo ev h).step fun d μ1 v H1 M1 e1 R1 r1 h1 => ?_)
  have hd := (e1.keep p _ upd_same (R.fresh hp).1).1
  split at h1
  · rename_i s
    cases r1
    split at h1
    · rename_i d hd2
      exact ⟨p, vOf d, rfl, .inl ⟨_, .inr s, .inl hd, rfl, by rw [merge_ok s l (acc := []) (r := none) rfl, hd2]; rfl⟩, h1.ret R1 (lkL_lit s q5 (fun _ z => by cases z) d hd2 _ _ _)⟩
    · exact h1.elim
  · exact h1.elim
theorem snd_dgt {d : Expr} (hl1 : (apos.endLine == pos.line) = true) (hs1 : star k = false) (hs2 : star d = false) (F : Fr X ct tb Γ N sc) (hl : litP ks vs = some l) (h0 : ks ≠ []) (h15 : l.length ≤ 15) (hk : Snd X ct Γ k A) (hd : Snd X ct Γ d B) :
    Snd X ct Γ (.Call (.Attribute (.Dict ks vs p2) "get" apos) [k, d] [] pos) (.dgt l A B) := by
  intro W ρ μ σ H M Q tk E R h
  unfold evalE at h
  obtain ⟨q1, q2, q3, q4, q5⟩ := litP_ok (X := X) (pos := p2) hl
  have hst : starEach [k, d] X.env = [(false, eval k X.env), (false, eval d X.env)] := by rw [star_cons hs1, star_cons hs2]; rfl
  have m2 : M2 X (.Dict ks vs p2) "get" apos k d pos := ⟨base_plain rfl, by rw [hst]; rfl, hl1, by rw [hst]; rfl⟩
  refine we (pe_dget2 (by have := F.g.units; omega) (pe_disp q1 q2 q3 h0 (by rw [q4]; exact h15)) pE pE m2) (disp_ok h15 fun p hp => ?_)
  have ev : Evo M H M (upd H p (.dK (mergeK [] (kvT l)))) := Evo.new hp
  refine ⟨p, rfl, .inl ⟨_, .inl upd_same⟩, ?_⟩
  refine hk W ρ μ σ _ M _ tk (E.evo ev) (R.new hp) ((Ok.evo ev h).step fun x μ1 v H1 M1 e1 R1 r1 h1 => ?_)
  refine hd W ρ μ1 σ _ M1 _ tk ((E.evo ev).evo e1) R1 (h1.step fun z μ2 u H2 M2 e2 R2 r2 h2 => ?_)
  have e12 := e1.trans e2
  have hdk := (e12.keep p _ upd_same (R.fresh hp).1).1
  split at h2
  · rename_i s
    cases r1
    refine ⟨(lkL l s none).map vOf, .inl ⟨_, .inr s, .inl hdk, rfl, (merge_ok s l (acc := []) (r := none) rfl).symm⟩, ?_⟩
    cases hlk : lkL l s none with
    | none => rw [hlk] at h2; exact h2.ret R2 r2
    | some d0 => rw [hlk] at h2; exact h2.ret R2 (lkL_lit s q5 (fun _ z => by cases z) d0 hlk _ _ _)
  · exact h2.elim
end
end PyI
/-! A9: what is walked; comprehensions. -/
namespace PyI
open PySem L2

/-- the iterator J walks the items -/
structure ItOk (K : PySem.W.Frag) (ct : CTab) (M : AM) (H : Hp) (J : L2.It) (its : Its) : Prop where
  go : ∀ (M' : AM) (H' : Hp) (μ' : Mu) (i : Nat) (d : D), Stay M H M' H' → RelH K ct H' μ' M' → chkOf its.2 μ' = true → its.1[i]? = some d → J.go i H' ∧ ∀ x H'', J.yld i H' x H'' → Evo M' H' M' H'' ∧ RelH K ct H'' μ' M' ∧ Rep K H'' M' x d
  stop : ∀ (M' : AM) (H' : Hp) (μ' : Mu), Stay M H M' H' → RelH K ct H' μ' M' → chkOf its.2 μ' = true → J.stop its.1.length H'
abbrev RJ (K : PySem.W.Frag) (ct : CTab) : Hp → AM → L2.It → Its → Prop := fun H M J its => ItOk K ct M H J its
def SndI (X : Cx) (ct : CTab) (Γ : G) (tg e : Expr) (A : IT) : Prop := ∀ (W : WX) (ρ : Rho) (μ : Mu) (σ : St) (H : Hp) (M : AM) (Q : L2.It → Hp → Prop), Takes X W → RelE X.K H M σ ρ → RelH X.K ct H μ M →
  Ok X.K ct (RJ X.K ct) M H (evalIt Γ A ρ μ) Q (fun c d H' => W c d σ H') → wI X tg e σ H Q
section
variable {K : PySem.W.Frag} {ct : CTab} {H : Hp} {M : AM} {a : Addr} {xs : List V} {ds : List D} {μ : Mu}
theorem rd_lst_eq {K : PySem.W.Frag} {H : Hp} {xs ys : List V} (h : Rd H a (.lst xs)) (h' : Rd H a (.lst ys)) : xs = ys := by
  rcases h with h | ⟨o, h⟩ <;> rcases h' with h' | ⟨o', h'⟩ <;> rw [h] at h' <;> cases h' <;> rfl
theorem itok_t (h : TA' K H M a xs) (r : Reps K H M xs ds) : ItOk K ct M H (Itt K a) (ds, none) where
  go := fun M' H' μ' i d e R _ hi => by
    obtain ⟨x, hx, rx⟩ := (r.stay e).get hi
    have sq := (h.stay e).sq
    refine ⟨⟨xs, x, sq, hx⟩, fun y H'' q => ?_⟩
    obtain ⟨rfl, q2⟩ := q
    have := q2 xs sq
    rw [hx] at this; cases this
    exact ⟨Evo.refl _ _, R, rx⟩
  stop := fun M' H' μ' e R _ => ⟨xs, (h.stay e).sq, by rw [r.length]; exact Nat.le_refl _⟩
theorem itok_kt (h : TK K a xs) (r : Reps K H M xs ds) : ItOk K ct M H (Itt K a) (ds, none) where
  go := fun M' H' μ' i d e R _ hi => by
    obtain ⟨x, hx, rx⟩ := (r.stay e).get hi
    have sq : SqT K H' a xs := h.sq
    refine ⟨⟨xs, x, sq, hx⟩, fun y H'' q => ?_⟩
    obtain ⟨rfl, q2⟩ := q
    have := q2 xs sq
    rw [hx] at this; cases this
    exact ⟨Evo.refl _ _, R, rx⟩
  stop := fun M' H' μ' e R _ => ⟨xs, h.sq, by rw [r.length]; exact Nat.le_refl _⟩
theorem enum_get {l : List D} {i : Nat} {d : D} (h : (enumL l)[i]? = some d) : ∃ e, l[i]? = some e ∧ d = .tup [.int (i : Nat), e] := by
  unfold enumL at h
  rw [List.getElem?_map, List.getElem?_zipIdx] at h
  obtain ⟨p, hp, rfl⟩ := Option.map_eq_some_iff.mp h
  obtain ⟨e, he, rfl⟩ := Option.map_eq_some_iff.mp hp
  exact ⟨e, he, by simp⟩
theorem enum_len {l : List D} : (enumL l).length = l.length := by unfold enumL; simp
theorem itok_en (h : LA' K H M a xs) (r : Reps K H M xs ds) : ItOk K ct M H (Ite K a) (enumL ds, none) where
  go := fun M' H' μ' i d e R _ hi => by
    obtain ⟨d', hd, rfl⟩ := enum_get hi
    obtain ⟨x, hx, rx⟩ := (r.stay e).get hd
    have sq := (h.stay e).sq
    refine ⟨⟨xs, x, sq, hx⟩, fun y H'' q => ?_⟩
    obtain ⟨T, x', rfl, hT, rfl, q2⟩ := q
    have := q2 xs sq
    rw [hx] at this; cases this
    have ev : Evo M' H' M' (upd H' T (.tup [.int (i : Nat), x])) := Evo.new hT
    exact ⟨ev, R.new hT, .tup ⟨upd_same, R.fresh hT⟩ (.cons (.int _) (.cons (rx.evo ev) .nil))⟩
  stop := fun M' H' μ' e R _ => ⟨xs, (h.stay e).sq, by rw [enum_len, r.length]; exact Nat.le_refl _⟩
theorem itok_ent (h : TA' K H M a xs) (r : Reps K H M xs ds) : ItOk K ct M H (Nw.IteT K a) (enumL ds, none) where
  go := fun M' H' μ' i d e R _ hi => by
    obtain ⟨d', hd, rfl⟩ := enum_get hi
    obtain ⟨x, hx, rx⟩ := (r.stay e).get hd
    have sq := (h.stay e).sq
    refine ⟨⟨xs, x, sq, hx⟩, fun y H'' q => ?_⟩
    obtain ⟨T, x', rfl, hT, rfl, q2⟩ := q
    have := q2 xs sq
    rw [hx] at this; cases this
    have ev : Evo M' H' M' (upd H' T (.tup [.int (i : Nat), x])) := Evo.new hT
    exact ⟨ev, R.new hT, .tup ⟨upd_same, R.fresh hT⟩ (.cons (.int _) (.cons (rx.evo ev) .nil))⟩
  stop := fun M' H' μ' e R _ => ⟨xs, (h.stay e).sq, by rw [enum_len, r.length]⟩
theorem itok_c (lo : Int) (n : Nat) : ItOk K ct M H (Itc lo (-1) n) (rngDown lo n, none) where
  go := fun M' H' μ' i d e R _ hi => by
    simp only [rngDown, List.getElem?_map, Option.map_eq_some_iff] at hi
    obtain ⟨k, hk, rfl⟩ := hi
    have hin : i < n := by
      rcases Nat.lt_or_ge i n with z | z
      · exact z
      · rw [List.getElem?_eq_none (by simpa using z)] at hk; cases hk
    rw [List.getElem?_range hin] at hk; cases hk
    exact ⟨hin, fun y H'' q => by obtain ⟨rfl, rfl⟩ := q; exact ⟨Evo.refl _ _, R, .int _⟩⟩
  stop := fun M' H' μ' e R _ => by
    show n ≤ (rngDown lo n).length
    simp [rngDown]
theorem itok_l (h : LA' K H M a xs) (r : Reps K H M xs ds) : ItOk K ct M H (Itl K a) (ds, none) where
  go := fun M' H' μ' i d e R _ hi => by
    obtain ⟨x, hx, rx⟩ := (r.stay e).get hi
    have sq := (h.stay e).sq
    refine ⟨⟨xs, x, sq, hx⟩, fun y H'' q => ?_⟩
    obtain ⟨rfl, q2⟩ := q
    have := q2 xs sq
    rw [hx] at this; cases this
    exact ⟨Evo.refl _ _, R, rx⟩
  stop := fun M' H' μ' e R _ => ⟨xs, (h.stay e).sq, by rw [r.length]; exact Nat.le_refl _⟩
theorem itok_r {n : Nat} (ha : M.ix[n]? = some a) : ItOk K ct M H (Itl K a) (ds, some (n, ds)) where
  go := fun M' H' μ' i d e R hc hi => by
    simp only [chkOf] at hc
    split at hc
    · rename_i l' hl
      rw [beqs_eq _ _ hc] at hl
      obtain ⟨ys, h1, r1⟩ := R.lst hl (e.pre _ _ ha)
      obtain ⟨x, hx, rx⟩ := r1.get hi
      have sq : SqL K H' a ys := .inl (.inl h1)
      refine ⟨⟨ys, x, sq, hx⟩, fun y H'' q => ?_⟩
      obtain ⟨rfl, q2⟩ := q
      have := q2 ys sq
      rw [hx] at this; cases this
      exact ⟨Evo.refl _ _, R, rx⟩
    · cases hc
  stop := fun M' H' μ' e R hc => by
    simp only [chkOf] at hc
    split at hc
    · rename_i l' hl
      rw [beqs_eq _ _ hc] at hl
      obtain ⟨ys, h1, r1⟩ := R.lst hl (e.pre _ _ ha)
      exact ⟨ys, .inl (.inl h1), by rw [r1.length]; exact Nat.le_refl _⟩
    · cases hc
theorem itok_s (x : Str) : ItOk K ct M H (L2.Its x) (x.cps.toList.map fun c => D.str ⟨#[c]⟩, none) where
  go := fun M' H' μ' i d e R _ hi => by
    simp only [List.getElem?_map, Option.map_eq_some_iff] at hi
    obtain ⟨c, hc, rfl⟩ := hi
    have hc' : x.cps[i]? = some c := by rw [← Array.getElem?_toList]; exact hc
    refine ⟨?_, fun y H'' q => ?_⟩
    · show i < x.cps.size
      rcases Nat.lt_or_ge i x.cps.size with z | z
      · exact z
      · rw [Array.getElem?_eq_none z] at hc'; cases hc'
    · obtain ⟨q1, c', hc2, rfl⟩ := q
      rw [hc'] at hc2; cases hc2
      subst q1
      exact ⟨Evo.refl _ _, R, .str _⟩
  stop := fun M' H' μ' e R _ => by
    show x.cps.size ≤ (x.cps.toList.map fun c => D.str ⟨#[c]⟩).length
    simp
theorem itok_n (lo : Int) (n : Nat) : ItOk K ct M H (Itr lo n) (rngD lo n, none) where
  go := fun M' H' μ' i d e R _ hi => by
    simp only [rngD, List.getElem?_map, Option.map_eq_some_iff] at hi
    obtain ⟨k, hk, rfl⟩ := hi
    have hin : i < n := by
      rcases Nat.lt_or_ge i n with z | z
      · exact z
      · rw [List.getElem?_eq_none (by simpa using z)] at hk; cases hk
    rw [List.getElem?_range hin] at hk; cases hk
    exact ⟨hin, fun y H'' q => by obtain ⟨rfl, rfl⟩ := q; exact ⟨Evo.refl _ _, R, .int _⟩⟩
  stop := fun M' H' μ' e R _ => by
    show n ≤ (rngD lo n).length
    simp [rngD]
end
section
variable {X : Cx} {ct : CTab} {Γ : G} {N : List Str} {sc : Scope} {tb : Tb} {e a b tg : Expr} {A B : E} {pos apos : Pos}
theorem sndI_seq (ha : Snd X ct Γ e A) : SndI X ct Γ tg e (.seq A) := by
  intro W ρ μ σ H M Q tk E R h
  unfold evalIt at h
  cases hA : evalE Γ A ρ μ with
  | stuck => rw [hA] at h; exact h.elim
  | err c fs μ' =>
    refine wi (pi_list pE) (ha W ρ μ σ H M _ tk E R ?_)
    rw [hA] at h ⊢; exact h
  | ok d μ' =>
    have go : ∀ {Q' : VK}, (∀ v H' M', Evo M H M' H' → RelH X.K ct H' μ' M' → Rep X.K H' M' v d → Q' v H') → wE X e σ H Q' := fun k => ha W ρ μ σ H M _ tk E R (by rw [hA]; exact k)
    rw [hA] at h
    have h' : ∀ {H' M'}, Evo M H M' H' → Ok X.K ct (RJ X.K ct) M' H' (itD d μ') Q (fun c d H' => W c d σ H') := fun e' => Ok.evo e' h
    clear h
    cases d with
    | tup l =>
      refine wi (pi_tup pE) (go fun v H' M' e' R' r' => ?_)
      cases r' with
      | tup h1 r1 => exact ⟨_, rfl, ⟨_, h1.sq⟩, Ok.ret (μ := μ') (h' e') R' (itok_t h1 r1)⟩
    | kt l =>
      refine wi (pi_tup pE) (go fun v H' M' e' R' r' => ?_)
      cases r' with
      | kt h1 r1 => exact ⟨_, rfl, ⟨_, h1.sq⟩, Ok.ret (μ := μ') (h' e') R' (itok_kt h1 r1)⟩
    | lst l =>
      refine wi (pi_list pE) (go fun v H' M' e' R' r' => ?_)
      cases r' with
      | lst h1 r1 => exact ⟨_, rfl, ⟨_, h1.sq⟩, Ok.ret (μ := μ') (h' e') R' (itok_l h1 r1)⟩
    | ref n =>
      refine wi (pi_list pE) (go fun v H' M' e' R' r' => ?_)
      have h2 := h' e'
      unfold itD at h2
      simp only at h2
      split at h2
      · rename_i l hl
        cases r' with
        | ref hr =>
          obtain ⟨xs, h1, r1⟩ := R'.lst hl hr
          exact ⟨_, rfl, ⟨xs, .inl (.inl h1)⟩, Ok.ret (μ := μ') h2 R' (itok_r hr)⟩
      · exact h2.elim
    | str s =>
      refine wi (pi_str pE) (go fun v H' M' e' R' r' => ?_)
      cases r'
      exact ⟨_, rfl, Ok.ret (μ := μ') (h' e') R' (itok_s s)⟩
    | kl _ => exact (h' (Evo.refl _ _)).elim
    | non => exact (h' (Evo.refl _ _)).elim
    | bl _ => exact (h' (Evo.refl _ _)).elim
    | int _ => exact (h' (Evo.refl _ _)).elim
theorem sndI_rng1 (F : Fr X ct tb Γ N sc) (hg : glB sc "range" = true) (hs : star a = false) (ha : Snd X ct Γ a A) : SndI X ct Γ tg (.Call (.Name "range" apos) [a] [] pos) (.rng1 A) := by
  intro W ρ μ σ H M Q tk E R h
  unfold evalIt at h
  refine wi (pi_range1 (gl_of F hg) (F.g.bi _ (by decide)) (pa_cons pE pa_nil (star_cons hs)) (star_cons hs)) ?_
  refine ha W ρ μ σ H M _ tk E R (h.step fun d μ1 v H1 M1 e1 R1 r1 h1 => ?_)
  split at h1
  · rename_i j
    cases r1
    obtain ⟨hz, h1⟩ := h1.needs
    exact ⟨j, rfl, hz.1, hz.2, h1.ret R1 (itok_n 0 _)⟩
  · exact h1.elim
theorem sndI_rng2 (F : Fr X ct tb Γ N sc) (hg : glB sc "range" = true) (hs : star a = false) (hs2 : star b = false) (ha : Snd X ct Γ a A) (hb : Snd X ct Γ b B) : SndI X ct Γ tg (.Call (.Name "range" apos) [a, b] [] pos) (.rng2 A B) := by
  intro W ρ μ σ H M Q tk E R h
  unfold evalIt at h
  refine wi (pi_range2 (gl_of F hg) (F.g.bi _ (by decide)) (pa_cons pE (pa_cons pE pa_nil (star_cons hs2)) (star_cons hs)) (by rw [star_cons hs, star_cons hs2, star_nil]) (by rw [star_cons hs2, star_nil])) ?_
  refine ha W ρ μ σ H M _ tk E R (h.step fun d μ1 v H1 M1 e1 R1 r1 h1 => ?_)
  refine hb W ρ μ1 σ H1 M1 _ tk (E.evo e1) R1 (h1.step fun d2 μ2 u H2 M2 e2 R2 r2 h2 => ?_)
  split at h2
  · rename_i i j
    cases r1; cases r2
    obtain ⟨hz, h2⟩ := h2.needs
    exact ⟨i, j, rfl, ⟨hz.1.1, hz.1.2, hz.2.1, hz.2.2⟩, h2.ret R2 (itok_n i _)⟩
  · exact h2.elim
theorem sndI_rng3 {c : Expr} {C' : E} (F : Fr X ct tb Γ N sc) (hg : glB sc "range" = true) (hs : star a = false) (hs2 : star b = false) (hs3 : star c = false) (ha : Snd X ct Γ a A) (hb : Snd X ct Γ b B) (hc : Snd X ct Γ c C') : SndI X ct Γ tg (.Call (.Name "range" apos) [a, b, c] [] pos) (.rng3 A B C') := by
  intro W ρ μ σ H M Q tk E R h
  unfold evalIt at h
  refine wi (pi_range3 (gl_of F hg) (F.g.bi _ (by decide)) (pa_cons pE (pa_cons pE (pa_cons pE pa_nil (star_cons hs3)) (star_cons hs2)) (star_cons hs)) (star_cons hs) (by rw [star_cons hs2, star_cons hs3, star_nil]; rfl)) ?_
  refine ha W ρ μ σ H M _ tk E R (h.step fun d μ1 v H1 M1 e1 R1 r1 h1 => ?_)
  refine hb W ρ μ1 σ H1 M1 _ tk (E.evo e1) R1 (h1.step fun d2 μ2 u H2 M2 e2 R2 r2 h2 => ?_)
  refine hc W ρ μ2 σ H2 M2 _ tk ((E.evo e1).evo e2) R2 (h2.step fun d3 μ3 w H3 M3 e3 R3 r3 h3 => ?_)
  split at h3
  · rename_i i j k
    cases r1; cases r2; cases r3
    obtain ⟨⟨hk, hz1, hz2⟩, h4⟩ := h3.needs
    subst hk
    exact ⟨i, j, -1, (i - j).toNat, rfl, RgC.neg hz1.1 hz1.2 hz2.1 hz2.2, h4.ret R3 (itok_c i _)⟩
  · exact h3.elim
theorem sndI_enum (F : Fr X ct tb Γ N sc) (hg : glB sc "enumerate" = true) (ht : isTupE tg = true) (hs : star a = false) (ha : Snd X ct Γ a A) : SndI X ct Γ tg (.Call (.Name "enumerate" apos) [a] [] pos) (.enum A) := by
  intro W ρ μ σ H M Q tk E R h
  unfold evalIt at h
  cases tg with
  | Tuple elts kk tpos =>
    refine wi (Nw.pi_enumA (gl_of F hg) (F.g.bi _ (by decide)) (pa_cons pE pa_nil (star_cons hs)) (star_cons hs)) ?_
    refine ha W ρ μ σ H M _ tk E R (h.step fun d μ1 v H1 M1 e1 R1 r1 h1 => ?_)
    unfold enumD at h1
    split at h1
    · cases r1 with
      | tup h2 r2 => exact ⟨_, _, rfl, .inr ⟨h2.sq, h1.ret R1 (itok_ent h2 r2)⟩⟩
    · cases r1 with
      | lst h2 r2 => exact ⟨_, _, rfl, .inl ⟨h2.sq, h1.ret R1 (itok_en h2 r2)⟩⟩
    · exact h1.elim
  | _ => simp [isTupE] at ht

/-! ### targets -/
def gNames : List Nat → TGs
  | [] => gNil
  | i :: is => gCons (gName i) (gNames is)
def gOr (t u : TG) : TG := fun v σ H Q => t v σ H Q ∨ u v σ H Q
theorem pg_or {X : Cx} {e : Expr} {t u : TG} (h : PG X e t) (k : PG X e u) : PG X e (gOr t u) := ⟨fun pins s σ H v w Q I r q => q.elim (h.run pins s σ H v w Q I r) (k.run pins s σ H v w Q I r)⟩
def gOf (K : PySem.W.Frag) : Tg → TG
  | .nm i => gName i
  | .tp l => gOr (gTup K l.length (gNames l)) (gUnl K l.length (gNames l))
def FnLoc (X : Cx) (sc : Scope) (loc : List Str) : Prop := ∀ x ∈ loc, Loc sc x ∧ (X.fn x = true ∨ sc.names.lookup x = some .local)
theorem pg_nm {loc : List Str} {x : Str} {i : Nat} (F : Fr X ct tb Γ N sc) (L : FnLoc X sc loc) (hx : x ∈ loc) (hi : N[i]? = some x) : PG X (.Name x pos) (gName i) :=
  pg_name (by rw [F.hN]; exact F.nd) (by rw [F.hN]; exact hi) (by rw [F.hsc]; exact (L x hx).1) (by rw [F.hsc]; exact (L x hx).2)
theorem names_ok {loc : List Str} (F : Fr X ct tb Γ N sc) (L : FnLoc X sc loc) : ∀ {es : List Expr} {l : List Nat}, resNames N loc es = some l → PGs X es (gNames l) ∧ (assignEach es X.env).length = l.length ∧ (assignEach es X.env).findIdx? (·.1) = none
  | [], l, h => by cases h; exact ⟨pgs_nil, rfl, rfl⟩
  | e :: es, l, h => by
    unfold resNames at h
    split at h
    · rename_i q; cases q
    · rename_i x p es' he
      cases he
      obtain ⟨hx, h⟩ := guardO_some h
      obtain ⟨i, hi, h⟩ := Option.bind_eq_some_iff.mp h
      obtain ⟨l', hl, rfl⟩ := Option.map_eq_some_iff.mp h
      obtain ⟨p1, p2, p3⟩ := names_ok F L hl
      refine ⟨pgs_cons (pg_nm F L (of_decide_eq_true hx) (ixOf_get hi)) p1 rfl, ?_, ?_⟩
      · show (assignEach es X.env).length + 1 = l'.length + 1
        rw [p2]
      · show List.findIdx? (·.1) ((false, assign (.Name x p) X.env) :: assignEach es X.env) = none
        rw [List.findIdx?_cons, p3]; rfl
    · cases h
theorem tg_ok {loc : List Str} {t : Tg} (F : Fr X ct tb Γ N sc) (L : FnLoc X sc loc) (h : resTg N loc tg = some t) : PG X tg (gOf X.K t) := by
  unfold resTg at h
  split at h
  · obtain ⟨hx, h⟩ := guardO_some h
    obtain ⟨i, hi, rfl⟩ := Option.map_eq_some_iff.mp h
    exact pg_nm F L (of_decide_eq_true hx) (ixOf_get hi)
  · obtain ⟨l, hl, rfl⟩ := Option.map_eq_some_iff.mp h
    obtain ⟨p1, p2, p3⟩ := names_ok F L hl
    exact pg_or (pg_tup F.calm p1 p2 p3) (pg_unl F.calm p1 p2 p3)
  · cases h
end
section
variable {K : PySem.W.Frag} {H : Hp} {M : AM} {Q : St → Hp → Prop}
theorem gnames_ok : ∀ {l : List Nat} {vs : List V} {ds : List D} {σ : St} {ρ : Rho}, ds.length = l.length → Reps K H M vs ds → RelE K H M σ ρ →
    (∀ σ', RelE K H M σ' ((l.zip ds).foldl (fun ρ p => ρ.set p.1 (some p.2)) ρ) → (∀ own, (∀ i ∈ l, i ∈ own) → wipe σ' own = wipe σ own) → Q σ' H) → gNames l vs σ H Q
  | [], vs, ds, σ, ρ, hl, r, E, k => by
    cases r with
    | nil => exact ⟨rfl, k σ E fun _ _ => rfl⟩
    | cons => cases hl
  | i :: l, vs, ds, σ, ρ, hl, r, E, k => by
    cases r with
    | nil => cases hl
    | cons h r =>
      rename_i v vs d ds
      refine ⟨v, vs, rfl, ?_⟩
      refine gnames_ok (l := l) (ρ := ρ.set i (some d)) (Nat.succ.inj hl) r (E.set h i) fun σ' E' hw => k σ' E' fun own ho => ?_
      rw [hw own fun j hj => ho j (List.mem_cons_of_mem _ hj), wipe_set (ho i (List.mem_cons_self ..))]
theorem assign_ok {t : Tg} {v : V} {d : D} {σ : St} {ρ ρ' : Rho} (r : Rep K H M v d) (E : RelE K H M σ ρ) (h : assignT t d ρ = some ρ')
    (k : ∀ σ', RelE K H M σ' ρ' → (∀ own, (∀ i ∈ slotsOf t, i ∈ own) → wipe σ' own = wipe σ own) → Q σ' H) : gOf K t v σ H Q := by
  unfold assignT at h
  split at h
  · cases h
    exact k _ (E.set r _) fun own ho => wipe_set (ho _ (List.mem_singleton_self _))
  · split at h
    · split at h
      · rename_i hl
        cases h
        cases r with
        | tup h1 r1 => exact .inl ⟨_, _, rfl, h1.sq, by rw [r1.length]; exact hl, gnames_ok hl r1 E k⟩
      · cases h
    · split at h
      · rename_i hl
        cases h
        cases r with
        | lst h1 r1 => exact .inr ⟨_, _, rfl, h1.sq, by rw [r1.length]; exact hl, gnames_ok hl r1 E k⟩
      · cases h
    · split at h
      · rename_i hl
        cases h
        cases r with
        | kt h1 r1 => exact .inl ⟨_, _, rfl, h1.sq, by rw [r1.length]; exact hl, gnames_ok hl r1 E k⟩
      · cases h
    · cases h
end
end PyI
/-! A10: comprehensions; the resolver is sound for expressions. -/
namespace PyI
open PySem L2
section
variable {K : PySem.W.Frag} {ct : CTab} {H H1 H' : Hp} {M M1 M' : AM} {p : Addr} {o : HO}
theorem Evo.stayHide (e : Evo M H M' H') (hp : H p = none) : Stay M H (M'.hide p) H' := ⟨e.pre, fun a o h n => ⟨(e.keep a o h n.1).1, (e.keep a o h n.1).2, by
  show a ∉ p :: M'.ex
  rw [List.mem_cons, e.ex]
  rintro (q | q)
  · exact ne_of_none h hp q
  · exact n.2 q⟩⟩
theorem Evo.newEx (e : Evo M H M' H') (hp : H p = none) : Evo M H M' (upd H' p o) := ⟨e.pre, e.len, e.ex, fun a u h n => ⟨by rw [upd_ne (ne_of_none h hp)]; exact (e.keep a u h n).1, (e.keep a u h n).2⟩⟩
end
theorem wipe_at {τ : St} {k : Nat} : ∀ {vs : List Nat}, k ∈ vs → k < τ.length → (L2.wipe τ vs)[k]? = some none
  | [], h, _ => by cases h
  | j :: js, hk, hl => by
    unfold L2.wipe
    rw [List.getElem?_set]
    by_cases e : j = k
    · rw [if_pos e, if_pos (by rw [wipe_length, e]; exact hl)]
    · rw [if_neg e]
      rcases List.mem_cons.mp hk with z | z
      · exact absurd z.symm e
      · exact wipe_at z hl
theorem wipe_wipe {σ : St} {vs : List Nat} : L2.wipe (L2.wipe σ vs) vs = L2.wipe σ vs := by
  apply List.ext_getElem?
  intro k
  by_cases hk : k ∈ vs
  · rcases Nat.lt_or_ge k σ.length with z | z
    · rw [wipe_at hk z, wipe_at hk (by rw [wipe_length]; exact z)]
    · rw [List.getElem?_eq_none (by rw [wipe_length, wipe_length]; exact z), List.getElem?_eq_none (by rw [wipe_length]; exact z)]
  · rw [L2.wipe_out hk]
/-- the block of a comprehension, as a frame -/
theorem Fr.blk {X : Cx} {ct : CTab} {Γ : G} {N : List Str} {sc scope : Scope} {tb : Tb} {own : List (Str × Nat)} (F : Fr X ct tb Γ N sc) (ok : BlkOk N sc scope own) (s : Shared) (H : Hp) (C : Addr) (cl : List (Str × Addr)) (fp : List Addr) :
    Fr (X.blk s H scope (compEnvC scope cl C X.env) fp) ct tb Γ N (relS scope sc) where
  hN := F.hN
  hsc := by show relS scope X.env.scope = _; rw [F.hsc]
  nd := F.nd
  calm := F.calm
  kindF := ok.kind
  g := F.g
theorem lookup_mem {α : Type} : ∀ {l : List (Str × α)} {x : Str} {k : α}, (x, k) ∈ l → (∀ y ∈ l, l.lookup y.1 = some y.2) → l.lookup x = some k := fun h hu => hu _ h
theorem own_loc {X : Cx} {N : List Str} {sc scope : Scope} (ok : BlkOk N sc scope (ownOf N scope)) (s : Shared) (H : Hp) (C : Addr) (cl : List (Str × Addr)) (fp : List Addr) :
    FnLoc (X.blk s H scope (compEnvC scope cl C X.env) fp) (relS scope sc) ((ownOf N scope).map Prod.fst) := by
  intro x hx
  obtain ⟨⟨y, i⟩, hp, rfl⟩ := List.mem_map.mp hx
  unfold ownOf at hp
  obtain ⟨⟨z, k⟩, hz, e⟩ := List.mem_filterMap.mp hp
  have hu := ok.uniq _ hz
  cases k with
  | «local» =>
    obtain ⟨j, _, e'⟩ := Option.map_eq_some_iff.mp e
    cases e'
    have q : (relS scope sc).names.lookup z = some .local := lookup_relS_keep (by intro w; cases w) hu
    exact ⟨.inl q, .inr q⟩
  | cell =>
    obtain ⟨j, _, e'⟩ := Option.map_eq_some_iff.mp e
    cases e'
    have q : (relS scope sc).names.lookup z = some .cell := lookup_relS_keep (by intro w; cases w) hu
    refine ⟨.inr q, .inl ?_⟩
    show (scope.names.lookup z == some .cell) = true
    rw [hu]; rfl
  | free => cases e
  | globalExplicit => cases e
  | globalImplicit => cases e
section
variable {X : Cx} {ct : CTab} {Γ : G} {N : List Str} {sc scope : Scope} {tb : Tb} {elt tg iter : Expr} {ifs : List Expr} {A : E} {pos : Pos}
/-- for each block -/
def SndB (X : Cx) (ct : CTab) (Γ : G) (scope : Scope) (e : Expr) (A : E) : Prop := ∀ (s : Shared) (H : Hp) (C : Addr) (cl : List (Str × Addr)) (fp : List Addr), Snd (X.blk s H scope (compEnvC scope cl C X.env) fp) ct Γ e A
def SndTB (X : Cx) (ct : CTab) (Γ : G) (scope : Scope) (ifs : List Expr) (c : T) : Prop := (ifs = [] ∧ c = .yes) ∨ ∃ e, ifs = [e] ∧ ∀ (s : Shared) (H : Hp) (C : Addr) (cl : List (Str × Addr)) (fp : List Addr), SndT (X.blk s H scope (compEnvC scope cl C X.env) fp) ct Γ e c
def wEB (X : Cx) (scope : Scope) (e : Expr) : TE := fun σ H Q => ∀ s H0 C cl fp, wE (X.blk s H0 scope (compEnvC scope cl C X.env) fp) e σ H Q
def wTB (X : Cx) (scope : Scope) : List Expr → TT
  | [e] => fun σ H Q => ∀ s H0 C cl fp, wT (X.blk s H0 scope (compEnvC scope cl C X.env) fp) e σ H Q
  | _ => tYes
/-- a new list is handed on, kept out of the data so far -/
def OkN (K : PySem.W.Frag) (ct : CTab) (M : AM) (H : Hp) (r : Res PyI.D) (Q : VK) (W : XK) : Prop := match r with
  | .ok (.lst acc) μ2 => ∀ p H2 M2 accv, H p = none → Evo M H M2 H2 → RelH K ct H2 μ2 (M2.hide p) → H2 p = some (.lst accv) → Reps K H2 (M2.hide p) accv acc → Q (.ref p) H2
  | .ok _ _ => False
  | .err c fs μ' => ∀ cls d H' M', Evo M H M' H' → RelH K ct H' μ' M' → ErrRep K ct H' M' c fs cls d → W cls d H'
  | .stuck => False
theorem Evo.back {K : PySem.W.Frag} {ct : CTab} {H H' : Hp} {M M' : AM} {μ μ' : Mu} {p : Addr} (e : Evo M H M' H') (R : RelH K ct H μ M) (R' : RelH K ct H' μ' M') (h : H' p = none) : H p = none := by
  cases q : H p with
  | none => rfl
  | some o =>
    by_cases z : p ∈ M.ix
    · obtain ⟨n, hn, en⟩ := List.getElem_of_mem z
      have : M.ix[n]? = some p := by rw [List.getElem?_eq_getElem hn, en]
      exact absurd (List.mem_of_getElem? (e.pre n p this)) (R'.fresh h).1
    · rw [(e.keep p o q z).1] at h; cases h
theorem OkN.evo {K : PySem.W.Frag} {ct : CTab} {H H1 : Hp} {M M1 : AM} {μ μ1 : Mu} {r : Res PyI.D} {Q : VK} {W : XK} (e : Evo M H M1 H1) (R : RelH K ct H μ M) (R1 : RelH K ct H1 μ1 M1) (h : OkN K ct M H r Q W) : OkN K ct M1 H1 r Q W := by
  cases r with
  | stuck => exact h
  | err c fs μ' => exact fun cls d H' M' e' => h cls d H' M' (e.trans e')
  | ok d μ2 =>
    cases d with
    | lst acc => exact fun p H2 M2 accv hp e2 => h p H2 M2 accv (e.back R R1 hp) (e.trans e2)
    | _ => exact h
theorem Ok.toN {K : PySem.W.Frag} {ct : CTab} {H : Hp} {M : AM} {μ : Mu} {r : Res PyI.D} {Q : VK} {W : XK} (R : RelH K ct H μ M) (hl : ∀ d μ', r = .ok d μ' → ∃ l, d = .lst l) (h : Ok K ct (RD K) M H r Q W) : OkN K ct M H r Q W := by
  cases r with
  | stuck => exact h
  | err c fs μ' => exact h
  | ok d μ2 =>
    obtain ⟨l, rfl⟩ := hl d μ2 rfl
    intro p H2 M2 accv hp e2 R2 hp2 ra
    have hout : M2.out p := ⟨(R2.exs p (List.mem_cons_self ..)).2, by rw [e2.ex]; exact (R.fresh hp).2⟩
    exact h (.ref p) H2 M2 e2 R2.unhide (.lst ⟨.inl hp2, hout⟩ (ra.stay Stay.unhide))
theorem comp_noerr {f : D → Mu → Res (Option D)} {chk : Mu → Bool} : ∀ {ds acc : List D} {μ μ' : Mu} {c : Nat} {fs : List D}, compLoop f chk acc ds μ ≠ .err c fs μ'
  | [], acc, μ, μ', c, fs, h => by unfold compLoop at h; split at h <;> cases h
  | d :: ds, acc, μ, μ', c, fs, h => by
    unfold compLoop at h
    split at h
    · split at h
      · exact comp_noerr h
      · unfold needs at h
        split at h
        · exact comp_noerr h
        · cases h
      · cases h
    · cases h
theorem comp_core {W : WX} {ρ : Rho} {μ : Mu} {σ : St} {H : Hp} {M : AM} {Q : VK} {t : Tg} {it : IT} {c : T} (F : Fr X ct tb Γ N sc) (ok : BlkOk N sc scope (ownOf N scope)) (hset : isSet iter = false) (ht : resTg N ((ownOf N scope).map Prod.fst) tg = some t) (hsl : ∀ i ∈ slotsOf t, i ∈ (ownOf N scope).map Prod.snd)
    (hI : SndI X ct Γ tg iter it) (hc : SndTB X ct Γ scope ifs c) (he : SndB X ct Γ scope elt A) (tk : Takes X W) (E : RelE X.K H M σ ρ) (R : RelH X.K ct H μ M) (h : OkN X.K ct M H (evalE Γ (.comp ((ownOf N scope).map Prod.snd) t it c A) ρ μ) Q (fun c d H' => W c d σ H')) :
    tLc (wI X tg iter) (gOf X.K t) (wTB X scope ifs) (wEB X scope elt) ((ownOf N scope).map (·.2)) σ H Q := by
  unfold evalE at h
  have okI : Ok X.K ct (RJ X.K ct) M H (evalIt Γ it ρ μ) (fun J H1 => ∀ D, H1 D = none → ∃ W' : Nat → Nat → Hp → Prop, (∃ m, W' 0 m (upd H1 D (.lst []))) ∧ ∀ i m H, W' i m H →
  (J.stop i H ∧ Q (.ref D) H) ∨ (J.go i H ∧ ∃ Nx : Hp → Prop, (∀ H', Nx H' → ∃ m', m' < m ∧ W' (i + 1) m' H') ∧ ∀ x H', J.yld i H x H' → (gOf X.K t) x (wipe σ ((ownOf N scope).map (·.2))) H' fun σ2 H2 => wipe σ2 ((ownOf N scope).map (·.2)) = wipe σ ((ownOf N scope).map (·.2)) ∧ (wTB X scope ifs) σ2 H2 fun b H3 =>
    if b = true then (wEB X scope elt) σ2 H3 fun y H4 => ∃ acc, H4 D = some (.lst acc) ∧ acc.length < sizeLine ∧ Nx (upd H4 D (.lst (acc ++ [y]))) else Nx H3)) (fun c d H' => W c d σ H') := ?okI
  exact hI W ρ μ σ H M _ tk E R okI
  case okI =>
  cases hit : evalIt Γ it ρ μ with
  | stuck => rw [hit] at h; exact h.elim
  | err c fs μ' => rw [hit] at h; exact h
  | ok its μ1 =>
  rw [hit] at h
  intro J H1 M1 e1 R1 J1
  have h1 := OkN.evo e1 R R1 (show OkN X.K ct M H ((compLoop _ (chkOf its.2) [] its.1 μ1).bind fun l μ => .ok (.lst l) μ) Q _ from h)
  intro D hD
  have E1 := E.evo e1
  -- the loop's answer
  generalize hf : (fun (d : PyI.D) (μ : Mu) => match assignT t d (wipeR ρ ((ownOf N scope).map Prod.snd)) with
        | none => Res.stuck
        | some ρ' => (evalT Γ c ρ' μ).bind fun k μ => if k = true then (evalE Γ A ρ' μ).bind fun y μ => Res.ok (some y) μ else Res.ok none μ) = f at h1
  obtain ⟨ds, src⟩ := its
  generalize hr : compLoop f (chkOf src) [] ds μ1 = r at h1
  have hr0 : ∀ c fs μ', r ≠ .err c fs μ' := fun c fs μ' q => comp_noerr (hr.trans q)
  refine ⟨fun i m H2 => m = ds.length - i ∧ i ≤ ds.length ∧ ∃ (M2 : AM) (μ2 : Mu) (acc : List PyI.D) (accv : List V), Evo M1 H1 M2 H2 ∧ RelH X.K ct H2 μ2 (M2.hide D) ∧ H2 D = some (.lst accv) ∧ Reps X.K H2 (M2.hide D) accv acc ∧ compLoop f (chkOf src) acc (ds.drop i) μ2 = r, ⟨ds.length, rfl, Nat.zero_le _, M1, μ1, [], [], Evo.new hD, R1.hide hD, upd_same, .nil, by rw [List.drop_zero]; exact hr⟩, ?_⟩
  rintro i m H2 ⟨hm, hi, M2, μ2, acc, accv, e2, R2, hD2, ra, hloop⟩
  have st2 : Stay M1 H1 (M2.hide D) H2 := e2.stayHide hD
  rcases Nat.lt_or_ge i ds.length with hlt | hge
  · right
    have hdi : ds[i]? = some ds[i] := List.getElem?_eq_getElem hlt
    rw [List.drop_eq_getElem_cons hlt] at hloop
    unfold compLoop at hloop
    by_cases hck : chkOf src μ2 = true
    · rw [if_pos hck] at hloop
      obtain ⟨hgo, hy⟩ := J1.go (M2.hide D) H2 μ2 i ds[i] st2 R2 hck hdi
      refine ⟨hgo, fun H3 => ∃ m', m' < m ∧ (m' = ds.length - (i + 1) ∧ i + 1 ≤ ds.length ∧ ∃ (M2 : AM) (μ2 : Mu) (acc : List PyI.D) (accv : List V), Evo M1 H1 M2 H3 ∧ RelH X.K ct H3 μ2 (M2.hide D) ∧ H3 D = some (.lst accv) ∧ Reps X.K H3 (M2.hide D) accv acc ∧ compLoop f (chkOf src) acc (ds.drop (i + 1)) μ2 = r), fun H3 q => q, ?_⟩
      intro x H3 hx
      obtain ⟨ev3, R3, rx⟩ := hy x H3 hx
      have st2 : Stay M1 H1 (M2.hide D) H3 := st2.trans ev3.stay
      have e2 : Evo M1 H1 M2 H3 := e2.trans ev3.unhide
      have hD2 : H3 D = some (.lst accv) := (ev3.keep D _ hD2 (R2.exs D (List.mem_cons_self ..)).2).1
      have ra := ra.evo ev3
      have R2 := R3
      -- the target
      have Ew : RelE X.K H3 (M2.hide D) (wipe σ ((ownOf N scope).map Prod.snd)) (wipeR ρ ((ownOf N scope).map Prod.snd)) := (E1.stay st2).wipe _
      have hfd : f ds[i] μ2 = (match assignT t ds[i] (wipeR ρ ((ownOf N scope).map Prod.snd)) with
        | none => Res.stuck
        | some ρ' => (evalT Γ c ρ' μ2).bind fun k μ => if k = true then (evalE Γ A ρ' μ).bind fun y μ => Res.ok (some y) μ else Res.ok none μ) := by rw [← hf]
      rw [hfd] at hloop
      cases has : assignT t ds[i] (wipeR ρ ((ownOf N scope).map Prod.snd)) with
      | none => simp only [has] at hloop; rw [← hloop] at h1; exact (h1 : False).elim
      | some ρ' =>
        simp only [has] at hloop
        refine assign_ok rx Ew has fun σ2 E2 hw => ⟨?_, ?_⟩
        · rw [hw _ hsl]
          exact wipe_wipe
        -- the test
        have hT : ∀ (Q2 : Bool → Hp → Prop), (∀ k μ3, evalT Γ c ρ' μ2 = .ok k μ3 → ∀ H4 M4, Evo (M2.hide D) H3 M4 H4 → RelH X.K ct H4 μ3 M4 → Q2 k H4) → wTB X scope ifs σ2 H3 Q2 := by
          intro Q2 k2
          have okT : Ok X.K ct RB (M2.hide D) H3 (evalT Γ c ρ' μ2) Q2 (fun _ _ _ => False) := by
            cases hc2 : evalT Γ c ρ' μ2 with
            | stuck => rw [hc2] at hloop; simp only [Res.bind] at hloop; rw [← hloop] at h1; exact (h1 : False).elim
            | err _ _ _ => rw [hc2] at hloop; simp only [Res.bind] at hloop; rw [← hloop] at h1; exact (h1 : False).elim
            | ok k μ3 => exact fun v H4 M4 e4 R4 r4 => by cases r4; exact k2 _ μ3 hc2 H4 M4 e4 R4
          rcases hc with ⟨rfl, rfl⟩ | ⟨e, rfl, hcs⟩
          · exact Ok.ret (μ := μ2) okT R2 rfl
          · exact fun s H0 C cl fp => hcs s H0 C cl fp (fun _ _ _ _ => False) ρ' μ2 σ2 H3 (M2.hide D) Q2 takes0 E2 R2 okT
        refine hT _ fun k μ3 hk H4 M4 e4 R4 => ?_
        rw [hk] at hloop
        simp only [Res.bind] at hloop
        -- the block's addresses
        have split4 : ∃ M4', M4 = AM.hide M4' D := ⟨⟨M4.ix, M2.ex⟩, by cases M4; exact congrArg _ e4.ex⟩
        obtain ⟨M4', rfl⟩ := split4
        have e14 : Evo M1 H1 M4' H4 := e2.trans e4.unhide
        have hD4 : H4 D = some (.lst accv) := (e4.keep D _ hD2 (R2.exs D (List.mem_cons_self ..)).2).1
        cases k with
        | false =>
          simp only [Bool.false_eq_true, if_false] at hloop ⊢
          exact ⟨ds.length - (i + 1), by omega, rfl, hlt, M4', μ3, acc, accv, e14, R4, hD4, ra.evo e4, hloop⟩
        | true =>
          simp only [if_true] at hloop ⊢
          have okE : Ok X.K ct (RD X.K) (AM.hide M4' D) H4 (evalE Γ A ρ' μ3) (fun y H5 => ∃ acc, H5 D = some (.lst acc) ∧ acc.length < sizeLine ∧ ∃ m', m' < m ∧ (m' = ds.length - (i + 1) ∧ i + 1 ≤ ds.length ∧ ∃ (M2 : AM) (μ2 : Mu) (acc' : List PyI.D) (accv : List V), Evo M1 H1 M2 (upd H5 D (.lst (acc ++ [y]))) ∧ RelH X.K ct (upd H5 D (.lst (acc ++ [y]))) μ2 (M2.hide D) ∧ (upd H5 D (.lst (acc ++ [y]))) D = some (.lst accv) ∧ Reps X.K (upd H5 D (.lst (acc ++ [y]))) (M2.hide D) accv acc' ∧ compLoop f (chkOf src) acc' (ds.drop (i + 1)) μ2 = r)) (fun _ _ _ => False) := by
            cases hA : evalE Γ A ρ' μ3 with
            | stuck => rw [hA] at hloop; simp only [Res.bind] at hloop; rw [← hloop] at h1; exact (h1 : False).elim
            | err _ _ _ => rw [hA] at hloop; simp only [Res.bind] at hloop; rw [← hloop] at h1; exact (h1 : False).elim
            | ok y μ5 =>
              rw [hA] at hloop
              simp only [Res.bind] at hloop
              intro v H5 M5 e5 R5 r5
              have split5 : ∃ M5', M5 = AM.hide M5' D := ⟨⟨M5.ix, M4'.ex⟩, by cases M5; exact congrArg _ e5.ex⟩
              obtain ⟨M5', rfl⟩ := split5
              have hD5 : H5 D = some (.lst accv) := (e5.keep D _ hD4 (R4.exs D (List.mem_cons_self ..)).2).1
              have hacc : accv.length = acc.length := ra.length
              unfold needs at hloop
              by_cases hz : acc.length < 16777216
              · rw [if_pos hz] at hloop
                have hin : D ∈ (AM.hide M5' D).ex := List.mem_cons_self ..
                have sm : Stay (AM.hide M5' D) H5 (AM.hide M5' D) (upd H5 D (.lst (accv ++ [v]))) := Stay.mutEx hin
                exact ⟨accv, hD5, sl16' (by rw [hacc]; exact hz), ds.length - (i + 1), by omega, rfl, hlt, M5', μ5, acc ++ [y], accv ++ [v], (e14.trans e5.unhide).newEx hD, R5.mutEx hin, upd_same, ((((ra.evo e4).evo e5).append (Reps.one r5)).stay sm), hloop⟩
              · rw [if_neg hz] at hloop; rw [← hloop] at h1; exact (h1 : False).elim
          exact fun s H0 C cl fp => he s H0 C cl fp (fun _ _ _ _ => False) ρ' μ3 σ2 H4 (AM.hide M4' D) _ takes0 (E2.evo e4) R4 okE
    · rw [if_neg hck] at hloop; rw [← hloop] at h1; exact (h1 : False).elim
  · left
    have hie : i = ds.length := Nat.le_antisymm hi hge
    subst hie
    rw [List.drop_length] at hloop
    unfold compLoop at hloop
    by_cases hck : chkOf src μ2 = true
    · rw [if_pos hck] at hloop
      refine ⟨J1.stop (M2.hide D) H2 μ2 st2 R2 hck, ?_⟩
      rw [← hloop] at h1
      exact h1 D H2 M2 accv hD e2 R2 hD2 ra
    · rw [if_neg hck] at hloop; rw [← hloop] at h1; exact (h1 : False).elim
theorem comp_pts {c : T} (hc : SndTB X ct Γ scope ifs c) : ∀ (s : Shared) (H : Hp) (C : Addr) (cl : List (Str × Addr)) (fp : List Addr), PTs (X.blk s H scope (compEnvC scope cl C X.env) fp) ifs (wTB X scope ifs) := by
  intro s H C cl fp
  rcases hc with ⟨rfl, _⟩ | ⟨e, rfl, _⟩
  · exact pts_nil
  · refine pts_one ⟨fun pins s' σ H' Q' I q => q s H C cl fp pins s' I⟩
theorem comp_lst {own : List Nat} {t : Tg} {it : IT} {c : T} {ρ : Rho} {μ : Mu} {d : PyI.D} {μ' : Mu} (h : evalE Γ (.comp own t it c A) ρ μ = .ok d μ') : ∃ l, d = .lst l := by
  unfold evalE at h
  cases hit : evalIt Γ it ρ μ with
  | stuck => rw [hit] at h; cases h
  | err c fs μ' => rw [hit] at h; cases h
  | ok its μ1 =>
    rw [hit] at h
    simp only [Res.bind] at h
    split at h
    · cases h; exact ⟨_, rfl⟩
    · cases h
    · cases h
theorem snd_comp {t : Tg} {it : IT} {c : T} (F : Fr X ct tb Γ N sc) (ok : BlkOk N sc scope (ownOf N scope)) (hset : isSet iter = false) (ht : resTg N ((ownOf N scope).map Prod.fst) tg = some t) (hsl : ∀ i ∈ slotsOf t, i ∈ (ownOf N scope).map Prod.snd)
    (hI : SndI X ct Γ tg iter it) (hc : SndTB X ct Γ scope ifs c) (he : SndB X ct Γ scope elt A) : Snd X ct Γ (.ListComp elt [⟨tg, iter, ifs, 0⟩] scope pos) (.comp ((ownOf N scope).map Prod.snd) t it c A) := by
  intro W ρ μ σ H M Q tk E R h
  have okX : BlkOk X.N X.env.scope scope (ownOf N scope) := by rw [F.hN, F.hsc]; exact ok
  exact we (pe_lc (te := wEB X scope elt) (tt := wTB X scope ifs) (g := gOf X.K t) F.calm (by rw [F.hN]; exact F.nd) pI okX (fun s H C cl fp => tg_ok (F.blk ok s H C cl fp) (own_loc ok s H C cl fp) ht) (comp_pts hc) (fun s H C cl fp => ⟨fun pins s' σ H' Q' I q => q s H C cl fp pins s' I⟩) (set_iter hset))
    (comp_core F ok hset ht hsl hI hc he tk E R (h.toN R fun d μ' q => comp_lst q))
end
end PyI
/-! AN: new lists and dicts of ours, as expressions. -/
namespace PyI
open PySem L2
section
variable {X : Cx} {ct : CTab} {Γ : G} {N : List Str} {sc : Scope} {tb : Tb} {e : Expr} {es : List Expr} {A B C' : E} {As : Es} {pos : Pos}
/-- e makes a new list -/
def SndN (X : Cx) (ct : CTab) (Γ : G) (e : Expr) (A : E) : Prop := ∀ (W : WX) (ρ : Rho) (μ : Mu) (σ : St) (H : Hp) (M : AM) (Q : VK), Takes X W → RelE X.K H M σ ρ → RelH X.K ct H μ M →
  OkN X.K ct M H (evalE Γ A ρ μ) Q (fun c d H' => W c d σ H') → wE X e σ H Q
theorem OkN.step {α β : Type} {K : PySem.W.Frag} {R' : Hp → AM → β → α → Prop} {M : AM} {H : Hp} {μ : Mu} {r : Res α} {f : α → Mu → Res PyI.D} {Q : VK} {Q1 : β → Hp → Prop} {W : XK} (R : RelH K ct H μ M) (h : OkN K ct M H (r.bind f) Q W)
    (k : ∀ a μ1 v H1 M1, Evo M H M1 H1 → RelH K ct H1 μ1 M1 → R' H1 M1 v a → OkN K ct M1 H1 (f a μ1) Q W → Q1 v H1) : Ok K ct R' M H r Q1 W := by
  cases r with
  | ok a μ' => exact fun v H' M' e R1 r1 => k a μ' v H' M' e R1 r1 (OkN.evo e R R1 h)
  | err c fs μ' => exact h
  | stuck => exact h
theorem sndN_lst (ha : SndA X ct Γ es As) : SndN X ct Γ (.List es pos) (.lst As) := by
  intro W ρ μ σ H M Q tk E R h
  unfold evalE at h
  refine we (pe_lst pA) ?_
  refine ha W ρ μ σ H M _ tk E R (OkN.step R h fun ds μ1 vs H1 M1 e1 R1 r1 h1 => ?_)
  unfold needs at h1
  by_cases hz : ds.length ≤ 16777216
  · rw [if_pos hz] at h1
    exact ⟨sl16 (by rw [r1.length]; exact hz), fun p hp => h1 p (upd H1 p (.lst vs)) M1 vs hp (Evo.new hp) (R1.hide hp) upd_same (r1.stay ((Stay.hide hp).trans (Evo.new hp).stay))⟩
  · rw [if_neg hz] at h1; exact (h1 : False).elim
theorem sndN_ite {c a b : Expr} {t : T} {A B : E} (hc : SndT X ct Γ c t) (ha : SndN X ct Γ a A) (hb : SndN X ct Γ b B) : SndN X ct Γ (.IfExp c a b pos) (.ite t A B) := by
  intro W ρ μ σ H M Q tk E R h
  unfold evalE at h
  refine we (pe_ifExp pT pE pE) ?_
  refine hc W ρ μ σ H M _ tk E R (OkN.step R h fun k μ1 v H1 M1 e1 R1 r1 h1 => ?_)
  cases r1
  cases k with
  | true => exact ha W ρ μ1 σ H1 M1 _ tk (E.evo e1) R1 h1
  | false => exact hb W ρ μ1 σ H1 M1 _ tk (E.evo e1) R1 h1
theorem addN_ok {H : Hp} {M : AM} {μ : Mu} {x y : V} {d d' : PyI.D} {Q : VK} {W : XK} (R : RelH X.K ct H μ M) (rx : Rep X.K H M x d) (ry : Rep X.K H M y d') (h : OkN X.K ct M H (binD .add d d' μ) Q W) : wO X (binaryOp .Add) x y H Q := by
  have go : ∀ {i j : List PyI.D}, lstD μ d = some i → lstD μ d' = some j → OkN X.K ct M H (needs (i.length + j.length ≤ 16777216) (.ok (.lst (i ++ j)) μ)) Q W → wO X (binaryOp .Add) x y H Q := by
    intro i j e1 e2 h
    obtain ⟨a, xs, rfl, hs, rs⟩ := lst_of R rx e1
    obtain ⟨b, ys, rfl, ht, rt⟩ := lst_of R ry e2
    unfold needs at h
    by_cases hz : i.length + j.length ≤ 16777216
    · rw [if_pos hz] at h
      have rr := rs.append rt
      refine wo op_catL ⟨_, _, _, _, rfl, rfl, hs, ht, ?_, fun p hp => h p (upd H p (.lst (xs ++ ys))) M (xs ++ ys) hp (Evo.new hp) (R.hide hp) upd_same (rr.stay ((Stay.hide hp).trans (Evo.new hp).stay))⟩
      rw [rs.length, rt.length]; exact sl16 hz
    · rw [if_neg hz] at h; exact (h : False).elim
  unfold binD at h
  split at h <;> first
    | contradiction
    | (rename_i q; cases q; done)
    | exact (h : False).elim
    | (unfold needs at h; split at h <;> exact (h : False).elim)
    | skip
  split at h
  · rename_i e1 e2; exact go e1 e2 h
  · exact (h : False).elim
theorem sndN_add {a b : Expr} {A B : E} (ha : Snd X ct Γ a A) (hb : Snd X ct Γ b B) : SndN X ct Γ (.BinOp a .Add b pos) (.bin .add A B) := by
  intro W ρ μ σ H M Q tk E R h
  unfold evalE at h
  refine we (pe_op pO pE pE) ?_
  refine ha W ρ μ σ H M _ tk E R (OkN.step R h fun d μ1 v H1 M1 e1 R1 r1 h1 => ?_)
  refine hb W ρ μ1 σ H1 M1 _ tk (E.evo e1) R1 (OkN.step R1 h1 fun d2 μ2 u H2 M2 e2 R2 r2 h2 => ?_)
  exact addN_ok R2 (r1.evo e2) r2 h2

theorem Evo.addIn {K : PySem.W.Frag} {H H2 : Hp} {M M2 : AM} {p : Addr} (e2 : Evo M H M2 H2) (hp : H p = none) : Evo M H (M2.add p) H2 :=
  ⟨fun n a q => ix_add (e2.pre n a q), by show _ ≤ (M2.ix ++ [p]).length; rw [List.length_append]; exact Nat.le_add_right_of_le e2.len, e2.ex, fun a u hh n => ⟨(e2.keep a u hh n).1, by
    show a ∉ M2.ix ++ [p]
    rw [List.mem_append, List.mem_singleton]
    rintro (q | q)
    · exact (e2.keep a u hh n).2 q
    · exact ne_of_none hh hp q⟩⟩
theorem ref_add {M : AM} {n : Nat} {p : Addr} (h : M.ix.length = n) : (M.add p).ix[n]? = some p := by
  show (M.ix ++ [p])[n]? = some p
  rw [← h, List.getElem?_append_right (Nat.le_refl _), Nat.sub_self]; rfl
/-- a new list, ours from now on -/
theorem snd_newL (ha : SndN X ct Γ e A) : Snd X ct Γ e (.newL A) := by
  intro W ρ μ σ H M Q tk E R h
  unfold evalE at h
  refine ha W ρ μ σ H M Q tk E R ?_
  cases hA : evalE Γ A ρ μ with
  | stuck => rw [hA] at h; exact h
  | err c fs μ' => rw [hA] at h; exact h
  | ok d μ2 =>
    rw [hA] at h
    cases d with
    | lst acc =>
      intro p H2 M2 accv hp e2 R2 hp2 ra
      have hpe : p ∉ M2.ex := by rw [e2.ex]; exact (R.fresh hp).2
      have rm : MRep X.K ct H2 (M2.add p) p (.lst acc) := ⟨accv, hp2, ra.stay Stay.take⟩
      have R3 := R2.takeIn hpe rm
      exact (h : Ok X.K ct (RD X.K) M H (.ok (.ref μ2.length) (μ2 ++ [.lst acc])) Q _) (.ref p) H2 (M2.add p) (e2.addIn (K := X.K) hp) R3 (.ref (ref_add R2.len))
    | _ => exact (h : False).elim

/-! ### {'..': e, ..} -/
abbrev trZ (X : Cx) (ks : List Str) (es : List Expr) : List (TE × TE) := (ks.zip (es.map (wE X))).map fun p => (tC (.str p.1), p.2)
theorem keys_pps {X : Cx} : ∀ {ks : List (Option Expr)} {l : List Str} {es : List Expr}, strKeys ks = some l → l.length = es.length → PPs X pos ks es (trZ X l es) ∧ ks.all (·.isSome) = true ∧ ks.length = es.length
  | [], l, es, h, hl => by
    cases h
    cases es with
    | nil => exact ⟨pps_nil, rfl, rfl⟩
    | cons => cases hl
  | some (.Constant (.str s) _ _) :: ks, l, es, h, hl => by
    obtain ⟨l', h', rfl⟩ := Option.map_eq_some_iff.mp (show (strKeys ks).map (s :: ·) = some l from h)
    cases es with
    | nil => cases hl
    | cons e es =>
      obtain ⟨q1, q2, q3⟩ := keys_pps (X := X) h' (Nat.succ.inj hl)
      exact ⟨pps_cons pe_str pE q1, by rw [List.all_cons, q2]; rfl, congrArg (· + 1) q3⟩
theorem tp_ok {W : WX} {ρ : Rho} (tk : Takes X W) {σ : St} : ∀ {ks : List Str} {es : List Expr} {As : Es}, SndL X ct Γ es As → ks.length = es.length → ∀ {μ : Mu} {H : Hp} {M : AM} {Q : List (V × V) → Hp → Prop}, RelE X.K H M σ ρ → RelH X.K ct H μ M →
    Ok X.K ct (RDs X.K) M H (evalEs Γ As ρ μ) (fun vs H' => Q ((ks.zip vs).map fun p => (V.str p.1, p.2)) H') (fun c d H' => W c d σ H') → tPairs (trZ X ks es) σ H Q
  | [], _, _, .nil, _, μ, H, M, Q, E, R, h => Ok.ret (R := RDs X.K) (μ := μ) (a := []) (v := []) h R Reps.nil
  | k :: ks, e :: es, _, .cons ha hr, hl, μ, H, M, Q, E, R, h => by
    unfold evalEs at h
    show tPairs ((tC (.str k), wE X e) :: trZ X ks es) σ H Q
    refine ha W ρ μ σ H M _ tk E R (h.step fun d μ1 v H1 M1 e1 R1 r1 h1 => ?_)
    refine tp_ok tk hr (Nat.succ.inj hl) (E.evo e1) R1 (h1.step fun ds μ2 vs H2 M2 e2 R2 r2 h2 => ?_)
    exact h2.ret R2 (.cons (r1.evo e2) r2)
theorem merge_rep {κ : Type} [DecidableEq κ] {K : PySem.W.Frag} {H : Hp} {M : AM} : ∀ {more : List (κ × V)} {more' : List (κ × PyI.D)} {ks : List (κ × V)} {kvs : List (κ × PyI.D)}, Paired (fun p q => p.1 = q.1 ∧ Rep K H M p.2 q.2) more more' → Paired (fun p q => p.1 = q.1 ∧ Rep K H M p.2 q.2) ks kvs →
    Paired (fun p q => p.1 = q.1 ∧ Rep K H M p.2 q.2) (more.foldl (fun acc kv => putK acc kv.1 kv.2) ks) (mergeD kvs more')
  | _, _, _, _, .nil, r => r
  | _, _, _, _, .cons (a := p) (b := q) h t, r => by
    show Paired _ (List.foldl _ (putK _ p.1 p.2) _) (mergeD (putD _ q.1 q.2) _)
    refine merge_rep t ?_
    rw [h.1]
    exact prep_put r q.1 h.2
theorem zip_rep {K : PySem.W.Frag} {H : Hp} {M : AM} : ∀ {ks : List Str} {vs : List V} {ds : List PyI.D}, Reps K H M vs ds → Paired (fun p q => p.1 = q.1 ∧ Rep K H M p.2 q.2) ((ks.zip vs).map fun p => ((Sum.inr p.1 : Key), p.2)) ((ks.zip ds).map fun p => ((Sum.inr p.1 : Key), p.2))
  | [], _, _, _ => Paired.nil
  | _ :: _, _, _, .nil => Paired.nil
  | k :: ks, _, _, .cons h r => .cons ⟨rfl, h⟩ (zip_rep r)
theorem snd_disp {k : Option Expr} {ks : List (Option Expr)} {l : List Str} (hk : strKeys (k :: ks) = some l) (h15 : l.length ≤ 15) (hl : l.length = es.length) (hs : SndL X ct Γ es As) : Snd X ct Γ (.Dict (k :: ks) es pos) (.disp l As) := by
  intro W ρ μ σ H M Q tk E R h
  unfold evalE at h
  obtain ⟨q1, q2, q3⟩ := keys_pps (X := X) (pos := pos) hk hl
  refine we (pe_disp q1 q2 q3 (fun z => by cases z) (by rw [q3, ← hl]; exact h15)) ?_
  intro p hp
  have ev0 : Evo (M.hide p) (upd H p (.dK [])) (M.hide p) (upd H p (.dK [])) := Evo.refl _ _
  have E0 : RelE X.K (upd H p (.dK [])) (M.hide p) σ ρ := E.stay ((Stay.hide hp).trans (Evo.new hp).stay)
  have R0 : RelH X.K ct (upd H p (.dK [])) μ (M.hide p) := R.hide hp
  refine tp_ok tk hs hl E0 R0 ?_
  cases hA : evalEs Γ As ρ μ with
  | stuck => rw [hA] at h; exact h
  | err c fs μ' =>
    rw [hA] at h
    intro cls d H' M' e R' er
    have hsp : ∃ M1, M' = AM.hide M1 p := ⟨⟨M'.ix, M.ex⟩, by cases M'; exact congrArg _ e.ex⟩
    obtain ⟨M1, rfl⟩ := hsp
    have e' : Evo M H M1 H' := (Evo.new hp).trans e.unhide
    obtain ⟨rc, dx, vs, rd, r1, r2, r3⟩ := er
    exact (h : Ok X.K ct (RD X.K) M H (.err c fs μ') Q _) cls d H' M1 e' R'.unhide ⟨rc, dx, vs, rd, r1, r2, r3.stay Stay.unhide⟩
  | ok ds μ' =>
    rw [hA] at h
    have h : Ok X.K ct (RD X.K) M H (needs (ds.length = l.length ∧ l.length ≤ 15) (.ok (.ref μ'.length) (μ' ++ [.dk (mergeD [] ((l.zip ds).map fun p => ((Sum.inr p.1 : Key), p.2)))]))) Q (fun c d H' => W c d σ H') := h
    obtain ⟨⟨hd, _⟩, h⟩ := h.needs
    intro vs H' M' e R' rs
    have hsp : ∃ M1, M' = AM.hide M1 p := ⟨⟨M'.ix, M.ex⟩, by cases M'; exact congrArg _ e.ex⟩
    obtain ⟨M1, rfl⟩ := hsp
    have e' : Evo M H M1 H' := (Evo.new hp).trans e.unhide
    have hpd : H' p = some (.dK []) := (e.keep p _ upd_same (R0.exs p (List.mem_cons_self ..)).2).1
    refine ⟨hpd, (l.zip vs).map fun q => ((Sum.inr q.1 : Key), q.2), ?_, ?_, ?_⟩
    · rw [List.map_map]; rfl
    · rw [List.length_map, List.length_zip]; omega
    · have hin : p ∈ (AM.hide M1 p).ex := List.mem_cons_self ..
      have R2 : RelH X.K ct (upd H' p (.dK (mergeK [] ((l.zip vs).map fun q => ((Sum.inr q.1 : Key), q.2))))) μ' (AM.hide M1 p) := R'.mutEx hin
      have hpe : p ∉ M1.ex := by
        have := e'.ex
        rw [this]; exact (R.fresh hp).2
      have rs2 : Reps X.K (upd H' p (.dK (mergeK [] ((l.zip vs).map fun q => ((Sum.inr q.1 : Key), q.2))))) (M1.add p) vs ds := (rs.stay (Stay.mutEx hin)).stay Stay.take
      have R3 := R2.takeIn hpe (mo := .dk (mergeD [] ((l.zip ds).map fun p => ((Sum.inr p.1 : Key), p.2)))) ⟨_, upd_same, merge_rep (zip_rep rs2) .nil⟩
      exact h (.ref p) _ (M1.add p) ((e'.newEx hp).addIn (K := X.K) hp) R3 (.ref (ref_add R'.len))
end
end PyI
/-! A11: the resolver is sound for expressions. -/
namespace PyI
open PySem L2
structure SndAt (ct : CTab) (Γ : G) (C : RC) (n : Nat) : Prop where
  e : ∀ (X : Cx) (sc : Scope) (e : Expr) (A : E), Fr X ct C.tb Γ C.N sc → resE n C sc e = some A → Snd X ct Γ e A
  and : ∀ (X : Cx) (sc : Scope) (es : List Expr) (pos : Pos) (A : E), Fr X ct C.tb Γ C.N sc → resAnd n C sc es = some A → Snd X ct Γ (.BoolOp .And es pos) A
  or : ∀ (X : Cx) (sc : Scope) (es : List Expr) (pos : Pos) (A : E), Fr X ct C.tb Γ C.N sc → resOr n C sc es = some A → Snd X ct Γ (.BoolOp .Or es pos) A
  es : ∀ (X : Cx) (sc : Scope) (es : List Expr) (A : Es), Fr X ct C.tb Γ C.N sc → resEs n C sc es = some A → SndA X ct Γ es A ∧ es.all (fun e => !star e) = true ∧ (es = [] → A = .nil)
  l : ∀ (X : Cx) (sc : Scope) (es : List Expr) (A : Es), Fr X ct C.tb Γ C.N sc → resEs n C sc es = some A → SndL X ct Γ es A
  o : ∀ (X : Cx) (sc : Scope) (o : Option Expr) (A : O), Fr X ct C.tb Γ C.N sc → resO n C sc o = some A → SndO X ct Γ o A
  t : ∀ (X : Cx) (sc : Scope) (e : Expr) (A : T), Fr X ct C.tb Γ C.N sc → resT n C sc e = some A → SndT X ct Γ e A
  tand : ∀ (X : Cx) (sc : Scope) (es : List Expr) (pos : Pos) (A : T), Fr X ct C.tb Γ C.N sc → resTAnd n C sc es = some A → SndW X ct Γ (.BoolOp .And es pos) A
  tor : ∀ (X : Cx) (sc : Scope) (es : List Expr) (pos : Pos) (A : T), Fr X ct C.tb Γ C.N sc → resTOr n C sc es = some A → SndW X ct Γ (.BoolOp .Or es pos) A
  i : ∀ (X : Cx) (sc : Scope) (tg e : Expr) (A : IT), Fr X ct C.tb Γ C.N sc → resI n C sc tg e = some A → SndI X ct Γ tg e A
  en : ∀ (X : Cx) (sc : Scope) (es : List Expr) (A : Es), Fr X ct C.tb Γ C.N sc → resEn n C sc es = some A → SndL X ct Γ es A ∧ SndA X ct Γ es A ∧ es.all (fun e => !star e) = true
theorem pe_or1 {X : Cx} {op : BoolOp} {a : Expr} {pos : Pos} {ct : CTab} {Γ : G} {A : E} (h : Snd X ct Γ a A) : Snd X ct Γ (.BoolOp op [a] pos) A := by
  intro W ρ μ σ H M Q tk E R k
  exact we (pe_one pE) (h W ρ μ σ H M Q tk E R k)
theorem sndAt (ct : CTab) (Γ : G) (C : RC) : ∀ n, SndAt ct Γ C n
  | 0 => by constructor <;> intros <;> rename_i h <;> first | (unfold resE at h; cases h) | (unfold resAnd at h; cases h) | (unfold resOr at h; cases h) | (unfold resEs at h; cases h) | (unfold resO at h; cases h) | (unfold resT at h; cases h) | (unfold resTAnd at h; cases h) | (unfold resTOr at h; cases h) | (unfold resI at h; cases h) | (unfold resEn at h; cases h)
  | n + 1 => by
    have ih := sndAt ct Γ C n
    constructor
    case e =>
      intro X sc e A F h
      unfold resE at h
      split at h
      · cases h; exact snd_cst pe_int fun _ _ => .int _
      · cases h; exact snd_cst pe_bl fun _ _ => .bl _
      · cases h; exact snd_cst pe_non fun _ _ => .non
      · cases h; exact snd_cst pe_str fun _ _ => .str _
      · obtain ⟨hd, h⟩ := guardO_some h
        split at h
        · rename_i hv
          obtain ⟨i, hi, rfl⟩ := Option.map_eq_some_iff.mp h
          exact snd_var F (ixOf_get hi) hv hd
        · obtain ⟨hg, h⟩ := guardO_some h
          obtain ⟨i, hi, rfl⟩ := Option.map_eq_some_iff.mp h
          exact snd_glob F (ixOf_get hi) hg hd
      · obtain ⟨o, ho, h⟩ := Option.bind_eq_some_iff.mp h
        obtain ⟨A1, hA, h⟩ := Option.bind_eq_some_iff.mp h
        obtain ⟨B1, hB, rfl⟩ := Option.map_eq_some_iff.mp h
        exact snd_bin ho (ih.e X sc _ _ F hA) (ih.e X sc _ _ F hB)
      · obtain ⟨A1, hA, rfl⟩ := Option.map_eq_some_iff.mp h
        exact snd_neg (ih.e X sc _ _ F hA)
      · obtain ⟨A1, hA, rfl⟩ := Option.map_eq_some_iff.mp h
        exact snd_inv (ih.e X sc _ _ F hA)
      · obtain ⟨A1, hA, rfl⟩ := Option.map_eq_some_iff.mp h
        exact snd_notv (ih.e X sc _ _ F hA)
      · exact ih.and X sc _ _ _ F h
      · exact ih.or X sc _ _ _ F h
      · split at h
        · next g hg =>
          obtain ⟨x, p2, he, h1, h2, h3⟩ := dicOf_eq hg
          obtain ⟨neg, hn, h⟩ := Option.bind_eq_some_iff.mp h
          obtain ⟨A1, hA, rfl⟩ := Option.map_eq_some_iff.mp h
          rw [he, inOp_eq hn]
          exact snd_gin F h1 h2 h3 (ih.e X sc _ _ F hA)
        obtain ⟨hs, h⟩ := guardO_some h
        obtain ⟨A1, hA, h⟩ := Option.bind_eq_some_iff.mp h
        obtain ⟨B1, hB, rfl⟩ := Option.map_eq_some_iff.mp h
        exact snd_cmp F (by simpa using hs) (ih.e X sc _ _ F hA) (ih.e X sc _ _ F hB)
      · obtain ⟨hs, h⟩ := guardO_some h
        obtain ⟨A1, hA, h⟩ := Option.bind_eq_some_iff.mp h
        obtain ⟨B1, hB, h⟩ := Option.bind_eq_some_iff.mp h
        obtain ⟨C1, hC, rfl⟩ := Option.map_eq_some_iff.mp h
        exact snd_chn F (by simp at hs; exact hs.2) (ih.e X sc _ _ F hA) (ih.e X sc _ _ F hB) (ih.e X sc _ _ F hC)
      · obtain ⟨T1, hT, h⟩ := Option.bind_eq_some_iff.mp h
        obtain ⟨A1, hA, h⟩ := Option.bind_eq_some_iff.mp h
        obtain ⟨B1, hB, rfl⟩ := Option.map_eq_some_iff.mp h
        exact snd_ite (ih.t X sc _ _ F hT) (ih.e X sc _ _ F hA) (ih.e X sc _ _ F hB)
      · rename_i f p args pos
        obtain ⟨hg, h⟩ := guardO_some h
        simp only [Bool.and_eq_true] at hg
        split at h
        · rename_i i k hf
          obtain ⟨hl, h⟩ := guardO_some h
          obtain ⟨A1, hA, rfl⟩ := Option.map_eq_some_iff.mp h
          simp only [Bool.and_eq_true, beq_iff_eq, Bool.not_eq_true'] at hl
          obtain ⟨s1, s2, _⟩ := ih.es X sc _ _ F hA
          cases args with
          | nil => simp at hl
          | cons a as => exact snd_call F hg.1 hg.2 (fnOf_get hf) s2 s1
        · split at h
          · next hi =>
            obtain ⟨q, hq, h⟩ := Option.bind_eq_some_iff.mp h
            obtain ⟨p2, hp⟩ := isiArgs_eq hq
            obtain ⟨hg2, h⟩ := guardO_some h
            simp only [Bool.and_eq_true, Bool.not_eq_true'] at hg2
            obtain ⟨ty, ht, h⟩ := Option.bind_eq_some_iff.mp h
            obtain ⟨A1, hA, rfl⟩ := Option.map_eq_some_iff.mp h
            rw [hp, hi]
            exact snd_isi F (by rw [← hi]; exact hg.2) hg2.1.1 hg2.1.2 ht hg2.2 (ih.e X sc _ _ F hA)
          · obtain ⟨hl, h⟩ := guardO_some h
            obtain ⟨b, hb, h⟩ := Option.bind_eq_some_iff.mp h
            obtain ⟨A1, hA, rfl⟩ := Option.map_eq_some_iff.mp h
            obtain ⟨s1, s2, _⟩ := ih.es X sc _ _ F hA
            cases args with
            | nil => simp at hl
            | cons a as => exact snd_bif F hg.1 hg.2 hb s2 s1
      · obtain ⟨hg, h⟩ := guardO_some h
        simp only [Bool.and_eq_true, decide_eq_true_eq, Bool.not_eq_true', List.isEmpty_eq_false_iff] at hg
        obtain ⟨l, hl, h⟩ := Option.bind_eq_some_iff.mp h
        obtain ⟨h15, h⟩ := guardO_some h
        obtain ⟨A1, hA, h⟩ := Option.bind_eq_some_iff.mp h
        obtain ⟨B1, hB, rfl⟩ := Option.map_eq_some_iff.mp h
        obtain ⟨⟨⟨⟨rfl, g1⟩, g2⟩, g3⟩, g4⟩ := hg
        exact snd_dgt g1 g2 g3 F hl g4 (of_decide_eq_true h15) (ih.e X sc _ _ F hA) (ih.e X sc _ _ F hB)
      · obtain ⟨hg, h⟩ := guardO_some h
        simp only [Bool.and_eq_true] at hg
        split at h
        · next hm =>
          obtain ⟨A1, hA, rfl⟩ := Option.map_eq_some_iff.mp h
          rw [hm.1, List.isEmpty_iff.mp hm.2]
          exact snd_bits hg.1 hg.2 (ih.e X sc _ _ F hA)
        split at h
        · next hm =>
          obtain ⟨q, hq, h⟩ := Option.bind_eq_some_iff.mp h
          obtain ⟨p2, hp⟩ := trArgs_eq hq
          obtain ⟨ht, h⟩ := guardO_some h
          obtain ⟨A1, hA, rfl⟩ := Option.map_eq_some_iff.mp h
          rw [hp, hm]
          exact snd_tr37 F hg.1 hg.2 ht (ih.e X sc _ _ F hA)
        split at h
        · next hm =>
          rw [hm]
          split at h
          · obtain ⟨hs, h⟩ := guardO_some h
            obtain ⟨A1, hA, h⟩ := Option.bind_eq_some_iff.mp h
            obtain ⟨B1, hB, rfl⟩ := Option.map_eq_some_iff.mp h
            exact snd_get1 F hg.1 hg.2 (by simpa using hs) (ih.e X sc _ _ F hA) (ih.e X sc _ _ F hB)
          · obtain ⟨hs, h⟩ := guardO_some h
            simp only [Bool.and_eq_true, Bool.not_eq_true'] at hs
            obtain ⟨A1, hA, h⟩ := Option.bind_eq_some_iff.mp h
            obtain ⟨B1, hB, h⟩ := Option.bind_eq_some_iff.mp h
            obtain ⟨C1, hC, rfl⟩ := Option.map_eq_some_iff.mp h
            exact snd_get2 F hg.1 hg.2 hs.1 hs.2 (ih.e X sc _ _ F hA) (ih.e X sc _ _ F hB) (ih.e X sc _ _ F hC)
          · cases h
        · obtain ⟨hn, h⟩ := guardO_some h
          obtain ⟨m, hm, h⟩ := Option.bind_eq_some_iff.mp h
          obtain ⟨A1, hA, h⟩ := Option.bind_eq_some_iff.mp h
          obtain ⟨As, hAs, rfl⟩ := Option.map_eq_some_iff.mp h
          obtain ⟨s1, s2, s3⟩ := ih.es X sc _ _ F hAs
          exact snd_met hg.1 hg.2 (of_decide_eq_true hn) hm s2 s3 (ih.e X sc _ _ F hA) s1
      · obtain ⟨hg, h⟩ := guardO_some h
        simp only [Bool.and_eq_true, Bool.not_eq_true', List.isEmpty_eq_false_iff] at hg
        obtain ⟨l, hl, h⟩ := Option.bind_eq_some_iff.mp h
        obtain ⟨h15, h⟩ := guardO_some h
        obtain ⟨A1, hA, rfl⟩ := Option.map_eq_some_iff.mp h
        exact snd_dgl F hg.1 hl hg.2 (of_decide_eq_true h15) (ih.e X sc _ _ F hA)
      · obtain ⟨A1, hA, rfl⟩ := Option.map_eq_some_iff.mp h
        exact snd_revs (ih.e X sc _ _ F hA)
      · obtain ⟨A1, hA, h⟩ := Option.bind_eq_some_iff.mp h
        obtain ⟨L1, hL, h⟩ := Option.bind_eq_some_iff.mp h
        obtain ⟨U1, hU, rfl⟩ := Option.map_eq_some_iff.mp h
        exact snd_slc (ih.e X sc _ _ F hA) (ih.o X sc _ _ F hL) (ih.o X sc _ _ F hU)
      · obtain ⟨hs, h⟩ := guardO_some h
        split at h
        · next g hg =>
          obtain ⟨x, p2, he, h1, h2, h3⟩ := dicOf_eq hg
          obtain ⟨B1, hB, rfl⟩ := Option.map_eq_some_iff.mp h
          rw [he]
          exact snd_gdict F (by simpa using hs) h1 h2 h3 (ih.e X sc _ _ F hB)
        obtain ⟨A1, hA, h⟩ := Option.bind_eq_some_iff.mp h
        obtain ⟨B1, hB, rfl⟩ := Option.map_eq_some_iff.mp h
        exact snd_idx F (by simpa using hs) (ih.e X sc _ _ F hA) (ih.e X sc _ _ F hB)
      · obtain ⟨A1, hA, rfl⟩ := Option.map_eq_some_iff.mp h
        exact snd_tup (ih.es X sc _ _ F hA).1
      · obtain ⟨A1, hA, rfl⟩ := Option.map_eq_some_iff.mp h
        exact snd_fmt (ih.e X sc _ _ F hA)
      · exact snd_fs1 (ih.e X sc _ _ F h)
      · obtain ⟨A1, hA, rfl⟩ := Option.map_eq_some_iff.mp h
        exact snd_fs (ih.l X sc _ _ F hA)
      · obtain ⟨A1, hA, rfl⟩ := Option.map_eq_some_iff.mp h
        exact snd_lst (ih.es X sc _ _ F hA).1
      · cases h; exact snd_dnewK
      · obtain ⟨l, hl, h⟩ := Option.bind_eq_some_iff.mp h
        obtain ⟨hg, h⟩ := guardO_some h
        simp only [Bool.and_eq_true, decide_eq_true_eq] at hg
        obtain ⟨A1, hA, rfl⟩ := Option.map_eq_some_iff.mp h
        exact snd_disp hl hg.1 hg.2 (ih.en X sc _ _ F hA).1
      · rename_i elt tg iter ifs scope pos
        obtain ⟨hb, h⟩ := guardO_some h
        simp only [Bool.and_eq_true, Bool.not_eq_true'] at hb
        obtain ⟨t, ht, h⟩ := Option.bind_eq_some_iff.mp h
        obtain ⟨hsl, h⟩ := guardO_some h
        obtain ⟨it, hit, h⟩ := Option.bind_eq_some_iff.mp h
        obtain ⟨c, hc, h⟩ := Option.bind_eq_some_iff.mp h
        obtain ⟨A1, hA, rfl⟩ := Option.map_eq_some_iff.mp h
        have ok := blkOk_by hb.1
        refine snd_comp F ok hb.2 ht (fun i hi => of_decide_eq_true (List.all_eq_true.mp hsl i hi)) (ih.i X sc _ _ _ F hit) ?_ fun s H C' cl fp => ih.e _ _ _ _ (F.blk ok s H C' cl fp) hA
        split at hc
        · cases hc; exact .inl ⟨rfl, rfl⟩
        · exact .inr ⟨_, rfl, fun s H C' cl fp => ih.t _ _ _ _ (F.blk ok s H C' cl fp) hc⟩
        · cases hc
      · cases h
    case and =>
      intro X sc es pos A F h
      unfold resAnd at h
      split at h
      · exact pe_or1 (ih.e X sc _ _ F h)
      · obtain ⟨A1, hA, h⟩ := Option.bind_eq_some_iff.mp h
        obtain ⟨B1, hB, rfl⟩ := Option.map_eq_some_iff.mp h
        exact snd_and (ih.e X sc _ _ F hA) (ih.and X sc _ _ _ F hB)
      · cases h
    case or =>
      intro X sc es pos A F h
      unfold resOr at h
      split at h
      · exact pe_or1 (ih.e X sc _ _ F h)
      · obtain ⟨A1, hA, h⟩ := Option.bind_eq_some_iff.mp h
        obtain ⟨B1, hB, rfl⟩ := Option.map_eq_some_iff.mp h
        exact snd_or (ih.e X sc _ _ F hA) (ih.or X sc _ _ _ F hB)
      · cases h
    case es =>
      intro X sc es A F h
      unfold resEs at h
      split at h
      · cases h; exact ⟨sndA_nil, rfl, fun _ => rfl⟩
      · obtain ⟨hs, h⟩ := guardO_some h
        obtain ⟨A1, hA, h⟩ := Option.bind_eq_some_iff.mp h
        obtain ⟨B1, hB, rfl⟩ := Option.map_eq_some_iff.mp h
        obtain ⟨s1, s2, _⟩ := ih.es X sc _ _ F hB
        refine ⟨sndA_cons (by simpa using hs) (ih.e X sc _ _ F hA) s1, ?_, fun z => by cases z⟩
        rw [List.all_cons, hs, s2]; rfl
    case l =>
      intro X sc es A F h
      unfold resEs at h
      split at h
      · cases h; exact .nil
      · obtain ⟨hs, h⟩ := guardO_some h
        obtain ⟨A1, hA, h⟩ := Option.bind_eq_some_iff.mp h
        obtain ⟨B1, hB, rfl⟩ := Option.map_eq_some_iff.mp h
        exact .cons (ih.e X sc _ _ F hA) (ih.l X sc _ _ F hB)
    case o =>
      intro X sc o A F h
      unfold resO at h
      split at h
      · cases h; exact sndO_none
      · obtain ⟨A1, hA, rfl⟩ := Option.map_eq_some_iff.mp h
        exact sndO_some (ih.e X sc _ _ F hA)
    case t =>
      intro X sc e A F h
      unfold resT at h
      split at h
      · obtain ⟨A1, hA, rfl⟩ := Option.map_eq_some_iff.mp h
        exact sndT_not (ih.t X sc _ _ F hA)
      · exact sndT_w (ih.tand X sc _ _ _ F h)
      · exact sndT_w (ih.tor X sc _ _ _ F h)
      · split at h
        · next g hg =>
          obtain ⟨x, p2, he, h1, h2, h3⟩ := dicOf_eq hg
          obtain ⟨neg, hn, h⟩ := Option.bind_eq_some_iff.mp h
          obtain ⟨A1, hA, rfl⟩ := Option.map_eq_some_iff.mp h
          rw [he, inOp_eq hn]
          exact sndT_gin F h1 h2 h3 (ih.e X sc _ _ F hA)
        obtain ⟨hs, h⟩ := guardO_some h
        obtain ⟨A1, hA, h⟩ := Option.bind_eq_some_iff.mp h
        obtain ⟨B1, hB, rfl⟩ := Option.map_eq_some_iff.mp h
        exact sndT_cmp F (by simpa using hs) (ih.e X sc _ _ F hA) (ih.e X sc _ _ F hB)
      · obtain ⟨hs, h⟩ := guardO_some h
        obtain ⟨A1, hA, h⟩ := Option.bind_eq_some_iff.mp h
        obtain ⟨B1, hB, h⟩ := Option.bind_eq_some_iff.mp h
        obtain ⟨C1, hC, rfl⟩ := Option.map_eq_some_iff.mp h
        exact sndT_chn F (by simp at hs; exact hs.2) (ih.e X sc _ _ F hA) (ih.e X sc _ _ F hB) (ih.e X sc _ _ F hC)
      · obtain ⟨hp, h⟩ := guardO_some h
        obtain ⟨A1, hA, rfl⟩ := Option.map_eq_some_iff.mp h
        exact sndT_val hp (ih.e X sc _ _ F hA)
    case tand =>
      intro X sc es pos A F h
      unfold resTAnd at h
      split at h
      · exact sndW_and1 (ih.t X sc _ _ F h)
      · obtain ⟨A1, hA, h⟩ := Option.bind_eq_some_iff.mp h
        obtain ⟨B1, hB, rfl⟩ := Option.map_eq_some_iff.mp h
        exact sndW_and (ih.t X sc _ _ F hA) (ih.tand X sc _ _ _ F hB)
      · cases h
    case tor =>
      intro X sc es pos A F h
      unfold resTOr at h
      split at h
      · exact sndW_or1 (ih.t X sc _ _ F h)
      · obtain ⟨A1, hA, h⟩ := Option.bind_eq_some_iff.mp h
        obtain ⟨B1, hB, rfl⟩ := Option.map_eq_some_iff.mp h
        exact sndW_or (ih.t X sc _ _ F hA) (ih.tor X sc _ _ _ F hB)
      · cases h
    case i =>
      intro X sc tg e A F h
      unfold resI at h
      split at h
      · split at h
        · rename_i hr
          subst hr
          obtain ⟨hg, h⟩ := guardO_some h
          split at h
          · obtain ⟨hs, h⟩ := guardO_some h
            obtain ⟨A1, hA, rfl⟩ := Option.map_eq_some_iff.mp h
            exact sndI_rng1 F hg (by simpa using hs) (ih.e X sc _ _ F hA)
          · obtain ⟨hs, h⟩ := guardO_some h
            obtain ⟨A1, hA, h⟩ := Option.bind_eq_some_iff.mp h
            obtain ⟨B1, hB, rfl⟩ := Option.map_eq_some_iff.mp h
            simp only [Bool.and_eq_true, Bool.not_eq_true'] at hs
            exact sndI_rng2 F hg hs.1 hs.2 (ih.e X sc _ _ F hA) (ih.e X sc _ _ F hB)
          · obtain ⟨hs, h⟩ := guardO_some h
            obtain ⟨A1, hA, h⟩ := Option.bind_eq_some_iff.mp h
            obtain ⟨B1, hB, h⟩ := Option.bind_eq_some_iff.mp h
            obtain ⟨C1, hC, rfl⟩ := Option.map_eq_some_iff.mp h
            simp only [Bool.and_eq_true, Bool.not_eq_true'] at hs
            exact sndI_rng3 F hg hs.1.1 hs.1.2 hs.2 (ih.e X sc _ _ F hA) (ih.e X sc _ _ F hB) (ih.e X sc _ _ F hC)
          · cases h
        · split at h
          · rename_i hr
            subst hr
            obtain ⟨hg, h⟩ := guardO_some h
            simp only [Bool.and_eq_true] at hg
            split at h
            · obtain ⟨hs, h⟩ := guardO_some h
              obtain ⟨A1, hA, rfl⟩ := Option.map_eq_some_iff.mp h
              exact sndI_enum F hg.1 hg.2 (by simpa using hs) (ih.e X sc _ _ F hA)
            · cases h
          · obtain ⟨A1, hA, rfl⟩ := Option.map_eq_some_iff.mp h
            exact sndI_seq (ih.e X sc _ _ F hA)
      · obtain ⟨hs, h⟩ := guardO_some h
        obtain ⟨A1, hA, rfl⟩ := Option.map_eq_some_iff.mp h
        exact sndI_seq (ih.e X sc _ _ F hA)
    case en =>
      intro X sc es A F h
      unfold resEn at h
      split at h
      · cases h; exact ⟨.nil, sndA_nil, rfl⟩
      · obtain ⟨A1, hA, h⟩ := Option.bind_eq_some_iff.mp h
        obtain ⟨B1, hB, rfl⟩ := Option.map_eq_some_iff.mp h
        have q := snd_newL (sndN_lst (pos := by assumption) (ih.es X sc _ _ F hA).1)
        obtain ⟨r1, r2, r3⟩ := ih.en X sc _ _ F hB
        exact ⟨.cons q r1, sndA_cons rfl q r2, by rw [List.all_cons, r3]; rfl⟩
      · obtain ⟨hs, h⟩ := guardO_some h
        obtain ⟨A1, hA, h⟩ := Option.bind_eq_some_iff.mp h
        obtain ⟨B1, hB, rfl⟩ := Option.map_eq_some_iff.mp h
        have q := ih.e X sc _ _ F hA
        obtain ⟨r1, r2, r3⟩ := ih.en X sc _ _ F hB
        exact ⟨.cons q r1, sndA_cons (by simpa using hs) q r2, by rw [List.all_cons, r3, hs]; rfl⟩
end PyI
/-! A12: statements. -/
namespace PyI
open PySem L2
def isComp : Expr → Bool
  | .ListComp _ _ _ _ => true
  | .SetComp _ _ _ _ => true
  | .DictComp _ _ _ _ _ => true
  | _ => false
def isTup : Expr → Bool
  | .Tuple _ _ _ => true
  | _ => false
theorem sw_plain {e : Expr} {t : Option Expr} {l : Nat} {env : Env} (h : isComp e = false) : swapsWith e t l env = pure false := by
  cases e <;> first | rfl | (simp [isComp] at h)
theorem sw_sole {e t : Expr} {l : Nat} {env : Env} (h : isComp e = false) : swapsWithSole [t] e l env = pure false := by
  unfold swapsWithSole
  exact sw_plain h
theorem sw_stores {ts : List Expr} {e : Expr} {env : Env} (h : isTup e = false) : swappedStores ts e env = pure none := by
  unfold swappedStores
  split
  · rename_i q
    exfalso
    revert q
    split
    · simp [isTup] at h
    · simp [isTup] at h
    · intro q; cases q
  · rfl
def swB (sc scope : Scope) (x : Str) (px pos : Pos) : Bool := (sc.names.lookup x == some .local) && (px.line == pos.line) && !(scope.names.any fun (n, k) => n == x && (k == .local || k == .cell))
theorem sw_comp {elt : Expr} {gs : List Comprehension} {scope sc : Scope} {x : Str} {px pos : Pos} {l : Nat} {env : Env} (hk : env.scope.kind = .function) (hsc : env.scope = sc) :
    swapsWith (.ListComp elt gs scope pos) (some (.Name x px)) l env = pure (swB sc scope x px pos) := by
  have hb : env.blockKind = .function := by unfold Env.blockKind; rw [hk]; rfl
  unfold swapsWith swB
  subst hsc
  simp only [hb, Expr.pos]
  rfl
/-- what follows of a block's end -/
def OkS (K : PySem.W.Frag) (ct : CTab) (M : AM) (H : Hp) (o : Out) (D : Ends) (W : WX) : Prop := match o with
  | .nx ρ μ => ∀ σ' H' M', Evo M H M' H' → RelH K ct H' μ M' → RelE K H' M' σ' ρ → D.nx σ' H'
  | .br ρ μ => ∀ σ' H' M', Evo M H M' H' → RelH K ct H' μ M' → RelE K H' M' σ' ρ → D.bk σ' H'
  | .ct ρ μ => ∀ σ' H' M', Evo M H M' H' → RelH K ct H' μ M' → RelE K H' M' σ' ρ → D.ct σ' H'
  | .rt d μ => ∀ v H' M', Evo M H M' H' → RelH K ct H' μ M' → Rep K H' M' v d → D.rt v H'
  | .er c fs ρ μ => ∀ cls d σ' H' M', Evo M H M' H' → RelH K ct H' μ M' → RelE K H' M' σ' ρ → ErrRep K ct H' M' c fs cls d → W cls d σ' H'
  | .stuck => False
section
variable {K : PySem.W.Frag} {ct : CTab} {M M1 : AM} {H H1 : Hp} {o : Out} {D D' : Ends} {W : WX} {μ : Mu} {ρ : Rho} {σ : St}
theorem OkS.evo (e : Evo M H M1 H1) (h : OkS K ct M H o D W) : OkS K ct M1 H1 o D W := by
  cases o with
  | nx ρ μ => exact fun σ' H' M' e' => h σ' H' M' (e.trans e')
  | br ρ μ => exact fun σ' H' M' e' => h σ' H' M' (e.trans e')
  | ct ρ μ => exact fun σ' H' M' e' => h σ' H' M' (e.trans e')
  | rt d μ => exact fun v H' M' e' => h v H' M' (e.trans e')
  | er c fs ρ μ => exact fun cls d σ' H' M' e' => h cls d σ' H' M' (e.trans e')
  | stuck => exact h
theorem OkS.step {α β : Type} {R : Hp → AM → β → α → Prop} {r : Res α} {f : α → Mu → Out} {Q : β → Hp → Prop} (h : OkS K ct M H (r.then ρ f) D W) (E : RelE K H M σ ρ)
    (k : ∀ a μ1 v H1 M1, Evo M H M1 H1 → RelH K ct H1 μ1 M1 → R H1 M1 v a → OkS K ct M1 H1 (f a μ1) D W → Q v H1) : Ok K ct R M H r Q (fun c d H' => W c d σ H') := by
  cases r with
  | ok a μ' => exact fun v H' M' e R1 r1 => k a μ' v H' M' e R1 r1 (OkS.evo e h)
  | err c fs μ' => exact fun cls d H' M' e R1 r1 => h cls d σ H' M' e R1 (E.evo e) r1
  | stuck => exact h
theorem OkS.stepE {α β : Type} {R : Hp → AM → β → α → Prop} {r : Res α} {f : α → Mu → Out} {Q : β → Hp → Prop} (h : OkS K ct M H (r.then ρ f) D W) (E : RelE K H M σ ρ)
    (k : ∀ a μ1 v H1 M1, r = .ok a μ1 → Evo M H M1 H1 → RelH K ct H1 μ1 M1 → R H1 M1 v a → OkS K ct M1 H1 (f a μ1) D W → Q v H1) : Ok K ct R M H r Q (fun c d H' => W c d σ H') := by
  cases r with
  | ok a μ' => exact fun v H' M' e R1 r1 => k a μ' v H' M' rfl e R1 r1 (OkS.evo e h)
  | err c fs μ' => exact fun cls d H' M' e R1 r1 => h cls d σ H' M' e R1 (E.evo e) r1
  | stuck => exact h
theorem OkS.nxt (h : OkS K ct M H (.nx ρ μ) D W) (R : RelH K ct H μ M) (E : RelE K H M σ ρ) : D.nx σ H := h σ H M (Evo.refl M H) R E
/-- another end -/
theorem OkS.seq {f : Rho → Mu → Out} (h : OkS K ct M H (o.next f) D W) (h1 : D'.rt = D.rt) (h2 : D'.bk = D.bk) (h3 : D'.ct = D.ct)
    (k : ∀ ρ μ σ' H' M', Evo M H M' H' → RelH K ct H' μ M' → RelE K H' M' σ' ρ → OkS K ct M' H' (f ρ μ) D W → D'.nx σ' H') : OkS K ct M H o D' W := by
  cases o with
  | nx ρ μ => exact fun σ' H' M' e R E => k ρ μ σ' H' M' e R E (OkS.evo e h)
  | br ρ μ => exact fun σ' H' M' e R E => by rw [h2]; exact h σ' H' M' e R E
  | ct ρ μ => exact fun σ' H' M' e R E => by rw [h3]; exact h σ' H' M' e R E
  | rt d μ => exact fun v H' M' e R r => by rw [h1]; exact h v H' M' e R r
  | er c fs ρ μ => exact h
  | stuck => exact h
end
def wS (τ : Bool) (X : Cx) (st : Stmt) : TS := fun D σ H => ∀ pins s, (τ = true → 1 ≤ s.toks) → Inv X pins σ H s → wpAny (model X.prog X.w) X.A (exec st X.env) (SP X pins D) X.xe s
def wB (τ : Bool) (X : Cx) (st : List Stmt) : TS := fun D σ H => ∀ pins s, (τ = true → 1 ≤ s.toks) → Inv X pins σ H s → wpAny (model X.prog X.w) X.A (execs st X.env) (SP X pins D) X.xe s
section
variable {τ : Bool} {X : Cx} {st : Stmt} {sts : List Stmt} {D : Ends} {σ : St} {H : Hp}
theorem ws {t : TS} (p : PS X st t) (h : t D σ H) : wS τ X st D σ H := fun pins s _ I => p.run pins s σ H D I h
end
structure FrS (X : Cx) (ct : CTab) (tb : Tb) (Γ : G) (N : List Str) (sc : Scope) (loc : List Str) : Prop where
  f : Fr X ct tb Γ N sc
  l : FnLoc X sc loc
  po : PassesOwn (model X.prog X.w) X.A X.env X.xe
  hs : X.stack = X.env :: X.outer
  hf : X.env.frame = some X.env.locals
def SndS (τ : Bool) (X : Cx) (ct : CTab) (Γ : G) (st : Stmt) (A : S) : Prop := ∀ (W : WX) (ρ : Rho) (μ : Mu) (σ : St) (H : Hp) (M : AM) (D : Ends), Takes X W → RelE X.K H M σ ρ → RelH X.K ct H μ M →
  OkS X.K ct M H (runS Γ A ρ μ) D W → wS τ X st D σ H
def SndBk (τ : Bool) (X : Cx) (ct : CTab) (Γ : G) (st : List Stmt) (A : B) : Prop := ∀ (W : WX) (ρ : Rho) (μ : Mu) (σ : St) (H : Hp) (M : AM) (D : Ends), Takes X W → RelE X.K H M σ ρ → RelH X.K ct H μ M →
  OkS X.K ct M H (runB Γ A ρ μ) D W → wB τ X st D σ H
section
variable {τ : Bool} {X : Cx} {ct : CTab} {Γ : G} {N loc : List Str} {sc : Scope} {tb : Tb} {e a b o i v tg : Expr} {A B' C' : E} {t : T} {pos px : Pos} {x : Str} {k : Nat} {st : Stmt} {sts body : List Stmt} {SA : S} {BA BB : B}
theorem sndS_bad : SndS τ X ct Γ st .bad := by
  intro W ρ μ σ H M D tk E R h
  unfold runS at h
  exact h.elim
/-- x = e -/
theorem sndS_set (F : FrS X ct tb Γ N sc loc) (hx : x ∈ loc) (hi : N[k]? = some x) (hc : isComp e = false) (he : Snd X ct Γ e A) : SndS τ X ct Γ (.Assign [.Name x px] e pos) (.set (.nm k) A) := by
  intro W ρ μ σ H M D tk E R h
  unfold runS at h
  refine ws (ps_set (by rw [F.f.hN]; exact F.f.nd) (by rw [F.f.hN]; exact hi) (by rw [F.f.hsc]; exact (F.l x hx).1) pE (sw_plain hc) (by rw [F.f.hsc]; exact (F.l x hx).2)) ?_
  refine he W ρ μ σ H M _ tk E R (h.step E fun d μ1 v H1 M1 e1 R1 r1 h1 => ?_)
  exact h1.nxt R1 ((E.evo e1).set r1 k)
/-- a, b = e -/
theorem sndS_tup {es : List Expr} {kk : Nat} {l : List Nat} (F : FrS X ct tb Γ N sc loc) (hl : resNames N loc es = some l) (hc : isComp e = false) (ht : isTup e = false) (he : Snd X ct Γ e A) : SndS τ X ct Γ (.Assign [.Tuple es kk px] e pos) (.set (.tp l) A) := by
  intro W ρ μ σ H M D tk E R h
  unfold runS at h
  have pg : PG X (.Tuple es kk px) (gOf X.K (.tp l)) := tg_ok F.f F.l (by show Option.map Tg.tp (resNames N loc es) = _; rw [hl]; rfl)
  refine ws (ps_asg pE pg (sw_sole hc) (sw_stores ht)) ?_
  refine he W ρ μ σ H M _ tk E R (h.step E fun d μ1 v H1 M1 e1 R1 r1 h1 => ?_)
  split at h1
  · rename_i ρ' ha
    exact assign_ok r1 (E.evo e1) ha fun σ' E' _ => h1.nxt R1 E'
  · exact h1.elim
/-- o[i] = v -/
theorem sndS_setIx (F : FrS X ct tb Γ N sc loc) (hs : isSlc i = false) (hc : isComp v = false) (hv : Snd X ct Γ v C') (ho : Snd X ct Γ o A) (hi : Snd X ct Γ i B') : SndS τ X ct Γ (.Assign [.Subscript o i px] v pos) (.setIx A B' C') := by
  intro W ρ μ σ H M D tk E R h
  unfold runS at h
  by_cases hP : ∃ x μ1 y μ2 z μ3 q, evalE Γ C' ρ μ = .ok x μ1 ∧ evalE Γ A ρ μ1 = .ok y μ2 ∧ evalE Γ B' ρ μ2 = .ok z μ3 ∧ putDic μ3 y z x = some q
  · refine ws (ps_dput (by have := F.f.g.units; omega) pE pE pE (sw_plain hc)) ?_
    refine hv W ρ μ σ H M _ tk E R (h.stepE E fun d μ1 vv H1 M1 q1 e1 R1 r1 h1 => ?_)
    have E1 := E.evo e1
    refine ho W ρ μ1 σ H1 M1 _ tk E1 R1 (h1.stepE E1 fun d2 μ2 ov H2 M2 q2 e2 R2 r2 h2 => ?_)
    have E2 := E1.evo e2
    refine hi W ρ μ2 σ H2 M2 _ tk E2 R2 (h2.stepE E2 fun d3 μ3 iv H3 M3 q3 e3 R3 r3 h3 => ?_)
    have E3 := E2.evo e3
    obtain ⟨x, n1, y, n2, z, n3, ⟨n, μ'⟩, p1, p2, p3, p4⟩ := hP
    rw [q1] at p1; cases p1
    rw [q2] at p2; cases p2
    rw [q3] at p3; cases p3
    unfold putA at h3
    rw [p4] at h3
    simp only at h3
    by_cases hn : n < 16777216
    · rw [needs_pos hn] at h3
      obtain ⟨ad, H4, rfl, dp, ev, R4⟩ := putDic_ok R3 (r2.evo e3) r3 ((r1.evo e2).evo e3) p4 hn
      exact ⟨ad, H4, rfl, dp, (h3 : OkS X.K ct M3 H3 (.nx ρ μ') D W) σ H4 M3 ev R4 (E3.evo ev)⟩
    · unfold needs at h3
      rw [if_neg hn] at h3
      exact (h3 : False).elim
  have pg : PG X (.Subscript o i px) (gSub (wE X o) (wE X i) rSetL) := pg_sub pE pE set_list (fun v => by cases i <;> first | rfl | skip; rename_i s _; cases s <;> first | rfl | (simp [isSlc] at hs))
  have hw : swappedStores [.Subscript o i px] v X.env = pure none := by
    unfold swappedStores
    split
    · rename_i q; simp at q
    · rfl
  refine ws (ps_asg pE pg (sw_sole hc) hw) ?_
  refine hv W ρ μ σ H M _ tk E R (h.stepE E fun d μ1 vv H1 M1 q1 e1 R1 r1 h1 => ?_)
  have E1 := E.evo e1
  refine ho W ρ μ1 σ H1 M1 _ tk E1 R1 (h1.stepE E1 fun d2 μ2 ov H2 M2 q2 e2 R2 r2 h2 => ?_)
  have E2 := E1.evo e2
  refine hi W ρ μ2 σ H2 M2 _ tk E2 R2 (h2.stepE E2 fun d3 μ3 iv H3 M3 q3 e3 R3 r3 h3 => ?_)
  have E3 := E2.evo e3
  unfold putA at h3
  split at h3
  · rename_i n μ' hq
    exact (hP ⟨_, _, _, _, _, _, _, q1, q2, q3, hq⟩).elim
  unfold setIxD at h3
  split at h3
  · rename_i n kk
    cases r3
    split at h3
    · rename_i l hl
      split at h3
      · rename_i j hj
        have r2' := r2.evo e3
        cases r2' with
        | ref ha =>
          obtain ⟨xs, hh, rx⟩ := R3.lst hl ha
          have em : Evo M3 H3 M3 (upd H3 _ (.lst (xs.set j vv))) := Evo.mut (List.mem_of_getElem? ha)
          refine ⟨_, xs, _, j, rfl, rfl, hh, by rw [rx.length]; exact hj, ?_⟩
          have r1' := (r1.evo e2).evo e3
          exact (h3 : OkS X.K ct M3 H3 (.nx ρ _) D W) σ _ M3 em (R3.mut ha ⟨_, upd_same, Reps.set (r1'.evo em) j (rx.evo em)⟩) (E3.evo em)
      · exact (h3 : False).elim
    · exact (h3 : False).elim
  · exact (h3 : False).elim
/-- o[k] += e -/
theorem sndS_daug (F : FrS X ct tb Γ N sc loc) (hs : isSlc i = false) (ho : Snd X ct Γ o A) (hi : Snd X ct Γ i B') (hv : Snd X ct Γ v C') : SndS τ X ct Γ (.AugAssign (.Subscript o i px) .Add v pos) (.daug A B' .add C') := by
  intro W ρ μ σ H M D tk E R h
  unfold runS at h
  refine ws (ps_daug (by have := F.f.g.units; omega) pE pE pE ip_add (fun ov iv new => by cases i <;> first | rfl | skip; rename_i s _; cases s <;> first | rfl | (simp [isSlc] at hs))) ?_
  refine ho W ρ μ σ H M _ tk E R (h.step E fun d μ1 ov H1 M1 e1 R1 r1 h1 => ?_)
  have E1 := E.evo e1
  refine hi W ρ μ1 σ H1 M1 _ tk E1 R1 (h1.step E1 fun d2 μ2 iv H2 M2 e2 R2 r2 h2 => ?_)
  have E2 := E1.evo e2
  split at h2
  · rename_i x hg
    obtain ⟨ad, ov', rfl, g, ro⟩ := getDic_ok R2 (r1.evo e2) r2 hg
    obtain ⟨vv, rfl, rv⟩ := ro
    refine ⟨ad, vv, rfl, g, ?_⟩
    refine hv W ρ μ2 σ H2 M2 _ tk E2 R2 (h2.step E2 fun d3 μ3 yv H3 M3 e3 R3 r3 h3 => ?_)
    have E3 := E2.evo e3
    cases rv
    cases r3 with
    | int j =>
      refine ⟨x, j, rfl, rfl, ?_⟩
      have h3 : OkS X.K ct M3 H3 (match putDic μ3 d d2 (.int (x + j)) with
        | some (n, μ') => if n < 16777216 then .nx ρ μ' else .stuck
        | none => .stuck) D W := h3
      split at h3
      · rename_i n μ' hq
        split at h3
        · rename_i hn
          obtain ⟨ad', H4, e, dp, ev, R4⟩ := putDic_ok R3 ((r1.evo e2).evo e3) (r2.evo e3) (.int (x + j)) hq hn
          cases e
          exact ⟨H4, dp, h3 σ H4 M3 ev R4 (E3.evo ev)⟩
        · exact (h3 : False).elim
      · exact (h3 : False).elim
    | _ => exact (h3 : False).elim
  · exact (h2 : False).elim
/-- a tuple of values that is no constant is stored name by name -/
def swVals (vs : List Expr) : Bool := !(vs.any fun | .Starred .. => true | _ => false) && !vs.all (foldedForSure 8) && !vs.all (constantsAlone 8)
/-- a, b = x, y of plain names in one row -/
def swTwo (sc : Scope) (x y : Str) (px py : Pos) (vs : List Expr) : Bool := (sc.names.lookup x == some .local) && (sc.names.lookup y == some .local) && (py.line == px.line) && !(x == y) && decide (vs.length = 2) && swVals vs
theorem sw_fold {ts : List Expr} {vs : List Expr} {k2 : Nat} {pt2 : Pos} {env : Env} (h : vs.all (foldedForSure 8) = true) : swappedStores ts (.Tuple vs k2 pt2) env = pure none := by
  unfold swappedStores
  split
  · rename_i ts' vs' heq
    have hv : vs' = vs := by
      split at heq
      · rename_i q; cases q; cases heq; rfl
      · rename_i q; cases q; cases heq; rfl
      · cases heq
    subst hv
    simp only [h, if_true]
    split
    · rfl
    · split
      · rfl
      · split
        · rfl
        · rfl
  · rfl
theorem sw_two {sc : Scope} {env : Env} {x y : Str} {px py pt pt2 : Pos} {kt k2 : Nat} {vs : List Expr} (hk : env.scope.kind = .function) (hsc : env.scope = sc) (h : swTwo sc x y px py vs = true) : swappedStores [.Tuple [.Name x px, .Name y py] kt pt] (.Tuple vs k2 pt2) env = pure (some [x, y]) := by
  unfold swTwo swVals at h
  simp only [Bool.and_eq_true, Bool.not_eq_true', decide_eq_true_eq, beq_iff_eq] at h
  obtain ⟨⟨⟨⟨⟨h1, h2⟩, h3⟩, h4⟩, h5⟩, ⟨h6, h7⟩, h8⟩ := h
  have hb : env.blockKind = .function := by unfold Env.blockKind; rw [hk]; rfl
  have k1 : (env.kindOf x == some NameKind.local) = true := by
    show (env.scope.names.lookup x == some NameKind.local) = true
    rw [hsc, h1]; rfl
  have k2 : (env.kindOf y == some NameKind.local) = true := by
    show (env.scope.names.lookup y == some NameKind.local) = true
    rw [hsc, h2]; rfl
  have h4' : (y == x) = false := by
    rw [beq_eq_false_iff_ne] at h4 ⊢
    exact fun z => h4 z.symm
  unfold swappedStores
  simp only [h6, h7, h8, hb, h5, Bool.false_eq_true, if_false, List.filterMap_cons, List.filterMap_nil, k1, k2, Bool.true_and, List.length_cons, List.length_nil, List.head?_cons, Option.map_some, Option.getD_some, Expr.pos, h3, beq_self_eq_true, if_true]
  simp [List.eraseDups_cons, h4', h4]
  intro z hz q
  exfalso
  rw [← Bool.not_eq_true, List.any_eq_true] at h6
  refine h6 ⟨z, hz, ?_⟩
  cases z <;> first | rfl | (exact q) | (cases q)
/-- a, b = constants: as one tuple, taken apart -/
theorem sndS_tupF {es vs : List Expr} {kk k2 : Nat} {l : List Nat} {pt2 : Pos} (F : FrS X ct tb Γ N sc loc) (hl : resNames N loc es = some l) (hf : vs.all (foldedForSure 8) = true) (he : Snd X ct Γ (.Tuple vs k2 pt2) A) : SndS τ X ct Γ (.Assign [.Tuple es kk px] (.Tuple vs k2 pt2) pos) (.set (.tp l) A) := by
  intro W ρ μ σ H M D tk E R h
  unfold runS at h
  have pg : PG X (.Tuple es kk px) (gOf X.K (.tp l)) := tg_ok F.f F.l (by show Option.map Tg.tp (resNames N loc es) = _; rw [hl]; rfl)
  refine ws (ps_asg pE pg (sw_sole rfl) (sw_fold hf)) ?_
  refine he W ρ μ σ H M _ tk E R (h.step E fun d μ1 v H1 M1 e1 R1 r1 h1 => ?_)
  split at h1
  · rename_i ρ' ha
    exact assign_ok r1 (E.evo e1) ha fun σ' E' _ => h1.nxt R1 E'
  · exact h1.elim
theorem sndS_par2 {x y : Str} {a b : Expr} {As : Es} {px py pt pt2 : Pos} {kt k2 i j : Nat} (F : FrS X ct tb Γ N sc loc) (hi : N[i]? = some x) (hj : N[j]? = some y) (hsw : swTwo sc x y px py [a, b] = true) (ha : SndA X ct Γ [a, b] As) :
    SndS τ X ct Γ (.Assign [.Tuple [.Name x px, .Name y py] kt pt] (.Tuple [a, b] k2 pt2) pos) (.par2 i j As) := by
  intro W ρ μ σ H M D tk E R h
  unfold runS at h
  have h0 := hsw
  unfold swTwo at h0
  simp only [Bool.and_eq_true, Bool.not_eq_true', decide_eq_true_eq, beq_iff_eq] at h0
  have hne : i ≠ j := fun z => by
    rw [z, hj] at hi
    have e := Option.some.inj hi
    rw [e] at h0
    have := h0.1.1.2
    simp at this
  refine ws (ps_par F.f.calm (by rw [F.f.hN]; exact F.f.nd) (by rw [F.f.hN]; exact hi) (by rw [F.f.hN]; exact hj) hne (by rw [F.f.hsc]; exact h0.1.1.1.1.1) (by rw [F.f.hsc]; exact h0.1.1.1.1.2) pA (sw_two (by rw [F.f.hsc]; exact F.f.kindF) F.f.hsc hsw) (sw_sole rfl)) ?_
  refine ha W ρ μ σ H M _ tk E R (h.step E fun ds μ1 vs H1 M1 e1 R1 r1 h1 => ?_)
  split at h1
  · rename_i x y
    obtain ⟨v, w, rfl, rv, rw'⟩ := reps2 r1
    exact ⟨v, w, rfl, h1.nxt R1 (((E.evo e1).set rv i).set rw' j)⟩
  · exact h1.elim
end
section
variable {τ : Bool} {X : Cx} {ct : CTab} {Γ : G} {N loc : List Str} {sc : Scope} {tb : Tb} {e a b o i v tg : Expr} {A B' C' : E} {t : T} {pos px : Pos} {x : Str} {k : Nat} {st : Stmt} {sts body : List Stmt} {SA : S} {BA BB : B}
theorem sndS_expr (hc : isComp e = false) (he : Snd X ct Γ e A) : SndS τ X ct Γ (.Expr e pos) (.expr A) := by
  intro W ρ μ σ H M D tk E R h
  unfold runS at h
  refine ws (ps_expr pE (sw_plain hc)) ?_
  refine he W ρ μ σ H M _ tk E R (h.step E fun d μ1 v H1 M1 e1 R1 r1 h1 => ?_)
  exact h1.nxt R1 (E.evo e1)
theorem sndS_ret (he : Snd X ct Γ e A) : SndS τ X ct Γ (.Return (some e) pos) (.ret A) := by
  intro W ρ μ σ H M D tk E R h
  unfold runS at h
  refine ws (ps_ret pE) ?_
  refine he W ρ μ σ H M _ tk E R (h.step E fun d μ1 v H1 M1 e1 R1 r1 h1 => ?_)
  exact h1 v H1 M1 (Evo.refl _ _) R1 r1
theorem sndS_retN : SndS τ X ct Γ (.Return none pos) .retN := by
  intro W ρ μ σ H M D tk E R h
  unfold runS at h
  exact ws ps_retN (h .non H M (Evo.refl _ _) R .non)
theorem sndS_pass : SndS τ X ct Γ (.Pass pos) .pass := by
  intro W ρ μ σ H M D tk E R h
  unfold runS at h
  exact ws ps_pass (h.nxt R E)
theorem sndS_brk : SndS τ X ct Γ (.Break pos) .brk := by
  intro W ρ μ σ H M D tk E R h
  unfold runS at h
  exact ws ps_break (h σ H M (Evo.refl _ _) R E)
theorem sndS_cnt : SndS τ X ct Γ (.Continue pos) .cnt := by
  intro W ρ μ σ H M D tk E R h
  unfold runS at h
  exact ws ps_continue (h σ H M (Evo.refl _ _) R E)
/-- x += e -/
theorem sndS_aug {op : Operator} {bo : Bop} (F : FrS X ct tb Γ N sc loc) (hx : x ∈ loc) (hi : N[k]? = some x) (hb : (op = .Add ∧ bo = .add) ∨ (op = .Sub ∧ bo = .sub)) (he : Snd X ct Γ e A) : SndS τ X ct Γ (.AugAssign (.Name x px) op e pos) (.aug k bo A) := by
  intro W ρ μ σ H M En tk E R h
  unfold runS at h
  split at h
  · rename_i z hz
    obtain ⟨vz, h1, r⟩ := E.at_ k _ hz
    cases r
    rcases hb with ⟨rfl, rfl⟩ | ⟨rfl, rfl⟩
    · refine ws (ps_aug (by rw [F.f.hN]; exact F.f.nd) (by rw [F.f.hN]; exact hi) (by rw [F.f.hsc]; exact (F.l x hx).1) pE ip_add (by rw [F.f.hsc]; exact (F.l x hx).2)) ?_
      refine ⟨_, h1, ?_⟩
      refine he W ρ μ σ H M _ tk E R (h.step E fun d μ1 v H1 M1 e1 R1 r1 h1 => ?_)
      cases r1 with
      | int j => exact ⟨z, j, rfl, rfl, OkS.nxt (μ := μ1) h1 R1 ((E.evo e1).set (.int _) k)⟩
      | _ => exact (h1 : False).elim
    · refine ws (ps_aug (by rw [F.f.hN]; exact F.f.nd) (by rw [F.f.hN]; exact hi) (by rw [F.f.hsc]; exact (F.l x hx).1) pE ip_sub (by rw [F.f.hsc]; exact (F.l x hx).2)) ?_
      refine ⟨_, h1, ?_⟩
      refine he W ρ μ σ H M _ tk E R (h.step E fun d μ1 v H1 M1 e1 R1 r1 h1 => ?_)
      cases r1 with
      | int j => exact ⟨z, j, rfl, rfl, OkS.nxt (μ := μ1) h1 R1 ((E.evo e1).set (.int _) k)⟩
      | _ => exact (h1 : False).elim
  · exact h.elim
end
end PyI
/-! A13: statements: new lists, replace, blocks, loops. -/
namespace PyI
open PySem L2
section
variable {τ : Bool} {X : Cx} {ct : CTab} {Γ : G} {N loc : List Str} {sc scope : Scope} {tb : Tb} {e a b o i v tg elt iter c : Expr} {es ifs : List Expr} {A B' C' : E} {As : Es} {t : T} {pos px : Pos} {x : Str} {k : Nat} {st : Stmt} {sts body : List Stmt} {SA : S} {BA BB : B}
/-- x = [e for ..] -/
theorem sndS_setC {tt : Tg} {it : IT} {c : T} (F : FrS X ct tb Γ N sc loc) (hx : x ∈ loc) (hi : N[k]? = some x) (ok : BlkOk N sc scope (ownOf N scope)) (hset : isSet iter = false) (ht : resTg N ((ownOf N scope).map Prod.fst) tg = some tt) (hsl : ∀ i ∈ slotsOf tt, i ∈ (ownOf N scope).map Prod.snd)
    (hI : SndI X ct Γ tg iter it) (hc : SndTB X ct Γ scope ifs c) (he : SndB X ct Γ scope elt A) : SndS τ X ct Γ (.Assign [.Name x px] (.ListComp elt [⟨tg, iter, ifs, 0⟩] scope pos) pos') (.set (.nm k) (.comp ((ownOf N scope).map Prod.snd) tt it c A)) := by
  intro W ρ μ σ H M D tk E R h
  unfold runS at h
  have okX : BlkOk X.N X.env.scope scope (ownOf N scope) := by rw [F.f.hN, F.f.hsc]; exact ok
  have core : tLc (wI X tg iter) (gOf X.K tt) (wTB X scope ifs) (wEB X scope elt) ((ownOf N scope).map (·.2)) σ H (fun x H1 => D.nx (σ.set k (some x)) H1) := by
    refine comp_core F.f ok hset ht hsl hI hc he tk E R (Ok.toN R (fun d μ' q => comp_lst q) (h.step E fun d μ1 v H1 M1 e1 R1 r1 h1 => ?_))
    exact h1.nxt R1 ((E.evo e1).set r1 k)
  cases hsw : swB sc scope x px pos with
  | true =>
    have hl : sc.names.lookup x = some .local := by
      unfold swB at hsw
      simp only [Bool.and_eq_true, beq_iff_eq] at hsw
      exact hsw.1.1
    refine ws (ps_setLc (g := gOf X.K tt) (te := wEB X scope elt) (tt := wTB X scope ifs) (wi := wI X tg iter) F.f.calm (by rw [F.f.hN]; exact F.f.nd) (by rw [F.f.hN]; exact hi) (by rw [F.f.hsc]; exact hl) (by rw [sw_comp (by rw [F.f.hsc]; exact F.f.kindF) F.f.hsc, hsw]) pI okX (fun s H C cl fp => tg_ok (F.f.blk ok s H C cl fp) (own_loc ok s H C cl fp) ht) (comp_pts hc) (fun s H C cl fp => ⟨fun pins s' σ H' Q' I q => q s H C cl fp pins s' I⟩) (set_iter hset)) core
  | false =>
    refine ws (ps_set (by rw [F.f.hN]; exact F.f.nd) (by rw [F.f.hN]; exact hi) (by rw [F.f.hsc]; exact (F.l x hx).1)
      (pe_lc (te := wEB X scope elt) (tt := wTB X scope ifs) (g := gOf X.K tt) (wi := wI X tg iter) F.f.calm (by rw [F.f.hN]; exact F.f.nd) pI okX (fun s H C cl fp => tg_ok (F.f.blk ok s H C cl fp) (own_loc ok s H C cl fp) ht) (comp_pts hc) (fun s H C cl fp => ⟨fun pins s' σ H' Q' I q => q s H C cl fp pins s' I⟩) (set_iter hset))
      (by rw [sw_comp (by rw [F.f.hsc]; exact F.f.kindF) F.f.hsc, hsw]) (by rw [F.f.hsc]; exact (F.l x hx).2)) core
/-- what becomes ours -/
theorem takeNew {W : WX} {ρ : Rho} {μ : Mu} {σ : St} {H : Hp} {M : AM} {D : Ends} {r : Res PyI.D} (E : RelE X.K H M σ ρ) (R : RelH X.K ct H μ M)
    (h : OkS X.K ct M H (r.then ρ fun d μ => match d with
      | .lst l => .nx (ρ.set k (some (.ref μ.length))) (μ ++ [.lst l])
      | _ => .stuck) D W) : OkN X.K ct M H r (fun x H1 => D.nx (σ.set k (some x)) H1) (fun c d H' => W c d σ H') := by
  cases r with
  | stuck => exact h
  | err c fs μ' => exact fun cls d H' M' e R1 r1 => h cls d σ H' M' e R1 (E.evo e) r1
  | ok d μ2 =>
    cases d with
    | lst acc =>
      intro p H2 M2 accv hp e2 R2 hp2 ra
      have hpe : p ∉ M2.ex := by rw [e2.ex]; exact (R.fresh hp).2
      have rm : MRep X.K ct H2 (M2.add p) p (.lst acc) := ⟨accv, hp2, ra.stay Stay.take⟩
      have R3 := R2.takeIn hpe rm
      have ea : Evo M H (M2.add p) H2 := ⟨fun n a q => ix_add (e2.pre n a q), by show _ ≤ (M2.ix ++ [p]).length; rw [List.length_append]; exact Nat.le_add_right_of_le e2.len, e2.ex, fun a u hh n => ⟨(e2.keep a u hh n).1, by
        show a ∉ M2.ix ++ [p]
        rw [List.mem_append, List.mem_singleton]
        rintro (q | q)
        · exact (e2.keep a u hh n).2 q
        · exact ne_of_none hh hp q⟩⟩
      have hl : M2.ix.length = μ2.length := R2.len
      exact h _ H2 (M2.add p) ea R3 ((E.evo ea).set (.ref (by show (M2.ix ++ [p])[μ2.length]? = some p; rw [← hl, List.getElem?_append_right (Nat.le_refl _), Nat.sub_self]; rfl)) k)
    | _ => exact (h : False).elim
/-- x = [e, ..], to be ours -/
theorem sndS_newL (F : FrS X ct tb Γ N sc loc) (hx : x ∈ loc) (hi : N[k]? = some x) (ha : SndA X ct Γ es As) : SndS τ X ct Γ (.Assign [.Name x px] (.List es pos) pos') (.new k (.lst As)) := by
  intro W ρ μ σ H M D tk E R h
  unfold runS at h
  have hN := takeNew E R h
  refine ws (ps_set (by rw [F.f.hN]; exact F.f.nd) (by rw [F.f.hN]; exact hi) (by rw [F.f.hsc]; exact (F.l x hx).1) (pe_lst pA) (sw_plain rfl) (by rw [F.f.hsc]; exact (F.l x hx).2)) ?_
  unfold evalE at hN
  refine ha W ρ μ σ H M _ tk E R ?_
  cases hA : evalEs Γ As ρ μ with
  | stuck => rw [hA] at hN; exact hN.elim
  | err c fs μ' => rw [hA] at hN; exact hN
  | ok ds μ1 =>
    rw [hA] at hN
    intro vs H1 M1 e1 R1 r1
    have hn : OkN X.K ct M H (needs (ds.length ≤ 16777216) (.ok (.lst ds) μ1)) (fun x H1 => D.nx (σ.set k (some x)) H1) (fun c d H' => W c d σ H') := hN
    unfold needs at hn
    by_cases hz : ds.length ≤ 16777216
    · rw [if_pos hz] at hn
      refine ⟨sl16 (by rw [r1.length]; exact hz), fun p hp => ?_⟩
      exact hn p (upd H1 p (.lst vs)) M1 vs (e1.back R R1 hp) (e1.newEx (e1.back R R1 hp)) (R1.hide hp) upd_same (r1.stay ((Stay.hide hp).trans (Evo.new hp).stay))
    · rw [if_neg hz] at hn; exact (hn : False).elim
theorem sndS_newC {tt : Tg} {it : IT} {c : T} (F : FrS X ct tb Γ N sc loc) (hx : x ∈ loc) (hi : N[k]? = some x) (ok : BlkOk N sc scope (ownOf N scope)) (hset : isSet iter = false) (ht : resTg N ((ownOf N scope).map Prod.fst) tg = some tt) (hsl : ∀ i ∈ slotsOf tt, i ∈ (ownOf N scope).map Prod.snd)
    (hI : SndI X ct Γ tg iter it) (hc : SndTB X ct Γ scope ifs c) (he : SndB X ct Γ scope elt A) : SndS τ X ct Γ (.Assign [.Name x px] (.ListComp elt [⟨tg, iter, ifs, 0⟩] scope pos) pos') (.new k (.comp ((ownOf N scope).map Prod.snd) tt it c A)) := by
  intro W ρ μ σ H M D tk E R h
  unfold runS at h
  have okX : BlkOk X.N X.env.scope scope (ownOf N scope) := by rw [F.f.hN, F.f.hsc]; exact ok
  have core : tLc (wI X tg iter) (gOf X.K tt) (wTB X scope ifs) (wEB X scope elt) ((ownOf N scope).map (·.2)) σ H (fun x H1 => D.nx (σ.set k (some x)) H1) := comp_core F.f ok hset ht hsl hI hc he tk E R (takeNew E R h)
  cases hsw : swB sc scope x px pos with
  | true =>
    have hl : sc.names.lookup x = some .local := by
      unfold swB at hsw
      simp only [Bool.and_eq_true, beq_iff_eq] at hsw
      exact hsw.1.1
    refine ws (ps_setLc (g := gOf X.K tt) (te := wEB X scope elt) (tt := wTB X scope ifs) (wi := wI X tg iter) F.f.calm (by rw [F.f.hN]; exact F.f.nd) (by rw [F.f.hN]; exact hi) (by rw [F.f.hsc]; exact hl) (by rw [sw_comp (by rw [F.f.hsc]; exact F.f.kindF) F.f.hsc, hsw]) pI okX (fun s H C cl fp => tg_ok (F.f.blk ok s H C cl fp) (own_loc ok s H C cl fp) ht) (comp_pts hc) (fun s H C cl fp => ⟨fun pins s' σ H' Q' I q => q s H C cl fp pins s' I⟩) (set_iter hset)) core
  | false =>
    refine ws (ps_set (by rw [F.f.hN]; exact F.f.nd) (by rw [F.f.hN]; exact hi) (by rw [F.f.hsc]; exact (F.l x hx).1)
      (pe_lc (te := wEB X scope elt) (tt := wTB X scope ifs) (g := gOf X.K tt) (wi := wI X tg iter) F.f.calm (by rw [F.f.hN]; exact F.f.nd) pI okX (fun s H C cl fp => tg_ok (F.f.blk ok s H C cl fp) (own_loc ok s H C cl fp) ht) (comp_pts hc) (fun s H C cl fp => ⟨fun pins s' σ H' Q' I q => q s H C cl fp pins s' I⟩) (set_iter hset))
      (by rw [sw_comp (by rw [F.f.hsc]; exact F.f.kindF) F.f.hsc, hsw]) (by rw [F.f.hsc]; exact (F.l x hx).2)) core

/-- x = e, to be ours -/
theorem sndS_newN {e : Expr} {A : E} (F : FrS X ct tb Γ N sc loc) (hx : x ∈ loc) (hi : N[k]? = some x) (hc : isComp e = false) (ha : SndN X ct Γ e A) : SndS τ X ct Γ (.Assign [.Name x px] e pos') (.new k A) := by
  intro W ρ μ σ H M D tk E R h
  unfold runS at h
  have hN := takeNew E R h
  exact ws (ps_set (by rw [F.f.hN]; exact F.f.nd) (by rw [F.f.hN]; exact hi) (by rw [F.f.hsc]; exact (F.l x hx).1) pE (sw_plain hc) (by rw [F.f.hsc]; exact (F.l x hx).2)) (ha W ρ μ σ H M _ tk E R hN)

/-! ### replace -/
def SndR (X : Cx) (ct : CTab) (Γ : G) (e : Expr) (A : R) : Prop := ∀ (W : WX) (ρ : Rho) (μ : Mu) (σ : St) (H : Hp) (M : AM) (Q : VK), Takes X W → RelE X.K H M σ ρ → RelH X.K ct H μ M →
  Ok X.K ct (RD X.K) M H (evalR Γ A ρ μ) Q (fun c d H' => W c d σ H') → ∀ pins s, 1 ≤ s.toks → Inv X pins σ H s → wpAny (model X.prog X.w) X.A (eval e X.env) (EP X pins σ Q) X.xe s
theorem sndR_base (h : Snd X ct Γ e A) : SndR X ct Γ e (.base A) := fun W ρ μ σ H M Q tk E R k pins s _ I => h W ρ μ σ H M Q tk E R k pins s I
theorem sndR_repl {RA : PyI.R} {y z : Str} {j1 j2 : Nat} {c0 c1 apos : Pos} (h : SndR X ct Γ o RA) (hyz : (y == z) = false) (hp : plainO o = true) (hl : (apos.endLine == pos.line) = true) : SndR X ct Γ (.Call (.Attribute o "replace" apos) [.Constant (.str y) j1 c0, .Constant (.str z) j2 c1] [] pos) (.repl RA y z) := by
  intro W ρ μ σ H M Q tk E R k pins s h0 I
  let to : TE := fun σ H Q => ∀ pins s, 1 ≤ s.toks → Inv X pins σ H s → wpAny (model X.prog X.w) X.A (eval o X.env) (EP X pins σ Q) X.xe s
  have hto : PET X o to := fun pins s σ H Q h0 I q => q pins s h0 I
  refine CwR.pet_replT (to := to) hto hyz rfl (base_plain hp) hl pins s σ H Q h0 I ?_
  unfold evalR at k
  refine h W ρ μ σ H M _ tk E R (k.step fun d μ1 v H1 M1 e1 R1 r1 h1 => ?_)
  unfold replD at h1
  split at h1
  · cases r1
    obtain ⟨hz, h1⟩ := h1.needs
    exact ⟨_, rfl, hz, h1.ret R1 (.str _)⟩
  · exact h1.elim
theorem sndS_setR {RA : PyI.R} (F : FrS X ct tb Γ N sc loc) (hx : x ∈ loc) (hi : N[k]? = some x) (hc : isComp e = false) (he : SndR X ct Γ e RA) : SndS true X ct Γ (.Assign [.Name x px] e pos) (.setR k RA) := by
  intro W ρ μ σ H M D tk E R h
  unfold runS at h
  intro pins s h0 I
  refine wpAny_Assign_Name (thn (he W ρ μ σ H M (fun v H1 => D.nx (σ.set k (some v)) H1) tk E R (h.step E fun d μ1 v H1 M1 e1 R1 r1 h1 => h1.nxt R1 ((E.evo e1).set r1 k)) pins s (h0 rfl) I) fun v s1 ⟨y, H1, I1, r1, q1⟩ => ?_) (sw_plain hc)
  exact store_ok I1 (by rw [F.f.hN]; exact F.f.nd) (by rw [F.f.hN]; exact hi) (by rw [F.f.hsc]; exact (F.l x hx).1) r1 (fun s2 I2 => ⟨_, H1, I2, q1⟩) (by rw [F.f.hsc]; exact (F.l x hx).2)
/-- return 'pre' + e.replace(..).. + 'post' -/
theorem sndS_retR {RA : PyI.R} {pre post : Str} {j1 j2 : Nat} {p1 p2 p3 p4 : Pos} (he : SndR X ct Γ e RA) : SndS true X ct Γ (.Return (some (.BinOp (.BinOp (.Constant (.str pre) j1 p1) .Add e p2) .Add (.Constant (.str post) j2 p3) p4)) pos) (.retR pre RA post) := by
  intro W ρ μ σ H M D tk E R h
  unfold runS at h
  let to : TE := fun σ H Q => ∀ pins s, 1 ≤ s.toks → Inv X pins σ H s → wpAny (model X.prog X.w) X.A (eval e X.env) (EP X pins σ Q) X.xe s
  have hto : PET X e to := fun pins s σ H Q h0 I q => q pins s h0 I
  intro pins s h0 I
  refine CwR.pst_ret (CwR.pet_op op_add_str (CwR.pet_op op_add_str (CwR.PET.of pe_str) hto) (CwR.PET.of pe_str)) pins s σ H D (h0 rfl) I ?_
  show to σ H _
  refine he W ρ μ σ H M _ tk E R (h.step E fun d μ1 v H1 M1 e1 R1 r1 h1 => ?_)
  cases r1 with
  | str z =>
    unfold binD at h1
    simp only at h1
    have h2 : OkS X.K ct M1 H1 ((needs (pre.length + z.length ≤ 16777216) (Res.ok (PyI.D.str (pre ++ z)) μ1) |>.bind fun y μ => binD .add y (.str post) μ).then ρ fun d μ => .rt d μ) D W := h1
    unfold needs at h2
    by_cases hz : pre.length + z.length ≤ 16777216
    · rw [if_pos hz] at h2
      have h3 : OkS X.K ct M1 H1 ((needs ((pre ++ z).length + post.length ≤ 16777216) (Res.ok (PyI.D.str ((pre ++ z) ++ post)) μ1)).then ρ fun d μ => .rt d μ) D W := h2
      unfold needs at h3
      by_cases hz2 : (pre ++ z).length + post.length ≤ 16777216
      · rw [if_pos hz2] at h3
        refine ⟨pre, z, rfl, rfl, sl16 hz, pre ++ z, post, rfl, rfl, sl16 hz2, ?_⟩
        exact (h3 : OkS X.K ct M1 H1 (.rt _ μ1) D W) _ H1 M1 (Evo.refl _ _) R1 (.str _)
      · rw [if_neg hz2] at h3; exact (h3 : False).elim
    · rw [if_neg hz] at h2; exact (h2 : False).elim
  | _ => exact (h1 : False).elim
/-! ### blocks, loops -/
theorem sndB_nil : SndBk τ X ct Γ [] .nil := by
  intro W ρ μ σ H M D tk E R h
  unfold runB at h
  exact fun pins s _ I => pss_nil.run pins s σ H D I (h.nxt R E)
theorem sndB_cons (h1 : SndS τ X ct Γ st SA) (h2 : SndBk τ X ct Γ sts BA) : SndBk τ X ct Γ (st :: sts) (.cons SA BA) := by
  intro W ρ μ σ H M D tk E R h
  unfold runB at h
  intro pins s h0 I
  have key := h1 W ρ μ σ H M { D with nx := wB τ X sts D } tk E R (h.seq rfl rfl rfl fun ρ' μ' σ' H' M' e' R' E' k => h2 W ρ' μ' σ' H' M' D tk E' R' k) pins s h0 I
  refine wpAny_execs_cons (wpAny_mono (PySem.wpAny_toks key) (fun f s1 q => ?_) fun _ _ x => x.2)
  obtain ⟨hk, q⟩ := q
  cases f with
  | next =>
    obtain ⟨σ', H', I', q⟩ := q
    exact q pins s1 (fun t => Nat.le_trans (h0 t) hk) I'
  | ret v => exact q
  | brk => exact q
  | cont => exact q
theorem sndS_if (hc : SndT X ct Γ c t) (ha : SndBk τ X ct Γ sts BA) (hb : SndBk τ X ct Γ body BB) : SndS τ X ct Γ (.If c sts body pos) (.ifs t BA BB) := by
  intro W ρ μ σ H M D tk E R h
  unfold runS at h
  intro pins s h0 I
  have key := hc W ρ μ σ H M (fun k H1 => if k = true then wB τ X sts D σ H1 else wB τ X body D σ H1) tk E R (h.step E fun k μ1 v H1 M1 e1 R1 r1 h1 => by
    cases r1
    cases k with
    | true => exact ha W ρ μ1 σ H1 M1 D tk (E.evo e1) R1 h1
    | false => exact hb W ρ μ1 σ H1 M1 D tk (E.evo e1) R1 h1) pins s I
  refine wpAny_If (wpAny_mono (PySem.wpAny_toks key) (fun d s1 q => ?_) fun _ _ x => x.2)
  obtain ⟨hk, H1, I1, q⟩ := q
  cases d with
  | true => exact q pins s1 (fun t => Nat.le_trans (h0 t) hk) I1
  | false => exact q pins s1 (fun t => Nat.le_trans (h0 t) hk) I1
theorem sndS_while (F : FrS X ct tb Γ N sc loc) (hc : SndT X ct Γ c t) (hb : SndBk τ X ct Γ body BA) : SndS τ X ct Γ (.While c body [] pos) (.whl t BA) := by
  intro W ρ μ σ H M D tk E R h
  unfold runS at h
  intro pins s h0 I
  refine wpAny_While (codeAny_whileLoop (fun n s' => (τ = true → 1 ≤ s'.toks) ∧ ∃ (ρ' : Rho) (μ' : Mu) (σ' : St) (H' : Hp) (M' : AM), Inv X pins σ' H' s' ∧ RelE X.K H' M' σ' ρ' ∧ RelH X.K ct H' μ' M' ∧ OkS X.K ct M' H' (whileLoop (fun ρ μ => evalT Γ t ρ μ) (fun ρ μ => runB Γ BA ρ μ) n ρ' μ') D W) ?_ Γ.wf ⟨h0, ρ, μ, σ, H, M, I, E, R, h⟩)
  rintro n s1 ⟨h01, ρ1, μ1, σ1, H1, M1, I1, E1, R1, k1⟩
  cases n with
  | zero => exact (k1 : False).elim
  | succ n =>
    unfold whileLoop at k1
    have key := hc W ρ1 μ1 σ1 H1 M1 (fun k H2 => if k = true then wB τ X body { D with nx := fun σ' H' => ∃ ρ' μ' M', RelE X.K H' M' σ' ρ' ∧ RelH X.K ct H' μ' M' ∧ OkS X.K ct M' H' (whileLoop (fun ρ μ => evalT Γ t ρ μ) (fun ρ μ => runB Γ BA ρ μ) n ρ' μ') D W, ct := fun σ' H' => ∃ ρ' μ' M', RelE X.K H' M' σ' ρ' ∧ RelH X.K ct H' μ' M' ∧ OkS X.K ct M' H' (whileLoop (fun ρ μ => evalT Γ t ρ μ) (fun ρ μ => runB Γ BA ρ μ) n ρ' μ') D W, bk := D.nx } σ1 H2 else D.nx σ1 H2) tk E1 R1 (k1.step E1 fun k μ2 v H2 M2 e2 R2 r2 k2 => by
      cases r2
      cases k with
      | false => exact k2.nxt R2 (E1.evo e2)
      | true =>
        simp only [if_true] at k2 ⊢
        refine hb W ρ1 μ2 σ1 H2 M2 _ tk (E1.evo e2) R2 ?_
        cases hr : runB Γ BA ρ1 μ2 with
        | nx ρ' μ' => rw [hr] at k2; exact fun σ' H' M' e' R' E' => ⟨ρ', μ', M', E', R', OkS.evo e' k2⟩
        | ct ρ' μ' => rw [hr] at k2; exact fun σ' H' M' e' R' E' => ⟨ρ', μ', M', E', R', OkS.evo e' k2⟩
        | br ρ' μ' => rw [hr] at k2; exact k2
        | rt d μ' => rw [hr] at k2; exact k2
        | er c fs ρ' μ' => rw [hr] at k2; exact k2
        | stuck => rw [hr] at k2; exact k2) pins s1 I1
    refine wpAny_passesOwn F.po (wpAny_mono (PySem.wpAny_toks key) (fun b s2 q => ?_) fun _ _ x => x.2)
    obtain ⟨hk2, H2, I2, q2⟩ := q
    have h02 : τ = true → 1 ≤ s2.toks := fun t => Nat.le_trans (h01 t) hk2
    cases b with
    | true =>
      rw [if_pos rfl]
      simp only [if_true] at q2
      refine wpAny_passesOwn F.po (wpAny_mono (PySem.wpAny_toks (q2 pins s2 h02 I2)) (fun f s3 q3 => ?_) fun _ _ x => x.2)
      obtain ⟨hk3, q3⟩ := q3
      have h03 : τ = true → 1 ≤ s3.toks := fun t => Nat.le_trans (h02 t) hk3
      cases f with
      | next =>
        obtain ⟨σ3, H3, I3, ρ', μ', M', E', R', k'⟩ := q3
        exact ⟨n, Nat.lt_succ_self n, h03, ρ', μ', σ3, H3, M', I3, E', R', k'⟩
      | cont =>
        obtain ⟨σ3, H3, I3, ρ', μ', M', E', R', k'⟩ := q3
        exact ⟨n, Nat.lt_succ_self n, h03, ρ', μ', σ3, H3, M', I3, E', R', k'⟩
      | brk => exact q3
      | ret v => exact q3
    | false =>
      rw [if_neg Bool.false_ne_true]
      exact wpAny_execs_nil ⟨σ1, H2, I2, q2⟩
end
end PyI
/-! X1: super().__init__(..) of an own error. -/
namespace PyI
open PySem PySem.Spec PyProof.Rows L2
/-- what the written part says of super() in the method at f of the class at C -/
structure SupK (K : PySem.W.Frag) (P : Program) (C f cda cc : Addr) : Prop where
  fn : ∃ oc od fd osl ar, K.lookup f = some ⟨oc, od, .func fd, osl⟩ ∧ (fd.params.posonlyargs ++ fd.params.args).head? = some ar ∧ ar.arg = "self"
  code : ∃ ccl cdd vs ccs file tf, K.lookup cda = some ⟨ccl, cdd, .fields vs, ccs⟩ ∧ vs[2]? = some (.str file tf) ∧ ((P.main.file : Str) == file) = true
  cell : ∃ cl cld csl, K.lookup cc = some ⟨cl, cld, .cell (some (.ref C)), csl⟩
  cls : ∃ cd, PySem.W.clsIn K C = some cd
  sub : PySem.W.mroIn K C (.ref C) = some true
  opq : PySem.W.nsIn K cStatics "thirdparty.any" = some none
  along : PySem.W.ks_superIn K C C "__init__" = some (some (.builtin "ValueError.__init__"))
  subV : PySem.W.subIn K (.ref C) (.type "ValueError") = some true
  top : (P.main.scope.names.lookup ("super" : Str)).isSome = false
section
variable {X : Cx} {pins : List (Addr × Obj)} {σ : L2.St} {H : Hp} {s : Shared} {C f cda cc a : Addr} {i : Nat} {ta : TA} {e : Expr} {es : List Expr} {Q : VK} {p0 p1 apos pos : Pos} {pl : Sem Bool} {body : List Stmt}
theorem cls_at {K : PySem.W.Frag} {h : Heap} (k : K.In h) {C : Addr} {cd : ClassData} (e : PySem.W.clsIn K C = some cd) : ∃ oD, h.get? C = some oD ∧ oD.data = .cls cd := by
  unfold PySem.W.clsIn at e
  split at e
  · rename_i ho
    cases e
    exact ⟨_, k _ _ ho, rfl⟩
  · cases e
theorem sup_init (I : Inv X pins σ H s) (S : SupK X.K X.prog C f cda cc) (T : OexC X.K C) (hfu : X.env.func = some f) (hco : X.env.code = .ref cda) (hcl : X.env.cells.lookup ("__class__" : Str) = some cc) (hks : X.env.kindOf "super" = some .globalImplicit)
    (hkc : X.env.kindOf "__class__" = some .free) (hka : X.env.kindOf "self" = some .local) (hN : X.N[i]? = some "self") (hσ : σ[i]? = some (some (.ref a))) (ea : H a = some (exo a C none)) (hm : X.mg "super" = none) (ha : PA X (e :: es) ta)
    (h : ta σ H fun vs H1 => H1 a = some (exo a C none) ∧ vs.length ≤ 1000 ∧ Q .non H1)
    (hc : eval (.Call (.Attribute (.Call (.Name "super" p0) [] [] p1) "__init__" apos) (e :: es) [] pos) X.env = (do
      let ov ← attributeBase (.Call (.Name "super" p0) [] [] p1) "__init__" X.env (eval (.Call (.Name "super" p0) [] [] p1) X.env)
      standAt apos.atName
      let (f, first) ← holding [ov] (getMethod ov "__init__" pl)
      callWith pos f first (backTo pos (starEach (e :: es) X.env)) []))
    (he : starEach (e :: es) X.env = (false, eval e X.env) :: starEach es X.env) (hpl : (backTo pos (starEach es X.env)).any (·.1) = false) :
    _root_.PySem.wpAt (model X.prog X.w) X.A (.func body X.env) (eval (.Call (.Attribute (.Call (.Name "super" p0) [] [] p1) "__init__" apos) (e :: es) [] pos) X.env) (EP X pins σ Q) X.xe s := by
  obtain ⟨oc, od, fd, osl, ar, lf, hp, har⟩ := S.fn
  obtain ⟨ccl, cdd, vs, ccs, file, tf, lc, hvs, hfile⟩ := S.code
  obtain ⟨cl, cld, csl, lcell⟩ := S.cell
  obtain ⟨cd, hcd⟩ := S.cls
  have KI := I.kIn
  obtain ⟨oD, hD1, hD2⟩ := cls_at KI hcd
  refine ks_wpAt_MethodCall (pl := pl) ?_ hc
  refine ks_wpAt_super_base hks hkc (by decide) hfu (KI _ _ lf) rfl hp hco (KI _ _ lc) rfl hvs hfile S.top ?_
  obtain ⟨t1, hx⟩ := exo_at I.hok ea
  obtain ⟨mb, hb1, hb2⟩ := I.mod.blt
  refine PySem.W.ks_loadName_global I.ok.kind hks (Calls.loadGlobal_builtin (by rw [I.ok.glob]; exact I.mod.glob.keeps I.bk) hm (by rw [I.ok.blt]; exact hb1.keeps I.bk) ((hb2 _ (by decide)).trans (show bootBuiltins "super" = some (.type "super") by first | boot_by_name | rfl | kernel_rfl)) ⟨rfl, ?_⟩)
  refine wpAny_loadName_free I.ok.kind hkc hcl ⟨_, KI _ _ lcell, rfl⟩ ?_
  rw [har]
  obtain ⟨m, hn, hl⟩ := I.loc
  obtain ⟨u, r, l⟩ := hl i "self" (.ref a) hN hσ (.inl hka)
  obtain rfl : u = Value.ref a := r
  obtain ⟨_, hma⟩ : X.env.kindOf "self" = some .local ∧ m "self" = some (.ref a) := by
    rcases l with ⟨hk, hm⟩ | ⟨hk, _⟩
    · exact ⟨hk, hm⟩
    · rcases hk with hk | hk <;> (rw [hka] at hk; cases hk)
  refine wpAny_loadName_local I.ok.kind hka hn hma ?_
  obtain ⟨hh, g, d, t, os⟩ := s
  refine ks_wpAny_isType_cls hD1 hD2 ⟨rfl, ?_⟩
  refine ks_wpAny_call_super hD1 hD2 hx rfl (fun c z => by cases z) (PySem.W.looks_mroIn KI S.sub) (fun h1 e1 k1 => ?_)
  have I1 : Inv X pins σ H ⟨h1, g, d, t, os⟩ := I.kept (t' := t) k1
  have KI1 := I1.kIn
  have hx1 := k1 _ _ hx
  have inst : PySem.W.InstAt h1 a (PySem.W.excObj C t1 none .none) C none := ⟨hx1, rfl, rfl, trivial⟩
  have hal : PySem.W.alongIn X.K "__init__" ((cd.mro.dropWhile (· != .ref C)).drop 1) = some (some (.builtin "ValueError.__init__")) := by
    have := S.along
    unfold PySem.W.ks_superIn at this
    rw [hcd] at this
    exact this
  refine PySem.W.kxs_getMethod PySem.W.kxs_ValueError e1 (PySem.W.looks_opaque KI1 S.opq) (l₀ := cd.mro) (fun A Q E s k q => wpAny_bind ((PySem.W.looks_clsIn KI1 hcd) A _ E s k (wpAny_pure q))) rfl KI1 hal (inst.type.andThen (PySem.W.looks_subIn KI1 S.subV)) (PySem.W.ks_ne KI1 inst hcd) (by decide) ?_
  have k2 : ∀ b o, h1.get? b = some o → (h1.push (PySem.W.kxs_mw "ValueError.__init__" a)).get? b = some o := fun b o e => Heap.get?_push_of_some _ e
  have I2 : Inv X pins σ H ⟨h1.push (PySem.W.kxs_mw "ValueError.__init__" a), g, d, t + 1, os⟩ := I1.kept (t' := t + 1) k2
  have hu : (h1.push (PySem.W.kxs_mw "ValueError.__init__" a)).get? h1.objs.size = some (PySem.W.kxs_mw "ValueError.__init__" a) := by heap_get
  have hnu : H h1.objs.size = none := I1.hok.fresh (Nat.le_refl _)
  have I3 : Inv X ((h1.objs.size, PySem.W.kxs_mw "ValueError.__init__" a) :: pins) σ H ⟨h1.push (PySem.W.kxs_mw "ValueError.__init__" a), g, d, t + 1, os⟩ := by
    refine { I2 with pin := fun q hq => ?_ }
    rcases List.mem_append.mp hq with hq | hq
    · exact I2.pin q (List.mem_append_left _ hq)
    · rcases List.mem_cons.mp hq with rfl | hq
      · refine ⟨hu, hnu, fun z => ?_, fun z => ?_, fun v z => by cases z⟩
        · exact Nat.ne_of_gt I1.lt z
        · exact I1.nofs (Nat.le_refl _) z
      · exact I2.pin q (List.mem_append_right _ hq)
  show wpAny _ _ (callWith pos (.ref h1.objs.size) [] (backTo pos (starEach (e :: es) X.env)) []) _ _ _
  have hsp : wpAny (model X.prog X.w) X.A (spliced (backTo pos (starEach (e :: es) X.env))) (fun us s1 => PySem.W.KxsAt "ValueError.__init__" h1.objs.size a s1.heap ∧ wpAny (model X.prog X.w) X.A (call (.ref h1.objs.size) us) (EP X pins σ Q) X.xe s1) X.xe ⟨h1.push (PySem.W.kxs_mw "ValueError.__init__" a), g, d, t + 1, os⟩ := by
    refine thn (ha.run pos _ _ σ H _ I3 h) fun us s1 ⟨vs, H1, I4, r1, ea1, hl1, q⟩ => ?_
    have pn := I4.pin _ (List.mem_append_right _ (List.mem_cons_self ..))
    refine ⟨pn.1, ?_⟩
    have I5 : Inv X pins σ H1 s1 := { I4 with pin := fun q hq => I4.pin q (by
      rcases List.mem_append.mp hq with hq | hq
      · exact List.mem_append_left _ hq
      · exact List.mem_append_right _ (List.mem_cons_of_mem _ hq)) }
    obtain ⟨nm, qn, N, bs, bm, sn, sub, ab, col, dd, k0, k1, k2, k3, k5, hC, hbm⟩ := T.cls
    obtain ⟨t2, hx2⟩ := exo_at I5.hok ea1
    have hu2 := pn.1
    have KI5 := I5.kIn
    obtain ⟨h5, g5, d5, tk5, os5⟩ := s1
    refine wpAny_call (codeAny_of_tree ?_)
    show wpAny _ X.A.in1 (callAny (.ref h1.objs.size) ⟨us, []⟩) _ _ _
    simp only [callAny]
    refine wpAny_bind (wpAny_load hu2 ?_)
    simp only [PySem.W.kxs_mw, show (Value.type "method-wrapper" == Value.type "method" || Value.type "method-wrapper" == Value.type "builtin_function_or_method" || Value.type "method-wrapper" == Value.type "method-wrapper") = true by decide, if_true]
    refine PySem.W.KFB.if_so (by decide) ?_
    have FB := F.excBase_ValueError
    refine wpAny_bind (PySem.W.check_bound_init FB.toExcCallFacts (KI5 _ _ hC) hx2 rfl ?_)
    refine wpAny_bind (wpAny_pure (wpAny_pure ?_))
    refine ⟨plainId_quiet FB.init.plain _, codeAny_builtin FB.initEntry ?_⟩
    have hlen : us.length ≤ sizeLine := by
      rw [← Paired.length r1, sizeLine_eq]
      omega
    refine PySem.W.exc_init_tree (cls := .ref C) (t0 := t2) (dv := none) (c2 := .none) (c3 := .none) (b4 := .bool false) hx2 hlen fun h6 k6 hx6 ht6 => ?_
    have J := I5.write (t' := tk5) (x := a) (e := a) (o := exo a C none) (by rw [ea1]; exact True.intro) (.inl rfl) k6 ⟨_, hx6⟩ (exo_ok hx6)
    have eu : upd H1 a (exo a C none) = H1 := by
      funext b
      by_cases hb : b = a
      · rw [hb, upd_same, ea1]
      · rw [upd_ne hb]
    rw [eu] at J
    exact ⟨.non, H1, J, rfl, q⟩
  rw [he] at hsp ⊢
  exact PySem.W.kxs_callWith (i := "ValueError.__init__") (x := a) (by show (false || (backTo pos (starEach es X.env)).any (·.1)) = false; rw [hpl]; rfl) (PySem.Calls.evalArgs_plain hsp)
end
end PyI
/-! AE: errors raised and caught. -/
namespace PyI
open PySem PySem.Spec PyProof.Rows L2
section
variable {K : PySem.W.Frag} {H : Hp} {M : AM}
theorem fmt_of : ∀ {vs : List V} {ds : List PyI.D}, Reps K H M vs ds → ds.all okArg = true → ∀ y ∈ vs, FmtV y
  | _, _, .nil, _, y, hy => nomatch hy
  | v :: vs, d :: ds, .cons h r, q, y, hy => by
    rw [List.all_cons, Bool.and_eq_true] at q
    rcases List.mem_cons.mp hy with rfl | hy
    · cases h <;> simp only [okArg, Bool.and_eq_true, decide_eq_true_eq, Bool.false_eq_true, false_and] at q
      · exact .inl ⟨_, rfl, q.1.1, q.1.2⟩
      · exact .inr ⟨_, rfl, q.1⟩
    · exact fmt_of r q.2 y hy
end
section
variable {τ : Bool} {X : Cx} {ct : CTab} {Γ : G} {N loc : List Str} {sc : Scope} {tb : Tb} {e : Expr} {es : List Expr} {As : Es} {c n : Nat} {x : Str} {p pos rpos : Pos}
theorem sndS_rse (F : FrS X ct tb Γ N sc loc) (hd : okName x = true) (hg : glB sc x = true) {fl : List Str} (hcl : tb.clss[c]? = some (x, fl)) (hfl : fl.length = n) (hs : (e :: es).all (fun e => !star e) = true) (hn : n ≤ 10) (ha : SndA X ct Γ (e :: es) As) :
    SndS τ X ct Γ (.Raise (some (.Call (.Name x p) (e :: es) [] pos)) none rpos) (.rse c n As) := by
  intro W ρ μ σ H M D tk E R h
  unfold runS at h
  by_cases hm : Γ.mkr = true
  · rw [if_pos hm] at h
    obtain ⟨CK, hct, hnd⟩ := F.f.g.cls c x fl hcl
    subst hct
    have hnl : n = (ct.flds c).length := hfl.symm
    obtain ⟨fI, fd, ps, i1, i2, i3, i4⟩ := CK.ini
    have hse : star e = false := by
      have := List.all_eq_true.mp hs e (List.mem_cons_self ..)
      simpa using this
    have hse2 : es.all (fun e => !star e) = true := by rw [List.all_cons, Bool.and_eq_true] at hs; exact hs.2
    refine ws (ps_raise F.f.calm tk (pmk_oex (CX := L2.CX X.prog X.w) CK.T i1 i2 (i4 X.base) (F.f.g.room hm) i3 .nil (passes_call tk fun _ _ _ _ z => z.elim) (gl_of F.f hg) CK.mgx pA (ok1 hd) (star_cons hse) (star_all hse2))) ?_
    refine ha W ρ μ σ H M _ tk E R (h.step E fun ds μ1 vs H1 M1 e1 R1 r1 h1 => ?_)
    by_cases hz : ds.length = n ∧ ds.all okArg = true
    · rw [if_pos hz] at h1
      have hlen := r1.length
      refine ⟨by rw [hlen, hz.1]; omega, fun a hna => ⟨a, vs ++ [], rfl, ?_, ?_, upd_same, fun dx hdx hne => ⟨rfl, dx, (ct.flds c).zip (vs ++ []).reverse, upd_same, ?_, ?_, ?_⟩⟩⟩
      · rw [List.append_nil, hlen, hz.1, hnl]
      · rw [List.append_nil]; exact fmt_of r1 hz.2
      · rw [upd_ne hne, upd_same]
      · rw [upd_ne hne] at hdx; exact hdx
      · rw [upd_ne hne] at hdx
        have eH : upd (del (upd (upd (upd H1 a (exo a (ct.cls c) none)) dx (exd dx ((ct.flds c).zip (vs ++ []).reverse))) a (exo a (ct.cls c) (some dx))) a) dx (.xd ((ct.flds c).zip (vs ++ []).reverse)) = upd H1 dx (.xd ((ct.flds c).zip (vs ++ []).reverse)) := by
          funext b
          by_cases hb : b = dx
          · rw [hb, upd_same, upd_same]
          · rw [upd_ne hb, upd_ne hb]
            by_cases hb2 : b = a
            · rw [hb2, del_same, hna]
            · rw [del_ne hb2, upd_ne hb2, upd_ne hb, upd_ne hb2]
        rw [eH]
        have ev : Evo M1 H1 M1 (upd H1 dx (.xd ((ct.flds c).zip (vs ++ []).reverse))) := Evo.new hdx
        refine (h1 : OkS X.K ct M1 H1 (.er c ds.reverse ρ μ1) D W) (.ref (ct.cls c)) (some dx) σ _ M1 ev (R1.new hdx) ((E.evo e1).evo ev) ⟨rfl, dx, _, rfl, upd_same, ?_, ?_⟩
        · rw [List.map_fst_zip]
          rw [List.append_nil, List.length_reverse, hlen, hz.1, hnl]; exact Nat.le_refl _
        · rw [List.map_snd_zip]
          · exact (congrArg (fun l => Reps X.K _ M1 l ds.reverse) (show (vs ++ []).reverse = vs.reverse by rw [List.append_nil])).mpr ((r1.rev).evo ev)
          · rw [List.append_nil, List.length_reverse, hlen, hz.1, hnl]; exact Nat.le_refl _
    · rw [if_neg hz] at h1
      exact (h1 : False).elim
  · rw [if_neg hm] at h
    exact (h : False).elim
end
end PyI
/-! AF: isinstance of a caught error that has its dict. -/
namespace PyI
open PySem PySem.Spec PySem.Calls PyProof.Rows L2
/-- isinstance(e, c), e the caught error -/
def rIsD (K : PySem.W.Frag) (D a dd : Addr) : List V → Hp → VK → Prop := fun xs H Q => ∃ (c : V) (cv : Value) (b : Bool), xs = [.ref a, c] ∧ (∀ u, RelV c u → u = cv) ∧ PySem.W.kitOne K (.ref D) cv = some b ∧ (∃ vs, H dd = some (.xd vs)) ∧ Q (.bl b) H
theorem call_isD {X : Cx} {a D dd : Addr} {oe : Obj} {pn : List (Addr × Obj)} (C : ExcC X.K D) (hz : Zc (.ref D) (some dd) oe) (hf : ∃ vs, oe.data = .fields vs) : CallR (X.suite a ((a, oe) :: pn)) (.builtin "isinstance") (rIsD X.K D a dd) := by
  intro pins s σ H xs us Q I r h
  obtain ⟨c, cv, b, rfl, hcv, e, ⟨vs, hdd⟩, q⟩ := h
  obtain ⟨u1, u2, rfl⟩ : ∃ u1 u2, us = [u1, u2] := by
    cases r with
    | cons _ r => cases r with
      | cons _ r => cases r; exact ⟨_, _, rfl⟩
  cases r with
  | cons rx r => cases r with
    | cons rt _ =>
      obtain rfl : u1 = Value.ref a := rx
      obtain rfl := hcv _ rt
      have pin := (I.pin (a, oe) (List.mem_append.mpr (.inl List.mem_cons_self))).1
      obtain ⟨flds, hfl⟩ := hf
      obtain ⟨mA, hns, _⟩ : ∃ mA, s.heap.Ns1 dd mA ∧ ∀ f, RelO (vs.lookup f) (mA f) := I.hok dd _ hdd
      obtain ⟨odd, hod, _⟩ := lookIn_ns hns
      have J : PySem.W.InstAt s.heap a oe D (some odd) := ⟨pin, hz.1, by unfold PySem.W.notCls; rw [hfl] <;> rfl, by rw [hz.2]; exact hod⟩
      exact PySem.W.kia_one (PySem.W.kitx_exc (od := some odd) (by obtain ⟨cd, q, _⟩ := PySem.W.any_some C.hd; rw [q]; rfl) C.hg C.hk C.hs C.ha C.hn C.ht C.hm) I.kIn J e (fun z => nomatch z) fun tk => ⟨.bl b, H, I.kept (t' := tk) fun _ _ z => z, rfl, q⟩
end PyI
/-! AG: try: return e; except C as n: a suite that tests kinds and hands back fields. -/
namespace PyI
open PySem PySem.Spec PyProof.Rows L2
/-- a literal, or a field of the error -/
def resXA (n : Str) (fl : List Str) : Expr → Option XA
  | .Constant (.int i) _ _ => some (.cst (.int i))
  | .Constant (.bool b) _ _ => some (.cst (.bl b))
  | .Constant .none _ _ => some (.cst .non)
  | .Constant (.str s) _ _ => some (.cst (.str s))
  | .Attribute (.Name y _) f _ => guardO (decide (y = n)) ((ixOf f fl).map .fld)
  | _ => none
def resXAs (n : Str) (fl : List Str) : List Expr → Option (List XA)
  | [] => some []
  | e :: es => guardO (!star e) ((resXA n fl e).bind fun a => (resXAs n fl es).map fun l => a :: l)
def resXR (n : Str) (fl : List Str) : Expr → Option XR
  | .Tuple es _ _ => (resXAs n fl es).map .tup
  | e => (resXA n fl e).map .one
-- what a test of kinds says
mutual
def resXT (tb : Tb) (sc : Scope) (c : Nat) (n : Str) : Nat → Expr → Option Bool
  | 0, _ => none
  | k + 1, e => match e with
    | .Call (.Name f _) [.Name y _, .Name x _] [] _ => guardO (decide (f = "isinstance") && decide (y = n) && glB sc f && okName y && okName x && glB sc x) ((tb.isx.find? fun p => p.1 == c && p.2.1 == x).map fun p => p.2.2)
    | .UnaryOp .Not a _ => (resXT tb sc c n k a).map fun b => !b
    | .BoolOp .And vs _ => resXAnd tb sc c n k vs
    | .BoolOp .Or vs _ => resXOr tb sc c n k vs
    | _ => none
def resXAnd (tb : Tb) (sc : Scope) (c : Nat) (n : Str) : Nat → List Expr → Option Bool
  | 0, _ => none
  | k + 1, vs => match vs with
    | [a] => resXT tb sc c n k a
    | a :: b :: r => (resXT tb sc c n k a).bind fun x => (resXAnd tb sc c n k (b :: r)).map fun y => x && y
    | [] => none
def resXOr (tb : Tb) (sc : Scope) (c : Nat) (n : Str) : Nat → List Expr → Option Bool
  | 0, _ => none
  | k + 1, vs => match vs with
    | [a] => resXT tb sc c n k a
    | a :: b :: r => (resXT tb sc c n k a).bind fun x => (resXOr tb sc c n k (b :: r)).map fun y => x || y
    | [] => none
end
def resXE (tb : Tb) (sc : Scope) (c : Nat) (n : Str) (fl : List Str) : Nat → Expr → Option XR
  | 0, _ => none
  | k + 1, e => match e with
    | .IfExp t a b _ => (resXT tb sc c n 40 t).bind fun v => if v then resXE tb sc c n fl k a else resXE tb sc c n fl k b
    | e => resXR n fl e
def resXS (tb : Tb) (sc : Scope) (c : Nat) (n : Str) (fl : List Str) : Nat → List Stmt → Option XR
  | 0, _ => none
  | k + 1, sts => match sts with
    | [.Return (some e) _] => resXE tb sc c n fl 10 e
    | .If t body [] _ :: rest => (resXT tb sc c n 40 t).bind fun b => if b then resXS tb sc c n fl k body else resXS tb sc c n fl k rest
    | _ => none
section
variable {X : Cx} {ct : CTab} {Γ : G} {N : List Str} {sc : Scope} {tb : Tb} {c i : Nat} {n x : Str} {a dd : Addr} {oe : Obj} {pn : List (Addr × Obj)} {vs : List (Str × V)}
/-- within the suite -/
structure InX (X : Cx) (ct : CTab) (Γ : G) (N : List Str) (sc : Scope) (tb : Tb) (c i : Nat) (n : Str) (a dd : Addr) (oe : Obj) : Prop where
  f : Fr X ct tb Γ N sc
  cls : ∃ x, ClsK X.prog X.w X.K X.mg (ct.cls c) x (ct.flds c)
  hi : N[i]? = some n
  vis : visB sc n = true
  okn : okName n = true
  hz : Zc (.ref (ct.cls c)) (some dd) oe
  hf : ∃ us, oe.data = .fields us
def Pre (i : Nat) (a dd : Addr) (vs : List (Str × V)) (σ : L2.St) (H : Hp) : Prop := σ[i]? = some (some (.ref a)) ∧ H dd = some (.xd vs)
theorem lookup_at : ∀ {vs : List (Str × V)} {fl : List Str} {j : Nat} {f : Str} {v : V}, vs.map (·.1) = fl → fl.Nodup → fl[j]? = some f → (vs.map (·.2))[j]? = some v → vs.lookup f = some v
  | [], _, _, _, _, e, _, h, _ => by subst e; cases h
  | (g, u) :: vs, _, 0, f, v, e, _, h, k => by
    subst e
    cases h
    cases k
    simp
  | (g, u) :: vs, _, j + 1, f, v, e, nd, h, k => by
    subst e
    rw [List.map_cons, List.nodup_cons] at nd
    have h2 : (vs.map (·.1))[j]? = some f := h
    have hne : (f == g) = false := beq_eq_false_iff_ne.mpr fun z => nd.1 (by rw [← z]; exact List.mem_of_getElem? h2)
    rw [List.lookup_cons, hne]
    exact lookup_at rfl nd.2 h2 k
theorem vis_of {X : Cx} (hsc : X.env.scope = sc) (hv : visB sc x = true) : Vis X.env.scope x := by
  rw [hsc]
  unfold visB at hv
  unfold Vis
  split at hv
  · rename_i q; exact .inl q
  · rename_i q; exact .inr (.inl q)
  · rename_i q; exact .inr (.inr q)
  · cases hv
theorem pe_err {p : Pos} (S : InX X ct Γ N sc tb c i n a dd oe) : PE (X.suite a ((a, oe) :: pn)) (.Name n p) (tVar i) :=
  pe_var (by show X.N[i]? = _; rw [S.f.hN]; exact S.hi) (vis_of (X := X.suite a ((a, oe) :: pn)) S.f.hsc S.vis) (ok1 S.okn) (by have := S.okn; simp [okName] at this ⊢; exact this.1.2)
theorem xa_ok {e : Expr} {A : XA} (S : InX X ct Γ N sc tb c i n a dd oe) (h : resXA n (ct.flds c) e = some A) {M : AM} {fs : List PyI.D} {d : PyI.D} (hd : A.val fs = some d) {σ : L2.St} {H : Hp} (pre : Pre i a dd vs σ H) (hn : vs.map (·.1) = ct.flds c) (hnd : (ct.flds c).Nodup) (r : Reps X.K H M (vs.map (·.2)) fs) {Q : VK}
    (q : ∀ v, Rep X.K H M v d → Q v H) : wE (X.suite a ((a, oe) :: pn)) e σ H Q := by
  unfold resXA at h
  split at h
  · cases h; cases hd; exact we pe_int (q _ (.int _))
  · cases h; cases hd; exact we pe_bl (q _ (.bl _))
  · cases h; cases hd; exact we pe_non (q _ .non)
  · cases h; cases hd; exact we pe_str (q _ (.str _))
  · rename_i y p f p2
    obtain ⟨hy, h2⟩ := guardO_some h
    obtain ⟨j, hj, rfl⟩ := Option.map_eq_some_iff.mp h2
    rw [of_decide_eq_true hy]
    have hj := ixOf_get hj
    obtain ⟨xc, C⟩ := S.cls
    obtain ⟨v, hv, rv⟩ := r.get hd
    have hlk : vs.lookup f = some v := lookup_at hn hnd hj hv
    refine we (pe_xf C.xf (C.nos f (List.mem_of_getElem? hj)) S.hz S.hf (pe_err S)) ?_
    exact ⟨.ref a, pre.1, rfl, rfl, dd, vs, v, rfl, pre.2, hlk, q _ rv⟩
  · cases h
theorem xas_ok (S : InX X ct Γ N sc tb c i n a dd oe) {M : AM} {fs : List PyI.D} {H : Hp} (hn : vs.map (·.1) = ct.flds c) (hnd : (ct.flds c).Nodup) (r : Reps X.K H M (vs.map (·.2)) fs) {σ : L2.St} (pre : Pre i a dd vs σ H) : ∀ {es : List Expr} {l : List XA} {ds : List PyI.D}, resXAs n (ct.flds c) es = some l → XA.vals fs l = some ds →
    ∀ {Q : List V → Hp → Prop}, (∀ us, Reps X.K H M us ds → Q us H) → wA (X.suite a ((a, oe) :: pn)) es σ H Q
  | [], l, ds, h, hv, Q, q => by
    cases h; cases hv
    exact wa pa_nil (q [] .nil)
  | e :: es, l, ds, h, hv, Q, q => by
    unfold resXAs at h
    obtain ⟨hs, h2⟩ := guardO_some h
    obtain ⟨A, hA, h3⟩ := Option.bind_eq_some_iff.mp h2
    obtain ⟨l', hl, rfl⟩ := Option.map_eq_some_iff.mp h3
    unfold XA.vals at hv
    split at hv
    · rename_i d ds' e1 e2
      cases hv
      refine wa (pa_cons pE pA (star_cons (by simpa using hs))) ?_
      exact xa_ok S hA e1 pre hn hnd r fun v rv => xas_ok S hn hnd r pre hl e2 fun us ru => q (v :: us) (.cons rv ru)
    · cases hv
theorem vals_len {fs : List PyI.D} : ∀ {l : List XA} {ds : List PyI.D}, XA.vals fs l = some ds → ds.length = l.length
  | [], ds, h => by cases h; rfl
  | a :: l, ds, h => by
    unfold XA.vals at h
    split at h
    · rename_i d ds' e1 e2
      cases h
      rw [List.length_cons, List.length_cons, vals_len e2]
    · cases h
structure SndX (X : Cx) (ct : CTab) (Γ : G) (N : List Str) (sc : Scope) (tb : Tb) (c i : Nat) (n : Str) (k : Nat) : Prop where
  t : ∀ (a dd : Addr) (oe : Obj) (pn : List (Addr × Obj)) (vs : List (Str × V)) (e : Expr) (b : Bool), InX X ct Γ N sc tb c i n a dd oe → resXT tb sc c n k e = some b → ∀ {σ : L2.St} {H : Hp} {Q : Bool → Hp → Prop}, Pre i a dd vs σ H → Q b H → wT (X.suite a ((a, oe) :: pn)) e σ H Q
  and : ∀ (a dd : Addr) (oe : Obj) (pn : List (Addr × Obj)) (vs : List (Str × V)) (es : List Expr) (p : Pos) (b : Bool), InX X ct Γ N sc tb c i n a dd oe → resXAnd tb sc c n k es = some b → ∀ {σ : L2.St} {H : Hp} {Q : Bool → Hp → Prop}, Pre i a dd vs σ H → Q b H → wW (X.suite a ((a, oe) :: pn)) (.BoolOp .And es p) σ H Q
  or : ∀ (a dd : Addr) (oe : Obj) (pn : List (Addr × Obj)) (vs : List (Str × V)) (es : List Expr) (p : Pos) (b : Bool), InX X ct Γ N sc tb c i n a dd oe → resXOr tb sc c n k es = some b → ∀ {σ : L2.St} {H : Hp} {Q : Bool → Hp → Prop}, Pre i a dd vs σ H → Q b H → wW (X.suite a ((a, oe) :: pn)) (.BoolOp .Or es p) σ H Q
theorem sndX : ∀ k, SndX X ct Γ N sc tb c i n k
  | 0 => ⟨fun _ _ _ _ _ _ _ _ h => (by unfold resXT at h; cases h), fun _ _ _ _ _ _ _ _ _ h => (by unfold resXAnd at h; cases h), fun _ _ _ _ _ _ _ _ _ h => (by unfold resXOr at h; cases h)⟩
  | k + 1 => by
    have ih := sndX k
    refine ⟨fun a dd oe pn vs e b S h => ?_, fun a dd oe pn vs es p b S h => ?_, fun a dd oe pn vs es p b S h => ?_⟩
    · intro σ H Q pre q
      unfold resXT at h
      split at h
      · rename_i f p1 y p2 x p3 p4
        obtain ⟨hg, h2⟩ := guardO_some h
        simp only [Bool.and_eq_true, decide_eq_true_eq] at hg
        obtain ⟨⟨⟨⟨⟨rfl, rfl⟩, g1⟩, g2⟩, g3⟩, g4⟩ := hg
        obtain ⟨⟨c', x', b'⟩, hm, hb⟩ := Option.map_eq_some_iff.mp h2
        have hp := List.find?_some hm
        simp only [Bool.and_eq_true, beq_iff_eq] at hp
        obtain ⟨rfl, rfl⟩ := hp
        subst hb
        obtain ⟨v, cv, m1, m2, m3, m4⟩ := S.f.g.isx _ _ _ (List.mem_of_find?_eq_some hm)
        obtain ⟨xc, C⟩ := S.cls
        have pc : PE (X.suite a ((a, oe) :: pn)) (.Name x' p3) (tC v) := by
          rcases m1 with m1 | ⟨m1, mb, mn⟩
          · exact pe_glob (gl_of (X := X) S.f g4) m1 m2 (ok1 g3)
          · exact pe_bltn (gl_of (X := X) S.f g4) m1 mb m2 mn (ok1 g3)
        have hbi : X.mg "isinstance" = none := S.f.g.bi _ (by decide +kernel)
        refine wt (pt_val (pe_callB (call_isD (dd := dd) C.ex S.hz S.hf) (gl_of (X := X) S.f g1) hbi (by first | boot_by_name | rfl | kernel_rfl) (pa_cons (pe_err S) (pa_cons pc pa_nil (star_cons rfl)) (star_cons rfl)) (by decide) (by decide) (star_cons rfl) rfl) (true_plain rfl)) ?_
        exact ⟨.ref a, pre.1, v, cv, _, rfl, m3, m4, ⟨vs, pre.2⟩, _, rfl, q⟩
      · obtain ⟨b', hb, rfl⟩ := Option.map_eq_some_iff.mp h
        refine wt (pt_not pT) ?_
        exact ih.t a dd oe pn vs _ _ S hb pre q
      · rename_i es p2
        exact fun pins s I => ih.and a dd oe pn vs es p2 b S h pre q _ pins s I
      · rename_i es p2
        exact fun pins s I => ih.or a dd oe pn vs es p2 b S h pre q _ pins s I
      · cases h
    · intro σ H Q pre q
      unfold resXAnd at h
      split at h
      · exact ww (pw_and1 pT) (ih.t a dd oe pn vs _ _ S h pre q)
      · obtain ⟨x1, h1, h2⟩ := Option.bind_eq_some_iff.mp h
        obtain ⟨y1, h3, rfl⟩ := Option.map_eq_some_iff.mp h2
        refine ww (pw_and pT pW) ?_
        refine ih.t a dd oe pn vs _ _ S h1 pre ?_
        cases x1
        · exact q
        · exact ih.and a dd oe pn vs _ p _ S h3 pre q
      · cases h
    · intro σ H Q pre q
      unfold resXOr at h
      split at h
      · exact ww (pw_or1 pT) (ih.t a dd oe pn vs _ _ S h pre q)
      · obtain ⟨x1, h1, h2⟩ := Option.bind_eq_some_iff.mp h
        obtain ⟨y1, h3, rfl⟩ := Option.map_eq_some_iff.mp h2
        refine ww (pw_or pT pW) ?_
        refine ih.t a dd oe pn vs _ _ S h1 pre ?_
        cases x1
        · exact ih.or a dd oe pn vs _ p _ S h3 pre q
        · exact q
      · cases h
theorem xr_ok {M : AM} {μ : Mu} {fs : List PyI.D} {H : Hp} (S : InX X ct Γ N sc tb c i n a dd oe) (hn : vs.map (·.1) = ct.flds c) (hnd : (ct.flds c).Nodup) (R : RelH X.K ct H μ M) (r : Reps X.K H M (vs.map (·.2)) fs) {σ : L2.St} (pre : Pre i a dd vs σ H) {d : PyI.D} {Q : VK} (q : ∀ v H' M', Evo M H M' H' → RelH X.K ct H' μ M' → Rep X.K H' M' v d → Q v H') {e : Expr} {A : XR} (h : resXR n (ct.flds c) e = some A) (hv : A.val fs = some d) : wE (X.suite a ((a, oe) :: pn)) e σ H Q := by
  unfold resXR at h
  split at h
  · rename_i es kk p2
    obtain ⟨l, hl, rfl⟩ := Option.map_eq_some_iff.mp h
    have hv' : (if l.length ≤ 100 then (XA.vals fs l).map PyI.D.tup else none) = some d := hv
    by_cases hl100 : l.length ≤ 100
    · rw [if_pos hl100] at hv'
      obtain ⟨ds, hds, rfl⟩ := Option.map_eq_some_iff.mp hv'
      refine we (pe_tup pA) (xas_ok S hn hnd r pre hl hds fun us ru => ⟨?_, fun p hp => ?_⟩)
      · have h1 := ru.length
        have h2 := vals_len hds
        rw [sizeLine_eq]; omega
      · exact q _ _ M (Evo.new hp) (R.new hp) (.tup ⟨upd_same, R.fresh hp⟩ (ru.evo (Evo.new hp)))
    · rw [if_neg hl100] at hv'; cases hv'
  · obtain ⟨A1, hA, rfl⟩ := Option.map_eq_some_iff.mp h
    exact xa_ok S hA hv pre hn hnd r fun v rv => q v H M (Evo.refl _ _) R rv
theorem xe_ok {M : AM} {μ : Mu} {fs : List PyI.D} {H : Hp} (S : InX X ct Γ N sc tb c i n a dd oe) (hn : vs.map (·.1) = ct.flds c) (hnd : (ct.flds c).Nodup) (R : RelH X.K ct H μ M) (r : Reps X.K H M (vs.map (·.2)) fs) {σ : L2.St} (pre : Pre i a dd vs σ H) {d : PyI.D} {A : XR} (hv : A.val fs = some d) {Q : VK} (q : ∀ v H' M', Evo M H M' H' → RelH X.K ct H' μ M' → Rep X.K H' M' v d → Q v H') : ∀ (k : Nat) {e : Expr}, resXE tb sc c n (ct.flds c) k e = some A → wE (X.suite a ((a, oe) :: pn)) e σ H Q
  | 0, e, h => by unfold resXE at h; cases h
  | k + 1, e, h => by
    unfold resXE at h
    split at h
    · rename_i t x y p
      obtain ⟨b, hb, h2⟩ := Option.bind_eq_some_iff.mp h
      refine we (pe_ifExp pT pE pE) ?_
      refine (sndX 40).t a dd oe pn vs t b S hb pre ?_
      cases b
      · exact xe_ok S hn hnd R r pre hv q k h2
      · exact xe_ok S hn hnd R r pre hv q k h2
    · exact xr_ok S hn hnd R r pre q h hv
theorem pss_w {X : Cx} {sts : List Stmt} : PSs X sts (wB false X sts) := ⟨fun pins s σ H D I q => q pins s (fun z => nomatch z) I⟩
theorem wbs {X : Cx} {sts : List Stmt} {t : TS} {D : Ends} {σ : L2.St} {H : Hp} (p : PSs X sts t) (h : t D σ H) : wB false X sts D σ H := fun pins s _ I => p.run pins s σ H D I h
theorem xs_ok {M : AM} {μ : Mu} {fs : List PyI.D} {H : Hp} (S : InX X ct Γ N sc tb c i n a dd oe) (hn : vs.map (·.1) = ct.flds c) (hnd : (ct.flds c).Nodup) (R : RelH X.K ct H μ M) (r : Reps X.K H M (vs.map (·.2)) fs) {σ : L2.St} (pre : Pre i a dd vs σ H) {d : PyI.D} : ∀ (k : Nat) {D : Ends} (q : ∀ v H' M', Evo M H M' H' → RelH X.K ct H' μ M' → Rep X.K H' M' v d → D.rt v H') {sts : List Stmt} {A : XR}, resXS tb sc c n (ct.flds c) k sts = some A → A.val fs = some d → wB false (X.suite a ((a, oe) :: pn)) sts D σ H
  | 0, D, q, sts, A, h, _ => by unfold resXS at h; cases h
  | k + 1, D, q, sts, A, h, hv => by
    unfold resXS at h
    split at h
    · rename_i e p
      refine wbs (pss_one (ps_ret pE)) ?_
      exact xe_ok S hn hnd R r pre hv q 10 h
    · rename_i t body p rest
      obtain ⟨b, hb, h2⟩ := Option.bind_eq_some_iff.mp h
      refine wbs (pss_cons (ps_if pT pss_w pss_nil) pss_w) ?_
      refine (sndX 40).t a dd oe pn vs t b S hb pre ?_
      cases b
      · exact xs_ok S hn hnd R r pre k (D := D) q h2 hv
      · exact xs_ok S hn hnd R r pre k (D := { nx := wB false (X.suite a ((a, oe) :: pn)) rest D, rt := D.rt, bk := D.bk, ct := D.ct }) q h2 hv
    · cases h
end
section
variable {τ : Bool} {X : Cx} {ct : CTab} {Γ : G} {N loc : List Str} {sc : Scope} {tb : Tb} {r : Expr} {A : E} {c i k : Nat} {n x : Str} {np rp pos pos' : Pos} {b₀ : Stmt} {suite : List Stmt} {RX : XR} {fl : List Str}
theorem sndS_tryR (F : FrS X ct tb Γ N sc loc) (hd : okName x = true) (hg : glB sc x = true) (hcl : tb.clss[c]? = some (x, fl)) (hi : N[i]? = some n) (hnl : sc.names.lookup n = some .local) (hon : okName n = true) (he : ∀ X', Fr X' ct tb Γ N sc → Snd X' ct Γ r A)
    (hs : resXS tb sc c n fl k (b₀ :: suite) = some RX) : SndS τ X ct Γ (.Try [.Return (some r) rp] [.ExceptHandler (some (.Name x np)) (some n) (b₀ :: suite) pos'] [] [] pos) (.tryR A c i RX) := by
  intro W ρ μ σ H M D tk E R h
  unfold runS at h
  obtain ⟨CK, hct, hnd⟩ := F.f.g.cls c x fl hcl
  subst hct
  refine ws (ps_try_as (c := .ref (ct.cls c)) (tb := fun W' => fun D σ H => ∀ pn xe, Takes (X.tr pn xe) W' → wB false (X.tr pn xe) [.Return (some r) rp] D σ H) (ts := fun a cls d => fun D σ H => ∀ oe pn, Zc cls d oe → (∃ vs, oe.data = .fields vs) → wB false (X.suite a ((a, oe) :: pn)) (b₀ :: suite) D σ H)
    F.hs F.hf (by rw [F.f.hN]; exact F.f.nd) (by rw [F.f.hN]; exact hi) (by show X.env.scope.names.lookup n = _; rw [F.f.hsc]; exact hnl) ⟨gl_of F.f hg, ok1 hd, .inl CK.mgx⟩ tk
    (fun W' pn xe tk' _ => ⟨fun pins s σ H D I q => q pn xe tk' pins s (fun z => nomatch z) I⟩)
    (fun a oe cls d pn hz hf => ⟨fun pins s σ H D I q => q oe pn hz hf pins s (fun z => nomatch z) I⟩)) ?_
  intro pn xe tk'
  refine wbs (pss_one (ps_ret pE)) ?_
  have Ft : Fr (X.tr pn xe) ct tb Γ N sc := ⟨F.f.hN, F.f.hsc, F.f.nd, F.f.calm, F.f.kindF, F.f.g⟩
  refine he (X.tr pn xe) Ft _ ρ μ σ H M _ tk' E R ?_
  cases hA : evalE Γ A ρ μ with
  | stuck => rw [hA] at h; exact h
  | ok d μ' => rw [hA] at h; exact h
  | err c' fs μ' =>
    rw [hA] at h
    simp only at h
    by_cases hc : c' = c
    · rw [if_pos hc] at h
      subst hc
      cases hv : RX.val fs with
      | none => rw [hv] at h; exact (h : False).elim
      | some d =>
        rw [hv] at h
        intro cls dd' H' M' ev R' re
        obtain ⟨rfl, dx, vs, rfl, hx, hnm, rr⟩ := re
        refine ⟨true, CK.exm, fun _ a hna oe pn' hz hf pins s ht I => ?_, fun z => by cases z⟩
        have hlen := I.len
        have hi' : i < σ.length := by
          have h1 : i < N.length := (List.getElem?_eq_some_iff.mp hi).1
          have h2 : (σ.set i (some (.ref a))).length = X.N.length := hlen
          rw [List.length_set, F.f.hN] at h2
          omega
        have S : InX X ct Γ N sc tb c' i n a dx oe := ⟨F.f, ⟨x, CK⟩, hi, by unfold visB; rw [hnl], hon, hz, hf⟩
        exact xs_ok S hnm hnd R' rr ⟨by rw [List.getElem?_set_self hi'], hx⟩ k (D := { nx := fun σ' H' => D.nx (σ'.set i none) H', rt := D.rt, bk := fun σ' H' => D.bk (σ'.set i none) H', ct := fun σ' H' => D.ct (σ'.set i none) H' }) (fun v H2 M2 e2 R2 r2 => (h : OkS X.K ct M H (.rt d μ') D W) v H2 M2 (ev.trans e2) R2 r2) hs hv pins s ht I
    · rw [if_neg hc] at h
      exact (h : False).elim
end
end PyI
/-! A14: for; the resolver of statements; defs. -/
namespace PyI
open PySem L2
section
variable {τ : Bool} {X : Cx} {ct : CTab} {Γ : G} {N loc : List Str} {sc : Scope} {tb : Tb} {iter tg : Expr} {it : IT} {tt : Tg} {pos : Pos} {body : List Stmt} {BA : B}
theorem sndS_for (F : FrS X ct tb Γ N sc loc) (hset : isSet iter = false) (ht : resTg N loc tg = some tt) (hI : SndI X ct Γ tg iter it) (hb : SndBk τ X ct Γ body BA) : SndS τ X ct Γ (.For tg iter body [] pos) (.for_ tt it BA) := by
  intro W ρ μ σ H M D tk E R h
  unfold runS at h
  intro pins s h0 I
  have hg : PG X tg (gOf X.K tt) := tg_ok F.f F.l ht
  have hc := F.f.calm
  have hp := F.po
  generalize hf : (fun (d : PyI.D) (ρ : Rho) (μ : Mu) => match assignT tt d ρ with
      | some ρ' => runB Γ BA ρ' μ
      | none => Out.stuck) = f at h
  have key := hI W ρ μ σ H M (fun J H1 => ∃ (ds : List PyI.D) (src : Option (Nat × List PyI.D)) (μ1 : Mu) (M1 : AM), ItOk X.K ct M1 H1 J (ds, src) ∧ RelE X.K H1 M1 σ ρ ∧ RelH X.K ct H1 μ1 M1 ∧ OkS X.K ct M1 H1 (forLoop f (chkOf src) ds ρ μ1) D W) tk E R (h.step E fun its μ1 J H1 M1 e1 R1 J1 h1 => ⟨its.1, its.2, μ1, M1, J1, E.evo e1, R1, h1⟩) pins s I
  refine wpAny_For (wpAny_mono (PySem.wpAny_toks key) (fun v s1 h1 => wpAny_mono (PySem.wpAny_toks h1.2) (fun itv s2 h2 => ?_) fun _ _ x => x.2) fun _ _ x => x.2) (set_iter hset)
  obtain ⟨hk2, it, fp, tn, J, H2, e, I2, T, st2, f2, ds, src, μ2, M2, J2, E2, R2, k2⟩ := h2
  subst e
  have h02 : τ = true → 1 ≤ s2.toks := fun t => Nat.le_trans (Nat.le_trans (h0 t) h1.1) hk2
  have stat : ∀ {H' : Hp}, (∀ b ∈ fp, H' b = none) → ∀ b ∈ fp, FpOk X pins H' b := fun hn b hb => ⟨hn b hb, (f2 b hb).2⟩
  refine codeAny_forLoop_any (fun n s' => (τ = true → 1 ≤ s'.toks) ∧ ∃ (i : Nat) (ρ' : Rho) (μ' : Mu) (σ' : St) (H' : Hp) (M' : AM), Inv X pins σ' H' s' ∧ tn i s'.heap ∧ (∀ b ∈ fp, H' b = none) ∧ n = ds.length - i ∧ i ≤ ds.length ∧ RelE X.K H' M' σ' ρ' ∧ RelH X.K ct H' μ' M' ∧ Stay M2 H2 M' H' ∧ OkS X.K ct M' H' (forLoop f (chkOf src) (ds.drop i) ρ' μ') D W) ?_ ds.length ⟨h02, 0, ρ, μ2, σ, H2, M2, I2, st2, fun b hb => (f2 b hb).1, rfl, Nat.zero_le _, E2, R2, (Evo.refl _ _).stay, k2⟩
  rintro n s3 ⟨h03, i, ρ3, μ3, σ3, H3, M3, I3, st3, fr3, hn, hi, E3, R3, sty3, k3⟩
  rcases Nat.lt_or_ge i ds.length with hlt | hge
  · -- one more turn
    have hdi : ds[i]? = some ds[i] := List.getElem?_eq_getElem hlt
    rw [List.drop_eq_getElem_cons hlt] at k3
    unfold forLoop at k3
    by_cases hck : chkOf src μ3 = true
    · rw [if_pos hck] at k3
      obtain ⟨go, hy⟩ := J2.go M3 H3 μ3 i ds[i] sty3 R3 hck hdi
      refine wpAny_passesOwn hp (wpAny_mono (PySem.wpAny_toks (T.item X rfl rfl rfl hc i pins s3 σ3 H3 X.xe I3 (stat fr3) st3 go)) (fun r s4 z4 => ?_) fun _ _ x => x.2)
      obtain ⟨hk4, u, hr, h4⟩ := z4
      subst hr
      refine wpAny_passesOwn hp (wpAny_mono (PySem.wpAny_toks h4) (fun _ s5 z5 => ?_) fun _ _ x => x.2)
      obtain ⟨hk5, x, H5, I5, r5, y5, st5, fr5⟩ := z5
      obtain ⟨ev5, R5, rx⟩ := hy x H5 y5
      have E3 := E3.evo ev5
      have R3 := R5
      have sty3 := sty3.trans ev5.stay
      have k3 := OkS.evo ev5 k3
      have I5' := I5.pinned (stat fr5) (T.obj _ _ st5)
      have hfd : f ds[i] ρ3 μ3 = (match assignT tt ds[i] ρ3 with
        | some ρ' => runB Γ BA ρ' μ3
        | none => Out.stuck) := by rw [← hf]
      rw [hfd] at k3
      cases has : assignT tt ds[i] ρ3 with
      | none => simp only [has] at k3; exact (k3 : False).elim
      | some ρ5 =>
        simp only [has] at k3
        have gq : gOf X.K tt x σ3 H5 (fun σ6 H6 => H6 = H5 ∧ RelE X.K H5 M3 σ6 ρ5) := assign_ok rx E3 has fun σ' E' _ => ⟨rfl, E'⟩
        refine wpAny_passesOwn hp (wpAny_mono (PySem.wpAny_toks (hg.run _ s5 σ3 H5 x u _ I5' r5 gq)) (fun _ s6 z6 => ?_) fun _ _ x => x.2)
        obtain ⟨hk6, σ6, H6, I6, rfl, E6⟩ := z6
        have h06 : τ = true → 1 ≤ s6.toks := fun t => Nat.le_trans (Nat.le_trans (Nat.le_trans (h03 t) hk4) hk5) hk6
        let Nx : St → Hp → Prop := fun σ' H' => ∃ (ρ' : Rho) (μ' : Mu) (M' : AM), RelE X.K H' M' σ' ρ' ∧ RelH X.K ct H' μ' M' ∧ Stay M2 H2 M' H' ∧ OkS X.K ct M' H' (forLoop f (chkOf src) (ds.drop (i + 1)) ρ' μ') D W
        have bodyOk : OkS X.K ct M3 H6 (runB Γ BA ρ5 μ3) { D with nx := Nx, ct := Nx, bk := D.nx } W := by
          cases hr : runB Γ BA ρ5 μ3 with
          | nx ρ' μ' => rw [hr] at k3; exact fun σ' H' M' e' R' E' => ⟨ρ', μ', M', E', R', sty3.trans e'.stay, OkS.evo e' k3⟩
          | ct ρ' μ' => rw [hr] at k3; exact fun σ' H' M' e' R' E' => ⟨ρ', μ', M', E', R', sty3.trans e'.stay, OkS.evo e' k3⟩
          | br ρ' μ' => rw [hr] at k3; exact k3
          | rt d μ' => rw [hr] at k3; exact k3
          | er c fs ρ' μ' => rw [hr] at k3; exact k3
          | stuck => rw [hr] at k3; exact k3
        refine wpAny_passesOwn hp (wpAny_mono (PySem.wpAny_toks (hb W ρ5 μ3 σ6 H6 M3 _ tk E6 R3 bodyOk _ s6 h06 I6)) (fun f' s7 z7 => ?_) fun _ _ x => x.2)
        obtain ⟨hk7, q7⟩ := z7
        have h07 : τ = true → 1 ≤ s7.toks := fun t => Nat.le_trans (h06 t) hk7
        have again : ∀ {σ7 : St} {H7 : Hp}, Inv X (pins ++ pinsAt fp s5.heap) σ7 H7 s7 → Nx σ7 H7 → ∃ m, m < n ∧ (τ = true → 1 ≤ s7.toks) ∧ ∃ (i : Nat) (ρ' : Rho) (μ' : Mu) (σ' : St) (H' : Hp) (M' : AM), Inv X pins σ' H' s7 ∧ tn i s7.heap ∧ (∀ b ∈ fp, H' b = none) ∧ m = ds.length - i ∧ i ≤ ds.length ∧ RelE X.K H' M' σ' ρ' ∧ RelH X.K ct H' μ' M' ∧ Stay M2 H2 M' H' ∧ OkS X.K ct M' H' (forLoop f (chkOf src) (ds.drop i) ρ' μ') D W := fun {σ7 H7} I7 ⟨ρ', μ', M', E', R', sty', k'⟩ => by
          refine ⟨ds.length - (i + 1), by omega, h07, i + 1, ρ', μ', σ7, H7, M', I7.unpinned, T.keep _ _ _ st5 fun b hb o e => (I7.pin (b, o) (List.mem_append_right _ (List.mem_append_right _ (mem_pinsAt hb e)))).1, fun b hb => ?_, rfl, hlt, E', R', sty', k'⟩
          obtain ⟨o, e, d⟩ := T.obj _ _ st5 b hb
          exact (I7.pin (b, o) (List.mem_append_right _ (List.mem_append_right _ (mem_pinsAt hb e)))).2.1
        cases f' with
        | next => obtain ⟨σ7, H7, I7, n7⟩ := q7; exact again I7 n7
        | cont => obtain ⟨σ7, H7, I7, n7⟩ := q7; exact again I7 n7
        | brk => obtain ⟨σ7, H7, I7, q7⟩ := q7; exact ⟨σ7, H7, I7.unpinned, q7⟩
        | ret v => obtain ⟨x7, σ7, H7, I7, r7, q7⟩ := q7; exact ⟨x7, σ7, H7, I7.unpinned, r7, q7⟩
    · rw [if_neg hck] at k3; exact (k3 : False).elim
  · have hie : i = ds.length := Nat.le_antisymm hi hge
    subst hie
    rw [List.drop_length] at k3
    unfold forLoop at k3
    by_cases hck : chkOf src μ3 = true
    · rw [if_pos hck] at k3
      refine wpAny_passesOwn hp (thn (T.done X rfl rfl rfl hc _ pins s3 σ3 H3 X.xe I3 (stat fr3) st3 (J2.stop M3 H3 μ3 sty3 R3 hck)) fun r s4 ⟨hr, I4⟩ => ?_)
      subst hr
      exact wpAny_execs_nil ⟨σ3, H3, I4, k3.nxt R3 E3⟩
    · rw [if_neg hck] at k3; exact (k3 : False).elim
end


/-! ### the resolver of statements -/
structure RS where
  C : RC
  sc : Scope
  loc : List Str
  muts : List Str
  τ : Bool
  tdk : List Str
structure ReplOf where
  o : Expr
  y : Str
  z : Str
  apos : Pos
  pos : Pos
def replOf : Expr → Option ReplOf
  | .Call (.Attribute o m apos) [.Constant (.str y) _ _, .Constant (.str z) _ _] [] pos => if m = "replace" then some ⟨o, y, z, apos, pos⟩ else none
  | _ => none
theorem replOf_eq {e : Expr} {r : ReplOf} (h : replOf e = some r) : ∃ j1 c0 j2 c1, e = .Call (.Attribute r.o "replace" r.apos) [.Constant (.str r.y) j1 c0, .Constant (.str r.z) j2 c1] [] r.pos := by
  unfold replOf at h
  split at h
  · split at h
    · next hm => cases h; rw [hm]; exact ⟨_, _, _, _, rfl⟩
    · cases h
  · cases h
def resR : Nat → RC → Scope → Expr → Option R
  | 0, _, _, _ => none
  | n + 1, C, sc, e => match replOf e with
    | some r => guardO (!(r.y == r.z) && plainO r.o && r.apos.endLine == r.pos.line) ((resR n C sc r.o).map fun q => .repl q r.y r.z)
    | none => (resE n C sc e).map .base
/-- return 'a' + e.replace(..) + 'b' -/
structure RetOf where
  pre : Str
  e : Expr
  post : Str
def retOf : Expr → Option RetOf
  | .BinOp (.BinOp (.Constant (.str a) _ _) .Add e _) .Add (.Constant (.str b) _ _) _ => (replOf e).map fun _ => ⟨a, e, b⟩
  | _ => none
theorem retOf_eq {e : Expr} {r : RetOf} (h : retOf e = some r) : ∃ j1 p1 p2 j2 p3 p4, e = .BinOp (.BinOp (.Constant (.str r.pre) j1 p1) .Add r.e p2) .Add (.Constant (.str r.post) j2 p3) p4 := by
  unfold retOf at h
  split at h
  · obtain ⟨_, _, rfl⟩ := Option.map_eq_some_iff.mp h; exact ⟨_, _, _, _, _, _, rfl⟩
  · cases h
structure CompOf where
  elt : Expr
  tg : Expr
  iter : Expr
  ifs : List Expr
  scope : Scope
  pos : Pos
def compOf : Expr → Option CompOf
  | .ListComp elt [⟨tg, iter, ifs, 0⟩] scope pos => some ⟨elt, tg, iter, ifs, scope, pos⟩
  | _ => none
theorem compOf_eq {e : Expr} {r : CompOf} (h : compOf e = some r) : e = .ListComp r.elt [⟨r.tg, r.iter, r.ifs, 0⟩] r.scope r.pos := by
  unfold compOf at h
  split at h
  · cases h; rfl
  · cases h
def resComp (n : Nat) (C : RC) (sc : Scope) (r : CompOf) : Option (Tg × IT × T × E) :=
  guardO (blkC C.N sc r.scope (ownOf C.N r.scope) && !isSet r.iter) ((resTg C.N ((ownOf C.N r.scope).map Prod.fst) r.tg).bind fun t => guardO ((slotsOf t).all fun i => decide (i ∈ (ownOf C.N r.scope).map Prod.snd)) ((resI n C sc r.tg r.iter).bind fun it =>
    (match r.ifs with
      | [] => some T.yes
      | [c] => resT n C (relS r.scope sc) c
      | _ => none).bind fun c => (resE n C (relS r.scope sc) r.elt).map fun e => (t, it, c, e)))
def isLst : Expr → Option (List Expr)
  | .List es _ => some es
  | _ => none
theorem isLst_eq {e : Expr} {es : List Expr} (h : isLst e = some es) : ∃ p, e = .List es p := by
  unfold isLst at h
  split at h
  · cases h; exact ⟨_, rfl⟩
  · cases h
/-- what makes a new list, beside displays and comprehensions -/
def freshOf (n : Nat) (C : RC) (sc : Scope) : Expr → Option E
  | .IfExp c (.List es _) (.List es' _) _ => (resT n C sc c).bind fun T => (resEs n C sc es).bind fun A => (resEs n C sc es').map fun B => .ite T (.lst A) (.lst B)
  | .BinOp a .Add b _ => (resE n C sc a).bind fun A => (resE n C sc b).map fun B => .bin .add A B
  | _ => none
theorem freshOf_ok {X : Cx} {ct : CTab} {Γ : G} {C : RC} {sc : Scope} {n : Nat} {e : Expr} {A : E} (ie : SndAt ct Γ C n) (F : Fr X ct C.tb Γ C.N sc) (h : freshOf n C sc e = some A) : SndN X ct Γ e A ∧ isComp e = false := by
  unfold freshOf at h
  split at h
  · obtain ⟨T1, hT, h⟩ := Option.bind_eq_some_iff.mp h
    obtain ⟨A1, hA, h⟩ := Option.bind_eq_some_iff.mp h
    obtain ⟨B1, hB, rfl⟩ := Option.map_eq_some_iff.mp h
    exact ⟨sndN_ite (ie.t X sc _ _ F hT) (sndN_lst (ie.es X sc _ _ F hA).1) (sndN_lst (ie.es X sc _ _ F hB).1), rfl⟩
  · obtain ⟨A1, hA, h⟩ := Option.bind_eq_some_iff.mp h
    obtain ⟨B1, hB, rfl⟩ := Option.map_eq_some_iff.mp h
    exact ⟨sndN_add (ie.e X sc _ _ F hA) (ie.e X sc _ _ F hB), rfl⟩
  · cases h
def resAug : Operator → Option Bop
  | .Add => some .add
  | .Sub => some .sub
  | _ => none
def clsOf (x : Str) : List (Str × List Str) → Option (Nat × List Str)
  | [] => none
  | (y, fl) :: ys => if x = y then some (0, fl) else (clsOf x ys).map fun p => (p.1 + 1, p.2)
theorem clsOf_get {x : Str} : ∀ {l : List (Str × List Str)} {i : Nat} {fl : List Str}, clsOf x l = some (i, fl) → l[i]? = some (x, fl)
  | [], _, _, h => by cases h
  | (y, gl) :: ys, i, fl, h => by
    unfold clsOf at h
    by_cases e : x = y
    · rw [if_pos e] at h
      cases h
      subst e
      rfl
    · rw [if_neg e] at h
      obtain ⟨⟨j, m⟩, hj, q⟩ := Option.map_eq_some_iff.mp h
      cases q
      simpa using clsOf_get hj
def isDnew : Expr → Bool
  | .Dict [] [] _ => true
  | _ => false
theorem isDnew_eq {e : Expr} (h : isDnew e = true) : ∃ p, e = .Dict [] [] p := by
  unfold isDnew at h
  split at h
  · exact ⟨_, rfl⟩
  · cases h
/-- a, b = x, y -/
structure ParOf where
  x : Str
  y : Str
  px : Pos
  py : Pos
  a : Expr
  b : Expr
  k2 : Nat
  pt : Pos
def parOf : List Expr → Expr → Option ParOf
  | [.Name x px, .Name y py], .Tuple [a, b] k2 pt => some ⟨x, y, px, py, a, b, k2, pt⟩
  | _, _ => none
theorem parOf_eq {es : List Expr} {e : Expr} {r : ParOf} (h : parOf es e = some r) : es = [.Name r.x r.px, .Name r.y r.py] ∧ e = .Tuple [r.a, r.b] r.k2 r.pt := by
  unfold parOf at h
  split at h
  · cases h; exact ⟨rfl, rfl⟩
  · cases h
def tupOf : Expr → Option (List Expr)
  | .Tuple vs _ _ => some vs
  | _ => none
theorem tupOf_eq {e : Expr} {vs : List Expr} (h : tupOf e = some vs) : ∃ k p, e = .Tuple vs k p := by
  unfold tupOf at h
  split at h
  · cases h; exact ⟨_, _, rfl⟩
  · cases h
mutual
def resS : Nat → RS → Stmt → Option S
  | 0, _, _ => none
  | n + 1, c, st => match st with
    | .Assign [.Name x _] e _ => guardO (decide (x ∈ c.loc)) ((ixOf x c.C.N).bind fun k =>
        match replOf e with
        | some _ => guardO c.τ ((resR n c.C c.sc e).map (.setR k))
        | none => match compOf e with
          | some r => (resComp n c.C c.sc r).map fun q => if decide (x ∈ c.muts) then .new k (.comp ((ownOf c.C.N r.scope).map Prod.snd) q.1 q.2.1 q.2.2.1 q.2.2.2) else .set (.nm k) (.comp ((ownOf c.C.N r.scope).map Prod.snd) q.1 q.2.1 q.2.2.1 q.2.2.2)
          | none => if isDnew e && decide (x ∈ c.tdk) then some (.set (.nm k) (.dnew true)) else if decide (x ∈ c.muts) then (match isLst e with
              | some es => (resEs n c.C c.sc es).map fun As => .new k (.lst As)
              | none => match freshOf n c.C c.sc e with
                | some A => some (.new k A)
                | none => guardO (!isComp e) ((resE n c.C c.sc e).map (.set (.nm k)))) else guardO (!isComp e) ((resE n c.C c.sc e).map (.set (.nm k))))
    | .Assign [.Tuple es _ _] e _ => (match tupOf e with
        | none => guardO (!isComp e && !isTup e) ((resNames c.C.N c.loc es).bind fun l => (resE n c.C c.sc e).map (.set (.tp l)))
        | some vs => if vs.all (foldedForSure 8) then (resNames c.C.N c.loc es).bind fun l => (resE n c.C c.sc e).map (.set (.tp l)) else (parOf es e).bind fun r => guardO (swTwo c.sc r.x r.y r.px r.py [r.a, r.b]) ((ixOf r.x c.C.N).bind fun i => (ixOf r.y c.C.N).bind fun j => (resEn n c.C c.sc [r.a, r.b]).map (.par2 i j)))
    | .Assign [.Subscript o i _] v _ => guardO (!isSlc i && !isComp v) ((resE n c.C c.sc o).bind fun A => (resE n c.C c.sc i).bind fun B => (resE n c.C c.sc v).map fun C => .setIx A B C)
    | .AugAssign (.Subscript o i _) .Add e _ => guardO (!isSlc i) ((resE n c.C c.sc o).bind fun A => (resE n c.C c.sc i).bind fun B => (resE n c.C c.sc e).map fun C => .daug A B .add C)
    | .AugAssign (.Name x _) op e _ => guardO (decide (x ∈ c.loc)) ((ixOf x c.C.N).bind fun k => (resAug op).bind fun b => (resE n c.C c.sc e).map (.aug k b))
    | .Expr e _ => guardO (!isComp e) ((resE n c.C c.sc e).map .expr)
    | .If t a b _ => (resT n c.C c.sc t).bind fun T => (resB n c a).bind fun A => (resB n c b).map fun B => .ifs T A B
    | .For tg iter body [] _ => guardO (!isSet iter) ((resTg c.C.N c.loc tg).bind fun t => (resI n c.C c.sc tg iter).bind fun it => (resB n c body).map fun b => .for_ t it b)
    | .While t body [] _ => (resT n c.C c.sc t).bind fun T => (resB n c body).map fun b => .whl T b
    | .Return (some e) _ => (match retOf e with
        | some r => guardO c.τ ((resR n c.C c.sc r.e).map fun q => .retR r.pre q r.post)
        | none => (resE n c.C c.sc e).map .ret)
    | .Return none _ => some .retN
    | .Pass _ => some .pass
    | .Break _ => some .brk
    | .Continue _ => some .cnt
    | .Raise (some (.Call (.Name x _) (e :: es) [] _)) none _ => some (match clsOf x c.C.tb.clss with
        | some (k, fl) => if (okName x && glB c.sc x && decide (fl.length ≤ 10)) = true then (match resEs n c.C c.sc (e :: es) with
            | some A => .rse k fl.length A
            | none => .bad) else .bad
        | none => .bad)
    | .Raise _ _ _ => some .bad
    | .Try [.Return (some r) _] [.ExceptHandler (some (.Name x _)) (some nm) (b₀ :: suite) _] [] [] _ => guardO (okName x && glB c.sc x && okName nm && decide (c.sc.names.lookup nm = some .local)) ((clsOf x c.C.tb.clss).bind fun p => (ixOf nm c.C.N).bind fun i => (resE n c.C c.sc r).bind fun A => (resXS c.C.tb c.sc p.1 nm p.2 20 (b₀ :: suite)).map fun R => .tryR A p.1 i R)
    | _ => none
def resB : Nat → RS → List Stmt → Option B
  | 0, _, _ => none
  | n + 1, c, sts => match sts with
    | [] => some .nil
    | st :: r => (resS n c st).bind fun A => (resB n c r).map fun B => .cons A B
end
section
variable {ct : CTab} {Γ : G} {X : Cx} {c : RS}
theorem resR_ok : ∀ (n : Nat) {X : Cx} {C : RC} {sc : Scope} {e : Expr} {A : R}, Fr X ct C.tb Γ C.N sc → resR n C sc e = some A → SndR X ct Γ e A
  | 0, _, _, _, _, _, _, h => by unfold resR at h; cases h
  | n + 1, X, C, sc, e, A, F, h => by
    unfold resR at h
    split at h
    · next r hr =>
      obtain ⟨j1, c0, j2, c1, rfl⟩ := replOf_eq hr
      obtain ⟨hg, h⟩ := guardO_some h
      simp only [Bool.and_eq_true, Bool.not_eq_true'] at hg
      obtain ⟨q, hq, rfl⟩ := Option.map_eq_some_iff.mp h
      exact sndR_repl (resR_ok n F hq) hg.1.1 hg.1.2 hg.2
    · obtain ⟨q, hq, rfl⟩ := Option.map_eq_some_iff.mp h
      exact sndR_base ((sndAt ct Γ C n).e X sc e q F hq)
theorem comp_parts {n : Nat} {C : RC} {sc : Scope} {r : CompOf} {q : Tg × IT × T × E} (F : Fr X ct C.tb Γ C.N sc) (h : resComp n C sc r = some q) :
    BlkOk C.N sc r.scope (ownOf C.N r.scope) ∧ isSet r.iter = false ∧ resTg C.N ((ownOf C.N r.scope).map Prod.fst) r.tg = some q.1 ∧ (∀ i ∈ slotsOf q.1, i ∈ (ownOf C.N r.scope).map Prod.snd) ∧
      SndI X ct Γ r.tg r.iter q.2.1 ∧ SndTB X ct Γ r.scope r.ifs q.2.2.1 ∧ SndB X ct Γ r.scope r.elt q.2.2.2 := by
  unfold resComp at h
  obtain ⟨hb, h⟩ := guardO_some h
  simp only [Bool.and_eq_true, Bool.not_eq_true'] at hb
  obtain ⟨t, ht, h⟩ := Option.bind_eq_some_iff.mp h
  obtain ⟨hsl, h⟩ := guardO_some h
  obtain ⟨it, hit, h⟩ := Option.bind_eq_some_iff.mp h
  obtain ⟨c, hc, h⟩ := Option.bind_eq_some_iff.mp h
  obtain ⟨A1, hA, rfl⟩ := Option.map_eq_some_iff.mp h
  have ok := blkOk_by hb.1
  have ih := sndAt ct Γ C n
  refine ⟨ok, hb.2, ht, fun i hi => of_decide_eq_true (List.all_eq_true.mp hsl i hi), ih.i X sc _ _ _ F hit, ?_, fun s H C' cl fp => ih.e _ _ _ _ (F.blk ok s H C' cl fp) hA⟩
  split at hc
  · next hq => cases hc; exact .inl ⟨hq, rfl⟩
  · next e hq => exact .inr ⟨_, hq, fun s H C' cl fp => ih.t _ _ _ _ (F.blk ok s H C' cl fp) hc⟩
  · cases hc
theorem resS_ok : ∀ (n : Nat), (∀ {X : Cx} {st : Stmt} {A : S}, FrS X ct c.C.tb Γ c.C.N c.sc c.loc → resS n c st = some A → SndS c.τ X ct Γ st A) ∧ (∀ {X : Cx} {sts : List Stmt} {A : B}, FrS X ct c.C.tb Γ c.C.N c.sc c.loc → resB n c sts = some A → SndBk c.τ X ct Γ sts A)
  | 0 => ⟨fun _ h => by (unfold resS at h; cases h), fun _ h => by (unfold resB at h; cases h)⟩
  | n + 1 => by
    have ih := resS_ok n
    have ie := sndAt ct Γ c.C n
    refine ⟨fun {X st A} F h => ?_, fun {X sts A} F h => ?_⟩
    · unfold resS at h
      split at h
      · -- x = e
        next x px e pos =>
        obtain ⟨hx, h⟩ := guardO_some h
        have hx := of_decide_eq_true hx
        obtain ⟨k, hk, h⟩ := Option.bind_eq_some_iff.mp h
        have hk := ixOf_get hk
        split at h
        · next r hr =>
          obtain ⟨ht, h⟩ := guardO_some h
          obtain ⟨q, hq, rfl⟩ := Option.map_eq_some_iff.mp h
          obtain ⟨j1, c0, j2, c1, he⟩ := replOf_eq hr
          rw [ht]
          exact sndS_setR F hx hk (by rw [he]; rfl) (resR_ok n F.f hq)
        · split at h
          · next r hr =>
            obtain ⟨q, hq, rfl⟩ := Option.map_eq_some_iff.mp h
            obtain ⟨p1, p2, p3, p4, p5, p6, p7⟩ := comp_parts F.f hq
            rw [compOf_eq hr]
            split
            · exact sndS_newC F hx hk p1 p2 p3 p4 p5 p6 p7
            · exact sndS_setC F hx hk p1 p2 p3 p4 p5 p6 p7
          · have plain : ∀ {A : S}, guardO (!isComp e) ((resE n c.C c.sc e).map (S.set (.nm k))) = some A → SndS c.τ X ct Γ (.Assign [.Name x px] e pos) A := fun h => by
              obtain ⟨hc, h⟩ := guardO_some h
              obtain ⟨q, hq, rfl⟩ := Option.map_eq_some_iff.mp h
              exact sndS_set F hx hk (by simpa using hc) (ie.e X c.sc _ _ F.f hq)
            split at h
            · next hd =>
              cases h
              simp only [Bool.and_eq_true] at hd
              obtain ⟨p, he⟩ := isDnew_eq hd.1
              rw [he]
              exact sndS_set F hx hk rfl snd_dnewT
            split at h
            · split at h
              · next es hes =>
                obtain ⟨q, hq, rfl⟩ := Option.map_eq_some_iff.mp h
                obtain ⟨p, he⟩ := isLst_eq hes
                rw [he]
                exact sndS_newL F hx hk (ie.es X c.sc _ _ F.f hq).1
              · split at h
                · next A' hA' =>
                  cases h
                  obtain ⟨p1, p2⟩ := freshOf_ok ie F.f hA'
                  exact sndS_newN F hx hk p2 p1
                · exact plain h
            · exact plain h
      · split at h
        · obtain ⟨hc, h⟩ := guardO_some h
          simp only [Bool.and_eq_true, Bool.not_eq_true'] at hc
          obtain ⟨l, hl, h⟩ := Option.bind_eq_some_iff.mp h
          obtain ⟨q, hq, rfl⟩ := Option.map_eq_some_iff.mp h
          exact sndS_tup F hl hc.1 hc.2 (ie.e X c.sc _ _ F.f hq)
        · next vs hvs =>
          obtain ⟨k, p, he⟩ := tupOf_eq hvs
          split at h
          · next hf =>
            obtain ⟨l, hl, h⟩ := Option.bind_eq_some_iff.mp h
            obtain ⟨q, hq, rfl⟩ := Option.map_eq_some_iff.mp h
            rw [he] at hq ⊢
            exact sndS_tupF F hl hf (ie.e X c.sc _ _ F.f hq)
          · obtain ⟨r, hr, h⟩ := Option.bind_eq_some_iff.mp h
            obtain ⟨hg, h⟩ := guardO_some h
            obtain ⟨i, hi, h⟩ := Option.bind_eq_some_iff.mp h
            obtain ⟨j, hj, h⟩ := Option.bind_eq_some_iff.mp h
            obtain ⟨q, hq, rfl⟩ := Option.map_eq_some_iff.mp h
            obtain ⟨e1, e2⟩ := parOf_eq hr
            rw [e1, e2]
            exact sndS_par2 F (ixOf_get hi) (ixOf_get hj) hg (ie.en X c.sc _ _ F.f hq).2.1
      · obtain ⟨hc, h⟩ := guardO_some h
        simp only [Bool.and_eq_true, Bool.not_eq_true'] at hc
        obtain ⟨q1, hq1, h⟩ := Option.bind_eq_some_iff.mp h
        obtain ⟨q2, hq2, h⟩ := Option.bind_eq_some_iff.mp h
        obtain ⟨q3, hq3, rfl⟩ := Option.map_eq_some_iff.mp h
        exact sndS_setIx F hc.1 hc.2 (ie.e X c.sc _ _ F.f hq3) (ie.e X c.sc _ _ F.f hq1) (ie.e X c.sc _ _ F.f hq2)
      · obtain ⟨hs, h⟩ := guardO_some h
        obtain ⟨q1, hq1, h⟩ := Option.bind_eq_some_iff.mp h
        obtain ⟨q2, hq2, h⟩ := Option.bind_eq_some_iff.mp h
        obtain ⟨q3, hq3, rfl⟩ := Option.map_eq_some_iff.mp h
        exact sndS_daug F (by simpa using hs) (ie.e X c.sc _ _ F.f hq1) (ie.e X c.sc _ _ F.f hq2) (ie.e X c.sc _ _ F.f hq3)
      · obtain ⟨hx, h⟩ := guardO_some h
        obtain ⟨k, hk, h⟩ := Option.bind_eq_some_iff.mp h
        obtain ⟨b, hb, h⟩ := Option.bind_eq_some_iff.mp h
        obtain ⟨q, hq, rfl⟩ := Option.map_eq_some_iff.mp h
        refine sndS_aug F (of_decide_eq_true hx) (ixOf_get hk) ?_ (ie.e X c.sc _ _ F.f hq)
        unfold resAug at hb
        split at hb
        · cases hb; exact .inl ⟨rfl, rfl⟩
        · cases hb; exact .inr ⟨rfl, rfl⟩
        · cases hb
      · obtain ⟨hc, h⟩ := guardO_some h
        obtain ⟨q, hq, rfl⟩ := Option.map_eq_some_iff.mp h
        exact sndS_expr (by simpa using hc) (ie.e X c.sc _ _ F.f hq)
      · obtain ⟨q1, hq1, h⟩ := Option.bind_eq_some_iff.mp h
        obtain ⟨q2, hq2, h⟩ := Option.bind_eq_some_iff.mp h
        obtain ⟨q3, hq3, rfl⟩ := Option.map_eq_some_iff.mp h
        exact sndS_if (ie.t X c.sc _ _ F.f hq1) (ih.2 F hq2) (ih.2 F hq3)
      · obtain ⟨hs, h⟩ := guardO_some h
        obtain ⟨q1, hq1, h⟩ := Option.bind_eq_some_iff.mp h
        obtain ⟨q2, hq2, h⟩ := Option.bind_eq_some_iff.mp h
        obtain ⟨q3, hq3, rfl⟩ := Option.map_eq_some_iff.mp h
        exact sndS_for F (by simpa using hs) hq1 (ie.i X c.sc _ _ _ F.f hq2) (ih.2 F hq3)
      · obtain ⟨q1, hq1, h⟩ := Option.bind_eq_some_iff.mp h
        obtain ⟨q2, hq2, rfl⟩ := Option.map_eq_some_iff.mp h
        exact sndS_while F (ie.t X c.sc _ _ F.f hq1) (ih.2 F hq2)
      · split at h
        · next r hr =>
          obtain ⟨ht, h⟩ := guardO_some h
          obtain ⟨q, hq, rfl⟩ := Option.map_eq_some_iff.mp h
          obtain ⟨j1, p1, p2, j2, p3, p4, he⟩ := retOf_eq hr
          rw [ht, he]
          exact sndS_retR (resR_ok n F.f hq)
        · obtain ⟨q, hq, rfl⟩ := Option.map_eq_some_iff.mp h
          exact sndS_ret (ie.e X c.sc _ _ F.f hq)
      · cases h; exact sndS_retN
      · cases h; exact sndS_pass
      · cases h; exact sndS_brk
      · cases h; exact sndS_cnt
      · cases h
        split
        · rename_i k fl hk
          split
          · rename_i hg
            simp only [Bool.and_eq_true, decide_eq_true_eq] at hg
            split
            · rename_i A hA
              obtain ⟨s1, s2, _⟩ := ie.es X c.sc _ _ F.f hA
              exact sndS_rse F hg.1.1 hg.1.2 (clsOf_get hk) rfl s2 hg.2 s1
            · exact sndS_bad
          · exact sndS_bad
        · exact sndS_bad
      · cases h; exact sndS_bad
      · obtain ⟨hg, h⟩ := guardO_some h
        simp only [Bool.and_eq_true, decide_eq_true_eq] at hg
        obtain ⟨p, hp, h⟩ := Option.bind_eq_some_iff.mp h
        obtain ⟨i, hi, h⟩ := Option.bind_eq_some_iff.mp h
        obtain ⟨A, hA, h⟩ := Option.bind_eq_some_iff.mp h
        obtain ⟨R, hR, rfl⟩ := Option.map_eq_some_iff.mp h
        exact sndS_tryR F hg.1.1.1 hg.1.1.2 (clsOf_get hp) (ixOf_get hi) hg.2 hg.1.2 (fun X' F' => ie.e X' c.sc _ _ F' hA) hR
      · cases h
    · unfold resB at h
      split at h
      · cases h; exact sndB_nil
      · obtain ⟨q1, hq1, h⟩ := Option.bind_eq_some_iff.mp h
        obtain ⟨q2, hq2, rfl⟩ := Option.map_eq_some_iff.mp h
        exact sndB_cons (ih.1 F hq1) (ih.2 F hq2)
end
end PyI
/-! A15: defs keep what the interpreter says. -/
namespace PyI
open PySem L2 PyProof.Rows
structure FnD where
  name : Str
  ps : List Str
  N : List Str
  st : Stmt
  muts : List Str
  τ : Bool
  body : B
  tdk : List Str := []
def locB (sc : Scope) (x : Str) : Bool := match sc.names.lookup x with
  | some .local => true
  | some .cell => true
  | _ => false
def locOf (sc : Scope) : List Str := (sc.names.map Prod.fst).filter (locB sc)
structure FnD.Ok (tb : Tb) (d : FnD) : Prop where
  res : resB 80 ⟨⟨d.N, tb⟩, defScope d.st, locOf (defScope d.st), d.muts, d.τ, d.tdk⟩ (defBody d.st) = some d.body
  sc : FnScope d.N d.ps (defScope d.st)
  tk : d.τ = true → (∀ y ∈ (defScope d.st).names, y.2 ≠ .cell) ∧ 1 ≤ d.ps.length
def FnD.fn (d : FnD) : Fn := ⟨d.ps.length, d.N.length, d.body⟩
/-- what a law's program gives -/
structure Prg where
  fds : List FnD
  tb : Tb
  con : Nat → Option D
  dic : Nat → List (Str × D)
  wf : Nat
def Prg.tab (p : Prg) : List Fn := p.fds.map FnD.fn
def Prg.G (p : Prg) (k : Nat) : G := ⟨callD p.tab p.con p.dic p.wf k, p.con, p.dic, p.wf, decide (2 ≤ k)⟩
structure Prg.Ok (p : Prg) : Prop where
  fns : p.tb.fns = p.fds.map fun d => (d.name, d.ps.length)
  ok : ∀ d ∈ p.fds, d.Ok p.tb
structure Prg.At (p : Prg) (P : Program) (w : World) (K : PySem.W.Frag) (mg : Str → Option Value) (ct : CTab) : Prop where
  bi : ∀ x ∈ bins, mg x = none
  con : ∀ g x d, p.tb.cons[g]? = some x → p.con g = some d → ∃ u v, mg x = some u ∧ RelV v u ∧ ∀ H M, Rep K H M v d
  dic : ∀ g x, p.tb.dics[g]? = some x → ∃ d, mg x = some (.ref d) ∧ DicAt K w d (p.dic g)
  cls : ∀ (c : Nat) (x : Str) (fl : List Str), p.tb.clss[c]? = some (x, fl) → ClsK P w K mg (ct.cls c) x fl ∧ ct.flds c = fl ∧ fl.Nodup
  isx : ∀ c x b, (c, x, b) ∈ p.tb.isx → ∃ (v : V) (cv : Value), ((mg x = some cv) ∨ (mg x = none ∧ bootBuiltins x = some cv ∧ x ≠ "__name__")) ∧ RelV v cv ∧ (∀ u, RelV v u → u = cv) ∧ PySem.W.kitOne K (.ref (ct.cls c)) cv = some b
  fn : ∀ d ∈ p.fds, ∃ a fd qual, Fun K d.name qual d.st a fd ∧ mg d.name = some (.ref a) ∧ ∀ us : List Value, us.length = d.ps.length → bindArgs fd ⟨us, []⟩ = pure (d.ps.zip us)
section
variable {K : PySem.W.Frag} {ct : CTab} {H H' : Hp} {M M' : AM} {μ μ' : Mu} {Q : VK} {W : XK} {v : V} {d : D} {n : Nat}
theorem fin_ok (hn : M.ix.length = n) (h : PyI.Ok K ct (RD K) M H (fin n d μ') Q W) (e : Evo M H M' H') (R : RelH K ct H' μ' M') (r : Rep K H' M' v d) : Q v H' := by
  unfold fin at h
  by_cases h1 : μ'.length = n
  · rw [if_pos h1] at h; exact h v H' M' e R r
  · rw [if_neg h1] at h
    simp only at h
    -- the value, as it is handed back
    have key : ∀ d', (below n d' = true → Rep K H' (M'.cut n) v d') → PyI.Ok K ct (RD K) M H (if below n d' = true ∧ (μ'.take n).all (belowMO n) = true ∧ n ≤ μ'.length then Res.ok d' (μ'.take n) else .ok d μ') Q W → Q v H' := by
      intro d' hr hk
      by_cases h2 : below n d' = true ∧ (μ'.take n).all (belowMO n) = true ∧ n ≤ μ'.length
      · rw [if_pos h2] at hk
        exact hk v H' (M'.cut n) (by rw [← hn]; exact e.cut) (R.cut n h2.2.1) (hr h2.1)
      · rw [if_neg h2] at hk
        exact hk v H' M' e R r
    cases d with
    | ref k =>
      simp only at h
      by_cases h3 : n ≤ k
      · rw [if_pos h3] at h
        cases hk : μ'[k]? with
        | none => simp only [hk] at h; exact key _ (fun q => r.cut n q) h
        | some mo =>
          cases mo with
          | lst l =>
            simp only [hk] at h
            refine key _ (fun q => ?_) h
            cases r with
            | ref ha =>
              obtain ⟨xs, hx, rx⟩ := R.lst hk ha
              refine .lst ⟨.inl hx, fun z => ?_, fun z => (R.exs _ z).2 (List.mem_of_getElem? ha)⟩ (rx.cut n (by simpa only [below] using q))
              -- the place k is cut off
              have z : _ ∈ M'.ix.take n := z
              obtain ⟨j, hj, ej⟩ := List.getElem_of_mem z
              have hjn : j < n := by rw [List.length_take] at hj; omega
              have hjl : j < M'.ix.length := by rw [List.length_take] at hj; omega
              rw [List.getElem_take] at ej
              have e1 : M'.ix[j]? = M'.ix[k]? := by rw [ha, List.getElem?_eq_getElem hjl, ej]
              have := (List.getElem?_inj hjl R.nd).mp e1
              omega
          | dead => simp only [hk] at h; exact key _ (fun q => r.cut n q) h
          | ins _ _ => simp only [hk] at h; exact key _ (fun q => r.cut n q) h
          | dk _ => simp only [hk] at h; exact key _ (fun q => r.cut n q) h
          | dt _ => simp only [hk] at h; exact key _ (fun q => r.cut n q) h
      · rw [if_neg h3] at h; exact key _ (fun q => r.cut n q) h
    | non => exact key _ (fun q => r.cut n q) h
    | bl _ => exact key _ (fun q => r.cut n q) h
    | int _ => exact key _ (fun q => r.cut n q) h
    | str _ => exact key _ (fun q => r.cut n q) h
    | tup _ => exact key _ (fun q => r.cut n q) h
    | lst _ => exact key _ (fun q => r.cut n q) h
    | kl _ => exact key _ (fun q => r.cut n q) h
    | kt _ => exact key _ (fun q => r.cut n q) h
theorem finO_ok {o : Out} (hn : M.ix.length = n) (h : PyI.Ok K ct (RD K) M H (finO n o) Q W) : OkS K ct M H o { nx := fun _ H' => Q .non H', rt := Q } (fun cls d _ H' => W cls d H') := by
  cases o with
  | nx ρ μ => exact fun σ' H' M' e R E => fin_ok hn h e R .non
  | rt d μ => exact fun v H' M' e R r => fin_ok hn h e R r
  | br ρ μ => exact (h : False).elim
  | ct ρ μ => exact (h : False).elim
  | stuck => exact h
  | er c fs ρ μ =>
    intro cls d σ' H' M' e R E r
    have h : PyI.Ok K ct (RD K) M H (if μ.length = n then .err c fs μ else if belows n fs = true ∧ (μ.take n).all (belowMO n) = true ∧ n ≤ μ.length then .err c fs (μ.take n) else .err c fs μ) Q W := h
    by_cases h1 : μ.length = n
    · rw [if_pos h1] at h; exact h cls d H' M' e R r
    · rw [if_neg h1] at h
      by_cases h2 : belows n fs = true ∧ (μ.take n).all (belowMO n) = true ∧ n ≤ μ.length
      · rw [if_pos h2] at h
        obtain ⟨q1, dx, vs, q2, q3, q5, q4⟩ := r
        exact h cls d H' (M'.cut n) (by rw [← hn]; exact e.cut) (R.cut n h2.2.1) ⟨q1, dx, vs, q2, q3, q5, q4.cut n h2.1⟩
      · rw [if_neg h2] at h; exact h cls d H' M' e R r
theorem start_rel {N : List Str} {vs : List V} {ds : List D} (r : Reps K H M vs ds) : RelE K H M (L2.start N vs) (startR N.length ds) := by
  refine ⟨?_, fun i d h => ?_⟩
  · unfold L2.start startR
    rw [List.length_append, List.length_append, List.length_map, List.length_map, List.length_replicate, List.length_replicate, r.length]
  · unfold startR at h
    unfold L2.start
    rcases Nat.lt_or_ge i ds.length with z | z
    · rw [List.getElem?_append_left (by rw [List.length_map]; exact z), List.getElem?_map] at h
      obtain ⟨d', hd, e⟩ := Option.map_eq_some_iff.mp h
      cases e
      obtain ⟨v, hv, rv⟩ := r.get hd
      rw [List.getElem?_append_left (by rw [List.length_map, r.length]; exact z), List.getElem?_map, hv]
      exact ⟨v, rfl, rv⟩
    · rw [List.getElem?_append_right (by rw [List.length_map]; exact z)] at h
      rw [List.getElem?_replicate] at h
      split at h <;> cases h
end
section
variable {p : Prg} {P : Program} {w : World} {K : PySem.W.Frag} {mg : Str → Option Value} {base : Heap}
theorem call_stuck {f : Nat} {ds : List D} {μ : Mu} {k : Nat} {d : FnD} (hd : p.fds[f]? = some d) (h : ds.length ≠ d.ps.length) : callD p.tab p.con p.dic p.wf k f ds μ = .stuck := by
  cases k with
  | zero => rfl
  | succ k =>
    unfold callD
    have : p.tab[f]? = some d.fn := by unfold Prg.tab; rw [List.getElem?_map, hd]; rfl
    rw [this]
    exact if_neg h
theorem fns_get (ok : p.Ok) {f n : Nat} {x : Str} (h : p.tb.fns[f]? = some (x, n)) : ∃ d, p.fds[f]? = some d ∧ d.name = x ∧ d.ps.length = n := by
  rw [ok.fns, List.getElem?_map] at h
  obtain ⟨d, hd, e⟩ := Option.map_eq_some_iff.mp h
  cases e
  exact ⟨d, hd, rfl, rfl⟩
theorem all_ok (ok : p.Ok) (ct : CTab) (A0 : p.At P w K mg ct) : ∀ (k f : Nat) (d : FnD) (a : Addr) (fd : FuncData) (qual : Str), p.fds[f]? = some d → Fun K d.name qual d.st a fd → FnOk P w K mg base (L2.CX P w) k a fd d.ps (spF K ct (p.G k) f d.ps.length)
  | 0, f, d, a, fd, qual, hd, F => by
    have no : ∀ vs H Q E, ¬ spF K ct (p.G 0) f d.ps.length vs H Q E := fun vs H Q E h => by
      obtain ⟨ds, μ, M, _, _, _, h⟩ := h
      exact h
    exact ⟨fun vs H Q E h => absurd h (no vs H Q E), fun A outer s H args us vs Q E _ _ _ _ h => absurd h (no vs H Q E)⟩
  | k + 1, f, d, a, fd, qual, hd, F => by
    have ih := all_ok ok ct A0 k
    have dok := ok.ok d (List.mem_of_getElem? hd)
    have hlen : ∀ vs H Q E, spF K ct (p.G (k + 1)) f d.ps.length vs H Q E → vs.length = d.ps.length := fun vs H Q E h => h.choose_spec.choose_spec.choose_spec.1
    have body : ∀ (cdv : Value) (A : Around) (outer : List Env) (s : Shared) (H : Hp) (vs : List V) (Q : VK) (E : XK), Room k (A.deeper (envOfC qual (defScope d.st) s.heap.objs.size a cdv)) → spF K ct (p.G (k + 1)) f d.ps.length vs H Q E →
        wB d.τ (cxOf (L2.CX P w) P w K mg base d.N qual (defScope d.st) a cdv A outer s H E) (defBody d.st) { nx := fun _ H' => Q .non H', rt := Q } (L2.start d.N vs) H := by
      intro cdv A outer s H vs Q E hr h
      obtain ⟨ds, μ, M, hl, R, r, h⟩ := h
      have ht : p.tab[f]? = some d.fn := by unfold Prg.tab; rw [List.getElem?_map, hd]; rfl
      have hdl : ds.length = d.ps.length := by rw [← r.length, hl]
      have h2 : PyI.Ok K ct (RD K) M H (finO μ.length (runB (p.G k) d.body (startR d.N.length ds) μ)) Q E := by
        have e : (p.G (k + 1)).call f ds μ = finO μ.length (runB (p.G k) d.body (startR d.N.length ds) μ) := by
          show callD p.tab p.con p.dic p.wf (k + 1) f ds μ = _
          unfold callD
          rw [ht]
          exact if_pos hdl
        rw [e] at h
        exact h
      let X := cxOf (L2.CX P w) P w K mg base d.N qual (defScope d.st) a cdv A outer s H E
      have fr : FrS X ct p.tb (p.G k) d.N (defScope d.st) (locOf (defScope d.st)) := by
        refine ⟨⟨rfl, rfl, dok.sc.nd, rfl, dok.sc.kind, ⟨hr.units, A0.bi, fun f' x n hf => ?_, fun f' x n ds μ hf hne => ?_, A0.con, A0.dic, A0.cls, fun hm => hr.mono (of_decide_eq_true hm), A0.isx⟩⟩, fun x hx => ?_, passes_of rfl, rfl, rfl⟩
        · obtain ⟨d', hd', rfl, rfl⟩ := fns_get ok hf
          obtain ⟨a', fd', q', F', hm, hb⟩ := A0.fn d' (List.mem_of_getElem? hd')
          exact ⟨k, a', fd', d'.ps, ih f' d' a' fd' q' hd' F', hr, hm, F'.kp, .all hb⟩
        · obtain ⟨d', hd', rfl, rfl⟩ := fns_get ok hf
          exact call_stuck hd' hne
        · have hb := (List.mem_filter.mp hx).2
          unfold locB at hb
          refine ⟨?_, .inl rfl⟩
          split at hb
          · next q => exact .inl q
          · next q => exact .inr q
          · cases hb
      exact (resS_ok (c := ⟨⟨d.N, p.tb⟩, defScope d.st, locOf (defScope d.st), d.muts, d.τ, d.tdk⟩) (ct := ct) (Γ := p.G k) 80).2 (X := X) fr dok.res (fun cls d _ H => E cls d H) (startR d.N.length ds) μ (L2.start d.N vs) H M _ (takes_of rfl rfl rfl rfl) (start_rel r) R (finO_ok R.len h2)
    cases ht : d.τ with
    | false =>
      refine F.okX dok.sc hlen (fun cdv A outer s H vs Q E hr h => ?_)
      have b := body cdv A outer s H vs Q E hr h
      rw [ht] at b
      exact ⟨wB false _ _, ⟨fun pins s σ H D I q => q pins s (fun z => by cases z) I⟩, b⟩
    | true =>
      obtain ⟨oc, od, kV, doc, pm, an, cdv, ct', osl, rfl, lk, hcd⟩ := F.ex
      obtain ⟨hnc, hps⟩ := dok.tk ht
      refine fn_ofT lk hcd dok.sc hnc hps hlen fun A outer s H vs Q E hr h => ?_
      have b := body cdv A outer s H vs Q E hr h
      rw [ht] at b
      exact ⟨wB true _ _, fun pins s σ H D h0 I q => q pins s (fun _ => h0) I, b⟩
end
end PyI
/-! A16: a law's end. -/
namespace PyI
open PySem L2
section
variable {K : PySem.W.Frag} {h : Heap} {mg : Str → Option Value} {w : World}
theorem defAt {name qual : Str} {st : Stmt} {ps : List Str} (X : K.In h) (G : h.Ns mainGlobals mg) {f : Addr} {od an : Option Addr} {sl : Array (Option Value)} {oc kV dc pm cd ct : Value}
    (hb : ∀ (kV doc pm : Value) (an : Option Addr) (cdv ct : Value) (us : List Value), us.length = ps.length → bindArgs (PySem.W.fnOf name qual (defArgs st) (defBody st) (defScope st) .none kV doc pm an cdv ct) ⟨us, []⟩ = pure (ps.zip us))
    (a : PySem.W.nsIn K mainGlobals name = some (some (.ref f)))
    (l : K.lookup f = some ⟨oc, od, .func (PySem.W.fnOf name qual (defArgs st) (defBody st) (defScope st) .none kV dc pm an cd ct), sl⟩) (c : PySem.W.codeIn K cd qual = true) (k : PySem.W.keepIn K (.ref f) = true) :
    ∃ a fd q, Fun K name q st a fd ∧ mg name = some (.ref a) ∧ ∀ us : List Value, us.length = ps.length → bindArgs fd ⟨us, []⟩ = pure (ps.zip us) :=
  ⟨f, _, qual, fun_mk l c k, PySem.W.mg_of X G a, hb _ _ _ _ _ _⟩
theorem biAll (X : K.In h) (G : h.Ns mainGlobals mg)
    (z0 : PySem.W.nsIn K mainGlobals "len" = some none)
    (z1 : PySem.W.nsIn K mainGlobals "int" = some none)
    (z2 : PySem.W.nsIn K mainGlobals "str" = some none)
    (z3 : PySem.W.nsIn K mainGlobals "tuple" = some none)
    (z4 : PySem.W.nsIn K mainGlobals "list" = some none)
    (z5 : PySem.W.nsIn K mainGlobals "sorted" = some none)
    (z6 : PySem.W.nsIn K mainGlobals "min" = some none)
    (z7 : PySem.W.nsIn K mainGlobals "max" = some none)
    (z8 : PySem.W.nsIn K mainGlobals "sum" = some none)
    (z9 : PySem.W.nsIn K mainGlobals "any" = some none)
    (z10 : PySem.W.nsIn K mainGlobals "all" = some none)
    (z11 : PySem.W.nsIn K mainGlobals "abs" = some none)
    (z12 : PySem.W.nsIn K mainGlobals "ord" = some none)
    (z13 : PySem.W.nsIn K mainGlobals "bool" = some none)
    (z14 : PySem.W.nsIn K mainGlobals "isinstance" = some none)
    (z15 : PySem.W.nsIn K mainGlobals "range" = some none)
    (z16 : PySem.W.nsIn K mainGlobals "enumerate" = some none)
    (z17 : PySem.W.nsIn K mainGlobals "zip" = some none)
    (z18 : PySem.W.nsIn K mainGlobals "set" = some none)
    (z19 : PySem.W.nsIn K mainGlobals "type" = some none)
    (z20 : PySem.W.nsIn K mainGlobals "reversed" = some none) :
    ∀ x ∈ bins, mg x = none := by
  intro x hx
  simp only [bins, List.mem_cons, List.not_mem_nil, or_false] at hx
  rcases hx with rfl | rfl | rfl | rfl | rfl | rfl | rfl | rfl | rfl | rfl | rfl | rfl | rfl | rfl | rfl | rfl | rfl | rfl | rfl | rfl | rfl
  · exact PySem.W.mg_none_of X G z0
  · exact PySem.W.mg_none_of X G z1
  · exact PySem.W.mg_none_of X G z2
  · exact PySem.W.mg_none_of X G z3
  · exact PySem.W.mg_none_of X G z4
  · exact PySem.W.mg_none_of X G z5
  · exact PySem.W.mg_none_of X G z6
  · exact PySem.W.mg_none_of X G z7
  · exact PySem.W.mg_none_of X G z8
  · exact PySem.W.mg_none_of X G z9
  · exact PySem.W.mg_none_of X G z10
  · exact PySem.W.mg_none_of X G z11
  · exact PySem.W.mg_none_of X G z12
  · exact PySem.W.mg_none_of X G z13
  · exact PySem.W.mg_none_of X G z14
  · exact PySem.W.mg_none_of X G z15
  · exact PySem.W.mg_none_of X G z16
  · exact PySem.W.mg_none_of X G z17
  · exact PySem.W.mg_none_of X G z18
  · exact PySem.W.mg_none_of X G z19
  · exact PySem.W.mg_none_of X G z20
theorem conInt {x : Str} {i : Int} {t : Tok} (X : K.In h) (G : h.Ns mainGlobals mg) (a : PySem.W.nsIn K mainGlobals x = some (some (.int i t))) : ∃ u v, mg x = some u ∧ RelV v u ∧ ∀ H M, Rep K H M v (.int i) := ⟨_, .int i, PySem.W.mg_of X G a, ⟨t, rfl⟩, fun _ _ => .int i⟩
theorem conStr {x : Str} {i : Str} {t : Tok} (X : K.In h) (G : h.Ns mainGlobals mg) (a : PySem.W.nsIn K mainGlobals x = some (some (.str i t))) : ∃ u v, mg x = some u ∧ RelV v u ∧ ∀ H M, Rep K H M v (.str i) := ⟨_, .str i, PySem.W.mg_of X G a, ⟨t, rfl⟩, fun _ _ => .str i⟩
/-- a tuple of ints of the module -/
theorem conTupI {x : Str} {l : List Int} {p : Addr} {o : Obj} {its : Array Value} {n : Nat} (X : K.In h) (G : h.Ns mainGlobals mg) (a : PySem.W.nsIn K mainGlobals x = some (some (.ref p))) (hl : K.lookup p = some o)
    (hc : o.cls = .type "tuple") (hd : o.data = .seq its n) (hz : its.size ≤ sizeLine) (hv : Vals (l.map V.int) its.toList) : ∃ u v, mg x = some u ∧ RelV v u ∧ ∀ H M, Rep K H M v (.kt (l.map D.int)) :=
  ⟨_, .ref p, PySem.W.mg_of X G a, rfl, fun _ _ => .kt (.inr ⟨o, its, n, hl, hc, hd, hz, hv⟩) (reps_ints l)⟩
/-- a written dict and its pairs -/
def EntRel (K : PySem.W.Frag) : List DictEntry → List (Str × D) → Prop := Paired fun e p => (∃ t, e.key = .str p.1 t) ∧ ∃ v, RelV v e.val ∧ ∀ H M, Rep K H M v p.2
theorem ent_find {d : Addr} : ∀ {es : List DictEntry} {l : List (Str × D)}, EntRel K es l → ∀ z, match l.lookup z with
    | none => es.find? (·.key.isStr z) = none ∧ es.any (·.refKey) = false
    | some dd => ∃ e v, es.find? (·.key.isStr z) = some e ∧ RelV v e.val ∧ ∀ H M, Rep K H M v dd
  | _, _, .nil, z => ⟨rfl, rfl⟩
  | _, _, .cons (a := e) (b := p) h r, z => by
    obtain ⟨⟨t, ht⟩, v, hv, hr⟩ := h
    have ih := ent_find (d := d) r z
    obtain ⟨x, dd⟩ := p
    by_cases e1 : z = x
    · subst e1
      simp only [List.lookup, beq_self_eq_true]
      refine ⟨e, v, ?_, hv, hr⟩
      rw [List.find?_cons, ht]
      have : (Value.str z t).isStr z = true := by simp [Value.isStr]
      rw [this]
    · have e2 : (z == x) = false := beq_eq_false_iff_ne.mpr e1
      simp only [List.lookup, e2]
      have e3 : e.key.isStr z = false := by rw [ht]; simp [Value.isStr]; exact fun q => e1 q.symm
      have e4 : e.refKey = false := by unfold DictEntry.refKey; rw [ht]
      rw [List.find?_cons, e3, List.any_cons, e4]
      simpa using ih
theorem dicAt {d : Addr} {es : Array DictEntry} {n : Nat} {l : List (Str × D)} {x : Str} (X : K.In h) (G : h.Ns mainGlobals mg) (a : PySem.W.nsIn K mainGlobals x = some (some (.ref d))) (lk : K.lookup d = some ⟨.type "dict", none, .dict es n, #[]⟩)
    (lit : PySem.W.KeysLit w.params es.toList) (low : (d == sysModules) = false) (er : EntRel K es.toList l) : ∃ d, mg x = some (.ref d) ∧ DicAt K w d l := by
  refine ⟨d, PySem.W.mg_of X G a, es, n, ⟨lk, lit, low⟩, fun z => ?_⟩
  have q := ent_find (d := d) er z
  cases hz : l.lookup z with
  | none =>
    rw [hz] at q
    show PySem.W.nsIn K d z = some none
    unfold PySem.W.nsIn
    rw [lk]
    simp only [q.1, q.2, Bool.false_eq_true, if_false]
  | some dd =>
    rw [hz] at q
    obtain ⟨e, v, q1, q2, q3⟩ := q
    refine ⟨e.val, v, ?_, q2, q3⟩
    unfold PySem.W.nsIn
    rw [lk]
    simp only [q1]
end
/-- a def called law, of one argument -/
theorem law_fn {p : Prg} {P : Program} {w : World} {K : PySem.W.Frag} {mg : Str → Option Value} (ok : p.Ok) (ct : CTab) (A0 : p.At P w K mg ct) {fa : Addr} {f : Nat} {d : FnD} (hfa : mg "law" = some (.ref fa)) (hd : p.fds[f]? = some d) (hn : d.name = "law") (hps : d.ps = [("script" : Str)]) (k : Nat) :
    ∃ fd : FuncData, (∀ (s : Shared) (v : Value), BindsTo s fd ⟨[v], []⟩ [("script", v)]) ∧ ∀ base : Heap, FnOk P w K mg base (L2.CX P w) k fa fd ["script"] (spF K ct (p.G k) f 1) := by
  obtain ⟨a, fd, q, F, hm, hb⟩ := A0.fn d (List.mem_of_getElem? hd)
  rw [hn, hfa] at hm
  cases hm
  refine ⟨fd, fun s v => .of_eq (by have := hb [v] (by rw [hps]; rfl); rw [hps] at this; exact this), fun base => ?_⟩
  have := all_ok (base := base) ok ct A0 k f d fa fd q hd F
  rw [hps] at this
  exact this
theorem law_walk {p : Prg} {ct : CTab} {f kk : Nat} {l : PySem.W.OpenLaw} {q : Program} {loose : List Str} {XP : (Str → Option Value) → Heap → Prop} {YP : World → Heap → Prop} {d : DefRec} {K : Params → PySem.W.Frag} (hn : l.most = some 63) (hdf : d.params.defaults = []) (hr : Room kk callerA)
    (hY : ∀ (w : World) (h : Heap), YP w h → (K w.params).In h)
    (main : ∀ ns : List Int, ns.length ≤ 63 → ∃ μ', callD p.tab p.con p.dic p.wf kk f [.kl (ns.map D.int)] [] = .ok (.bl true) μ')
    (F : ∀ (w : World) (mg : Str → Option Value) (fa : Addr) (h : Heap), (K w.params).In h → h.Ns mainGlobals mg → mg d.name = some (.ref fa) →
      ∃ fd : FuncData, (∀ (s : Shared) (u : Value), BindsTo s fd ⟨[u], []⟩ [("script", u)]) ∧ ∀ base : Heap, FnOk l.prog w (K w.params) mg base (L2.CX l.prog w) kk fa fd ["script"] (spF (K w.params) ct (p.G kk) f 1)) :
    PySem.W.WalkO q loose XP YP l.row.toRowW d [] (fun f vs => PySem.call f vs) := by
  refine L2.walk_of (n := 63) (k := kk) (x := "script") (CX := fun w => L2.CX l.prog w) (sp := fun w => spF (K w.params) ct (p.G kk) f 1) hn (by decide) hdf hr hY (fun w mg fa h a b c => ?_) (fun w H a ns hl _ hS => ?_) fun w H s e s' z => ?_
  · obtain ⟨fd, h1, h2⟩ := F w mg fa h a b c
    exact ⟨fd, h1, fun base _ _ => h2 base⟩
  · obtain ⟨μ', hm⟩ := main ns hl
    refine ⟨[.kl (ns.map D.int)], [], ⟨[], []⟩, rfl, ⟨rfl, by show ([] : List Addr).Nodup; simp, fun n mo q => (by simp at q), fun a q => (by cases q)⟩, ?_, ?_⟩
    · refine .cons (.kl (xs := ns.map V.int) ?_ ?_) .nil
      · rcases hS with z | z
        · exact .inl ⟨z, ⟨fun q => (by cases q), fun q => (by cases q)⟩⟩
        · exact .inr (.inr z)
      · clear hl hS hm
        induction ns with
        | nil => exact .nil
        | cons n ns ih => exact .cons (.int n) ih
    · have e : (p.G kk).call f [.kl (ns.map D.int)] [] = .ok (.bl true) μ' := hm
      rw [e]
      intro v H' M' _ _ r
      cases r
      rfl
  · obtain ⟨_, _, _, _, _, _, _, _, _, _, _, _, x⟩ := z
    exact x
end PyI
/-! A17: texts as lists of codes; small facts of the interpreter. -/
namespace PyI
open PySem L2
def tx (l : List Nat) : Str := ⟨l.toArray⟩
theorem tx_l (l : List Nat) : (tx l).cps.toList = l := rfl
theorem tx_len (l : List Nat) : (tx l).length = l.length := by simp [tx, Str.length]
theorem tx_ext {x : Str} {l : List Nat} (h : x.cps.toList = l) : x = tx l := TL.ext_tl h
theorem tx_self (x : Str) : x = tx x.cps.toList := TL.ext_tl rfl
theorem tx_inj {a b : List Nat} : (tx a = tx b) ↔ a = b := ⟨fun h => congrArg (fun x : Str => x.cps.toList) h, fun h => by rw [h]⟩
theorem tx_add (a b : List Nat) : tx a ++ tx b = tx (a ++ b) := TL.ext_tl (by rw [TL.tl_append]; rfl)
theorem tx_beq (a b : List Nat) : (tx a == tx b) = (a == b) := by
  by_cases h : a = b
  · subst h; simp
  · rw [beq_eq_false_iff_ne.mpr h, beq_eq_false_iff_ne.mpr (fun e => h (tx_inj.mp e))]
theorem tx_all (l : List Nat) (p : Nat → Bool) : (tx l).cps.all p = l.all p := by simp [tx]
/-- a cut at numbers -/
theorem tx_cut (l : List Nat) {i j : Int} (a b : Nat) (hi : i = a) (hj : j = b) : cutS (tx l) (some i) (some j) = tx ((l.drop a).take (b - a)) := by
  subst hi hj
  refine tx_ext ?_
  show (l.drop _).take _ = _
  rw [HT.sIx_nat, HT.sIx_nat, tx_len]
  by_cases ha : a ≤ l.length
  · rw [Nat.min_eq_left ha]
    by_cases hb : b ≤ l.length
    · rw [Nat.min_eq_left hb]
    · rw [Nat.min_eq_right (by omega), List.take_of_length_le (by simp), List.take_of_length_le (by simp; omega)]
  · rw [List.drop_eq_nil_of_le (by omega), List.drop_eq_nil_of_le (by omega), List.take_nil, List.take_nil]
/-- text[at:at+1] -/
theorem cut_at (p : List Nat) (c : Nat) (r : List Nat) {i j : Int} (hi : i = p.length) (hj : j = p.length + 1) : cutS (tx (p ++ c :: r)) (some i) (some j) = tx [c] := by
  rw [tx_cut _ p.length (p.length + 1) hi (by omega)]
  simp
theorem cut_mid (p q r : List Nat) {i j : Int} (hi : i = p.length) (hj : j = p.length + q.length) : cutS (tx (p ++ (q ++ r))) (some i) (some j) = tx q := by
  rw [tx_cut _ p.length (p.length + q.length) hi (by omega)]
  simp
theorem cut_end (p : List Nat) {i j : Int} (hi : i = p.length) (hj : j = p.length + 1) : cutS (tx p) (some i) (some j) = tx [] := by
  rw [tx_cut _ p.length (p.length + 1) hi (by omega)]
  simp
theorem tx_in (c : Nat) (l : List Nat) : (!(Builtin.Str.occurrences (tx l) (tx [c]) 0 (tx l).length 1).isEmpty) = decide (c ∈ l) := PySem.StrLaws.found_one (tx l) c
theorem tx_repl (l y z : List Nat) (hy : y ≠ []) : Txt.replace (tx l) (tx y) (tx z) = tx (StrLaws.replL y z l) := tx_ext (StrLaws.replace_list (by
  rw [tx_len]
  cases y with
  | nil => exact absurd rfl hy
  | cons => simp))
theorem tx_join (y : List Nat) (ps : List (List Nat)) : Txt.join (tx y) (ps.map tx) = tx (TL.joinL y ps) := by
  refine tx_ext ?_
  rw [TL.join_eq]
  refine (TL.tl_join (tx y) (ps.map tx)).trans ?_
  rw [List.map_map]
  show TL.joinL y (ps.map (TL.tl ∘ tx)) = _
  congr 1
  exact List.map_id _
theorem tx_split (l y : List Nat) (hy : y ≠ []) (hk : y.all (· < 256) = true) : Txt.split (tx l) (tx y) = (TL.spl y 0 [] l).map tx := by
  refine TL.map_tl_inj ?_
  rw [TL.split_spl _ _ hy (TL.kind_ok (by rw [tx_all]; exact hk)), List.map_map]
  exact (List.map_id _).symm
theorem tx_find (a b r : List Nat) (c : Nat) {i : Int} (hi : i = a.length) (h : c ∉ b) : Txt.find3 (tx (a ++ (b ++ c :: r))) (tx [c]) i = ((a.length + b.length : Nat) : Int) := by
  have fi : fromIndex (tx (a ++ (b ++ c :: r))).length i = a.length := by
    subst hi
    unfold fromIndex
    rw [if_neg (by omega)]
    omega
  have g : ∀ v, (tx (a ++ (b ++ c :: r))).cps.getD v 0 = (a ++ (b ++ c :: r)).getD v 0 := fun v => by simp [tx]
  have hit : (a ++ (b ++ c :: r)).getD (a.length + b.length) 0 = c := by
    rw [← List.append_assoc]
    simp [List.getD]
  have low : ∀ v, a.length ≤ v → v < a.length + b.length → (a ++ (b ++ c :: r)).getD v 0 ≠ c := fun v h1 h2 e => by
    rw [List.getD, List.getElem?_append_right h1, List.getElem?_append_left (by omega), List.getElem?_eq_getElem (by omega)] at e
    exact h (e ▸ List.getElem_mem _)
  rcases StrLaws.find3_spec (tx (a ++ (b ++ c :: r))) c i with ⟨h1, hn⟩ | ⟨k, h1, hlo, hlt, hk, hn⟩
  · refine absurd ((g _).trans hit) (hn _ (by rw [fi]; omega) (by rw [tx_len]; simp))
  · rw [fi] at hlo hn
    have e : k = a.length + b.length := by
      rcases Nat.lt_trichotomy k (a.length + b.length) with q | q | q
      · exact absurd ((g k).symm.trans hk) (low k hlo q)
      · exact q
      · exact absurd ((g _).trans hit) (hn _ (by omega) q)
    rw [← e]
    exact h1

/-! ### the numbers' texts -/
/-- the codes of a number -/
def intL : Int → List Nat
  | .ofNat n => TL.numL n
  | .negSucc n => 45 :: TL.numL (n + 1)
theorem tx_int (i : Int) : (Str.ofString (toString i) : Str) = tx (intL i) := by
  cases i with
  | ofNat n => exact tx_ext (TL.tl_num n)
  | negSucc n =>
    refine tx_ext ?_
    have e : toString (Int.negSucc n) = "-" ++ toString ((n + 1 : Nat) : Int) := rfl
    rw [e]
    show TL.tl (Str.ofString ("-" ++ _)) = _
    rw [TL.tl_ofString, String.toList_append, List.map_append, ← TL.tl_ofString (toString ((n + 1 : Nat) : Int)), TL.tl_num]
    rfl
theorem int_back (i : Int) (h : (intL i).length ≤ 640) : intText? (tx (intL i)) = some i := by
  cases i with
  | ofNat n =>
    rw [← tx_int]
    exact TL.int_num (show (intL (Int.ofNat n)).length ≤ 4300 by omega)
  | negSucc n =>
    rw [intText_neg (cs := TL.numL (n + 1)) rfl (TL.numL_digits _) (TL.numL_ne _) (by rw [tx_len]; omega), TL.numL_val]
    rfl

/-! ### heaps -/
theorem fin_same {d : D} {μ : Mu} {n : Nat} (h : μ.length = n) : fin n d μ = .ok d μ := if_pos h
mutual
/-- no references -/
def pureD : D → Bool
  | .ref _ => false
  | .tup l => pureDs l
  | .lst l => pureDs l
  | .kl l => pureDs l
  | .kt l => pureDs l
  | _ => true
def pureDs : List D → Bool
  | [] => true
  | d :: ds => pureD d && pureDs ds
end
mutual
theorem pureD.below (n : Nat) : ∀ {d : D}, pureD d = true → below n d = true
  | .non, _ | .bl _, _ | .int _, _ | .str _, _ => rfl
  | .ref _, h => by cases h
  | .tup l, h => pureDs.belows n (l := l) h
  | .lst l, h => pureDs.belows n (l := l) h
  | .kl l, h => pureDs.belows n (l := l) h
  | .kt l, h => pureDs.belows n (l := l) h
theorem pureDs.belows (n : Nat) : ∀ {l : List D}, pureDs l = true → belows n l = true
  | [], _ => rfl
  | d :: l, h => by
    simp only [pureDs, Bool.and_eq_true] at h
    simp only [PyI.belows, Bool.and_eq_true]
    exact ⟨pureD.below n h.1, pureDs.belows n h.2⟩
end
theorem pureDs_append : ∀ {l m : List D}, pureDs (l ++ m) = (pureDs l && pureDs m)
  | [], m => by simp [pureDs]
  | d :: l, m => by simp [pureDs, pureDs_append, Bool.and_assoc]
theorem pureDs_map {α : Type} {f : α → D} (h : ∀ a, pureD (f a) = true) : ∀ l : List α, pureDs (l.map f) = true
  | [] => rfl
  | a :: l => by simp [pureDs, h a, pureDs_map h l]
/-- a heap of lists without references -/
def PureM (μ : Mu) : Prop := ∀ m ∈ μ, ∃ l, m = .lst l ∧ pureDs l = true
theorem PureM.all {μ : Mu} (h : PureM μ) (n : Nat) : μ.all (belowMO n) = true := List.all_eq_true.mpr fun m hm => by
  obtain ⟨l, rfl, hl⟩ := h m hm
  exact pureDs.belows n hl
theorem PureM.snoc {μ : Mu} (h : PureM μ) {l : List D} (hl : pureDs l = true) : PureM (μ ++ [.lst l]) := fun m hm => by
  rcases List.mem_append.mp hm with q | q
  · exact h m q
  · exact ⟨l, List.mem_singleton.mp q, hl⟩
/-- one list of its own was made, and is forgotten -/
theorem fin_one {d : D} {μ : Mu} {l : MO} (h : PureM μ) (hd : pureD d = true) : fin μ.length d (μ ++ [l]) = .ok d μ := by
  have hb := pureD.below μ.length hd
  have hm : ((μ ++ [l]).take μ.length).all (belowMO μ.length) = true := by rw [List.take_left']; exact h.all _; rfl
  have ht : (μ ++ [l]).take μ.length = μ := List.take_left' rfl
  unfold fin
  rw [if_neg (by simp)]
  cases d with
  | ref k => cases hd
  | _ =>
    simp only []
    rw [if_pos ⟨hb, hm, by simp⟩, ht]
/-- one list of its own was made, and is handed back -/
theorem fin_ret {μ : Mu} {l : List D} (h : PureM μ) (hd : pureDs l = true) : fin μ.length (.ref μ.length) (μ ++ [.lst l]) = .ok (.lst l) μ := by
  unfold fin
  rw [if_neg (by simp)]
  have e : (μ ++ [MO.lst l])[μ.length]? = some (.lst l) := by simp
  simp only [e, Nat.le_refl, if_true]
  rw [if_pos ⟨pureDs.belows _ hd, by rw [List.take_left']; exact h.all _; rfl, by simp⟩, List.take_left']
  rfl
theorem snoc_get {μ : Mu} {m : MO} : (μ ++ [m])[μ.length]? = some m := by simp
theorem snoc_set {μ : Mu} {m m' : MO} : (μ ++ [m]).set μ.length m' = μ ++ [m'] := by simp

/-! ### stepping: only what stands first is looked at -/
theorem bind_ok {α β : Type} {a : α} {μ : Mu} {f : α → Mu → Res β} : (Res.ok a μ).bind f = f a μ := rfl
theorem then_ok {α : Type} {a : α} {μ : Mu} {ρ : Rho} {f : α → Mu → Out} : (Res.ok a μ).then ρ f = f a μ := rfl
theorem next_nx {ρ : Rho} {μ : Mu} {f : Rho → Mu → Out} : (Out.nx ρ μ).next f = f ρ μ := rfl
theorem next_rt {d : D} {μ : Mu} {f : Rho → Mu → Out} : (Out.rt d μ).next f = .rt d μ := rfl
theorem next_br {ρ : Rho} {μ : Mu} {f : Rho → Mu → Out} : (Out.br ρ μ).next f = .br ρ μ := rfl
theorem next_ct {ρ : Rho} {μ : Mu} {f : Rho → Mu → Out} : (Out.ct ρ μ).next f = .ct ρ μ := rfl
theorem finO_rt {n : Nat} {d : D} {μ : Mu} : finO n (.rt d μ) = fin n d μ := rfl
theorem finO_nx {n : Nat} {ρ : Rho} {μ : Mu} : finO n (.nx ρ μ) = fin n .non μ := rfl

theorem run_nx {Γ : G} {s : PyI.S} {b : B} {ρ ρ' : Rho} {μ μ' : Mu} {o : Out} (h : runS Γ s ρ μ = .nx ρ' μ') (h2 : runB Γ b ρ' μ' = o) : runB Γ (.cons s b) ρ μ = o := by
  rw [runB, h]
  exact h2
theorem run_rt {Γ : G} {s : PyI.S} {b : B} {ρ : Rho} {μ μ' : Mu} {d : D} (h : runS Γ s ρ μ = .rt d μ') : runB Γ (.cons s b) ρ μ = .rt d μ' := by
  rw [runB, h]
  rfl
theorem for_rng {f : D → Rho → Mu → Out} {lo : Int} (I : Nat → Rho → Mu → Prop) : ∀ (m n : Nat) {ρ : Rho} {μ : Mu}, I n ρ μ →
    (∀ i, n ≤ i → i < n + m → ∀ ρ μ, I i ρ μ → (∃ ρ' μ', f (.int (lo + (i : Int))) ρ μ = .nx ρ' μ' ∧ I (i + 1) ρ' μ') ∨ (∃ ρ' μ', f (.int (lo + (i : Int))) ρ μ = .br ρ' μ' ∧ I (n + m) ρ' μ')) →
    ∃ ρ' μ', forLoop f (chkOf none) ((List.range' n m).map fun (i : Nat) => D.int (lo + (i : Int))) ρ μ = .nx ρ' μ' ∧ I (n + m) ρ' μ'
  | 0, n, ρ, μ, h0, _ => ⟨ρ, μ, rfl, h0⟩
  | m + 1, n, ρ, μ, h0, hs => by
    rw [List.range'_succ, List.map_cons]
    unfold forLoop
    rw [if_pos (show chkOf none μ = true from rfl)]
    rcases hs n (Nat.le_refl _) (by omega) ρ μ h0 with ⟨ρ', μ', e, h1⟩ | ⟨ρ', μ', e, h1⟩
    · rw [e]
      have r := for_rng I m (n + 1) h1 fun i h2 h3 ρ μ hi => by
        have z := hs i (by omega) (by omega) ρ μ hi
        rw [show n + (m + 1) = n + 1 + m by omega] at z
        exact z
      rw [show n + (m + 1) = n + 1 + m by omega]
      exact r
    · rw [e]
      exact ⟨ρ', μ', rfl, h1⟩
/-- for k in range(lo, lo + n) -/
theorem for_range {f : D → Rho → Mu → Out} {lo : Int} {n : Nat} {ρ : Rho} {μ : Mu} (I : Nat → Rho → Mu → Prop) (h0 : I 0 ρ μ)
    (hs : ∀ i, i < n → ∀ ρ μ, I i ρ μ → (∃ ρ' μ', f (.int (lo + (i : Int))) ρ μ = .nx ρ' μ' ∧ I (i + 1) ρ' μ') ∨ (∃ ρ' μ', f (.int (lo + (i : Int))) ρ μ = .br ρ' μ' ∧ I n ρ' μ')) :
    ∃ ρ' μ', forLoop f (chkOf none) (rngD lo n) ρ μ = .nx ρ' μ' ∧ I n ρ' μ' := by
  have r := for_rng (f := f) (lo := lo) I n 0 h0 (fun i _ h3 ρ μ hi => by
    have z := hs i (by omega) ρ μ hi
    rw [Nat.zero_add]
    exact z)
  rw [Nat.zero_add] at r
  unfold rngD
  rw [List.range_eq_range']
  exact r
/-- a comprehension whose items change nothing -/
theorem comp_map {f : D → Mu → Res (Option D)} {g : D → D} {μ : Mu} : ∀ {ds acc : List D}, (∀ d ∈ ds, f d μ = .ok (some (g d)) μ) → acc.length + ds.length ≤ 16777216 → compLoop f (chkOf none) acc ds μ = .ok (acc ++ ds.map g) μ
  | [], acc, _, _ => by
    unfold compLoop
    rw [if_pos (show chkOf none μ = true from rfl), List.map_nil, List.append_nil]
  | d :: ds, acc, h, hl => by
    rw [List.length_cons] at hl
    unfold compLoop
    rw [if_pos (show chkOf none μ = true from rfl), h d (List.mem_cons_self ..)]
    simp only []
    rw [needs_pos (by omega), comp_map (fun e he => h e (List.mem_cons_of_mem _ he)) (by simp; omega)]
    simp
theorem comp_inv {f : D → Mu → Res (Option D)} (I : Mu → Prop) (P : D → Prop) : ∀ {ds acc : List D} {μ : Mu}, (∀ d ∈ ds, ∀ μ, I μ → ∃ y μ', f d μ = .ok (some y) μ' ∧ P y ∧ I μ') → acc.length + ds.length ≤ 16777216 →
    (∀ y ∈ acc, P y) → I μ → ∃ l μ', compLoop f (chkOf none) acc ds μ = .ok l μ' ∧ (∀ y ∈ l, P y) ∧ l.length = acc.length + ds.length ∧ I μ'
  | [], acc, μ, _, _, ha, hi => by
    unfold compLoop
    rw [if_pos (show chkOf none μ = true from rfl)]
    exact ⟨acc, μ, rfl, ha, rfl, hi⟩
  | d :: ds, acc, μ, h, hl, ha, hi => by
    rw [List.length_cons] at hl
    obtain ⟨y, μ', e, hy, hi'⟩ := h d (List.mem_cons_self ..) μ hi
    unfold compLoop
    rw [if_pos (show chkOf none μ = true from rfl), e]
    simp only []
    rw [needs_pos (by omega)]
    obtain ⟨l, μ2, r1, r2, r3, r4⟩ := comp_inv I P (ds := ds) (acc := acc ++ [y]) (μ := μ') (fun e he => h e (List.mem_cons_of_mem _ he)) (by simp; omega) (fun z hz => by
      rcases List.mem_append.mp hz with q | q
      · exact ha z q
      · rw [List.mem_singleton.mp q]; exact hy) hi'
    refine ⟨l, μ2, r1, r2, ?_, r4⟩
    rw [r3]
    simp
    omega
theorem strs_map (l : List Str) : strsOf (l.map D.str) = some l := by
  induction l with
  | nil => rfl
  | cons a l ih => simp only [List.map_cons, strsOf, ih]; rfl
theorem for_inv {f : D → Rho → Mu → Out} (I : List D → Rho → Mu → Prop) : ∀ {ds : List D} {ρ : Rho} {μ : Mu}, I ds ρ μ →
    (∀ d ds ρ μ, I (d :: ds) ρ μ → ∃ ρ' μ', f d ρ μ = .nx ρ' μ' ∧ I ds ρ' μ') → ∃ ρ' μ', forLoop f (chkOf none) ds ρ μ = .nx ρ' μ' ∧ I [] ρ' μ'
  | [], ρ, μ, h, _ => ⟨ρ, μ, by unfold forLoop; rw [if_pos (show chkOf none μ = true from rfl)], h⟩
  | d :: ds, ρ, μ, h, hs => by
    obtain ⟨ρ', μ', e, h1⟩ := hs d ds ρ μ h
    unfold forLoop
    rw [if_pos (show chkOf none μ = true from rfl), e]
    exact for_inv I h1 hs
/-- m more rounds -/
theorem whl_inv {c : Rho → Mu → Res Bool} {f : Rho → Mu → Out} (I : Nat → Rho → Mu → Prop) (hs : ∀ m ρ μ, I (m + 1) ρ μ → c ρ μ = .ok true μ ∧ ∃ ρ' μ', f ρ μ = .nx ρ' μ' ∧ I m ρ' μ') (h0 : ∀ ρ μ, I 0 ρ μ → c ρ μ = .ok false μ) :
    ∀ {m n : Nat} {ρ : Rho} {μ : Mu}, m < n → I m ρ μ → ∃ ρ' μ', whileLoop c f n ρ μ = .nx ρ' μ' ∧ I 0 ρ' μ'
  | m, 0, _, _, h, _ => absurd h (Nat.not_lt_zero _)
  | 0, n + 1, ρ, μ, _, hi => ⟨ρ, μ, by
    unfold whileLoop
    rw [h0 _ _ hi]
    rfl, hi⟩
  | m + 1, n + 1, ρ, μ, h, hi => by
    obtain ⟨e, ρ', μ', e2, h1⟩ := hs m ρ μ hi
    unfold whileLoop
    rw [e]
    show ∃ a b, (match f ρ μ with
      | .nx ρ' μ' => whileLoop c f n ρ' μ'
      | .ct ρ' μ' => whileLoop c f n ρ' μ'
      | .br ρ' μ' => .nx ρ' μ'
      | o => o) = .nx a b ∧ _
    rw [e2]
    exact whl_inv I hs h0 (Nat.lt_of_succ_lt_succ h) h1
theorem lt_one (a b : Nat) : ltS (tx [a]) (tx [b]) = decide (a < b) := by
  unfold ltS
  rw [tx_l, tx_l]
  refine decide_eq_decide.mpr ?_
  rw [List.cons_lt_cons_iff]
  constructor
  · rintro (h | ⟨_, h⟩)
    · exact h
    · exact absurd h (List.not_lt_nil _)
  · exact Or.inl
theorem lt_none (b : Nat) : ltS (tx []) (tx [b]) = true := by
  unfold ltS
  rw [tx_l, tx_l]
  exact decide_eq_true (List.nil_lt_cons _ _)
theorem tyf : (Ty.str == Ty.str) = true ∧ (Ty.str == Ty.int) = false ∧ (Ty.str == Ty.bool) = false ∧ (Ty.str == Ty.tuple) = false ∧ (Ty.str == Ty.list) = false ∧ (Ty.int == Ty.str) = false ∧ (Ty.int == Ty.int) = true ∧ (Ty.int == Ty.bool) = false ∧ (Ty.int == Ty.tuple) = false ∧ (Ty.int == Ty.list) = false ∧ (Ty.bool == Ty.str) = false ∧ (Ty.bool == Ty.int) = false ∧ (Ty.bool == Ty.bool) = true ∧ (Ty.bool == Ty.tuple) = false ∧ (Ty.bool == Ty.list) = false ∧ (Ty.tuple == Ty.str) = false ∧ (Ty.tuple == Ty.int) = false ∧ (Ty.tuple == Ty.bool) = false ∧ (Ty.tuple == Ty.tuple) = true ∧ (Ty.tuple == Ty.list) = false ∧ (Ty.list == Ty.str) = false ∧ (Ty.list == Ty.int) = false ∧ (Ty.list == Ty.bool) = false ∧ (Ty.list == Ty.tuple) = false ∧ (Ty.list == Ty.list) = true := by decide
theorem lim_nat {n : Nat} (h : n ≤ 1000000) : lim62 (n : Int) :=
  ⟨Int.le_trans (by decide +kernel : -(2 ^ 62) ≤ (0 : Int)) (Int.natCast_nonneg n), Int.lt_of_le_of_lt (Int.ofNat_le.mpr h) (by decide +kernel : ((1000000 : Nat) : Int) < 2 ^ 62)⟩
theorem it_rng1 {Γ : G} {a : E} {ρ : Rho} {μ μ' : Mu} {i : Int} {n : Nat} (h : evalE Γ a ρ μ = .ok (.int i) μ') (hi : i = n) (hn : n ≤ 1000000) : evalIt Γ (.rng1 a) ρ μ = .ok (rngD 0 n, none) μ' := by
  subst hi
  rw [evalIt, h, bind_ok]
  show needs (lim62 (n : Int)) _ = _
  rw [needs_pos (lim_nat hn)]
  rfl
theorem it_rng2 {Γ : G} {a b : E} {ρ : Rho} {μ μ1 μ2 : Mu} {i j : Int} {n m : Nat} (h : evalE Γ a ρ μ = .ok (.int i) μ1) (h2 : evalE Γ b ρ μ1 = .ok (.int j) μ2) (hi : i = n) (hj : j = (n + m : Nat)) (hn : n + m ≤ 1000000) : evalIt Γ (.rng2 a b) ρ μ = .ok (rngD i m, none) μ2 := by
  subst hi hj
  rw [evalIt, h, bind_ok, h2, bind_ok]
  show needs (lim62 (n : Int) ∧ lim62 ((n + m : Nat) : Int)) _ = _
  rw [needs_pos ⟨lim_nat (by omega), lim_nat hn⟩]
  have : (((n + m : Nat) : Int) - (n : Int)).toNat = m := by omega
  rw [this]
theorem for_run {Γ : G} {tg : Tg} {it : IT} {b : B} {ρ : Rho} {μ μ' : Mu} {ds : List D} {o : Out} (h : evalIt Γ it ρ μ = .ok (ds, none) μ')
    (h2 : forLoop (fun d ρ μ => match assignT tg d ρ with
      | some ρ' => runB Γ b ρ' μ
      | none => .stuck) (chkOf none) ds ρ μ' = o) : runS Γ (.for_ tg it b) ρ μ = o := by
  rw [runS, h, then_ok]
  exact h2
/-- one round of a loop -/
def fbody (Γ : G) (tg : Tg) (b : B) (d : D) (ρ : Rho) (μ : Mu) : Out := match assignT tg d ρ with
  | some ρ' => runB Γ b ρ' μ
  | none => .stuck
theorem for_run' {Γ : G} {tg : Tg} {it : IT} {b : B} {ρ : Rho} {μ μ' : Mu} {ds : List D} {o : Out} (h : evalIt Γ it ρ μ = .ok (ds, none) μ') (h2 : forLoop (fbody Γ tg b) (chkOf none) ds ρ μ' = o) : runS Γ (.for_ tg it b) ρ μ = o := for_run h h2
theorem fbody_nm {Γ : G} {i : Nat} {b : B} {d : D} {ρ : Rho} {μ : Mu} : fbody Γ (.nm i) b d ρ μ = runB Γ b (ρ.set i (some d)) μ := rfl
/-- one item of a comprehension -/
def cbody (Γ : G) (own : List Nat) (tg : Tg) (c : T) (e : E) (ρ : Rho) (d : D) (μ : Mu) : Res (Option D) := match assignT tg d (wipeR ρ own) with
  | none => .stuck
  | some ρ' => (evalT Γ c ρ' μ).bind fun k μ => if k then (evalE Γ e ρ' μ).bind fun y μ => .ok (some y) μ else .ok none μ
theorem comp_run {Γ : G} {own : List Nat} {tg : Tg} {it : IT} {c : T} {e : E} {ρ : Rho} {μ μ1 μ2 : Mu} {ds l : List D} (h : evalIt Γ it ρ μ = .ok (ds, none) μ1) (h2 : compLoop (cbody Γ own tg c e ρ) (chkOf none) [] ds μ1 = .ok l μ2) :
    evalE Γ (.comp own tg it c e) ρ μ = .ok (.lst l) μ2 := by
  rw [evalE, h, bind_ok]
  exact congrArg (fun r : Res (List D) => r.bind fun (l : List D) (μ : Mu) => Res.ok (D.lst l) μ) h2
theorem cbody_nm {Γ : G} {own : List Nat} {i : Nat} {e : E} {ρ : Rho} {d y : D} {μ μ' : Mu} (h : evalE Γ e ((wipeR ρ own).set i (some d)) μ = .ok y μ') : cbody Γ own (.nm i) .yes e ρ d μ = .ok (some y) μ' := by
  unfold cbody
  simp only [assignT, evalT, bind_ok, if_true, h]
end PyI
/-! X2: the __init__ of an own error keeps its promise. -/
namespace PyI
open PySem PySem.Spec PyProof.Rows L2 NdefX
section
variable {CX : CXT} {P : Program} {w : World} {K : PySem.W.Frag} {mg : Str → Option Value} {base : Heap} {N ps : List Str} {k : Nat} {sp : Sp} {name qual : Str} {params : Arguments} {scope : Scope} {doc pm ct oc : Value} {od : Option Addr} {osl : Array (Option Value)} {C fI cda cc : Addr} {e : Expr} {rest : List Stmt} {p0 p1 apos pos epos : Pos}
abbrev iNF (name qual : Str) (params : Arguments) (body : List Stmt) (scope : Scope) (cc cda : Addr) : NF := ⟨name, qual, params, body, scope, [("__class__", cc)], cda⟩
theorem init_ok {F : NF} (hF : F = iNF name qual params (.Expr (.Call (.Attribute (.Call (.Name "super" p0) [] [] p1) "__init__" apos) [e] [] pos) epos :: rest) scope cc cda)
    (lk : K.lookup fI = some ⟨oc, od, .func (F.fd doc pm ct), osl⟩) (hcd : PySem.W.codeIn K (.ref cda) qual = true) (S : NScope N ps ["__class__"] scope) (SK : SupK K P C fI cda cc) (T : OexC K C) (hm : mg "super" = none)
    (hs0 : ps.head? = some "self") (hks : scope.names.lookup ("super" : Str) = some .globalImplicit) (he : ∀ env, starEach [e] env = [(false, eval e env)])
    (hc : ∀ env : Env, ∃ pl : Sem Bool, eval (.Call (.Attribute (.Call (.Name "super" p0) [] [] p1) "__init__" apos) [e] [] pos) env = (do
      let ov ← attributeBase (.Call (.Name "super" p0) [] [] p1) "__init__" env (eval (.Call (.Name "super" p0) [] [] p1) env)
      standAt apos.atName
      let (f, first) ← holding [ov] (getMethod ov "__init__" pl)
      callWith pos f first (backTo pos (starEach [e] env)) []))
    (hsw : ∀ env : Env, swapsWith (.Call (.Attribute (.Call (.Name "super" p0) [] [] p1) "__init__" apos) [e] [] pos) none epos.line env = pure false)
    (len : ∀ vs H Q E, sp vs H Q E → vs.length = ps.length)
    (hbody : ∀ (A : Around) (outer : List Env) (s : Shared) (H : Hp) (vs : List V) (Q : VK) (E : XK), Room k (A.deeper (envF F fI s.heap.objs.size)) → sp vs H Q E →
      ∃ (a : Addr) (vs' : List V) (ta : TA) (t : TS), vs = .ref a :: vs' ∧ H a = some (exo a C none) ∧ PA (ncx CX P w K mg base N F fI A outer s H E) [e] ta ∧ PSs (ncx CX P w K mg base N F fI A outer s H E) rest t ∧
        ta (startF N vs [none]) H (fun us H1 => H1 a = some (exo a C none) ∧ us.length ≤ 1000 ∧ t { nx := fun _ H' => Q .non H', rt := Q } (startF N vs [none]) H1)) :
    FnOk P w K mg base CX (k + 1) fI (F.fd doc pm ct) ps sp := by
  refine ⟨len, fun A outer s H args us vs Q E hr e0 hb r hsp => ?_⟩
  subst hF
  have hl := len _ _ _ _ hsp
  have KX : K.In s.heap := e0.mod.kin.keeps fun b o e => (e0.bs b o e).1
  have lim : s.heap.NoLimit := e0.mod.nolimit.keeps fun b o e => (e0.bs b o e).1
  obtain ⟨cl, cld, csl, lcell⟩ := SK.cell
  have hcc : H cc = none := (e0.bs cc _ (e0.mod.kin _ _ lcell)).2
  have hcell : s.heap.IsCell cc (some (.ref C)) := ⟨_, KX _ _ lcell, rfl⟩
  have lkc : ∀ (y : Str) (c : Addr), [(("__class__" : Str), cc)].lookup y = some c → y = "__class__" ∧ c = cc := fun y c h => by
    rw [List.lookup_cons] at h
    cases hy : (y == ("__class__" : Str)) with
    | true => rw [hy] at h; exact ⟨beq_iff_eq.mp hy, (Option.some.inj h).symm⟩
    | false => rw [hy] at h; cases h
  have CA : CellsAt [("__class__", cc)] ["__class__"] [none] s.heap H := by
    refine ⟨rfl, fun y c h => ?_, fun x y c h1 h2 => by rw [(lkc x c h1).1, (lkc y c h2).1], fun i y h => ?_⟩
    · rw [(lkc y c h).2]; exact ⟨hcc, _, hcell⟩
    · rcases i with _ | i
      · cases h; exact ⟨cc, rfl, fun v z => by cases z⟩
      · cases h
  obtain ⟨a, vs', ta, t, rfl, ea, pa, pss, hq⟩ := hbody A outer s H vs Q E (hr.deeper _) hsp
  refine codeAny_call_function hr.depth (KX _ _ lk) rfl S.co S.gen rfl (PySem.W.codeRec_of KX hcd) (hb _ _ _ _ ?_)
  refine wpAny_newFunctionEnv S.nocell (fun ⟨n, _⟩ hy => S.par n (List.of_mem_zip hy).1) (fun h₁ hns hsb => ⟨lim.fresh _ hsb, ?_⟩) S.kind
  show codeAny _ _ (.func (iNF name qual params (.Expr (.Call (.Attribute (.Call (.Name "super" p0) [] [] p1) "__init__" apos) [e] [] pos) epos :: rest) scope cc cda).body (envF (iNF name qual params (.Expr (.Call (.Attribute (.Call (.Name "super" p0) [] [] p1) "__init__" apos) [e] [] pos) epos :: rest) scope cc cda) fI s.heap.objs.size)) _ _
  refine ks_codeAny_funcAt ?_
  have kp : ∀ b o, s.heap.get? b = some o → h₁.get? b = some o := fun b o e => hsb.extBut b o (Nat.ne_of_lt (Heap.lt_size e)) (Heap.get?_push_of_some _ e)
  let F : NF := iNF name qual params (.Expr (.Call (.Attribute (.Call (.Name "super" p0) [] [] p1) "__init__" apos) [e] [] pos) epos :: rest) scope cc cda
  have I : Inv (ncx CX P w K mg base N F fI A outer s H E) [] (startF N (.ref a :: vs') [none]) H { s with heap := h₁, toks := s.toks + (ps.zip us).length } := inv_startN S hr.hd e0 hl r CA hns kp
  have hN0 : N[0]? = some ("self" : Str) := by
    have h1 := S.pre
    cases ps with
    | nil => cases hs0
    | cons x ps =>
      cases hs0
      cases N with
      | nil => simp at h1
      | cons y N => simp at h1; rw [h1.1]; rfl
  have hself : ("self" : Str) ∈ ps := by
    cases ps with
    | nil => cases hs0
    | cons x ps => cases hs0; exact List.mem_cons_self ..
  obtain ⟨pl, hpl⟩ := hc (envF F fI s.heap.objs.size)
  have si := sup_init (body := F.body) (pos := pos) (apos := apos) (p0 := p0) (p1 := p1) (i := 0) I SK T rfl rfl rfl hks (S.frk _ (List.mem_cons_self ..)) (S.par _ hself) hN0 rfl ea hm pa (Q := fun _ H1 => t { nx := fun _ H' => Q .non H', rt := Q } (startF N (.ref a :: vs') [none]) H1) hq hpl (he _) rfl
  refine ks_wpAt_execs_cons (ks_wpAt_Expr_any (ks_wpAt_mono si (fun u s' h => ?_) fun _ _ h => h) (by unfold interactive; simp [S.kind]) (hsw _))
  obtain ⟨v, H1, J, rv, q⟩ := h
  refine wpAt_of_wpAny (wpAny_mono (pss.run [] s' _ H1 _ J q) (fun fl s'' hs => ?_) fun _ _ h => h)
  have fin : ∀ {σ' : L2.St} {H' : Hp} {v : V} {u : Value}, Inv (ncx CX P w K mg base N F fI A outer s H E) [] σ' H' s'' → L2.RelV v u → Q v H' → CE outer P w H s Q u s'' :=
    fun {σ' H' v u} J rv q => ⟨v, H', J.os, J.bare, J.base, J.hok, rv, q⟩
  cases fl with
  | ret u =>
    obtain ⟨v, σ', H', J, rv, q⟩ := hs
    exact fin J rv q
  | next =>
    obtain ⟨σ', H', J, q⟩ := hs
    exact fin (v := V.non) (u := Value.none) J rfl q
  | brk =>
    obtain ⟨_, _, _, q⟩ := hs
    exact False.elim q
  | cont =>
    obtain ⟨_, _, _, q⟩ := hs
    exact False.elim q
end
end PyI
/-! X3: an error of one field, told as f"..{field}". -/
namespace PyI
open PySem PySem.Spec PyProof.Rows L2 NdefX
section
variable {P : Program} {w : World} {K : PySem.W.Frag} {mg : Str → Option Value} {base : Heap} {name qual x c0 : Str} {params : Arguments} {scope : Scope} {doc pm ct oc : Value} {od : Option Addr} {osl : Array (Option Value)} {C fI cda cc : Addr} {p0 p1 apos pos epos q3 q4 q5 q6 r0 r1 r2 r3 : Pos} {j : Nat}
theorem fmt_len {i : Int} (h0 : 0 ≤ i) (h : i < 1000000000000000000) : (Str.ofString (toString i)).length ≤ 18 := by
  have := PyProof.Rows.toString_length_le (v := i) (k := 18) h0 (by decide) (by simpa using h)
  simpa using this
theorem ini1_ok {F : NF} (hF : F = iNF name qual params (.Expr (.Call (.Attribute (.Call (.Name "super" p0) [] [] p1) "__init__" apos) [.JoinedStr [.Constant (.str c0) j q3, .FormattedValue (.Name x q4) (-1) none q5] q6] [] pos) epos :: [.Assign [.Attribute (.Name "self" r0) x r1] (.Name x r2) r3]) scope cc cda)
    (lk : K.lookup fI = some ⟨oc, od, .func (F.fd doc pm ct), osl⟩) (hcd : PySem.W.codeIn K (.ref cda) qual = true) (S : NScope ["self", x, "__class__"] ["self", x] ["__class__"] scope) (SK : SupK K P C fI cda cc) (T : OexC K C) (hm : mg "super" = none)
    (hks : scope.names.lookup ("super" : Str) = some .globalImplicit) (hno : PySem.W.findIn K (.ref C) x = some none) (hx1 : (x == ("__debug__" : Str)) = false) (hx2 : (x == ("__classdict__" : Str)) = false) (hz : c0.length ≤ 1000)
    (hc : ∀ env : Env, ∃ pl : Sem Bool, eval (.Call (.Attribute (.Call (.Name "super" p0) [] [] p1) "__init__" apos) [.JoinedStr [.Constant (.str c0) j q3, .FormattedValue (.Name x q4) (-1) none q5] q6] [] pos) env = (do
      let ov ← attributeBase (.Call (.Name "super" p0) [] [] p1) "__init__" env (eval (.Call (.Name "super" p0) [] [] p1) env)
      standAt apos.atName
      let (f, first) ← holding [ov] (getMethod ov "__init__" pl)
      callWith pos f first (backTo pos (starEach [.JoinedStr [.Constant (.str c0) j q3, .FormattedValue (.Name x q4) (-1) none q5] q6] env)) []))
    (hsw : ∀ env : Env, swapsWith (.Call (.Attribute (.Call (.Name "super" p0) [] [] p1) "__init__" apos) [.JoinedStr [.Constant (.str c0) j q3, .FormattedValue (.Name x q4) (-1) none q5] q6] [] pos) none epos.line env = pure false) :
    FnOk P w K mg base (L2.CX P w) 1 fI (F.fd doc pm ct) ["self", x] (iniS C [x]) := by
  refine init_ok (k := 0) hF lk hcd S SK T hm rfl hks (fun _ => rfl) hc hsw (fun vs H Q E h => ?_) (fun A outer s H vs Q E hr h => ?_)
  · obtain ⟨a, ws, rfl, hl, _⟩ := h
    rw [List.length_cons, hl]; rfl
  · obtain ⟨a, ws, rfl, hl, hf, ea, q⟩ := h
    obtain ⟨y, rfl⟩ : ∃ y, ws = [y] := by
      match ws, hl with
      | [y], _ => exact ⟨y, rfl⟩
    let X := ncx (L2.CX P w) P w K mg base ["self", x, "__class__"] F fI A outer s H E
    have hsc : X.env.scope = scope := by show F.scope = scope; rw [hF]
    have vx : Vis X.env.scope x := .inl (by rw [hsc]; exact S.par _ (List.mem_cons_of_mem _ (List.mem_cons_self ..)))
    have vs : Vis X.env.scope "self" := .inl (by rw [hsc]; exact S.par _ (List.mem_cons_self ..))
    have px : ∀ {p : Pos}, PE X (.Name x p) (tVar 1) := fun {p} => pe_var rfl vx hx1 hx2
    have ps : ∀ {p : Pos}, PE X (.Name "self" p) (tVar 0) := fun {p} => pe_var rfl vs
    refine ⟨a, [y], _, _, rfl, ea, pa_cons (pe_joined (.cons pe_str (.cons (pe_fmt px) .nil))) pa_nil (star_cons rfl), pss_one (ps_ost ps px (sw_plain rfl)), ?_⟩
    have fin : tOst K x (tVar 0) (tVar 1) { nx := fun _ H' => Q .non H', rt := Q } (startF ["self", x, "__class__"] [.ref a, y] [none]) H :=
      ⟨y, rfl, .ref a, rfl, a, C, rfl, T, hno, .inl ⟨ea, fun dx h1 h2 => q dx h1 h2⟩⟩
    have hz0 : (Str.empty ++ c0).length ≤ sizeLine := by
      have : (Str.empty ++ c0).length = 0 + c0.length := by
        show (Array.append _ _).size = _
        simp [Str.empty, Str.length]
      rw [this, sizeLine_eq]; omega
    have happ : ∀ z : Str, z.length ≤ 1000000 → ((Str.empty ++ c0) ++ z).length ≤ sizeLine := fun z hzl => by
      have : ((Str.empty ++ c0) ++ z).length = 0 + c0.length + z.length := by
        show (Array.append (Array.append _ _) _).size = _
        simp [Str.empty, Str.length]
      rw [this, sizeLine_eq]; omega
    rcases hf y (List.mem_singleton_self _) with ⟨i, rfl, h0, h1⟩ | ⟨z, rfl, h1⟩
    · have h2 := fmt_len h0 h1
      have hlog : i.natAbs.log2 < 1920 := by
        rcases Nat.eq_zero_or_pos i.natAbs with e | e
        · rw [e]; decide
        · exact Nat.lt_trans ((Nat.log2_lt (by omega)).mpr (show i.natAbs < 2 ^ 60 by
            have : (2 : Nat) ^ 60 = 1152921504606846976 := by decide
            omega)) (by decide)
      exact ⟨c0, rfl, hz0, .int i, rfl, .inr ⟨i, rfl, hlog, _, rfl, happ _ (by omega), ea, (by show (1 : Nat) ≤ 1000; decide), fin⟩⟩
    · exact ⟨c0, rfl, hz0, .str z, rfl, .inl ⟨z, rfl, by rw [sizeLine_eq]; omega, _, rfl, happ _ h1, ea, (by show (1 : Nat) ≤ 1000; decide), fin⟩⟩
end
end PyI
/-! X4: the facts of an own error, of one field, from the written part. -/
namespace PyI
open PySem PySem.Spec PyProof.Rows L2 NdefX
/-- the body of an __init__ of one field -/
abbrev ini1B (x c0 : Str) (j : Nat) (p0 p1 apos pos epos q3 q4 q5 q6 r0 r1 r2 r3 : Pos) : List Stmt := .Expr (.Call (.Attribute (.Call (.Name "super" p0) [] [] p1) "__init__" apos) [.JoinedStr [.Constant (.str c0) j q3, .FormattedValue (.Name x q4) (-1) none q5] q6] [] pos) epos :: [.Assign [.Attribute (.Name "self" r0) x r1] (.Name x r2) r3]
section
variable {P : Program} {w : World} {K : PySem.W.Frag} {mg : Str → Option Value} {h : Heap} {C N fI cda cc : Addr} {nm q : Str} {bs bm : List Value} {sn : List Str} {sub : List Value} {ab : Bool} {col : Option Bool} {dd : Option Addr} {k0 k1 k2 k3 k5 : Option Value}
theorem oexC_by (lC : K.lookup C = some (excClassObj nm q C N bs bm true sn sub ab col dd k0 k1 k2 k3 k5 "ValueError.__new__")) (hbm : PySem.HandSPX.refsVE bm = true) (sa : PySem.W.findIn K (.ref C) "__setattr__" = some (some (.builtin "object.__setattr__"))) (exC : PySem.W.subIn K (.ref C) (.type "BaseException") = some true)
    (tyC : PySem.W.typeIn K (.ref C) = some (.type "type")) (kC : PySem.W.keepIn K (.ref C) = true) : OexC K C := ⟨⟨_, _, _, _, _, _, _, _, _, _, _, _, _, _, _, lC, hbm⟩, sa, exC, tyC, kC⟩
theorem excC_by (exC : PySem.W.subIn K (.ref C) (.type "BaseException") = some true) (ga : PySem.W.findIn K (.ref C) "__getattribute__" = some (some (.builtin "BaseException.__getattribute__"))) (gg : PySem.W.findIn K (.ref C) "__getattr__" = some none) (hd : PySem.W.hasDictIn K C = true)
    (ha : PySem.W.findIn K (.ref C) "__class__" = some (some (.builtin "object.__class__"))) (hn : PySem.W.specialIn K (.builtin "object.__class__") "__get__" = some (some (.builtin "getset_descriptor.__get__"))) (ht : PySem.W.takesIn K (.builtin "object.__class__") = some true) (hm : PySem.W.mroIn K C (.type "object") = some true) : ExcC K C := ⟨ga, gg, exC, hd, ha, hn, ht, hm⟩
theorem supK_by {cd : ClassData} {oc ccl cl : Value} {od cdd cld : Option Addr} {fd : FuncData} {osl ccs csl : Array (Option Value)} {ar : Arg} {vs : Array Value} {file : Str} {tf : Tok}
    (lI : K.lookup fI = some ⟨oc, od, .func fd, osl⟩) (hp : (fd.params.posonlyargs ++ fd.params.args).head? = some ar) (har : ar.arg = "self") (lD : K.lookup cda = some ⟨ccl, cdd, .fields vs, ccs⟩) (hf : vs[2]? = some (.str file tf)) (hpf : ((P.main.file : Str) == file) = true)
    (lc : K.lookup cc = some ⟨cl, cld, .cell (some (.ref C)), csl⟩) (hc : PySem.W.clsIn K C = some cd) (hs : PySem.W.mroIn K C (.ref C) = some true) (ho : PySem.W.nsIn K cStatics "thirdparty.any" = some none) (hal : PySem.W.ks_superIn K C C "__init__" = some (some (.builtin "ValueError.__init__")))
    (hv : PySem.W.subIn K (.ref C) (.type "ValueError") = some true) (ht : (P.main.scope.names.lookup ("super" : Str)).isSome = false) : SupK K P C fI cda cc :=
  ⟨⟨_, _, _, _, _, lI, hp, har⟩, ⟨_, _, _, _, _, _, lD, hf, hpf⟩, ⟨_, _, _, lc⟩, ⟨_, hc⟩, hs, ho, hal, hv, ht⟩
theorem clsK_by {x : Str} {fl ps : List Str} {fd : FuncData} (KX : K.In h) (G : h.Ns mainGlobals mg) (a : PySem.W.nsIn K mainGlobals x = some (some (.ref C))) (T : OexC K C) (E : ExcC K C) (ifi : PySem.W.findIn K (.ref C) "__init__" = some (some (.ref fI))) (ity : PySem.W.typeIn K (.ref fI) = some (.type "function"))
    (hb : ∀ us : List Value, us.length = ps.length → bindArgs fd ⟨us, []⟩ = pure (ps.zip us)) (hi : ∀ base, FnOk P w K mg base (L2.CX P w) 1 fI fd ps (iniS C fl)) (hno : ∀ f ∈ fl, PySem.W.findIn K (.ref C) f = some none) (hs : PySem.W.subIn K (.ref C) (.ref C) = some true) : ClsK P w K mg C x fl :=
  ⟨T, ⟨E.hg, E.hk, E.hs, E.hd⟩, E, ⟨fI, fd, ps, ifi, ity, Binds.all hb, hi⟩, PySem.W.mg_of KX G a, hno, PySem.W.exm_ref T.exC E.hd T.tyC hs⟩
/-- an error of one field, told as f"text{field}" -/
theorem cls1_all {x f c0 qual name nm q : Str} {params : Arguments} {scope : Scope} {j : Nat} {p0 p1 apos pos epos q3 q4 q5 q6 r0 r1 r2 r3 : Pos} {cd : ClassData} {oc ccl cl doc pm ctv : Value} {od cdd cld : Option Addr} {osl ccs csl : Array (Option Value)} {ar : Arg} {vs : Array Value} {file : Str} {tf : Tok}
    (KX : K.In h) (G : h.Ns mainGlobals mg) (a : PySem.W.nsIn K mainGlobals x = some (some (.ref C)))
    (lC : K.lookup C = some (excClassObj nm q C N bs bm true sn sub ab col dd k0 k1 k2 k3 k5 "ValueError.__new__")) (hbm : PySem.HandSPX.refsVE bm = true) (sa : PySem.W.findIn K (.ref C) "__setattr__" = some (some (.builtin "object.__setattr__"))) (exC : PySem.W.subIn K (.ref C) (.type "BaseException") = some true)
    (tyC : PySem.W.typeIn K (.ref C) = some (.type "type")) (kC : PySem.W.keepIn K (.ref C) = true)
    (ga : PySem.W.findIn K (.ref C) "__getattribute__" = some (some (.builtin "BaseException.__getattribute__"))) (gg : PySem.W.findIn K (.ref C) "__getattr__" = some none) (hd : PySem.W.hasDictIn K C = true)
    (ha : PySem.W.findIn K (.ref C) "__class__" = some (some (.builtin "object.__class__"))) (hn : PySem.W.specialIn K (.builtin "object.__class__") "__get__" = some (some (.builtin "getset_descriptor.__get__"))) (ht : PySem.W.takesIn K (.builtin "object.__class__") = some true) (hm : PySem.W.mroIn K C (.type "object") = some true)
    (ifi : PySem.W.findIn K (.ref C) "__init__" = some (some (.ref fI))) (ity : PySem.W.typeIn K (.ref fI) = some (.type "function"))
    (lI : K.lookup fI = some ⟨oc, od, .func (PySem.W.fnX name qual params (ini1B f c0 j p0 p1 apos pos epos q3 q4 q5 q6 r0 r1 r2 r3) scope [("__class__", cc)] .none .none doc pm none (.ref cda) ctv), osl⟩)
    (hcd : PySem.W.codeIn K (.ref cda) qual = true) (lD : K.lookup cda = some ⟨ccl, cdd, .fields vs, ccs⟩) (lc : K.lookup cc = some ⟨cl, cld, .cell (some (.ref C)), csl⟩) (hc : PySem.W.clsIn K C = some cd) (hs : PySem.W.mroIn K C (.ref C) = some true) (ho : PySem.W.nsIn K cStatics "thirdparty.any" = some none)
    (hal : PySem.W.ks_superIn K C C "__init__" = some (some (.builtin "ValueError.__init__"))) (hv : PySem.W.subIn K (.ref C) (.type "ValueError") = some true) (sup : PySem.W.nsIn K mainGlobals "super" = some none) (hno : PySem.W.findIn K (.ref C) f = some none) (hss : PySem.W.subIn K (.ref C) (.ref C) = some true)
    (hp : (params.posonlyargs ++ params.args).head? = some ar) (har : ar.arg = "self") (hf : vs[2]? = some (.str file tf)) (hpf : ((P.main.file : Str) == file) = true) (htp : (P.main.scope.names.lookup ("super" : Str)).isSome = false)
    (hb : ∀ us : List Value, us.length = 2 → bindArgs (PySem.W.fnX name qual params (ini1B f c0 j p0 p1 apos pos epos q3 q4 q5 q6 r0 r1 r2 r3) scope [("__class__", cc)] .none .none doc pm none (.ref cda) ctv) ⟨us, []⟩ = pure ((["self", f] : List Str).zip us))
    (S : nscB ["self", f, "__class__"] ["self", f] ["__class__"] scope = true) (hks : scope.names.lookup ("super" : Str) = some .globalImplicit) (hx1 : (f == ("__debug__" : Str)) = false) (hx2 : (f == ("__classdict__" : Str)) = false) (hz : c0.length ≤ 1000)
    (hce : ∀ env : Env, ∃ pl : Sem Bool, eval (.Call (.Attribute (.Call (.Name "super" p0) [] [] p1) "__init__" apos) [.JoinedStr [.Constant (.str c0) j q3, .FormattedValue (.Name f q4) (-1) none q5] q6] [] pos) env = (do
      let ov ← attributeBase (.Call (.Name "super" p0) [] [] p1) "__init__" env (eval (.Call (.Name "super" p0) [] [] p1) env)
      standAt apos.atName
      let (fn, first) ← holding [ov] (getMethod ov "__init__" pl)
      callWith pos fn first (backTo pos (starEach [.JoinedStr [.Constant (.str c0) j q3, .FormattedValue (.Name f q4) (-1) none q5] q6] env)) []))
    (hsw : ∀ env : Env, swapsWith (.Call (.Attribute (.Call (.Name "super" p0) [] [] p1) "__init__" apos) [.JoinedStr [.Constant (.str c0) j q3, .FormattedValue (.Name f q4) (-1) none q5] q6] [] pos) none epos.line env = pure false) : ClsK P w K mg C x [f] := by
  have T := oexC_by lC hbm sa exC tyC kC
  exact clsK_by (ps := ["self", f]) KX G a T (excC_by exC ga gg hd ha hn ht hm) ifi ity hb (fun base => ini1_ok (F := iNF name qual params (ini1B f c0 j p0 p1 apos pos epos q3 q4 q5 q6 r0 r1 r2 r3) scope cc cda) rfl lI hcd (nscope_by S) (supK_by lI hp har lD hf hpf lc hc hs ho hal hv htp) T (PySem.W.mg_none_of KX G sup) hks hno hx1 hx2 hz hce hsw) (fun g hg => by rw [List.mem_singleton.mp hg]; exact hno) hss
theorem isxR (KX : K.In h) (G : h.Ns mainGlobals mg) {x : Str} {c D : Addr} {b : Bool} {cd : ClassData} (a : PySem.W.nsIn K mainGlobals x = some (some (.ref D))) (hc : PySem.W.clsIn K D = some cd) (ht : PySem.W.typeIn K (.ref D) = some (.type "type")) (hs : PySem.W.subIn K (.ref c) (.ref D) = some b) (hne : (Value.ref c == Value.ref D) = false) :
    ∃ (v : V) (cv : Value), ((mg x = some cv) ∨ (mg x = none ∧ bootBuiltins x = some cv ∧ x ≠ "__name__")) ∧ RelV v cv ∧ (∀ u, RelV v u → u = cv) ∧ PySem.W.kitOne K (.ref c) cv = some b := by
  refine ⟨.ref D, .ref D, .inl (PySem.W.mg_of KX G a), rfl, fun u h => h, ?_⟩
  have e2 : ((PySem.W.clsIn K D).isSome && PySem.W.typeIn K (.ref D) == some (.type "type")) = true := by rw [hc, ht]; rfl
  unfold PySem.W.kitOne PySem.W.kitCls
  rw [if_neg (by rw [hne]; decide)]
  simp only
  rw [if_pos e2, hs]
theorem isxB (KX : K.In h) (G : h.Ns mainGlobals mg) {x : Str} {c : Addr} {T : String} {b : Bool} (a : PySem.W.nsIn K mainGlobals x = some none) (hb : bootBuiltins x = some (.type T)) (hx : x ≠ "__name__") (hm : PySem.W.kitMeta T = true) (hs : PySem.W.subIn K (.ref c) (.type T) = some b) :
    ∃ (v : V) (cv : Value), ((mg x = some cv) ∨ (mg x = none ∧ bootBuiltins x = some cv ∧ x ≠ "__name__")) ∧ RelV v cv ∧ (∀ u, RelV v u → u = cv) ∧ PySem.W.kitOne K (.ref c) cv = some b := by
  refine ⟨.ty T, .type T, .inr ⟨PySem.W.mg_none_of KX G a, hb, hx⟩, rfl, fun u h => h, ?_⟩
  unfold PySem.W.kitOne PySem.W.kitCls
  rw [if_neg (fun z => by have := eq_of_beq z; cases this)]
  simp only
  rw [if_pos hm, hs]
end
end PyI
/-! R1: steps of the interpreter. -/
namespace PyI
open PySem L2 PyProof.Rows
abbrev nD (n : Nat) : D := .int (n : Int)
/-! ### expressions, step by step -/
section
variable {Γ : G} {ρ : Rho} {μ μ1 μ2 μ3 : Mu} {a b c e : E} {x y z d : D}
theorem ev_var {i : Nat} (h : ρ[i]? = some (some d)) : evalE Γ (.var i) ρ μ = .ok d μ := by
  rw [evalE, h]
theorem ev_cst : evalE Γ (.cst d) ρ μ = .ok d μ := by rw [evalE]
theorem ev_glob {g : Nat} (h : Γ.con g = some d) : evalE Γ (.glob g) ρ μ = .ok d μ := by rw [evalE, h]
theorem ev_bin {o : Bop} {r : Res D} (ha : evalE Γ a ρ μ = .ok x μ1) (hb : evalE Γ b ρ μ1 = .ok y μ2) (h : binD o x y μ2 = r) : evalE Γ (.bin o a b) ρ μ = r := by
  rw [evalE, ha, bind_ok, hb, bind_ok, h]
theorem ev_idx {r : Res D} (ha : evalE Γ a ρ μ = .ok x μ1) (hb : evalE Γ b ρ μ1 = .ok y μ2) (h : idxA x y μ2 = r) : evalE Γ (.idx a b) ρ μ = r := by
  rw [evalE, ha, bind_ok, hb, bind_ok, h]
theorem ev_call1 {f : Nat} {r : Res D} (ha : evalE Γ a ρ μ = .ok x μ1) (h : Γ.call f [x] μ1 = r) : evalE Γ (.call f (.cons a .nil)) ρ μ = r := by
  rw [evalE, evalEs, ha, bind_ok, evalEs, bind_ok, bind_ok, h]
theorem ev_call2 {f : Nat} {r : Res D} (ha : evalE Γ a ρ μ = .ok x μ1) (hb : evalE Γ b ρ μ1 = .ok y μ2) (h : Γ.call f [x, y] μ2 = r) : evalE Γ (.call f (.cons a (.cons b .nil))) ρ μ = r := by
  rw [evalE, evalEs, ha, bind_ok, evalEs, hb, bind_ok, evalEs, bind_ok, bind_ok, bind_ok, h]
theorem ev_call3 {f : Nat} {r : Res D} (ha : evalE Γ a ρ μ = .ok x μ1) (hb : evalE Γ b ρ μ1 = .ok y μ2) (hc : evalE Γ c ρ μ2 = .ok z μ3) (h : Γ.call f [x, y, z] μ3 = r) : evalE Γ (.call f (.cons a (.cons b (.cons c .nil)))) ρ μ = r := by
  rw [evalE, evalEs, ha, bind_ok, evalEs, hb, bind_ok, evalEs, hc, bind_ok, evalEs, bind_ok, bind_ok, bind_ok, bind_ok, h]
theorem ev_bif1 {f : Bif} {r : Res D} (ha : evalE Γ a ρ μ = .ok x μ1) (h : bifD f [x] μ1 = r) : evalE Γ (.bif f (.cons a .nil)) ρ μ = r := by
  rw [evalE, evalEs, ha, bind_ok, evalEs, bind_ok, bind_ok, h]
theorem ev_bif2 {f : Bif} {r : Res D} (ha : evalE Γ a ρ μ = .ok x μ1) (hb : evalE Γ b ρ μ1 = .ok y μ2) (h : bifD f [x, y] μ2 = r) : evalE Γ (.bif f (.cons a (.cons b .nil))) ρ μ = r := by
  rw [evalE, evalEs, ha, bind_ok, evalEs, hb, bind_ok, evalEs, bind_ok, bind_ok, bind_ok, h]
theorem ev_cmp {o : Cop} {k : Bool} (ha : evalE Γ a ρ μ = .ok x μ1) (hb : evalE Γ b ρ μ1 = .ok y μ2) (h : cmpD o x y μ2 = .ok k μ2) : evalE Γ (.cmp o a b) ρ μ = .ok (.bl k) μ2 := by
  rw [evalE, ha, bind_ok, hb, bind_ok, h, bind_ok]
theorem ev_bits {i : Int} (ha : evalE Γ a ρ μ = .ok (.int i) μ1) : evalE Γ (.bits a) ρ μ = .ok (.int (Builtin.Int.intBits i : Nat)) μ1 := by
  rw [evalE, ha, bind_ok]
theorem ev_tup2 (ha : evalE Γ a ρ μ = .ok x μ1) (hb : evalE Γ b ρ μ1 = .ok y μ2) : evalE Γ (.tup (.cons a (.cons b .nil))) ρ μ = .ok (.tup [x, y]) μ2 := by
  rw [evalE, evalEs, ha, bind_ok, evalEs, hb, bind_ok, evalEs, bind_ok, bind_ok, bind_ok, needs_pos (by simp)]
theorem ev_tup4 {μ4 : Mu} {x4 : D} {d4 : E} (ha : evalE Γ a ρ μ = .ok x μ1) (hb : evalE Γ b ρ μ1 = .ok y μ2) (hc : evalE Γ c ρ μ2 = .ok z μ3) (hd : evalE Γ d4 ρ μ3 = .ok x4 μ4) : evalE Γ (.tup (.cons a (.cons b (.cons c (.cons d4 .nil))))) ρ μ = .ok (.tup [x, y, z, x4]) μ4 := by
  rw [evalE, evalEs, ha, bind_ok, evalEs, hb, bind_ok, evalEs, hc, bind_ok, evalEs, hd, bind_ok, evalEs, bind_ok, bind_ok, bind_ok, bind_ok, bind_ok, needs_pos (by simp)]
theorem st_set {i : Nat} (h : evalE Γ e ρ μ = .ok d μ1) : runS Γ (.set (.nm i) e) ρ μ = .nx (ρ.set i (some d)) μ1 := by
  rw [runS, h, then_ok, assignT]
theorem st_ret (h : evalE Γ e ρ μ = .ok d μ1) : runS Γ (.ret e) ρ μ = .rt d μ1 := by
  rw [runS, h, then_ok]
theorem tv_bl {k : Bool} (h : evalE Γ e ρ μ = .ok (.bl k) μ1) : evalT Γ (.val e) ρ μ = .ok k μ1 := by
  rw [evalT, h, bind_ok, truD]
theorem tv_not {t : T} {k : Bool} (h : evalT Γ t ρ μ = .ok k μ1) : evalT Γ (.not t) ρ μ = .ok (!k) μ1 := by
  rw [evalT, h, bind_ok]
end
theorem st_append {Γ : G} {ρ : Rho} {μ μ1 μ2 μ3 : Mu} {o a : E} {d : D} {n : Nat} {l : List D} (ho : evalE Γ o ρ μ = .ok (.ref n) μ1) (ha : evalE Γ a ρ μ1 = .ok d μ2) (hl : μ2[n]? = some (.lst l)) (hz : l.length < 16777216) (he : μ2.set n (.lst (l ++ [d])) = μ3) (hl1 : μ1[n]? = some (.lst l) := by assumption) : runS Γ (.expr (.met .append o (.cons a .nil))) ρ μ = .nx ρ μ3 := by
  rw [runS, evalE, ho, bind_ok]
  have ht : tyD .append (.ref n) μ1 = true := by unfold tyD; simp only [hl1]
  rw [needs_pos ht, evalEs, ha, bind_ok, evalEs, bind_ok, bind_ok]
  have : metD .append (.ref n) [d] μ2 = .ok .non (μ2.set n (.lst (l ++ [d]))) := by
    unfold metD
    simp only [hl]
    exact needs_pos hz
  rw [this, then_ok, he]
theorem ev_ite_true {Γ : G} {ρ : Rho} {μ μ1 : Mu} {t : T} {a b : E} {r : Res D} (h : evalT Γ t ρ μ = .ok true μ1) (ha : evalE Γ a ρ μ1 = r) : evalE Γ (.ite t a b) ρ μ = r := by
  rw [evalE, h, bind_ok, if_pos rfl, ha]
theorem ev_ite_false {Γ : G} {ρ : Rho} {μ μ1 : Mu} {t : T} {a b : E} {r : Res D} (h : evalT Γ t ρ μ = .ok false μ1) (hb : evalE Γ b ρ μ1 = r) : evalE Γ (.ite t a b) ρ μ = r := by
  rw [evalE, h, bind_ok, if_neg (by decide), hb]
theorem run_nx_rt {Γ : G} {s : PyI.S} {b : B} {ρ : Rho} {μ μ' : Mu} {d : D} (h : runS Γ s ρ μ = .rt d μ') : runB Γ (.cons s b) ρ μ = .rt d μ' := run_rt h
theorem ifs_true {Γ : G} {t : T} {a b : B} {ρ : Rho} {μ μ' : Mu} {o : Out} (h : evalT Γ t ρ μ = .ok true μ') (h2 : runB Γ a ρ μ' = o) : runS Γ (.ifs t a b) ρ μ = o := by
  rw [runS, h, then_ok, if_pos rfl]
  exact h2
theorem ifs_false {Γ : G} {t : T} {a b : B} {ρ : Rho} {μ μ' : Mu} {o : Out} (h : evalT Γ t ρ μ = .ok false μ') (h2 : runB Γ b ρ μ' = o) : runS Γ (.ifs t a b) ρ μ = o := by
  rw [runS, h, then_ok, if_neg (by decide)]
  exact h2
theorem run_nil {Γ : G} {ρ : Rho} {μ : Mu} : runB Γ .nil ρ μ = .nx ρ μ := by rw [runB]
theorem run_br {Γ : G} {s : PyI.S} {b : B} {ρ ρ' : Rho} {μ μ' : Mu} (h : runS Γ s ρ μ = .br ρ' μ') : runB Γ (.cons s b) ρ μ = .br ρ' μ' := by
  rw [runB, h]
  rfl
theorem atI_nat (l : List D) (n : Nat) : atI l (n : Int) = l[n]? := by
  unfold atI ixN
  rw [if_pos (Int.natCast_nonneg n)]
  by_cases h : (n : Int) < (l.length : Int)
  · rw [if_pos h]; rfl
  · rw [if_neg h, List.getElem?_eq_none (by omega)]; rfl
theorem atI_natG {α : Type} (l : List α) (n : Nat) : atI l (n : Int) = l[n]? := by
  unfold atI ixN
  rw [if_pos (Int.natCast_nonneg n)]
  by_cases h : (n : Int) < (l.length : Int)
  · rw [if_pos h]; rfl
  · rw [if_neg h, List.getElem?_eq_none (by omega)]; rfl
theorem ix_tup {l : List D} {n : Nat} {d : D} {μ : Mu} (h : l[n]? = some d) : idxA (.tup l) (.int (n : Int)) μ = .ok d μ := by
  show (match seqD μ (.tup l) with
    | some l => match atI l (n : Int) with
      | some d => Res.ok d μ
      | none => .stuck
    | none => .stuck) = _
  simp only [seqD, atI_nat, h]
theorem ix_lst {l : List D} {n : Nat} {d : D} {μ : Mu} (h : l[n]? = some d) : idxA (.lst l) (.int (n : Int)) μ = .ok d μ := by
  show (match seqD μ (.lst l) with
    | some l => match atI l (n : Int) with
      | some d => Res.ok d μ
      | none => .stuck
    | none => .stuck) = _
  simp only [seqD, atI_nat, h]
theorem ix0 {a : D} {l : List D} {μ : Mu} : idxA (.tup (a :: l)) (.int 0) μ = .ok a μ := ix_tup (n := 0) rfl
theorem ix1 {a b : D} {l : List D} {μ : Mu} : idxA (.tup (a :: b :: l)) (.int 1) μ = .ok b μ := ix_tup (n := 1) rfl
theorem ix2 {a b c : D} {l : List D} {μ : Mu} : idxA (.tup (a :: b :: c :: l)) (.int 2) μ = .ok c μ := ix_tup (n := 2) rfl
theorem ix3 {a b c d : D} {l : List D} {μ : Mu} : idxA (.tup (a :: b :: c :: d :: l)) (.int 3) μ = .ok d μ := ix_tup (n := 3) rfl
theorem il0 {a : D} {l : List D} {μ : Mu} : idxA (.lst (a :: l)) (.int 0) μ = .ok a μ := ix_lst (n := 0) rfl
theorem il1 {a b : D} {l : List D} {μ : Mu} : idxA (.lst (a :: b :: l)) (.int 1) μ = .ok b μ := ix_lst (n := 1) rfl
theorem tv_str {Γ : G} {ρ : Rho} {μ μ1 : Mu} {e : E} {l : List Nat} (hz : l.length ≤ 16777216) (h : evalE Γ e ρ μ = .ok (.str (tx l)) μ1) : evalT Γ (.val e) ρ μ = .ok (l.length != 0) μ1 := by
  rw [evalT, h, bind_ok, truD, needs_pos (by rw [tx_len]; exact hz), tx_len]
theorem tv_ref {Γ : G} {ρ : Rho} {μ μ1 : Mu} {e : E} {n : Nat} {l : List D} (h : evalE Γ e ρ μ = .ok (.ref n) μ1) (hl : μ1[n]? = some (.lst l)) : evalT Γ (.val e) ρ μ = .ok (!l.isEmpty) μ1 := by
  rw [evalT, h, bind_ok]
  unfold truD
  simp only [hl]
theorem ev_lst1 {Γ : G} {ρ : Rho} {μ μ1 : Mu} {e : E} {d : D} (h : evalE Γ e ρ μ = .ok d μ1) : evalE Γ (.lst (.cons e .nil)) ρ μ = .ok (.lst [d]) μ1 := by
  rw [evalE, evalEs, h, bind_ok, evalEs, bind_ok, bind_ok, needs_pos (by simp)]
theorem ev_or_t {Γ : G} {ρ : Rho} {μ μ1 : Mu} {a b : E} {x : D} (ha : evalE Γ a ρ μ = .ok x μ1) (ht : truD μ1 x μ1 = .ok true μ1) : evalE Γ (.or a b) ρ μ = .ok x μ1 := by
  rw [evalE, ha, bind_ok, ht, bind_ok, if_pos rfl]
theorem ev_or_f {Γ : G} {ρ : Rho} {μ μ1 : Mu} {a b : E} {x : D} {r : Res D} (ha : evalE Γ a ρ μ = .ok x μ1) (ht : truD μ1 x μ1 = .ok false μ1) (hb : evalE Γ b ρ μ1 = r) : evalE Γ (.or a b) ρ μ = r := by
  rw [evalE, ha, bind_ok, ht, bind_ok, if_neg (by decide), hb]
theorem ev_and_t {Γ : G} {ρ : Rho} {μ μ1 : Mu} {a b : E} {x : D} {r : Res D} (ha : evalE Γ a ρ μ = .ok x μ1) (ht : truD μ1 x μ1 = .ok true μ1) (hb : evalE Γ b ρ μ1 = r) : evalE Γ (.and a b) ρ μ = r := by
  rw [evalE, ha, bind_ok, ht, bind_ok, if_pos rfl, hb]
theorem ev_and_f {Γ : G} {ρ : Rho} {μ μ1 : Mu} {a b : E} {x : D} (ha : evalE Γ a ρ μ = .ok x μ1) (ht : truD μ1 x μ1 = .ok false μ1) : evalE Γ (.and a b) ρ μ = .ok x μ1 := by
  rw [evalE, ha, bind_ok, ht, bind_ok, if_neg (by decide)]
theorem add_tx {x y : List Nat} {μ : Mu} (hz : x.length + y.length ≤ 16777216) : binD .add (.str (tx x)) (.str (tx y)) μ = .ok (.str (tx (x ++ y))) μ := by
  show needs ((tx x).length + (tx y).length ≤ 16777216) _ = _
  rw [needs_pos (by rw [tx_len, tx_len]; exact hz), tx_add]
theorem ev_add {Γ : G} {ρ : Rho} {μ μ1 μ2 : Mu} {a b : E} {x y : List Nat} (ha : evalE Γ a ρ μ = .ok (.str (tx x)) μ1) (hb : evalE Γ b ρ μ1 = .ok (.str (tx y)) μ2) (hz : x.length + y.length ≤ 16777216) : evalE Γ (.bin .add a b) ρ μ = .ok (.str (tx (x ++ y))) μ2 :=
  ev_bin ha hb (add_tx hz)
theorem isi_eq {Γ : G} {ρ : Rho} {μ : Mu} {a : E} {d : D} {t : Ty} {v : Bool} (ha : evalE Γ a ρ μ = .ok d μ) (h : isiD d t μ = .ok (.bl v) μ) : evalE Γ (.isi a t) ρ μ = .ok (.bl v) μ := by
  rw [evalE, ha, bind_ok, h]
theorem cbody_no {Γ : G} {own : List Nat} {i : Nat} {t : T} {e : E} {ρ : Rho} {d : D} {μ : Mu} (ht : evalT Γ t ((wipeR ρ own).set i (some d)) μ = .ok false μ) : cbody Γ own (.nm i) t e ρ d μ = .ok none μ := by
  unfold cbody
  simp only [assignT, ht, bind_ok]
  rfl
theorem ev_notv {Γ : G} {ρ : Rho} {μ μ1 : Mu} {a : E} {v : Bool} (h : evalE Γ a ρ μ = .ok (.bl v) μ1) : evalE Γ (.notv (.val a)) ρ μ = .ok (.bl (!v)) μ1 := by
  rw [evalE, tv_bl h, bind_ok]
theorem ev_lst2 {Γ : G} {ρ : Rho} {μ μ1 μ2 : Mu} {a b : E} {x y : D} (h : evalE Γ a ρ μ = .ok x μ1) (h2 : evalE Γ b ρ μ1 = .ok y μ2) : evalE Γ (.lst (.cons a (.cons b .nil))) ρ μ = .ok (.lst [x, y]) μ2 := by
  rw [evalE, evalEs, h, bind_ok, evalEs, h2, bind_ok, evalEs, bind_ok, bind_ok, bind_ok, needs_pos (by simp)]
theorem ev_m1 {Γ : G} {ρ : Rho} {μ : Mu} : evalE Γ (.neg (.cst (.int 1))) ρ μ = .ok (.int (-1)) μ := by
  rw [evalE, ev_cst, bind_ok]
theorem ev_lst3 {Γ : G} {ρ : Rho} {μ μ1 μ2 μ3 : Mu} {a b c : E} {x y z : D} (h : evalE Γ a ρ μ = .ok x μ1) (h2 : evalE Γ b ρ μ1 = .ok y μ2) (h3 : evalE Γ c ρ μ2 = .ok z μ3) : evalE Γ (.lst (.cons a (.cons b (.cons c .nil)))) ρ μ = .ok (.lst [x, y, z]) μ3 := by
  rw [evalE, evalEs, h, bind_ok, evalEs, h2, bind_ok, evalEs, h3, bind_ok, evalEs, bind_ok, bind_ok, bind_ok, bind_ok, needs_pos (by simp)]
theorem ev_tup3 {Γ : G} {ρ : Rho} {μ μ1 μ2 μ3 : Mu} {a b c : E} {x y z : D} (h : evalE Γ a ρ μ = .ok x μ1) (h2 : evalE Γ b ρ μ1 = .ok y μ2) (h3 : evalE Γ c ρ μ2 = .ok z μ3) : evalE Γ (.tup (.cons a (.cons b (.cons c .nil)))) ρ μ = .ok (.tup [x, y, z]) μ3 := by
  rw [evalE, evalEs, h, bind_ok, evalEs, h2, bind_ok, evalEs, h3, bind_ok, evalEs, bind_ok, bind_ok, bind_ok, bind_ok, needs_pos (by simp)]
theorem tv_or_ff {Γ : G} {ρ : Rho} {μ μ1 μ2 : Mu} {t u : T} (ht : evalT Γ t ρ μ = .ok false μ1) (hu : evalT Γ u ρ μ1 = .ok false μ2) : evalT Γ (.or t u) ρ μ = .ok false μ2 := by
  rw [evalT, ht, bind_ok, if_neg (by decide), hu]
theorem ev_lst4 {Γ : G} {ρ : Rho} {μ μ1 μ2 μ3 μ4 : Mu} {a b c d : E} {x y z w : D} (h : evalE Γ a ρ μ = .ok x μ1) (h2 : evalE Γ b ρ μ1 = .ok y μ2) (h3 : evalE Γ c ρ μ2 = .ok z μ3) (h4 : evalE Γ d ρ μ3 = .ok w μ4) : evalE Γ (.lst (.cons a (.cons b (.cons c (.cons d .nil))))) ρ μ = .ok (.lst [x, y, z, w]) μ4 := by
  rw [evalE, evalEs, h, bind_ok, evalEs, h2, bind_ok, evalEs, h3, bind_ok, evalEs, h4, bind_ok, evalEs, bind_ok, bind_ok, bind_ok, bind_ok, bind_ok, needs_pos (by simp)]
theorem st_tp2l {Γ : G} {ρ : Rho} {μ μ1 : Mu} {i j : Nat} {e : E} {a b : D} (h : evalE Γ e ρ μ = .ok (.lst [a, b]) μ1) : runS Γ (.set (.tp [i, j]) e) ρ μ = .nx ((ρ.set i (some a)).set j (some b)) μ1 := by
  rw [runS, h, then_ok, assignT]
  rfl
theorem it_tup {Γ : G} {e : E} {ρ : Rho} {μ μ' : Mu} {l : List D} (h : evalE Γ e ρ μ = .ok (.tup l) μ') : evalIt Γ (.seq e) ρ μ = .ok (l, none) μ' := by
  rw [evalIt, h, bind_ok, itD]
theorem it_lst {Γ : G} {e : E} {ρ : Rho} {μ μ' : Mu} {l : List D} (h : evalE Γ e ρ μ = .ok (.lst l) μ') : evalIt Γ (.seq e) ρ μ = .ok (l, none) μ' := by
  rw [evalIt, h, bind_ok, itD]
theorem st_new {Γ : G} {ρ : Rho} {μ μ1 : Mu} {i : Nat} {e : E} {l : List D} (h : evalE Γ e ρ μ = .ok (.lst l) μ1) : runS Γ (.new i e) ρ μ = .nx (ρ.set i (some (.ref μ1.length))) (μ1 ++ [.lst l]) := by
  rw [runS, h, then_ok]
theorem ev_lst0 {Γ : G} {ρ : Rho} {μ : Mu} : evalE Γ (.lst .nil) ρ μ = .ok (.lst []) μ := by
  rw [evalE, evalEs, bind_ok, needs_pos (by simp)]
theorem st_whl {Γ : G} {t : T} {b : B} {ρ : Rho} {μ : Mu} {o : Out} (h : whileLoop (fun ρ μ => evalT Γ t ρ μ) (fun ρ μ => runB Γ b ρ μ) Γ.wf ρ μ = o) : runS Γ (.whl t b) ρ μ = o := by
  rw [runS]; exact h
theorem tv_int {Γ : G} {ρ : Rho} {μ μ1 : Mu} {e : E} {i : Int} (h : evalE Γ e ρ μ = .ok (.int i) μ1) : evalT Γ (.val e) ρ μ = .ok (i != 0) μ1 := by
  rw [evalT, h, bind_ok, truD]
theorem tuple_ref {μ : Mu} {n : Nat} {l : List D} (h : μ[n]? = some (.lst l)) : bifD .tuple [.ref n] μ = .ok (.tup l) μ := by
  show (match seqD μ (.ref n) with
    | some l => Res.ok (D.tup l) μ
    | none => .stuck) = _
  have : seqD μ (.ref n) = some l := by unfold seqD; simp only [h]
  rw [this]
theorem tuple_lst {μ : Mu} {l : List D} : bifD .tuple [.lst l] μ = .ok (.tup l) μ := rfl
theorem cbody_if {Γ : G} {own : List Nat} {i : Nat} {t : T} {e : E} {ρ : Rho} {d y : D} {μ : Mu} {v : Bool} (ht : evalT Γ t ((wipeR ρ own).set i (some d)) μ = .ok v μ) (h : evalE Γ e ((wipeR ρ own).set i (some d)) μ = .ok y μ) : cbody Γ own (.nm i) t e ρ d μ = .ok (if v then some y else none) μ := by
  unfold cbody
  simp only [assignT, ht, bind_ok]
  cases v
  · rfl
  · rw [if_pos rfl, h, bind_ok]; rfl
theorem rng0 (n : Nat) : rngD 0 n = (List.range n).map nD := by
  unfold rngD nD
  exact List.map_congr_left fun i _ => by rw [Int.zero_add]
theorem rngN (lo n : Nat) : rngD (lo : Int) n = (List.range' lo n).map nD := by
  unfold rngD nD
  rw [List.range'_eq_map_range, List.map_map]
  exact List.map_congr_left fun i _ => by
    show D.int ((lo : Int) + (i : Int)) = D.int ((lo + i : Nat) : Int)
    rw [Int.natCast_add]
theorem st_tp2 {Γ : G} {ρ : Rho} {μ μ1 : Mu} {i j : Nat} {e : E} {a b : D} (h : evalE Γ e ρ μ = .ok (.tup [a, b]) μ1) : runS Γ (.set (.tp [i, j]) e) ρ μ = .nx ((ρ.set i (some a)).set j (some b)) μ1 := by
  rw [runS, h, then_ok, assignT]
  rfl
theorem fbody_tp2 {Γ : G} {i j : Nat} {b : B} {x y : D} {ρ : Rho} {μ : Mu} : fbody Γ (.tp [i, j]) b (.tup [x, y]) ρ μ = runB Γ b ((ρ.set i (some x)).set j (some y)) μ := rfl
theorem cbody_tp2 {Γ : G} {own : List Nat} {i j : Nat} {e : E} {ρ : Rho} {x y z : D} {μ : Mu} (h : evalE Γ e (((wipeR ρ own).set i (some x)).set j (some y)) μ = .ok z μ) : cbody Γ own (.tp [i, j]) .yes e ρ (.tup [x, y]) μ = .ok (some z) μ := by
  have : assignT (.tp [i, j]) (.tup [x, y]) (wipeR ρ own) = some (((wipeR ρ own).set i (some x)).set j (some y)) := rfl
  unfold cbody
  simp only [this, evalT, bind_ok, if_true, h]
theorem ev_chn_le {Γ : G} {ρ : Rho} {μ μ1 μ2 : Mu} {a b c : E} {i j l : Int} (ha : evalE Γ a ρ μ = .ok (.int i) μ1) (hb : evalE Γ b ρ μ1 = .ok (.int j) μ2) (hc : evalE Γ c ρ μ2 = .ok (.int l) μ2) : evalE Γ (.chn .le .le a b c) ρ μ = .ok (.bl (decide (i ≤ j) && decide (j ≤ l))) μ2 := by
  have e : ∀ {i j : Int} {μ : Mu}, cmpD .le (.int i) (.int j) μ = .ok (decide (i ≤ j)) μ := rfl
  rw [evalE, ha, bind_ok, hb, bind_ok, e, bind_ok]
  cases decide (i ≤ j) with
  | false => rfl
  | true => rw [if_pos rfl, hc, bind_ok, e, bind_ok]; rfl
theorem for_cons_rt {f : D → Rho → Mu → Out} {d x : D} {ds : List D} {ρ : Rho} {μ μ' : Mu} (h : f d ρ μ = .rt x μ') : forLoop f (chkOf none) (d :: ds) ρ μ = .rt x μ' := by
  unfold forLoop
  rw [if_pos (show chkOf none μ = true from rfl), h]
theorem for_cons_nx {f : D → Rho → Mu → Out} {d : D} {ds : List D} {ρ ρ' : Rho} {μ μ' : Mu} {o : Out} (h : f d ρ μ = .nx ρ' μ') (h2 : forLoop f (chkOf none) ds ρ' μ' = o) : forLoop f (chkOf none) (d :: ds) ρ μ = o := by
  unfold forLoop
  rw [if_pos (show chkOf none μ = true from rfl), h]
  exact h2
theorem for_nil {f : D → Rho → Mu → Out} {ρ : Rho} {μ : Mu} : forLoop f (chkOf none) [] ρ μ = .nx ρ μ := by
  unfold forLoop
  rw [if_pos (show chkOf none μ = true from rfl)]
theorem eq_int {i j : Int} {μ : Mu} : cmpD .eq (.int i) (.int j) μ = .ok (i == j) μ := by
  show needs _ _ = _
  rw [needs_pos ⟨rfl, rfl⟩]
  rfl
theorem whl_dec {c : Rho → Mu → Res Bool} {f : Rho → Mu → Out} (I : Nat → Rho → Mu → Prop) (P : Rho → Mu → Prop)
    (hs : ∀ m ρ μ, I m ρ μ → (c ρ μ = .ok false μ ∧ P ρ μ) ∨ (c ρ μ = .ok true μ ∧ ∃ ρ' μ' m', f ρ μ = .nx ρ' μ' ∧ m' < m ∧ I m' ρ' μ')) :
    ∀ (n m : Nat) {ρ : Rho} {μ : Mu}, m < n → I m ρ μ → ∃ ρ' μ', whileLoop c f n ρ μ = .nx ρ' μ' ∧ P ρ' μ'
  | 0, m, _, _, h, _ => absurd h (Nat.not_lt_zero _)
  | n + 1, m, ρ, μ, h, hi => by
    rcases hs m ρ μ hi with ⟨e, hp⟩ | ⟨e, ρ', μ', m', e2, hm, hi'⟩
    · refine ⟨ρ, μ, ?_, hp⟩
      unfold whileLoop
      rw [e]
      rfl
    · obtain ⟨ρ2, μ2, e3, hp⟩ := whl_dec I P hs n m' (by omega) hi'
      refine ⟨ρ2, μ2, ?_, hp⟩
      unfold whileLoop
      rw [e, then_ok, if_pos rfl, e2]
      exact e3
theorem tv_lst {Γ : G} {ρ : Rho} {μ μ1 : Mu} {e : E} {l : List D} (h : evalE Γ e ρ μ = .ok (.lst l) μ1) : evalT Γ (.val e) ρ μ = .ok (!l.isEmpty) μ1 := by
  rw [evalT, h, bind_ok, truD]
theorem tv_tup {Γ : G} {ρ : Rho} {μ μ1 : Mu} {e : E} {l : List D} (h : evalE Γ e ρ μ = .ok (.tup l) μ1) : evalT Γ (.val e) ρ μ = .ok (!l.isEmpty) μ1 := by
  rw [evalT, h, bind_ok, truD]
theorem eq_str {x y : Str} {μ : Mu} (hx : x.cps.all (· < 0x110000) = true) (hy : y.cps.all (· < 0x110000) = true) : cmpD .eq (.str x) (.str y) μ = .ok (x == y) μ := by
  show needs _ _ = _
  rw [needs_pos ⟨hx, hy⟩]
  rfl
theorem ne_str {x y : Str} {μ : Mu} (hx : x.cps.all (· < 0x110000) = true) (hy : y.cps.all (· < 0x110000) = true) : cmpD .ne (.str x) (.str y) μ = .ok (!(x == y)) μ := by
  show needs _ _ = _
  rw [needs_pos ⟨hx, hy⟩]
  rfl
theorem ev_orb {Γ : G} {ρ : Rho} {μ : Mu} {a b : E} {u v : Bool} (ha : evalE Γ a ρ μ = .ok (.bl u) μ) (hb : evalE Γ b ρ μ = .ok (.bl v) μ) : evalE Γ (.or a b) ρ μ = .ok (.bl (u || v)) μ := by
  cases u with
  | true => exact ev_or_t ha rfl
  | false => exact ev_or_f ha rfl hb
theorem ev_andb {Γ : G} {ρ : Rho} {μ : Mu} {a b : E} {u v : Bool} (ha : evalE Γ a ρ μ = .ok (.bl u) μ) (hb : evalE Γ b ρ μ = .ok (.bl v) μ) : evalE Γ (.and a b) ρ μ = .ok (.bl (u && v)) μ := by
  cases u with
  | true => exact ev_and_t ha rfl hb
  | false => exact ev_and_f ha rfl
theorem comp_filter {f : D → Mu → Res (Option D)} {α : Type} {a : α → D} {c : α → Bool} {g : α → D} {μ : Mu} : ∀ {ds : List α} {acc : List D}, (∀ d ∈ ds, f (a d) μ = .ok (if c d then some (g d) else none) μ) → acc.length + ds.length ≤ 16777216 →
    compLoop f (chkOf none) acc (ds.map a) μ = .ok (acc ++ (ds.filter c).map g) μ
  | [], acc, _, _ => by
    unfold compLoop
    rw [List.map_nil]
    simp only
    rw [if_pos (show chkOf none μ = true from rfl), List.filter_nil, List.map_nil, List.append_nil]
  | d :: ds, acc, h, hl => by
    rw [List.length_cons] at hl
    rw [List.map_cons]
    unfold compLoop
    rw [if_pos (show chkOf none μ = true from rfl), h d (List.mem_cons_self ..), List.filter_cons]
    cases hc : c d with
    | false =>
      simp only [Bool.false_eq_true, if_false]
      exact comp_filter (fun e he => h e (List.mem_cons_of_mem _ he)) (by omega)
    | true =>
      simp only [if_true]
      rw [needs_pos (by omega), comp_filter (fun e he => h e (List.mem_cons_of_mem _ he)) (by simp; omega)]
      simp
theorem ev_comp {Γ : G} {own : List Nat} {tg : Tg} {it : IT} {c : T} {e : E} {ρ : Rho} {μ μ1 μ2 : Mu} {ds l : List D} (h : evalIt Γ it ρ μ = .ok (ds, none) μ1) (h2 : compLoop (cbody Γ own tg c e ρ) (chkOf none) [] ds μ1 = .ok l μ2) : evalE Γ (.comp own tg it c e) ρ μ = .ok (.lst l) μ2 := comp_run h h2
theorem comp_all {f : D → Mu → Res (Option D)} {α : Type} {a : α → D} {g : α → D} {μ : Mu} {ds : List α} (h : ∀ d ∈ ds, f (a d) μ = .ok (some (g d)) μ) (hl : ds.length ≤ 16777216) : compLoop f (chkOf none) [] (ds.map a) μ = .ok (ds.map g) μ := by
  have := comp_filter (f := f) (a := a) (c := fun _ => true) (g := g) (μ := μ) (ds := ds) (acc := []) (fun d hd => by rw [h d hd]; rfl) (by simpa using hl)
  rw [this, List.nil_append, List.filter_eq_self.mpr fun _ _ => rfl]
theorem comp_empty {Γ : G} {own : List Nat} {tg : Tg} {it : IT} {c : T} {e : E} {ρ : Rho} {μ : Mu} {α : Type} {a : α → D} {ds : List α} (h : evalIt Γ it ρ μ = .ok (ds.map a, none) μ) (h2 : ∀ d ∈ ds, cbody Γ own tg c e ρ (a d) μ = .ok none μ) (hl : ds.length ≤ 16777216) : evalE Γ (.comp own tg it c e) ρ μ = .ok (.lst []) μ := by
  refine ev_comp h ?_
  have := comp_filter (f := cbody Γ own tg c e ρ) (a := a) (c := fun _ => false) (g := a) (μ := μ) (ds := ds) (acc := []) (fun d hd => (h2 d hd).trans rfl) (by simpa using hl)
  rw [this]
  simp
/-! ### errors -/
section
variable {Γ : G} {ρ ρ' : Rho} {μ μ1 μ2 μ3 μ4 : Mu} {a b c d e : E} {x y z w v : D} {t u : T} {s : PyI.S} {fs : List D} {n : Nat}
theorem bind_err {α β : Type} {f : α → Mu → Res β} : (Res.err n fs μ : Res α).bind f = .err n fs μ := rfl
theorem then_err {α : Type} {f : α → Mu → Out} : (Res.err n fs μ : Res α).then ρ f = .er n fs ρ μ := rfl
theorem run_er {bb : B} (h : runS Γ s ρ μ = .er n fs ρ' μ1) : runB Γ (.cons s bb) ρ μ = .er n fs ρ' μ1 := by
  rw [runB, h]
  rfl
theorem st_rse {i : Nat} (hm : Γ.mkr = true) (h : evalE Γ e ρ μ = .ok (nD i) μ1) (hi : i < 1000000000000000000) : runS Γ (.rse n 1 (.cons e .nil)) ρ μ = .er n [nD i] ρ μ1 := by
  have hk : ([nD i] : List D).length = 1 ∧ ([nD i] : List D).all okArg = true := ⟨rfl, by
    have h1 : decide ((0 : Int) ≤ (i : Int)) = true := decide_eq_true (Int.natCast_nonneg i)
    have h2 : decide ((i : Int) < 1000000000000000000) = true := decide_eq_true (by omega)
    show ((decide ((0 : Int) ≤ (i : Int)) && decide ((i : Int) < 1000000000000000000)) && true) = true
    rw [h1, h2]; rfl⟩
  rw [runS, if_pos hm, evalEs, h, bind_ok, evalEs, bind_ok, then_ok, if_pos hk]
  rfl
theorem st_set_err {tg : Tg} (h : evalE Γ e ρ μ = .err n fs μ1) : runS Γ (.set tg e) ρ μ = .er n fs ρ μ1 := by
  rw [runS, h, then_err]
theorem st_ret_err (h : evalE Γ e ρ μ = .err n fs μ1) : runS Γ (.ret e) ρ μ = .er n fs ρ μ1 := by
  rw [runS, h, then_err]
theorem ev_tup2_err (ha : evalE Γ a ρ μ = .ok x μ1) (hb : evalE Γ b ρ μ1 = .err n fs μ2) : evalE Γ (.tup (.cons a (.cons b .nil))) ρ μ = .err n fs μ2 := by
  rw [evalE, evalEs, ha, bind_ok, evalEs, hb, bind_err, bind_err, bind_err]
theorem ev_call4 {f : Nat} {r : Res D} (ha : evalE Γ a ρ μ = .ok x μ1) (hb : evalE Γ b ρ μ1 = .ok y μ2) (hc : evalE Γ c ρ μ2 = .ok z μ3) (hd : evalE Γ d ρ μ3 = .ok w μ4) (h : Γ.call f [x, y, z, w] μ4 = r) : evalE Γ (.call f (.cons a (.cons b (.cons c (.cons d .nil))))) ρ μ = r := by
  rw [evalE, evalEs, ha, bind_ok, evalEs, hb, bind_ok, evalEs, hc, bind_ok, evalEs, hd, bind_ok, evalEs, bind_ok, bind_ok, bind_ok, bind_ok, bind_ok, h]
theorem try_ok {i k : Nat} {h : XR} (he : evalE Γ e ρ μ = .ok x μ1) : runS Γ (.tryR e k i h) ρ μ = .rt x μ1 := by
  rw [runS, he]
theorem try_er {i k : Nat} {h : XR} (he : evalE Γ e ρ μ = .err k fs μ1) (hv : h.val fs = some v) : runS Γ (.tryR e k i h) ρ μ = .rt v μ1 := by
  rw [runS, he]
  simp only [if_true, hv]
theorem ev_idx0 {r : Res D} (ha : evalE Γ a ρ μ = .ok x μ1) (hb : evalE Γ b ρ μ1 = .ok y μ2) (h : idxA x y μ2 = r) : evalE Γ (.idx a b) ρ μ = r := ev_idx ha hb h
theorem ev_tup0 : evalE Γ (.tup .nil) ρ μ = .ok (.tup []) μ := by
  rw [evalE, evalEs, bind_ok, needs_pos (by simp)]
theorem ev_tup1 (ha : evalE Γ a ρ μ = .ok x μ1) : evalE Γ (.tup (.cons a .nil)) ρ μ = .ok (.tup [x]) μ1 := by
  rw [evalE, evalEs, ha, bind_ok, evalEs, bind_ok, bind_ok, needs_pos (by simp)]
theorem ev_cs {q : Str} {l : List Nat} (h : q = tx l) : evalE Γ (.cst (.str q)) ρ μ = .ok (.str (tx l)) μ := by rw [evalE, h]
theorem ev_add1 {k : Nat} (ha : evalE Γ a ρ μ = .ok (nD k) μ1) : evalE Γ (.bin .add a (.cst (.int 1))) ρ μ = .ok (nD (k + 1)) μ1 := ev_bin ha ev_cst rfl
theorem ev_add2 {k : Nat} (ha : evalE Γ a ρ μ = .ok (nD k) μ1) : evalE Γ (.bin .add a (.cst (.int 2))) ρ μ = .ok (nD (k + 2)) μ1 := ev_bin ha ev_cst rfl
theorem ev_slc {i j : Int} (ha : evalE Γ a ρ μ = .ok x μ1) (hb : evalE Γ b ρ μ1 = .ok (.int i) μ2) (hc : evalE Γ c ρ μ2 = .ok (.int j) μ3) {r : Res D} (h : slcD x (some i) (some j) μ3 = r) : evalE Γ (.slc a (.some b) (.some c)) ρ μ = r := by
  rw [evalE, ha, bind_ok, evalO, hb, bind_ok, bind_ok, evalO, hc, bind_ok, bind_ok, h]
theorem ev_slc_hi {j : Int} (ha : evalE Γ a ρ μ = .ok x μ1) (hc : evalE Γ c ρ μ1 = .ok (.int j) μ3) {r : Res D} (h : slcD x none (some j) μ3 = r) : evalE Γ (.slc a .none (.some c)) ρ μ = r := by
  rw [evalE, ha, bind_ok, evalO, bind_ok, evalO, hc, bind_ok, bind_ok, h]
theorem ev_slc_lo {i : Int} (ha : evalE Γ a ρ μ = .ok x μ1) (hb : evalE Γ b ρ μ1 = .ok (.int i) μ2) {r : Res D} (h : slcD x (some i) none μ2 = r) : evalE Γ (.slc a (.some b) .none) ρ μ = r := by
  rw [evalE, ha, bind_ok, evalO, hb, bind_ok, bind_ok, evalO, bind_ok, h]
theorem ev_chn_f {o o' : Cop} (ha : evalE Γ a ρ μ = .ok x μ1) (hb : evalE Γ b ρ μ1 = .ok y μ2) (h : cmpD o x y μ2 = .ok false μ2) : evalE Γ (.chn o o' a b c) ρ μ = .ok (.bl false) μ2 := by
  rw [evalE, ha, bind_ok, hb, bind_ok, h, bind_ok, if_neg (by decide)]
theorem ev_chn_t {o o' : Cop} {k : Bool} (ha : evalE Γ a ρ μ = .ok x μ1) (hb : evalE Γ b ρ μ1 = .ok y μ2) (h : cmpD o x y μ2 = .ok true μ2) (hc : evalE Γ c ρ μ2 = .ok z μ3) (h2 : cmpD o' y z μ3 = .ok k μ3) : evalE Γ (.chn o o' a b c) ρ μ = .ok (.bl k) μ3 := by
  rw [evalE, ha, bind_ok, hb, bind_ok, h, bind_ok, if_pos rfl, hc, bind_ok, h2, bind_ok]
theorem tv_and_f (ht : evalT Γ t ρ μ = .ok false μ1) : evalT Γ (.and t u) ρ μ = .ok false μ1 := by
  rw [evalT, ht, bind_ok, if_neg (by decide)]
theorem tv_and_t {r : Res Bool} (ht : evalT Γ t ρ μ = .ok true μ1) (hu : evalT Γ u ρ μ1 = r) : evalT Γ (.and t u) ρ μ = r := by
  rw [evalT, ht, bind_ok, if_pos rfl, hu]
theorem tv_or_t (ht : evalT Γ t ρ μ = .ok true μ1) : evalT Γ (.or t u) ρ μ = .ok true μ1 := by
  rw [evalT, ht, bind_ok, if_pos rfl]
theorem tv_or_f {r : Res Bool} (ht : evalT Γ t ρ μ = .ok false μ1) (hu : evalT Γ u ρ μ1 = r) : evalT Γ (.or t u) ρ μ = r := by
  rw [evalT, ht, bind_ok, if_neg (by decide), hu]
theorem st_aug {i : Nat} {j k : Int} (hi : ρ[i]? = some (some (.int j))) (h : evalE Γ e ρ μ = .ok (.int k) μ1) : runS Γ (.aug i .add e) ρ μ = .nx (ρ.set i (some (.int (j + k)))) μ1 := by
  rw [runS]
  simp only [hi]
  rw [h, then_ok]
theorem ev_met0 {m : Met} {r : Res D} (ho : evalE Γ a ρ μ = .ok x μ1) (ht : tyD m x μ1 = true) (h : metD m x [] μ1 = r) : evalE Γ (.met m a .nil) ρ μ = r := by
  rw [evalE, ho, bind_ok, needs_pos ht, evalEs, bind_ok, h]
theorem ev_met1 {m : Met} {r : Res D} (ho : evalE Γ a ρ μ = .ok x μ1) (ht : tyD m x μ1 = true) (hb : evalE Γ b ρ μ1 = .ok y μ2) (h : metD m x [y] μ2 = r) : evalE Γ (.met m a (.cons b .nil)) ρ μ = r := by
  rw [evalE, ho, bind_ok, needs_pos ht, evalEs, hb, bind_ok, evalEs, bind_ok, bind_ok, h]
theorem ev_met2 {m : Met} {r : Res D} (ho : evalE Γ a ρ μ = .ok x μ1) (ht : tyD m x μ1 = true) (hb : evalE Γ b ρ μ1 = .ok y μ2) (hc : evalE Γ c ρ μ2 = .ok z μ3) (h : metD m x [y, z] μ3 = r) : evalE Γ (.met m a (.cons b (.cons c .nil))) ρ μ = r := by
  rw [evalE, ho, bind_ok, needs_pos ht, evalEs, hb, bind_ok, evalEs, hc, bind_ok, evalEs, bind_ok, bind_ok, bind_ok, h]
end
/-! ### whiles -/
section
variable {c : Rho → Mu → Res Bool} {f : Rho → Mu → Out} {n k : Nat} {ρ ρ' : Rho} {μ μ' : Mu} {o : Out} {d : D} {fs : List D}
theorem whl_nx (h : c ρ μ = .ok true μ) (h2 : f ρ μ = .nx ρ' μ') (h3 : whileLoop c f n ρ' μ' = o) : whileLoop c f (n + 1) ρ μ = o := by
  rw [whileLoop, h, then_ok, if_pos rfl, h2]
  exact h3
theorem whl_stop (h : c ρ μ = .ok false μ) : whileLoop c f (n + 1) ρ μ = .nx ρ μ := by
  rw [whileLoop, h, then_ok, if_neg (by decide)]
theorem whl_rt (h : c ρ μ = .ok true μ) (h2 : f ρ μ = .rt d μ') : whileLoop c f (n + 1) ρ μ = .rt d μ' := by
  rw [whileLoop, h, then_ok, if_pos rfl, h2]
theorem whl_er (h : c ρ μ = .ok true μ) (h2 : f ρ μ = .er k fs ρ' μ') : whileLoop c f (n + 1) ρ μ = .er k fs ρ' μ' := by
  rw [whileLoop, h, then_ok, if_pos rfl, h2]
end
/-! ### texts -/
abbrev uni (c : Nat) : Bool := decide (c < 0x110000)
section
variable {t l : List Nat} {c d n : Nat} {q : Str} {μ : Mu}
theorem len_tx (h : t.length ≤ 16777216) : bifD .len [.str (tx t)] μ = .ok (nD t.length) μ := by
  show needs ((tx t).length ≤ 16777216) (Res.ok (D.int ((tx t).length : Nat)) μ) = _
  rw [tx_len, needs_pos h]
theorem ix_str (h : t.length ≤ 16777216) (hc : t[n]? = some c) : idxA (.str (tx t)) (nD n) μ = .ok (.str (tx [c])) μ := by
  have : atI (tx t).cps.toList (n : Int) = some c := (atI_natG _ n).trans hc
  unfold idxA getDic idxD nD
  simp only [this]
  exact needs_pos (by rw [tx_len]; exact h)
theorem slc_tx {i j : Int} (h : t.length ≤ 16777216) : slcD (.str (tx t)) (some i) (some j) μ = .ok (.str (cutS (tx t) (some i) (some j))) μ := needs_pos (by rw [tx_len]; exact h)
theorem eq_tx {a b : List Nat} (ha : a.all uni = true) (hb : b.all uni = true) : cmpD .eq (.str (tx a)) (.str (tx b)) μ = .ok (a == b) μ := by
  rw [eq_str (by rw [tx_all]; exact ha) (by rw [tx_all]; exact hb), tx_beq]
theorem ne_tx {a b : List Nat} (ha : a.all uni = true) (hb : b.all uni = true) : cmpD .ne (.str (tx a)) (.str (tx b)) μ = .ok (!(a == b)) μ := by
  rw [ne_str (by rw [tx_all]; exact ha) (by rw [tx_all]; exact hb), tx_beq]
theorem one_beq (c d : Nat) : ([c] == [d]) = (c == d) := by simp
theorem uni1 (h : uni c = true) : ([c] : List Nat).all uni = true := by simpa using h
theorem eq_c (hq : q = tx [d]) (hc : uni c = true) (hd : uni d = true) : cmpD .eq (.str (tx [c])) (.str q) μ = .ok (c == d) μ := by
  rw [hq, eq_tx (uni1 hc) (uni1 hd), one_beq]
theorem ne_c (hq : q = tx [d]) (hc : uni c = true) (hd : uni d = true) : cmpD .ne (.str (tx [c])) (.str q) μ = .ok (!(c == d)) μ := by
  rw [hq, ne_tx (uni1 hc) (uni1 hd), one_beq]
theorem eq_e (hq : q = tx [d]) (hd : uni d = true) : cmpD .eq (.str (tx [])) (.str q) μ = .ok false μ := by
  rw [hq, eq_tx rfl (uni1 hd)]; rfl
theorem ne_e (hq : q = tx [d]) (hd : uni d = true) : cmpD .ne (.str (tx [])) (.str q) μ = .ok true μ := by
  rw [hq, ne_tx rfl (uni1 hd)]; rfl
theorem in_c (hq : q = tx l) : cmpD .in_ (.str (tx [c])) (.str q) μ = .ok (decide (c ∈ l)) μ := by
  rw [hq]
  show Res.ok (!(Builtin.Str.occurrences (tx l) (tx [c]) 0 (tx l).length 1).isEmpty) μ = _
  rw [tx_in]
theorem notin_c (hq : q = tx l) : cmpD .notin (.str (tx [c])) (.str q) μ = .ok (!decide (c ∈ l)) μ := by
  rw [hq]
  show Res.ok (!(!(Builtin.Str.occurrences (tx l) (tx [c]) 0 (tx l).length 1).isEmpty)) μ = _
  rw [tx_in]
theorem lt_c (hq : q = tx [d]) : cmpD .lt (.str (tx [c])) (.str q) μ = .ok (decide (c < d)) μ := by
  rw [hq]
  show Res.ok (ltS (tx [c]) (tx [d])) μ = _
  rw [lt_one]
theorem gt_c (hq : q = tx [d]) : cmpD .gt (.str (tx [c])) (.str q) μ = .ok (decide (d < c)) μ := by
  rw [hq]
  show Res.ok (ltS (tx [d]) (tx [c])) μ = _
  rw [lt_one]
theorem le_cl (hq : q = tx [d]) : cmpD .le (.str q) (.str (tx [c])) μ = .ok (decide (d ≤ c)) μ := by
  rw [hq]
  show Res.ok (!ltS (tx [c]) (tx [d])) μ = _
  rw [lt_one]
  congr 1
  by_cases h : c < d
  · rw [decide_eq_true h, decide_eq_false (by omega)]; rfl
  · rw [decide_eq_false h, decide_eq_true (by omega)]; rfl
theorem le_cr (hq : q = tx [d]) : cmpD .le (.str (tx [c])) (.str q) μ = .ok (decide (c ≤ d)) μ := by
  rw [hq]
  show Res.ok (!ltS (tx [d]) (tx [c])) μ = _
  rw [lt_one]
  congr 1
  by_cases h : d < c
  · rw [decide_eq_true h, decide_eq_false (by omega)]; rfl
  · rw [decide_eq_false h, decide_eq_true (by omega)]; rfl
theorem le_el (hq : q = tx [d]) : cmpD .le (.str q) (.str (tx [])) μ = .ok false μ := by
  rw [hq]
  show Res.ok (!ltS (tx []) (tx [d])) μ = _
  rw [lt_none]; rfl
theorem lt_n {a b : Nat} : cmpD .lt (nD a) (nD b) μ = .ok (decide (a < b)) μ := congrArg (fun b => Res.ok b μ) (decide_eq_decide.mpr Int.ofNat_lt)
theorem gt_n {a b : Nat} : cmpD .gt (nD a) (nD b) μ = .ok (decide (b < a)) μ := congrArg (fun b => Res.ok b μ) (decide_eq_decide.mpr Int.ofNat_lt)
theorem ge_n {a b : Nat} : cmpD .ge (nD a) (nD b) μ = .ok (decide (b ≤ a)) μ := congrArg (fun b => Res.ok b μ) (decide_eq_decide.mpr Int.ofNat_le)
theorem eq_n {a b : Nat} : cmpD .eq (nD a) (nD b) μ = .ok (decide (a = b)) μ := by
  rw [eq_int]
  refine congrArg (fun b => Res.ok b μ) ?_
  by_cases h : a = b
  · subst h; simp
  · refine (beq_eq_false_iff_ne.mpr fun z => h (Int.ofNat.inj z)).trans (decide_eq_false h).symm
theorem eq_nm1 {a : Nat} : cmpD .eq (nD a) (.int (-1)) μ = .ok false μ := by
  rw [eq_int]
  exact congrArg (fun b => Res.ok b μ) (beq_eq_false_iff_ne.mpr (by omega))
end
/-! ### replacing -/
section
variable {Γ : G} {ρ : Rho} {μ μ1 : Mu} {e : E} {d : D} {r : R} {l y z : List Nat} {ys zs : Str}
theorem st_setR {i : Nat} (h : evalR Γ r ρ μ = .ok d μ1) : runS Γ (.setR i r) ρ μ = .nx (ρ.set i (some d)) μ1 := by
  rw [runS, h, then_ok]
theorem evr_base (h : evalE Γ e ρ μ = .ok d μ1) : evalR Γ (.base e) ρ μ = .ok d μ1 := by
  rw [evalR, h]
theorem evr_repl (h : evalR Γ r ρ μ = .ok (.str (tx l)) μ1) (hy : ys = tx y) (hz : zs = tx z) (ne : y ≠ []) (hb : l.length + (l.length + 1) * z.length ≤ 16777216) : evalR Γ (.repl r ys zs) ρ μ = .ok (.str (tx (StrLaws.replL y z l))) μ1 := by
  rw [evalR, h, bind_ok, hy, hz]
  show needs ((tx l).length + ((tx l).length + 1) * (tx z).length ≤ 16777216) _ = _
  rw [needs_pos (by rw [tx_len, tx_len]; exact hb), tx_repl _ _ _ ne]
end
/-! ### pieces of bodies -/
def nthS : B → Nat → PyI.S
  | .nil, _ => .pass
  | .cons s _, 0 => s
  | .cons _ b, n + 1 => nthS b n
def forB : PyI.S → B
  | .for_ _ _ b => b
  | .whl _ b => b
  | _ => .nil
def whlT : PyI.S → T
  | .whl t _ => t
  | _ => .yes
def thenB : PyI.S → B
  | .ifs _ b _ => b
  | _ => .nil
def elseB : PyI.S → B
  | .ifs _ _ b => b
  | _ => .nil
theorem finO_er {n c : Nat} {fs : List D} {ρ : Rho} {μ : Mu} (h : μ.length = n) : finO n (.er c fs ρ μ) = .err c fs μ := by
  unfold finO
  simp only
  rw [if_pos h]
/-- lists of its own were made, and are forgotten -/
theorem finO_er_more {c : Nat} {fs : List D} {ρ : Rho} {μ ν : Mu} (h : PureM μ) (hd : pureDs fs = true) : finO μ.length (.er c fs ρ (μ ++ ν)) = .err c fs μ := by
  have hb := pureDs.belows μ.length hd
  have ht : (μ ++ ν).take μ.length = μ := List.take_left' rfl
  unfold finO
  simp only
  by_cases z : (μ ++ ν).length = μ.length
  · have : ν = [] := List.length_eq_zero_iff.mp (by simp at z; exact z ▸ rfl)
    subst this
    rw [if_pos z, List.append_nil]
  · rw [if_neg z, ht, if_pos ⟨hb, h.all _, by simp⟩]
end PyI
/-! R2: steps: dicts, heaps with a frame, numbers. -/
namespace PyI
open PySem L2 PyProof.Rows
/-! ### numbers, lengths -/
section
variable {μ : Mu}
theorem int_int {i : Int} : bifD .int [.int i] μ = .ok (.int i) μ := rfl
theorem int_bl {b : Bool} : bifD .int [.bl b] μ = .ok (nD (if b then 1 else 0)) μ := by cases b <;> rfl
theorem mul_int {i j : Int} (h : lim64 i ∨ lim64 j) : binD .mul (.int i) (.int j) μ = .ok (.int (i * j)) μ := by
  show needs _ _ = _
  rw [needs_pos (.inl h)]
theorem mod_int {i j : Int} (h : 0 < j) : binD .mod (.int i) (.int j) μ = .ok (.int (i % j)) μ := by
  show needs _ _ = _
  rw [needs_pos h]
theorem mod_n {i j : Nat} (h : 0 < j) : binD .mod (nD i) (nD j) μ = .ok (nD (i % j)) μ := by
  rw [nD, nD, mod_int (by omega)]
  rfl
theorem fdiv_int {i j : Int} (h : 0 < j) (h2 : j < 1073741824) : binD .fdiv (.int i) (.int j) μ = .ok (.int (i / j)) μ := by
  show needs _ _ = _
  rw [needs_pos ⟨h, .inl h2⟩]
theorem gt_int {i j : Int} : cmpD .gt (.int i) (.int j) μ = .ok (decide (j < i)) μ := rfl
theorem lt_int {i j : Int} : cmpD .lt (.int i) (.int j) μ = .ok (decide (i < j)) μ := rfl
theorem ge_int {i j : Int} : cmpD .ge (.int i) (.int j) μ = .ok (decide (j ≤ i)) μ := rfl
theorem len_tup {l : List D} : bifD .len [.tup l] μ = .ok (nD l.length) μ := rfl
theorem len_lst {l : List D} : bifD .len [.lst l] μ = .ok (nD l.length) μ := rfl
theorem len_kl {l : List D} : bifD .len [.kl l] μ = .ok (nD l.length) μ := rfl
theorem len_ref {n : Nat} {l : List D} (h : μ[n]? = some (.lst l)) : bifD .len [.ref n] μ = .ok (nD l.length) μ := by
  show (match seqD μ (.ref n) with
    | some l => Res.ok (D.int (l.length : Int)) μ
    | none => .stuck) = _
  have : seqD μ (.ref n) = some l := by unfold seqD; simp only [h]
  rw [this]
theorem add_n {a b : Nat} : binD .add (nD a) (nD b) μ = .ok (nD (a + b)) μ := by
  show Res.ok (D.int ((a : Int) + (b : Int))) μ = _
  rw [← Int.natCast_add]
theorem sub_n {a b : Nat} (h : b ≤ a) : binD .sub (nD a) (nD b) μ = .ok (nD (a - b)) μ := by
  show Res.ok (D.int ((a : Int) - (b : Int))) μ = _
  rw [← Int.ofNat_sub h]
theorem ix_kl {l : List D} {n : Nat} {d : D} (h : l[n]? = some d) : idxA (.kl l) (.int (n : Int)) μ = .ok d μ := by
  show (match seqD μ (.kl l) with
    | some l => match atI l (n : Int) with
      | some d => Res.ok d μ
      | none => .stuck
    | none => .stuck) = _
  simp only [seqD, atI_nat, h]
theorem gd_lst {n : Nat} {l : List D} {k : D} (h : μ[n]? = some (.lst l)) : getDic μ (.ref n) k = none := by
  unfold getDic
  simp only [h]
theorem ix_ref {l : List D} {n m : Nat} {d : D} (hm : μ[m]? = some (.lst l)) (h : l[n]? = some d) : idxA (.ref m) (.int (n : Int)) μ = .ok d μ := by
  have e : seqD μ (.ref m) = some l := by unfold seqD; simp only [hm]
  unfold idxA
  rw [gd_lst hm]
  show (match seqD μ (.ref m) with
    | some l => match atI l (n : Int) with
      | some d => Res.ok d μ
      | none => .stuck
    | none => .stuck) = _
  simp only [e, atI_nat, h]
theorem atI_last {l : List D} {d : D} : atI (l ++ [d]) (-1) = some d := by
  unfold atI ixN
  rw [if_neg (by decide), if_pos (by simp; omega)]
  have e : (-1 + ((l ++ [d]).length : Int)).toNat = l.length := by simp; omega
  show (l ++ [d])[(-1 + ((l ++ [d]).length : Int)).toNat]? = some d
  rw [e]
  simp
theorem ix_last {l : List D} {m : Nat} {d : D} (hm : μ[m]? = some (.lst (l ++ [d]))) : idxA (.ref m) (.int (-1)) μ = .ok d μ := by
  have e : seqD μ (.ref m) = some (l ++ [d]) := by unfold seqD; simp only [hm]
  unfold idxA
  rw [gd_lst hm]
  show (match seqD μ (.ref m) with
    | some l => match atI l (-1) with
      | some d => Res.ok d μ
      | none => .stuck
    | none => .stuck) = _
  simp only [e, atI_last]
end
/-! ### dicts -/
section
variable {Γ : G} {ρ : Rho} {μ μ1 μ2 μ3 μ4 : Mu} {a b c o k e : E} {x y z d : D} {n : Nat}
theorem gd_dt {kvs : List (List Key × D)} {ks : List Key} (h : μ[n]? = some (.dt kvs)) (hk : keysD d = some ks) : getDic μ (.ref n) d = some (valD kvs ks) := by
  unfold getDic
  simp only [h, hk, Option.map_some]
theorem gd_dk {kvs : List (Key × D)} {ks : Key} (h : μ[n]? = some (.dk kvs)) (hk : keyD d = some ks) : getDic μ (.ref n) d = some (valD kvs ks) := by
  unfold getDic
  simp only [h, hk, Option.map_some]
theorem pd_dt {kvs : List (List Key × D)} {ks : List Key} (h : μ[n]? = some (.dt kvs)) (hk : keysD d = some ks) : putDic μ (.ref n) d x = some (kvs.length, μ.set n (.dt (putD kvs ks x))) := by
  unfold putDic
  simp only [h, hk, Option.map_some]
theorem pd_dk {kvs : List (Key × D)} {ks : Key} (h : μ[n]? = some (.dk kvs)) (hk : keyD d = some ks) : putDic μ (.ref n) d x = some (kvs.length, μ.set n (.dk (putD kvs ks x))) := by
  unfold putDic
  simp only [h, hk, Option.map_some]
theorem ix_dt {kvs : List (List Key × D)} {ks : List Key} (h : μ[n]? = some (.dt kvs)) (hk : keysD d = some ks) (hv : valD kvs ks = some x) : idxA (.ref n) d μ = .ok x μ := by
  unfold idxA
  rw [gd_dt h hk, hv]
theorem ix_dk {kvs : List (Key × D)} {ks : Key} (h : μ[n]? = some (.dk kvs)) (hk : keyD d = some ks) (hv : valD kvs ks = some x) : idxA (.ref n) d μ = .ok x μ := by
  unfold idxA
  rw [gd_dk h hk, hv]
theorem put_dt {kvs : List (List Key × D)} {ks : List Key} (h : μ[n]? = some (.dt kvs)) (hk : keysD d = some ks) (hz : kvs.length < 16777216) : putA (.ref n) d x μ = .ok () (μ.set n (.dt (putD kvs ks x))) := by
  unfold putA
  rw [pd_dt h hk]
  exact needs_pos hz
theorem notin_dt {kvs : List (List Key × D)} {ks : List Key} {l : List D} (h : μ[n]? = some (.dt kvs)) (hk : keysD (.tup l) = some ks) : cmpD .notin (.tup l) (.ref n) μ = .ok (!(valD kvs ks).isSome) μ := by
  show (match getDic μ (.ref n) (.tup l) with
    | some r => Res.ok (!r.isSome) μ
    | none => match seqD μ (.ref n) with
      | some l' => _
      | none => .stuck) = _
  rw [gd_dt h hk]
theorem ev_get2 {r : Option D} (ho : evalE Γ o ρ μ = .ok x μ1) (hd : isDic μ1 x = true) (hk : evalE Γ k ρ μ1 = .ok y μ2) (hz : evalE Γ e ρ μ2 = .ok z μ3) (h : getDicS μ3 x y = some r) : evalE Γ (.get2 o k e) ρ μ = .ok (r.getD z) μ3 := by
  rw [evalE, ho, bind_ok, needs_pos hd, hk, bind_ok, hz, bind_ok, h]
theorem st_setIx (hv : evalE Γ e ρ μ = .ok x μ1) (ho : evalE Γ o ρ μ1 = .ok y μ2) (hk : evalE Γ k ρ μ2 = .ok z μ3) (h : putA y z x μ3 = .ok () μ4) : runS Γ (.setIx o k e) ρ μ = .nx ρ μ4 := by
  rw [runS, hv, then_ok, ho, then_ok, hk, then_ok, h, then_ok]
theorem st_daug {i j : Int} (ho : evalE Γ o ρ μ = .ok x μ1) (hk : evalE Γ k ρ μ1 = .ok y μ2) (hg : getDic μ2 x y = some (some (.int i))) (he : evalE Γ e ρ μ2 = .ok (.int j) μ3) (hp : putDic μ3 x y (.int (i + j)) = some (n, μ4)) (hn : n < 16777216) : runS Γ (.daug o k .add e) ρ μ = .nx ρ μ4 := by
  rw [runS, ho, then_ok, hk, then_ok]
  simp only [hg]
  rw [he, then_ok]
  simp only [hp, hn, if_true]
theorem st_par2 {i j : Nat} (h : evalE Γ a ρ μ = .ok x μ1) (h2 : evalE Γ b ρ μ1 = .ok y μ2) : runS Γ (.par2 i j (.cons a (.cons b .nil))) ρ μ = .nx ((ρ.set i (some x)).set j (some y)) μ2 := by
  rw [runS, evalEs, h, bind_ok, evalEs, h2, bind_ok, evalEs, bind_ok, bind_ok, then_ok]
theorem ev_newL {l : List D} (h : evalE Γ e ρ μ = .ok (.lst l) μ1) (hn : μ1.length = n) : evalE Γ (.newL e) ρ μ = .ok (.ref n) (μ1 ++ [.lst l]) := by
  rw [evalE, h, bind_ok, hn]
theorem ev_dnewT (hn : μ.length = n) : evalE Γ (.dnew true) ρ μ = .ok (.ref n) (μ ++ [.dt []]) := by
  rw [evalE, hn]; rfl
theorem ev_dnewK (hn : μ.length = n) : evalE Γ (.dnew false) ρ μ = .ok (.ref n) (μ ++ [.dk []]) := by
  rw [evalE, hn]; rfl
theorem ev_disp2 {s t : Str} (ha : evalE Γ a ρ μ = .ok x μ1) (hb : evalE Γ b ρ μ1 = .ok y μ2) (hn : μ2.length = n) : evalE Γ (.disp [s, t] (.cons a (.cons b .nil))) ρ μ = .ok (.ref n) (μ2 ++ [.dk (mergeD [] [(.inr s, x), (.inr t, y)])]) := by
  rw [evalE, evalEs, ha, bind_ok, evalEs, hb, bind_ok, evalEs, bind_ok, bind_ok, bind_ok, needs_pos ⟨rfl, by show 2 ≤ 15; decide⟩, hn]
  rfl
theorem ev_revT {l : List D} (h : evalE Γ e ρ μ = .ok (.tup l) μ1) : evalE Γ (.revs e) ρ μ = .ok (.tup l.reverse) μ1 := by
  rw [evalE, h, bind_ok]; rfl
theorem ev_revL {l : List D} (h : evalE Γ e ρ μ = .ok x μ1) (hl : lstD μ1 x = some l) : evalE Γ (.revs e) ρ μ = .ok (.lst l.reverse) μ1 := by
  rw [evalE, h, bind_ok]
  unfold revD
  split
  · cases hl
  · rw [hl]
theorem lstD_ref {l : List D} (h : μ[n]? = some (.lst l)) : lstD μ (.ref n) = some l := by
  unfold lstD; simp only [h]
theorem it_down {i j : Nat} (ha : evalE Γ a ρ μ = .ok (.int i) μ1) (hb : evalE Γ b ρ μ1 = .ok (.int (-1)) μ2) (hc : evalE Γ c ρ μ2 = .ok (.int (-1)) μ3) (hi : i ≤ 1000000) (hj : j = i + 1) : evalIt Γ (.rng3 a b c) ρ μ = .ok (rngDown i j, none) μ3 := by
  subst hj
  rw [evalIt, ha, bind_ok, hb, bind_ok, hc, bind_ok]
  show needs _ _ = _
  have h1 : lim62 (-1) := by unfold lim62; exact ⟨by decide, by decide⟩
  rw [needs_pos ⟨rfl, lim_nat hi, h1⟩]
  have : ((i : Int) - -1).toNat = i + 1 := by omega
  rw [this]
theorem rngDown_cons {i j : Nat} : rngDown ((i + 1 : Nat) : Int) (j + 1) = nD (i + 1) :: rngDown (i : Nat) j := by
  unfold rngDown
  rw [List.range_succ_eq_map, List.map_cons, List.map_map]
  refine congr (congrArg List.cons ?_) ?_
  · show D.int _ = D.int _
    congr 1
  · refine List.map_congr_left fun k _ => ?_
    show D.int _ = D.int _
    congr 1
    show ((i + 1 : Nat) : Int) + ((k + 1 : Nat) : Int) * (-1) = (i : Int) + (k : Int) * (-1)
    omega
theorem it_enumT {l : List D} (h : evalE Γ e ρ μ = .ok (.tup l) μ1) : evalIt Γ (.enum e) ρ μ = .ok (enumL l, none) μ1 := by
  rw [evalIt, h, bind_ok]; rfl
/-- either way of a test -/
theorem ifs_by {t : T} {p q : B} {v : Bool} {out : Out} (h : evalT Γ t ρ μ = .ok v μ1) (h1 : v = true → runB Γ p ρ μ1 = out) (h2 : v = false → runB Γ q ρ μ1 = out) : runS Γ (.ifs t p q) ρ μ = out := by
  cases v with
  | true => exact ifs_true h (h1 rfl)
  | false => exact ifs_false h (h2 rfl)
end
/-! ### heaps with a frame -/
section
variable {μ ν : Mu} {i : Nat} {m : MO}
theorem fr_get : (μ ++ ν)[μ.length + i]? = ν[i]? := by
  rw [List.getElem?_append_right (by omega)]
  congr 1
  omega
theorem fr_set : (μ ++ ν).set (μ.length + i) m = μ ++ ν.set i m := by
  rw [List.set_append_right _ _ (by omega)]
  congr 2
  omega
theorem fr_app : (μ ++ ν) ++ [m] = μ ++ (ν ++ [m]) := List.append_assoc ..
theorem fr_len : (μ ++ ν).length = μ.length + ν.length := List.length_append
/-- objects of its own were made, and are forgotten -/
theorem fin_more {d : D} (h : PureM μ) (hd : pureD d = true) : fin μ.length d (μ ++ ν) = .ok d μ := by
  have hb := pureD.below μ.length hd
  have ht : (μ ++ ν).take μ.length = μ := List.take_left' rfl
  unfold fin
  by_cases z : (μ ++ ν).length = μ.length
  · have : ν = [] := List.length_eq_zero_iff.mp (by simp at z; exact z ▸ rfl)
    subst this
    rw [if_pos z, List.append_nil]
  · rw [if_neg z]
    cases d with
    | ref k => cases hd
    | _ =>
      simp only []
      rw [if_pos ⟨hb, by rw [ht]; exact h.all _, by simp⟩, ht]
/-- a dict of its own is handed back -/
theorem fin_dic (hm : ∀ l, ν[i]? ≠ some (.lst l)) (hi : i < ν.length) : fin μ.length (.ref (μ.length + i)) (μ ++ ν) = .ok (.ref (μ.length + i)) (μ ++ ν) := by
  have hl : ¬ (μ ++ ν).length = μ.length := fun z => by
    rw [fr_len] at z
    have : ν.length = 0 := Nat.add_left_cancel (z.trans (Nat.add_zero _).symm)
    omega
  have hk : μ.length ≤ μ.length + i := by omega
  have hb : below μ.length (.ref (μ.length + i)) = false := decide_eq_false (by omega)
  unfold fin
  rw [if_neg hl]
  simp only [fr_get, hk, if_true]
  cases e : ν[i]? with
  | none => simp only [hb, Bool.false_eq_true, false_and, if_false]
  | some mo =>
    cases mo with
    | lst l => exact absurd e (hm l)
    | _ => simp only [hb, Bool.false_eq_true, false_and, if_false]
end
/-! ### tables -/
section
variable {κ : Type} [DecidableEq κ] {kvs : List (κ × D)} {k j : κ} {d : D}
theorem valD_nil : valD ([] : List (κ × D)) k = none := rfl
theorem valD_cons {p : κ × D} : valD (p :: kvs) k = if p.1 = k then some p.2 else valD kvs k := by
  unfold valD
  rw [List.find?_cons]
  by_cases h : p.1 = k
  · simp [h]
  · simp [h]
theorem valD_app : ∀ {kvs : List (κ × D)}, valD (kvs ++ [(k, d)]) j = match valD kvs j with
    | some x => some x
    | none => if k = j then some d else none
  | [] => by rw [List.nil_append, valD_cons]; rfl
  | p :: kvs => by
    rw [List.cons_append, valD_cons, valD_cons]
    by_cases h : p.1 = j
    · rw [if_pos h, if_pos h]
    · rw [if_neg h, if_neg h, valD_app]
theorem valD_any : ∀ {kvs : List (κ × D)}, (kvs.any fun kv => decide (kv.1 = k)) = (valD kvs k).isSome
  | [] => rfl
  | p :: kvs => by
    rw [List.any_cons, valD_cons, valD_any]
    by_cases h : p.1 = k
    · simp [h]
    · simp [h]
theorem valD_map : ∀ {kvs : List (κ × D)}, valD (kvs.map fun kv => if kv.1 = k then (kv.1, d) else kv) j = if k = j then (valD kvs j).map fun _ => d else valD kvs j
  | [] => by rw [List.map_nil, valD_nil]; split <;> rfl
  | p :: kvs => by
    rw [List.map_cons, valD_cons, valD_cons, valD_map]
    by_cases h : p.1 = k
    · rw [if_pos h]
      by_cases h2 : p.1 = j
      · rw [if_pos h2, if_pos h2, if_pos (h.symm.trans h2)]; rfl
      · rw [if_neg h2, if_neg h2]
    · rw [if_neg h]
      by_cases h2 : p.1 = j
      · rw [if_pos h2, if_pos h2, if_neg (fun z => h (h2.trans z.symm))]
      · rw [if_neg h2, if_neg h2]
theorem valD_put : valD (putD kvs k d) j = if k = j then some d else valD kvs j := by
  unfold putD
  rw [valD_any]
  by_cases h : (valD kvs k).isSome = true
  · rw [if_pos h, valD_map]
    by_cases h2 : k = j
    · subst h2
      rw [if_pos rfl, if_pos rfl]
      obtain ⟨v, hv⟩ := Option.isSome_iff_exists.mp h
      rw [hv]; rfl
    · rw [if_neg h2, if_neg h2]
  · rw [if_neg h, valD_app]
    by_cases h2 : k = j
    · subst h2
      have : valD kvs k = none := by simpa using h
      rw [this, if_pos rfl]
    · rw [if_neg h2, if_neg h2]
      cases valD kvs j <;> rfl
theorem putD_len : (putD kvs k d).length ≤ kvs.length + 1 := by
  unfold putD
  split
  · rw [List.length_map]; omega
  · rw [List.length_append]; exact Nat.le_refl _
end
end PyI
/-! U1: the plain law of distances and scripts. -/
namespace PyI.K26
open PySem L2
section
variable {α : Type} (e : α → α → Bool)
/-- the least number of deeds, by the table of all ways -/
def lev : List α → List α → Nat
  | [], ys => ys.length
  | _ :: xs, [] => xs.length + 1
  | x :: xs, y :: ys => min (lev xs ys + (if e x y then 0 else 1)) (min (lev xs (y :: ys) + 1) (lev (x :: xs) ys + 1))
termination_by xs ys => xs.length + ys.length
variable {e}
theorem lev_nil {ys : List α} : lev e [] ys = ys.length := by unfold lev; rfl
theorem lev_nil2 {xs : List α} : lev e xs [] = xs.length := by
  cases xs with
  | nil => exact lev_nil
  | cons x xs => unfold lev; rfl
theorem lev_cons {x y : α} {xs ys : List α} : lev e (x :: xs) (y :: ys) = min (lev e xs ys + (if e x y then 0 else 1)) (min (lev e xs (y :: ys) + 1) (lev e (x :: xs) ys + 1)) := by
  rw [lev]
theorem lev_step : ∀ (n : Nat) (xs ys : List α), xs.length + ys.length ≤ n → (∀ x, lev e xs ys ≤ lev e (x :: xs) ys + 1) ∧ (∀ y, lev e xs ys ≤ lev e xs (y :: ys) + 1)
  | n, xs, ys, hn => by
    have A : ∀ x, lev e xs ys ≤ lev e (x :: xs) ys + 1 := by
      intro x
      cases ys with
      | nil => rw [lev_nil2, lev_nil2, List.length_cons]; omega
      | cons y ys =>
        rw [lev_cons]
        have h1 : lev e xs (y :: ys) ≤ lev e xs ys + 1 := by
          cases xs with
          | nil => rw [lev_nil, lev_nil, List.length_cons]; exact Nat.le_refl _
          | cons x' xs => rw [lev_cons]; omega
        have h2 : lev e xs ys ≤ lev e (x :: xs) ys + 1 := (lev_step (n - 1) xs ys (by rw [List.length_cons] at hn; omega)).1 x
        have h3 : lev e xs ys + (if e x y = true then 0 else 1) ≥ lev e xs ys := by omega
        omega
    refine ⟨A, fun y => ?_⟩
    cases xs with
    | nil => rw [lev_nil, lev_nil, List.length_cons]; omega
    | cons x xs =>
      rw [lev_cons]
      have h1 : lev e (x :: xs) ys ≤ lev e xs ys + 1 := by
        cases ys with
        | nil => rw [lev_nil2, lev_nil2, List.length_cons]; exact Nat.le_refl _
        | cons y' ys => rw [lev_cons]; omega
      have h2 : lev e xs ys ≤ lev e xs (y :: ys) + 1 := (lev_step (n - 1) xs ys (by rw [List.length_cons] at hn; omega)).2 y
      have h3 : lev e xs ys + (if e x y = true then 0 else 1) ≥ lev e xs ys := by omega
      omega
termination_by n => n
decreasing_by
  all_goals (rw [List.length_cons] at hn; omega)
theorem lev_eq {x y : α} {xs ys : List α} (h : e x y = true) : lev e (x :: xs) (y :: ys) = lev e xs ys := by
  rw [lev_cons, if_pos h]
  have h1 := (lev_step (e := e) _ xs ys (Nat.le_refl _)).1 x
  have h2 := (lev_step (e := e) _ xs ys (Nat.le_refl _)).2 y
  omega
theorem lev_ne {x y : α} {xs ys : List α} (h : e x y = false) : lev e (x :: xs) (y :: ys) = 1 + min (lev e xs (y :: ys)) (min (lev e (x :: xs) ys) (lev e xs ys)) := by
  rw [lev_cons, h]
  simp only [Bool.false_eq_true, if_false]
  omega
theorem lev_le : ∀ (xs ys : List α), lev e xs ys ≤ xs.length + ys.length
  | [], ys => by rw [lev_nil]; simp
  | x :: xs, [] => by rw [lev_nil2]; simp
  | x :: xs, y :: ys => by
    have := lev_le xs (y :: ys)
    rw [lev_cons]
    simp only [List.length_cons] at *
    omega
/-- a deed of a script -/
inductive Dd (α : Type) where
  | keep | cut | swap (y : α) | put (y : α)
/-- the first of the least scripts -/
def scr (e : α → α → Bool) : List α → List α → List (Dd α)
  | [], [] => []
  | [], y :: ys => .put y :: scr e [] ys
  | _ :: xs, [] => .cut :: scr e xs []
  | x :: xs, y :: ys => if e x y then .keep :: scr e xs ys else if lev e xs ys + 1 = lev e (x :: xs) (y :: ys) then .swap y :: scr e xs ys else if lev e xs (y :: ys) + 1 = lev e (x :: xs) (y :: ys) then .cut :: scr e xs (y :: ys) else .put y :: scr e (x :: xs) ys
termination_by xs ys => xs.length + ys.length
theorem scr_len : ∀ (xs ys : List α), (scr e xs ys).length ≤ xs.length + ys.length
  | [], [] => by unfold scr; exact Nat.le_refl _
  | [], y :: ys => by unfold scr; have := scr_len ([] : List α) ys; simp only [List.length_cons, List.length_nil] at *; omega
  | x :: xs, [] => by unfold scr; have := scr_len xs ([] : List α); simp only [List.length_cons, List.length_nil] at *; omega
  | x :: xs, y :: ys => by
    have h1 := scr_len xs ys
    have h2 := scr_len xs (y :: ys)
    have h3 := scr_len (x :: xs) ys
    unfold scr
    simp only [List.length_cons] at *
    split
    · simp only [List.length_cons]; omega
    · split
      · simp only [List.length_cons]; omega
      · split <;> (simp only [List.length_cons]; omega)
termination_by xs ys => xs.length + ys.length
end
end PyI.K26
/-! the defs of sensekept_k26_memory_distance; printed by gen.py -/
namespace PyI.K26
open PySem L2
def top (i : Nat) : Stmt := PySem.Challenge.pw_sensekept_k26_memory_distance.main.body.getD i (.Pass ⟨0, 0, 0, 0⟩)
def tb : Tb := ⟨("words_of", 1) :: ("skeleton", 1) :: ("distance", 2) :: ("tails", 2) :: ("is_word", 1) :: ("is_deed_of", 2) :: ("played", 2) :: ("_law_cell", 2) :: ("_law_digits", 3) :: ("_law_draw", 2) :: ("_law_pick", 2) :: ("_law_like", 2) :: ("_law_words", 2) :: ("_law_changed", 2) :: ("_law_skeleton", 1) :: ("_law_table", 2) :: ("_law_script", 2) :: ("_law_played", 2) :: ("_law_told", 2) :: ("law", 1) :: [], [], [], [("BadScript", ["place"])], [(0, "SenseError", true), (0, "BadDeed", false)]⟩
def con : Nat → Option D
  | _ => none
def dic : Nat → List (Str × D)
  | _ => []
def b_words_of : B := (.cons (.new 1 (.lst .nil))
    (.cons (.for_ (.nm 2) (.seq (.var 0)) (.cons (.ifs (.val (.isi (.var 2) .str)) (.cons (.expr (.met .extend (.var 1) (.cons (.comp [3] (.nm 3) (.seq (.met .split (.var 2) (.cons (.cst (.str " ")) .nil))) (.val (.cmp .ne (.var 3) (.cst (.str "")))) (.var 3)) .nil)))
    .nil) (.cons (.expr (.met .append (.var 1) (.cons (.var 2) .nil)))
    .nil))
    .nil))
    (.cons (.ret (.bif .tuple (.cons (.var 1) .nil)))
    .nil)))
def f_words_of : FnD := ⟨"words_of", ["row"], ["row", "words", "part", "word"], top 5, ["words"], false, b_words_of, []⟩
theorem r_words_of : resB 80 ⟨⟨f_words_of.N, tb⟩, defScope f_words_of.st, locOf (defScope f_words_of.st), f_words_of.muts, f_words_of.τ, f_words_of.tdk⟩ (defBody f_words_of.st) = some b_words_of := by kernel_rfl
theorem o_words_of : f_words_of.Ok tb := ⟨r_words_of, ⟨rfl, rfl, rfl, by decide +kernel, rfl, by decide +kernel, by decide +kernel⟩, fun h => nomatch h⟩
def b_skeleton : B := (.cons (.set (.nm 1) (.dnew true))
    (.cons (.set (.nm 2) (.disp ["text", "number"] (.cons (.cst (.int 0)) (.cons (.cst (.int 0)) .nil))))
    (.cons (.new 3 (.lst .nil))
    (.cons (.for_ (.nm 4) (.seq (.var 0)) (.cons (.ifs (.and (.not (.val (.isi (.var 4) .str))) (.val (.cmp .notin (.var 4) (.var 1)))) (.cons (.daug (.var 2) (.idx (.var 4) (.cst (.int 0))) .add (.cst (.int 1)))
    (.cons (.setIx (.var 1) (.var 4) (.tup (.cons (.idx (.var 4) (.cst (.int 0))) (.cons (.idx (.var 2) (.idx (.var 4) (.cst (.int 0)))) .nil))))
    .nil)) .nil)
    (.cons (.expr (.met .append (.var 3) (.cons (.get2 (.var 1) (.var 4) (.var 4)) .nil)))
    .nil)))
    (.cons (.ret (.bif .tuple (.cons (.var 3) .nil)))
    .nil)))))
def f_skeleton : FnD := ⟨"skeleton", ["words"], ["words", "anew", "counts", "told", "word"], top 6, ["anew", "counts", "told"], false, b_skeleton, ["anew"]⟩
theorem r_skeleton : resB 80 ⟨⟨f_skeleton.N, tb⟩, defScope f_skeleton.st, locOf (defScope f_skeleton.st), f_skeleton.muts, f_skeleton.τ, f_skeleton.tdk⟩ (defBody f_skeleton.st) = some b_skeleton := by kernel_rfl
theorem o_skeleton : f_skeleton.Ok tb := ⟨r_skeleton, ⟨rfl, rfl, rfl, by decide +kernel, rfl, by decide +kernel, by decide +kernel⟩, fun h => nomatch h⟩
def b_distance : B := (.cons (.set (.nm 2) (.call 1 (.cons (.var 0) .nil)))
    (.cons (.set (.nm 3) (.call 1 (.cons (.var 1) .nil)))
    (.cons (.set (.nm 4) (.call 3 (.cons (.var 2) (.cons (.var 3) .nil))))
    (.cons (.new 5 (.lst .nil))
    (.cons (.set (.nm 6) (.cst (.int 0)))
    (.cons (.set (.nm 7) (.cst (.int 0)))
    (.cons (.whl (.or (.val (.cmp .lt (.var 6) (.bif .len (.cons (.var 2) .nil)))) (.val (.cmp .lt (.var 7) (.bif .len (.cons (.var 3) .nil))))) (.cons (.set (.nm 8) (.idx (.idx (.var 4) (.var 6)) (.var 7)))
    (.cons (.set (.nm 9) (.and (.cmp .lt (.var 6) (.bif .len (.cons (.var 2) .nil))) (.cmp .lt (.var 7) (.bif .len (.cons (.var 3) .nil)))))
    (.cons (.ifs (.and (.val (.var 9)) (.val (.cmp .eq (.idx (.var 2) (.var 6)) (.idx (.var 3) (.var 7))))) (.cons (.expr (.met .append (.var 5) (.cons (.cst (.str "keep")) .nil)))
    (.cons (.aug 6 .add (.cst (.int 1)))
    (.cons (.aug 7 .add (.cst (.int 1)))
    .nil))) (.cons (.ifs (.and (.val (.var 9)) (.val (.cmp .eq (.bin .add (.idx (.idx (.var 4) (.bin .add (.var 6) (.cst (.int 1)))) (.bin .add (.var 7) (.cst (.int 1)))) (.cst (.int 1))) (.var 8)))) (.cons (.expr (.met .append (.var 5) (.cons (.tup (.cons (.cst (.str "swap")) (.cons (.idx (.var 3) (.var 7)) .nil))) .nil)))
    (.cons (.aug 6 .add (.cst (.int 1)))
    (.cons (.aug 7 .add (.cst (.int 1)))
    .nil))) (.cons (.ifs (.and (.val (.cmp .lt (.var 6) (.bif .len (.cons (.var 2) .nil)))) (.val (.cmp .eq (.bin .add (.idx (.idx (.var 4) (.bin .add (.var 6) (.cst (.int 1)))) (.var 7)) (.cst (.int 1))) (.var 8)))) (.cons (.expr (.met .append (.var 5) (.cons (.cst (.str "cut")) .nil)))
    (.cons (.aug 6 .add (.cst (.int 1)))
    .nil)) (.cons (.expr (.met .append (.var 5) (.cons (.tup (.cons (.cst (.str "put")) (.cons (.idx (.var 3) (.var 7)) .nil))) .nil)))
    (.cons (.aug 7 .add (.cst (.int 1)))
    .nil)))
    .nil))
    .nil))
    .nil))))
    (.cons (.ret (.tup (.cons (.idx (.idx (.var 4) (.cst (.int 0))) (.cst (.int 0))) (.cons (.bif .tuple (.cons (.var 5) .nil)) .nil))))
    .nil))))))))
def f_distance : FnD := ⟨"distance", ["one", "other"], ["one", "other", "first", "second", "table", "script", "here", "there", "left", "both"], top 7, ["script"], false, b_distance, []⟩
theorem r_distance : resB 80 ⟨⟨f_distance.N, tb⟩, defScope f_distance.st, locOf (defScope f_distance.st), f_distance.muts, f_distance.τ, f_distance.tdk⟩ (defBody f_distance.st) = some b_distance := by kernel_rfl
theorem o_distance : f_distance.Ok tb := ⟨r_distance, ⟨rfl, rfl, rfl, by decide +kernel, rfl, by decide +kernel, by decide +kernel⟩, fun h => nomatch h⟩
def b_tails : B := (.cons (.set (.nm 2) (.bif .len (.cons (.var 1) .nil)))
    (.cons (.new 3 (.lst (.cons (.comp [7] (.nm 7) (.rng1 (.bin .add (.var 2) (.cst (.int 1)))) .yes (.bin .sub (.var 2) (.var 7))) .nil)))
    (.cons (.for_ (.nm 4) (.seq (.revs (.var 0))) (.cons (.set (.nm 5) (.idx (.var 3) (.neg (.cst (.int 1)))))
    (.cons (.new 6 (.lst (.cons (.bin .add (.idx (.var 5) (.var 2)) (.cst (.int 1))) .nil)))
    (.cons (.for_ (.nm 7) (.rng3 (.bin .sub (.var 2) (.cst (.int 1))) (.neg (.cst (.int 1))) (.neg (.cst (.int 1)))) (.cons (.ifs (.val (.cmp .eq (.var 4) (.idx (.var 1) (.var 7)))) (.cons (.expr (.met .append (.var 6) (.cons (.idx (.var 5) (.bin .add (.var 7) (.cst (.int 1)))) .nil)))
    .nil) (.cons (.expr (.met .append (.var 6) (.cons (.bin .add (.cst (.int 1)) (.bif .min (.cons (.idx (.var 5) (.bin .add (.var 7) (.cst (.int 1)))) (.cons (.idx (.var 5) (.var 7)) (.cons (.idx (.var 6) (.neg (.cst (.int 1)))) .nil))))) .nil)))
    .nil))
    .nil))
    (.cons (.expr (.met .append (.var 3) (.cons (.revs (.var 6)) .nil)))
    .nil)))))
    (.cons (.ret (.revs (.var 3)))
    .nil))))
def f_tails : FnD := ⟨"tails", ["first", "second"], ["first", "second", "wide", "rows", "word", "below", "row", "at"], top 8, ["row", "rows"], false, b_tails, []⟩
theorem r_tails : resB 80 ⟨⟨f_tails.N, tb⟩, defScope f_tails.st, locOf (defScope f_tails.st), f_tails.muts, f_tails.τ, f_tails.tdk⟩ (defBody f_tails.st) = some b_tails := by kernel_rfl
theorem o_tails : f_tails.Ok tb := ⟨r_tails, ⟨rfl, rfl, rfl, by decide +kernel, rfl, by decide +kernel, by decide +kernel⟩, fun h => nomatch h⟩
def b_is_word : B := (.cons (.ifs (.val (.isi (.var 0) .str)) (.cons (.ret (.and (.cmp .ne (.var 0) (.cst (.str ""))) (.cmp .notin (.cst (.str " ")) (.var 0))))
    .nil) .nil)
    (.cons (.ret (.and (.isi (.var 0) .tuple) (.and (.cmp .eq (.bif .len (.cons (.var 0) .nil)) (.cst (.int 2))) (.cmp .in_ (.idx (.var 0) (.cst (.int 0))) (.tup (.cons (.cst (.str "text")) (.cons (.cst (.str "number")) .nil)))))))
    .nil))
def f_is_word : FnD := ⟨"is_word", ["thing"], ["thing"], top 9, [], false, b_is_word, []⟩
theorem r_is_word : resB 80 ⟨⟨f_is_word.N, tb⟩, defScope f_is_word.st, locOf (defScope f_is_word.st), f_is_word.muts, f_is_word.τ, f_is_word.tdk⟩ (defBody f_is_word.st) = some b_is_word := by kernel_rfl
theorem o_is_word : f_is_word.Ok tb := ⟨r_is_word, ⟨rfl, rfl, rfl, by decide +kernel, rfl, by decide +kernel, by decide +kernel⟩, fun h => nomatch h⟩
def b_is_deed_of : B := (.cons (.ret (.and (.isi (.var 0) .tuple) (.and (.cmp .eq (.bif .len (.cons (.var 0) .nil)) (.cst (.int 2))) (.and (.cmp .eq (.idx (.var 0) (.cst (.int 0))) (.var 1)) (.call 4 (.cons (.idx (.var 0) (.cst (.int 1))) .nil))))))
    .nil)
def f_is_deed_of : FnD := ⟨"is_deed_of", ["deed", "word"], ["deed", "word"], top 10, [], false, b_is_deed_of, []⟩
theorem r_is_deed_of : resB 80 ⟨⟨f_is_deed_of.N, tb⟩, defScope f_is_deed_of.st, locOf (defScope f_is_deed_of.st), f_is_deed_of.muts, f_is_deed_of.τ, f_is_deed_of.tdk⟩ (defBody f_is_deed_of.st) = some b_is_deed_of := by kernel_rfl
theorem o_is_deed_of : f_is_deed_of.Ok tb := ⟨r_is_deed_of, ⟨rfl, rfl, rfl, by decide +kernel, rfl, by decide +kernel, by decide +kernel⟩, fun h => nomatch h⟩
def b_played : B := (.cons (.new 2 (.lst .nil))
    (.cons (.set (.nm 3) (.cst (.int 0)))
    (.cons (.for_ (.tp [4, 5]) (.enum (.var 1)) (.cons (.set (.nm 6) (.or (.cmp .eq (.var 5) (.cst (.str "keep"))) (.or (.cmp .eq (.var 5) (.cst (.str "cut"))) (.call 5 (.cons (.var 5) (.cons (.cst (.str "swap")) .nil))))))
    (.cons (.ifs (.and (.not (.val (.call 5 (.cons (.var 5) (.cons (.cst (.str "put")) .nil))))) (.or (.not (.val (.var 6))) (.val (.cmp .eq (.var 3) (.bif .len (.cons (.var 0) .nil)))))) (.cons (.rse 0 1 (.cons (.var 4) .nil))
    .nil) .nil)
    (.cons (.ifs (.val (.cmp .eq (.var 5) (.cst (.str "keep")))) (.cons (.expr (.met .append (.var 2) (.cons (.idx (.var 0) (.var 3)) .nil)))
    .nil) (.cons (.ifs (.val (.cmp .ne (.var 5) (.cst (.str "cut")))) (.cons (.expr (.met .append (.var 2) (.cons (.idx (.var 5) (.cst (.int 1))) .nil)))
    .nil) .nil)
    .nil))
    (.cons (.ifs (.val (.var 6)) (.cons (.aug 3 .add (.cst (.int 1)))
    .nil) .nil)
    .nil)))))
    (.cons (.ifs (.val (.cmp .lt (.var 3) (.bif .len (.cons (.var 0) .nil)))) (.cons (.rse 0 1 (.cons (.bif .len (.cons (.var 1) .nil)) .nil))
    .nil) .nil)
    (.cons (.ret (.bif .tuple (.cons (.var 2) .nil)))
    .nil)))))
def f_played : FnD := ⟨"played", ["words", "script"], ["words", "script", "made", "at", "place", "deed", "takes"], top 11, ["made"], false, b_played, []⟩
theorem r_played : resB 80 ⟨⟨f_played.N, tb⟩, defScope f_played.st, locOf (defScope f_played.st), f_played.muts, f_played.τ, f_played.tdk⟩ (defBody f_played.st) = some b_played := by kernel_rfl
theorem o_played : f_played.Ok tb := ⟨r_played, ⟨rfl, rfl, rfl, by decide +kernel, rfl, by decide +kernel, by decide +kernel⟩, fun h => nomatch h⟩
def b_law_cell : B := (.cons (.ifs (.val (.cmp .lt (.var 1) (.bif .len (.cons (.var 0) .nil)))) (.cons (.ret (.idx (.var 0) (.var 1)))
    .nil) .nil)
    (.cons (.ret (.cst (.int 0)))
    .nil))
def f_law_cell : FnD := ⟨"_law_cell", ["script", "k"], ["script", "k"], top 13, [], false, b_law_cell, []⟩
theorem r_law_cell : resB 80 ⟨⟨f_law_cell.N, tb⟩, defScope f_law_cell.st, locOf (defScope f_law_cell.st), f_law_cell.muts, f_law_cell.τ, f_law_cell.tdk⟩ (defBody f_law_cell.st) = some b_law_cell := by kernel_rfl
theorem o_law_cell : f_law_cell.Ok tb := ⟨r_law_cell, ⟨rfl, rfl, rfl, by decide +kernel, rfl, by decide +kernel, by decide +kernel⟩, fun h => nomatch h⟩
def b_law_digits : B := (.cons (.new 3 (.lst .nil))
    (.cons (.for_ (.nm 4) (.rng2 (.var 1) (.var 2)) (.cons (.set (.nm 5) (.call 7 (.cons (.var 0) (.cons (.var 4) .nil))))
    (.cons (.ifs (.val (.cmp .lt (.var 5) (.cst (.int 0)))) (.cons (.set (.nm 5) (.bin .sub (.cst (.int 1)) (.bin .mul (.cst (.int 2)) (.var 5))))
    .nil) .nil)
    (.cons (.ifs (.val (.cmp .gt (.bif .len (.cons (.var 3) .nil)) (.cst (.int 1500)))) (.cons .brk
    .nil) .nil)
    (.cons (.ifs (.val (.cmp .ge (.var 5) (.bin .pow (.cst (.int 10)) (.cst (.int 18))))) (.cons (.for_ (.nm 6) (.rng1 (.cst (.int 60))) (.cons (.ifs (.val (.cmp .gt (.var 5) (.cst (.int 0)))) (.cons (.expr (.met .append (.var 3) (.cons (.bin .mod (.bif .int (.cons (.var 5) .nil)) (.cst (.int 1000))) .nil)))
    (.cons (.set (.nm 5) (.bin .fdiv (.var 5) (.cst (.int 1000))))
    .nil)) .nil)
    .nil))
    .nil) (.cons (.set (.nm 7) (.bin .mod (.bif .int (.cons (.bin .add (.bin .add (.bin .mul (.var 5) (.cst (.int 48271))) (.bin .mul (.var 4) (.cst (.int 69621)))) (.cst (.int 11))) .nil)) (.cst (.int 2147483647))))
    (.cons (.for_ (.nm 6) (.rng1 (.cst (.int 12))) (.cons (.set (.nm 7) (.bin .mod (.bif .int (.cons (.bin .add (.bin .add (.bin .mul (.var 7) (.cst (.int 16807))) (.bin .mul (.cst (.int 7)) (.var 6))) (.cst (.int 1))) .nil)) (.cst (.int 2147483647))))
    (.cons (.expr (.met .append (.var 3) (.cons (.bin .mod (.bif .int (.cons (.bin .fdiv (.var 7) (.cst (.int 997))) .nil)) (.cst (.int 1000))) .nil)))
    .nil)))
    .nil)))
    .nil)))))
    (.cons (.ret (.var 3))
    .nil)))
def f_law_digits : FnD := ⟨"_law_digits", ["script", "first", "last"], ["script", "first", "last", "digits", "k", "cell", "turn", "seed"], top 14, ["digits"], false, b_law_digits, []⟩
theorem r_law_digits : resB 80 ⟨⟨f_law_digits.N, tb⟩, defScope f_law_digits.st, locOf (defScope f_law_digits.st), f_law_digits.muts, f_law_digits.τ, f_law_digits.tdk⟩ (defBody f_law_digits.st) = some b_law_digits := by kernel_rfl
theorem o_law_digits : f_law_digits.Ok tb := ⟨r_law_digits, ⟨rfl, rfl, rfl, by decide +kernel, rfl, by decide +kernel, by decide +kernel⟩, fun h => nomatch h⟩
def b_law_draw : B := (.cons (.set (.nm 2) (.idx (.var 0) (.cst (.int 1))))
    (.cons (.setIx (.var 0) (.cst (.int 1)) (.bin .add (.var 2) (.cst (.int 1))))
    (.cons (.ifs (.val (.cmp .lt (.var 2) (.bif .len (.cons (.idx (.var 0) (.cst (.int 0))) .nil)))) (.cons (.ret (.bin .mod (.bif .int (.cons (.idx (.idx (.var 0) (.cst (.int 0))) (.var 2)) .nil)) (.var 1)))
    .nil) .nil)
    (.cons (.ret (.bin .mod (.bif .int (.cons (.bin .mul (.var 2) (.cst (.int 7))) .nil)) (.var 1)))
    .nil))))
def f_law_draw : FnD := ⟨"_law_draw", ["box", "many"], ["box", "many", "at"], top 15, ["box"], false, b_law_draw, []⟩
theorem r_law_draw : resB 80 ⟨⟨f_law_draw.N, tb⟩, defScope f_law_draw.st, locOf (defScope f_law_draw.st), f_law_draw.muts, f_law_draw.τ, f_law_draw.tdk⟩ (defBody f_law_draw.st) = some b_law_draw := by kernel_rfl
theorem o_law_draw : f_law_draw.Ok tb := ⟨r_law_draw, ⟨rfl, rfl, rfl, by decide +kernel, rfl, by decide +kernel, by decide +kernel⟩, fun h => nomatch h⟩
def b_law_pick : B := (.cons (.ret (.idx (.var 1) (.bin .mod (.bif .int (.cons (.call 9 (.cons (.var 0) (.cons (.cst (.int 900)) .nil))) .nil)) (.bif .len (.cons (.var 1) .nil)))))
    .nil)
def f_law_pick : FnD := ⟨"_law_pick", ["box", "things"], ["box", "things"], top 16, [], false, b_law_pick, []⟩
theorem r_law_pick : resB 80 ⟨⟨f_law_pick.N, tb⟩, defScope f_law_pick.st, locOf (defScope f_law_pick.st), f_law_pick.muts, f_law_pick.τ, f_law_pick.tdk⟩ (defBody f_law_pick.st) = some b_law_pick := by kernel_rfl
theorem o_law_pick : f_law_pick.Ok tb := ⟨r_law_pick, ⟨rfl, rfl, rfl, by decide +kernel, rfl, by decide +kernel, by decide +kernel⟩, fun h => nomatch h⟩
def b_law_like : B := (.cons (.ifs (.val (.isi (.var 1) .tuple)) (.cons (.ifs (.or (.not (.val (.isi (.var 0) .tuple))) (.val (.cmp .ne (.bif .len (.cons (.var 0) .nil)) (.bif .len (.cons (.var 1) .nil))))) (.cons (.ret (.cst (.bl false)))
    .nil) .nil)
    (.cons (.ret (.cmp .eq (.comp [2] (.nm 2) (.rng1 (.bif .len (.cons (.var 1) .nil))) (.not (.val (.call 11 (.cons (.idx (.var 0) (.var 2)) (.cons (.idx (.var 1) (.var 2)) .nil))))) (.cst (.int 1))) (.lst .nil)))
    .nil)) .nil)
    (.cons (.ifs (.val (.cmp .is_ (.var 1) (.cst .non))) (.cons (.ret (.cmp .is_ (.var 0) (.cst .non)))
    .nil) .nil)
    (.cons (.ifs (.val (.cmp .is_ (.var 1) (.cst (.bl true)))) (.cons (.ret (.cmp .is_ (.var 0) (.cst (.bl true))))
    .nil) .nil)
    (.cons (.ifs (.val (.cmp .is_ (.var 1) (.cst (.bl false)))) (.cons (.ret (.cmp .is_ (.var 0) (.cst (.bl false))))
    .nil) .nil)
    (.cons (.ifs (.val (.isi (.var 1) .str)) (.cons (.ret (.and (.isi (.var 0) .str) (.cmp .eq (.met .join (.cst (.str "")) (.cons (.lst (.cons (.var 0) .nil)) .nil)) (.var 1))))
    .nil) .nil)
    (.cons (.ret (.and (.isi (.var 0) .int) (.and (.notv (.val (.isi (.var 0) .bool))) (.cmp .eq (.var 0) (.var 1)))))
    .nil))))))
def f_law_like : FnD := ⟨"_law_like", ["told", "due"], ["told", "due", "k"], top 17, [], false, b_law_like, []⟩
theorem r_law_like : resB 80 ⟨⟨f_law_like.N, tb⟩, defScope f_law_like.st, locOf (defScope f_law_like.st), f_law_like.muts, f_law_like.τ, f_law_like.tdk⟩ (defBody f_law_like.st) = some b_law_like := by kernel_rfl
theorem o_law_like : f_law_like.Ok tb := ⟨r_law_like, ⟨rfl, rfl, rfl, by decide +kernel, rfl, by decide +kernel, by decide +kernel⟩, fun h => nomatch h⟩
def b_law_words : B := (.cons (.ret (.bif .tuple (.cons (.comp [2] (.nm 2) (.rng1 (.call 9 (.cons (.var 0) (.cons (.var 1) .nil)))) .yes (.call 10 (.cons (.var 0) (.cons (.lst (.cons (.cst (.str "one")) (.cons (.cst (.str "file")) (.cons (.cst (.str "of")) (.cons (.cst (.str "in")) (.cons (.tup (.cons (.cst (.str "text")) (.cons (.cst (.str "a")) .nil))) (.cons (.tup (.cons (.cst (.str "text")) (.cons (.cst (.str "b")) .nil))) (.cons (.tup (.cons (.cst (.str "number")) (.cons (.cst (.str "n")) .nil))) .nil)))))))) .nil)))) .nil)))
    .nil)
def f_law_words : FnD := ⟨"_law_words", ["box", "many"], ["box", "many", "k"], top 18, [], false, b_law_words, []⟩
theorem r_law_words : resB 80 ⟨⟨f_law_words.N, tb⟩, defScope f_law_words.st, locOf (defScope f_law_words.st), f_law_words.muts, f_law_words.τ, f_law_words.tdk⟩ (defBody f_law_words.st) = some b_law_words := by kernel_rfl
theorem o_law_words : f_law_words.Ok tb := ⟨r_law_words, ⟨rfl, rfl, rfl, by decide +kernel, rfl, by decide +kernel, by decide +kernel⟩, fun h => nomatch h⟩
def b_law_changed : B := (.cons (.set (.nm 2) (.bif .list (.cons (.var 1) .nil)))
    (.cons (.for_ (.nm 3) (.rng1 (.call 9 (.cons (.var 0) (.cons (.cst (.int 4)) .nil)))) (.cons (.set (.nm 4) (.bin .mod (.bif .int (.cons (.call 9 (.cons (.var 0) (.cons (.cst (.int 900)) .nil))) .nil)) (.bin .add (.bif .len (.cons (.var 2) .nil)) (.cst (.int 1)))))
    (.cons (.set (.nm 5) (.call 9 (.cons (.var 0) (.cons (.cst (.int 3)) .nil))))
    (.cons (.ifs (.val (.cmp .eq (.var 5) (.cst (.int 0)))) (.cons (.set (.nm 2) (.bin .add (.slc (.var 2) .none (.some (.var 4))) (.slc (.var 2) (.some (.bin .add (.var 4) (.cst (.int 1)))) .none)))
    .nil) (.cons (.set (.nm 2) (.bin .add (.bin .add (.slc (.var 2) .none (.some (.var 4))) (.lst (.cons (.call 10 (.cons (.var 0) (.cons (.lst (.cons (.cst (.str "new")) (.cons (.cst (.str "file")) (.cons (.tup (.cons (.cst (.str "text")) (.cons (.cst (.str "c")) .nil))) (.cons (.tup (.cons (.cst (.str "number")) (.cons (.cst (.str "m")) .nil))) .nil))))) .nil))) .nil))) (.slc (.var 2) (.some (.bin .add (.var 4) (.bif .int (.cons (.cmp .eq (.var 5) (.cst (.int 1))) .nil)))) .none)))
    .nil))
    .nil))))
    (.cons (.ret (.bif .tuple (.cons (.var 2) .nil)))
    .nil)))
def f_law_changed : FnD := ⟨"_law_changed", ["box", "words"], ["box", "words", "rows", "turn", "at", "kind"], top 19, [], false, b_law_changed, []⟩
theorem r_law_changed : resB 80 ⟨⟨f_law_changed.N, tb⟩, defScope f_law_changed.st, locOf (defScope f_law_changed.st), f_law_changed.muts, f_law_changed.τ, f_law_changed.tdk⟩ (defBody f_law_changed.st) = some b_law_changed := by kernel_rfl
theorem o_law_changed : f_law_changed.Ok tb := ⟨r_law_changed, ⟨rfl, rfl, rfl, by decide +kernel, rfl, by decide +kernel, by decide +kernel⟩, fun h => nomatch h⟩
def b_law_skeleton : B := (.cons (.set (.nm 1) (.disp ["text", "number"] (.cons (.newL (.lst .nil)) (.cons (.newL (.lst .nil)) .nil))))
    (.cons (.new 2 (.lst .nil))
    (.cons (.for_ (.nm 3) (.seq (.var 0)) (.cons (.ifs (.val (.isi (.var 3) .str)) (.cons (.expr (.met .append (.var 2) (.cons (.var 3) .nil)))
    .nil) (.cons (.ifs (.val (.cmp .notin (.idx (.var 3) (.cst (.int 1))) (.idx (.var 1) (.idx (.var 3) (.cst (.int 0)))))) (.cons (.expr (.met .append (.idx (.var 1) (.idx (.var 3) (.cst (.int 0)))) (.cons (.idx (.var 3) (.cst (.int 1))) .nil)))
    .nil) .nil)
    (.cons (.expr (.met .append (.var 2) (.cons (.tup (.cons (.idx (.var 3) (.cst (.int 0))) (.cons (.bin .add (.met .index (.idx (.var 1) (.idx (.var 3) (.cst (.int 0)))) (.cons (.idx (.var 3) (.cst (.int 1))) .nil)) (.cst (.int 1))) .nil))) .nil)))
    .nil)))
    .nil))
    (.cons (.ret (.bif .tuple (.cons (.var 2) .nil)))
    .nil))))
def f_law_skeleton : FnD := ⟨"_law_skeleton", ["words"], ["words", "seen", "found", "word"], top 20, ["found"], false, b_law_skeleton, []⟩
theorem r_law_skeleton : resB 80 ⟨⟨f_law_skeleton.N, tb⟩, defScope f_law_skeleton.st, locOf (defScope f_law_skeleton.st), f_law_skeleton.muts, f_law_skeleton.τ, f_law_skeleton.tdk⟩ (defBody f_law_skeleton.st) = some b_law_skeleton := by kernel_rfl
theorem o_law_skeleton : f_law_skeleton.Ok tb := ⟨r_law_skeleton, ⟨rfl, rfl, rfl, by decide +kernel, rfl, by decide +kernel, by decide +kernel⟩, fun h => nomatch h⟩
def b_law_table : B := (.cons (.set (.nm 2) (.dnew true))
    (.cons (.for_ (.nm 3) (.rng3 (.bif .len (.cons (.var 0) .nil)) (.neg (.cst (.int 1))) (.neg (.cst (.int 1)))) (.cons (.for_ (.nm 4) (.rng3 (.bif .len (.cons (.var 1) .nil)) (.neg (.cst (.int 1))) (.neg (.cst (.int 1)))) (.cons (.new 5 (.lst .nil))
    (.cons (.ifs (.and (.val (.cmp .lt (.var 3) (.bif .len (.cons (.var 0) .nil)))) (.val (.cmp .lt (.var 4) (.bif .len (.cons (.var 1) .nil))))) (.cons (.expr (.met .append (.var 5) (.cons (.bin .add (.idx (.var 2) (.tup (.cons (.bin .add (.var 3) (.cst (.int 1))) (.cons (.bin .add (.var 4) (.cst (.int 1))) .nil)))) (.bif .int (.cons (.cmp .ne (.idx (.var 0) (.var 3)) (.idx (.var 1) (.var 4))) .nil))) .nil)))
    .nil) .nil)
    (.cons (.ifs (.val (.cmp .lt (.var 3) (.bif .len (.cons (.var 0) .nil)))) (.cons (.expr (.met .append (.var 5) (.cons (.bin .add (.idx (.var 2) (.tup (.cons (.bin .add (.var 3) (.cst (.int 1))) (.cons (.var 4) .nil)))) (.cst (.int 1))) .nil)))
    .nil) .nil)
    (.cons (.ifs (.val (.cmp .lt (.var 4) (.bif .len (.cons (.var 1) .nil)))) (.cons (.expr (.met .append (.var 5) (.cons (.bin .add (.idx (.var 2) (.tup (.cons (.var 3) (.cons (.bin .add (.var 4) (.cst (.int 1))) .nil)))) (.cst (.int 1))) .nil)))
    .nil) .nil)
    (.cons (.setIx (.var 2) (.tup (.cons (.var 3) (.cons (.var 4) .nil))) (.bif .min (.cons (.bin .add (.var 5) (.bin .mul (.lst (.cons (.cst (.int 0)) .nil)) (.bif .int (.cons (.cmp .eq (.var 5) (.lst .nil)) .nil)))) .nil)))
    .nil))))))
    .nil))
    (.cons (.ret (.var 2))
    .nil)))
def f_law_table : FnD := ⟨"_law_table", ["one", "other"], ["one", "other", "table", "i", "j", "ways"], top 21, ["table", "ways"], false, b_law_table, ["table"]⟩
theorem r_law_table : resB 80 ⟨⟨f_law_table.N, tb⟩, defScope f_law_table.st, locOf (defScope f_law_table.st), f_law_table.muts, f_law_table.τ, f_law_table.tdk⟩ (defBody f_law_table.st) = some b_law_table := by kernel_rfl
theorem o_law_table : f_law_table.Ok tb := ⟨r_law_table, ⟨rfl, rfl, rfl, by decide +kernel, rfl, by decide +kernel, by decide +kernel⟩, fun h => nomatch h⟩
def b_law_script : B := (.cons (.set (.nm 2) (.call 15 (.cons (.var 0) (.cons (.var 1) .nil))))
    (.cons (.set (.tp [3, 4]) (.tup (.cons (.cst (.int 0)) (.cons (.cst (.int 0)) .nil))))
    (.cons (.new 5 (.lst .nil))
    (.cons (.for_ (.nm 6) (.rng1 (.bin .add (.bif .len (.cons (.var 0) .nil)) (.bif .len (.cons (.var 1) .nil)))) (.cons (.set (.nm 7) (.idx (.var 2) (.tup (.cons (.var 3) (.cons (.var 4) .nil)))))
    (.cons (.ifs (.and (.val (.cmp .lt (.var 3) (.bif .len (.cons (.var 0) .nil)))) (.and (.val (.cmp .lt (.var 4) (.bif .len (.cons (.var 1) .nil)))) (.and (.val (.cmp .eq (.idx (.var 0) (.var 3)) (.idx (.var 1) (.var 4)))) (.val (.cmp .eq (.idx (.var 2) (.tup (.cons (.bin .add (.var 3) (.cst (.int 1))) (.cons (.bin .add (.var 4) (.cst (.int 1))) .nil)))) (.var 7)))))) (.cons (.expr (.met .append (.var 5) (.cons (.cst (.str "keep")) .nil)))
    (.cons (.par2 3 4 (.cons (.bin .add (.var 3) (.cst (.int 1))) (.cons (.bin .add (.var 4) (.cst (.int 1))) .nil)))
    .nil)) (.cons (.ifs (.and (.val (.cmp .lt (.var 3) (.bif .len (.cons (.var 0) .nil)))) (.and (.val (.cmp .lt (.var 4) (.bif .len (.cons (.var 1) .nil)))) (.val (.cmp .eq (.bin .add (.idx (.var 2) (.tup (.cons (.bin .add (.var 3) (.cst (.int 1))) (.cons (.bin .add (.var 4) (.cst (.int 1))) .nil)))) (.cst (.int 1))) (.var 7))))) (.cons (.expr (.met .append (.var 5) (.cons (.tup (.cons (.cst (.str "swap")) (.cons (.idx (.var 1) (.var 4)) .nil))) .nil)))
    (.cons (.par2 3 4 (.cons (.bin .add (.var 3) (.cst (.int 1))) (.cons (.bin .add (.var 4) (.cst (.int 1))) .nil)))
    .nil)) (.cons (.ifs (.and (.val (.cmp .lt (.var 3) (.bif .len (.cons (.var 0) .nil)))) (.val (.cmp .eq (.bin .add (.idx (.var 2) (.tup (.cons (.bin .add (.var 3) (.cst (.int 1))) (.cons (.var 4) .nil)))) (.cst (.int 1))) (.var 7)))) (.cons (.expr (.met .append (.var 5) (.cons (.cst (.str "cut")) .nil)))
    (.cons (.set (.nm 3) (.bin .add (.var 3) (.cst (.int 1))))
    .nil)) (.cons (.ifs (.val (.cmp .lt (.var 4) (.bif .len (.cons (.var 1) .nil)))) (.cons (.expr (.met .append (.var 5) (.cons (.tup (.cons (.cst (.str "put")) (.cons (.idx (.var 1) (.var 4)) .nil))) .nil)))
    (.cons (.set (.nm 4) (.bin .add (.var 4) (.cst (.int 1))))
    .nil)) .nil)
    .nil))
    .nil))
    .nil))
    .nil)))
    (.cons (.ret (.tup (.cons (.idx (.var 2) (.tup (.cons (.cst (.int 0)) (.cons (.cst (.int 0)) .nil)))) (.cons (.bif .tuple (.cons (.var 5) .nil)) .nil))))
    .nil)))))
def f_law_script : FnD := ⟨"_law_script", ["one", "other"], ["one", "other", "table", "i", "j", "found", "turn", "rest"], top 22, ["found"], false, b_law_script, []⟩
theorem r_law_script : resB 80 ⟨⟨f_law_script.N, tb⟩, defScope f_law_script.st, locOf (defScope f_law_script.st), f_law_script.muts, f_law_script.τ, f_law_script.tdk⟩ (defBody f_law_script.st) = some b_law_script := by kernel_rfl
theorem o_law_script : f_law_script.Ok tb := ⟨r_law_script, ⟨rfl, rfl, rfl, by decide +kernel, rfl, by decide +kernel, by decide +kernel⟩, fun h => nomatch h⟩
def b_law_played : B := (.cons (.par2 2 3 (.cons (.cst (.int 0)) (.cons (.newL (.lst .nil)) .nil)))
    (.cons (.for_ (.nm 4) (.rng1 (.bif .len (.cons (.var 1) .nil))) (.cons (.set (.nm 5) (.idx (.var 1) (.var 4)))
    (.cons (.ifs (.or (.val (.cmp .eq (.var 5) (.cst (.str "keep")))) (.or (.val (.cmp .eq (.var 5) (.cst (.str "cut")))) (.val (.cmp .eq (.idx (.var 5) (.cst (.int 0))) (.cst (.str "swap")))))) (.cons (.ifs (.val (.cmp .eq (.var 2) (.bif .len (.cons (.var 0) .nil)))) (.cons (.ret (.var 4))
    .nil) .nil)
    (.cons (.ifs (.val (.cmp .ne (.var 5) (.cst (.str "cut")))) (.cons (.expr (.met .append (.var 3) (.cons (.ite (.val (.cmp .eq (.var 5) (.cst (.str "keep")))) (.idx (.var 0) (.var 2)) (.idx (.var 5) (.cst (.int 1)))) .nil)))
    .nil) .nil)
    (.cons (.set (.nm 2) (.bin .add (.var 2) (.cst (.int 1))))
    .nil))) (.cons (.ifs (.val (.cmp .eq (.idx (.var 5) (.cst (.int 0))) (.cst (.str "put")))) (.cons (.expr (.met .append (.var 3) (.cons (.idx (.var 5) (.cst (.int 1))) .nil)))
    .nil) (.cons (.ret (.var 4))
    .nil))
    .nil))
    .nil)))
    (.cons (.ret (.ite (.val (.cmp .eq (.var 2) (.bif .len (.cons (.var 0) .nil)))) (.bif .tuple (.cons (.var 3) .nil)) (.bif .len (.cons (.var 1) .nil))))
    .nil)))
def f_law_played : FnD := ⟨"_law_played", ["words", "script"], ["words", "script", "at", "found", "place", "deed"], top 23, ["found"], false, b_law_played, []⟩
theorem r_law_played : resB 80 ⟨⟨f_law_played.N, tb⟩, defScope f_law_played.st, locOf (defScope f_law_played.st), f_law_played.muts, f_law_played.τ, f_law_played.tdk⟩ (defBody f_law_played.st) = some b_law_played := by kernel_rfl
theorem o_law_played : f_law_played.Ok tb := ⟨r_law_played, ⟨rfl, rfl, rfl, by decide +kernel, rfl, by decide +kernel, by decide +kernel⟩, fun h => nomatch h⟩
def b_law_told : B := (.cons (.tryR (.call 6 (.cons (.var 0) (.cons (.var 1) .nil))) 0 2 (.one (.fld 0)))
    .nil)
def f_law_told : FnD := ⟨"_law_told", ["words", "script"], ["words", "script", "e"], top 24, [], false, b_law_told, []⟩
theorem r_law_told : resB 80 ⟨⟨f_law_told.N, tb⟩, defScope f_law_told.st, locOf (defScope f_law_told.st), f_law_told.muts, f_law_told.τ, f_law_told.tdk⟩ (defBody f_law_told.st) = some b_law_told := by kernel_rfl
theorem o_law_told : f_law_told.Ok tb := ⟨r_law_told, ⟨rfl, rfl, rfl, by decide +kernel, rfl, by decide +kernel, by decide +kernel⟩, fun h => nomatch h⟩
def b_law : B := (.cons (.new 1 (.lst (.cons (.call 8 (.cons (.var 0) (.cons (.cst (.int 0)) (.cons (.cst (.int 63)) .nil)))) (.cons (.cst (.int 0)) .nil))))
    (.cons (.for_ (.nm 2) (.rng1 (.cst (.int 4))) (.cons (.set (.nm 3) (.call 12 (.cons (.var 1) (.cons (.cst (.int 7)) .nil))))
    (.cons (.set (.nm 4) (.idx (.lst (.cons (.call 12 (.cons (.var 1) (.cons (.cst (.int 7)) .nil))) (.cons (.call 13 (.cons (.var 1) (.cons (.var 3) .nil))) .nil))) (.call 9 (.cons (.var 1) (.cons (.cst (.int 2)) .nil)))))
    (.cons (.set (.nm 5) (.lst (.cons (.call 14 (.cons (.var 3) .nil)) (.cons (.call 14 (.cons (.var 4) .nil)) .nil))))
    (.cons (.set (.nm 6) (.call 16 (.cons (.idx (.var 5) (.cst (.int 0))) (.cons (.idx (.var 5) (.cst (.int 1))) .nil))))
    (.cons (.ifs (.or (.not (.val (.call 11 (.cons (.tup (.cons (.call 1 (.cons (.var 3) .nil)) (.cons (.call 1 (.cons (.var 4) .nil)) .nil))) (.cons (.bif .tuple (.cons (.var 5) .nil)) .nil))))) (.not (.val (.call 11 (.cons (.call 2 (.cons (.var 3) (.cons (.var 4) .nil))) (.cons (.var 6) .nil)))))) (.cons (.ret (.cst (.bl false)))
    .nil) .nil)
    (.cons (.ifs (.not (.val (.call 11 (.cons (.call 18 (.cons (.idx (.var 5) (.cst (.int 0))) (.cons (.idx (.var 6) (.cst (.int 1))) .nil))) (.cons (.idx (.var 5) (.cst (.int 1))) .nil))))) (.cons (.ret (.cst (.bl false)))
    .nil) .nil)
    (.cons (.set (.nm 7) (.bif .list (.cons (.idx (.var 6) (.cst (.int 1))) .nil)))
    (.cons (.set (.nm 8) (.bin .mod (.bif .int (.cons (.call 9 (.cons (.var 1) (.cons (.cst (.int 900)) .nil))) .nil)) (.bin .add (.bif .len (.cons (.var 7) .nil)) (.cst (.int 1)))))
    (.cons (.set (.nm 7) (.bin .add (.bin .add (.slc (.var 7) .none (.some (.var 8))) (.lst (.cons (.call 10 (.cons (.var 1) (.cons (.lst (.cons (.cst (.str "keep")) (.cons (.cst (.str "cut")) (.cons (.tup (.cons (.cst (.str "swap")) (.cons (.cst (.str "x")) .nil))) (.cons (.tup (.cons (.cst (.str "put")) (.cons (.cst (.str "y")) .nil))) (.cons (.tup (.cons (.cst (.str "jump")) (.cons (.cst (.str "z")) .nil))) (.cons (.cst (.str "stay")) .nil))))))) .nil))) .nil))) (.slc (.var 7) (.some (.bin .add (.var 8) (.call 9 (.cons (.var 1) (.cons (.cst (.int 2)) .nil))))) .none)))
    (.cons (.ifs (.not (.val (.call 11 (.cons (.call 18 (.cons (.idx (.var 5) (.cst (.int 0))) (.cons (.bif .tuple (.cons (.var 7) .nil)) .nil))) (.cons (.call 17 (.cons (.idx (.var 5) (.cst (.int 0))) (.cons (.bif .tuple (.cons (.var 7) .nil)) .nil))) .nil))))) (.cons (.ret (.cst (.bl false)))
    .nil) .nil)
    .nil)))))))))))
    (.cons (.set (.nm 9) (.tup (.cons (.cst (.str "  two words ")) (.cons (.tup (.cons (.cst (.str "text")) (.cons (.cst (.str "a")) .nil))) (.cons (.cst (.str "and")) (.cons (.tup (.cons (.cst (.str "number")) (.cons (.cst (.str "n")) .nil))) (.cons (.cst (.str " ")) (.cons (.tup (.cons (.cst (.str "text")) (.cons (.cst (.str "b")) .nil))) .nil))))))))
    (.cons (.ret (.call 11 (.cons (.call 0 (.cons (.var 9) .nil)) (.cons (.tup (.cons (.cst (.str "two")) (.cons (.cst (.str "words")) (.cons (.tup (.cons (.cst (.str "text")) (.cons (.cst (.str "a")) .nil))) (.cons (.cst (.str "and")) (.cons (.tup (.cons (.cst (.str "number")) (.cons (.cst (.str "n")) .nil))) (.cons (.tup (.cons (.cst (.str "text")) (.cons (.cst (.str "b")) .nil))) .nil))))))) .nil))))
    .nil))))
def f_law : FnD := ⟨"law", ["script"], ["script", "box", "turn", "one", "other", "bare", "due", "rows", "at", "row"], top 25, ["box"], false, b_law, []⟩
theorem r_law : resB 80 ⟨⟨f_law.N, tb⟩, defScope f_law.st, locOf (defScope f_law.st), f_law.muts, f_law.τ, f_law.tdk⟩ (defBody f_law.st) = some b_law := by kernel_rfl
theorem o_law : f_law.Ok tb := ⟨r_law, ⟨rfl, rfl, rfl, by decide +kernel, rfl, by decide +kernel, by decide +kernel⟩, fun h => nomatch h⟩
def prg : Prg := ⟨f_words_of :: f_skeleton :: f_distance :: f_tails :: f_is_word :: f_is_deed_of :: f_played :: f_law_cell :: f_law_digits :: f_law_draw :: f_law_pick :: f_law_like :: f_law_words :: f_law_changed :: f_law_skeleton :: f_law_table :: f_law_script :: f_law_played :: f_law_told :: f_law :: [], tb, con, dic, 100000⟩
theorem prg_ok : prg.Ok := ⟨rfl, fun d h => by
  simp only [prg, List.mem_cons, List.not_mem_nil, or_false] at h
  rcases h with rfl | rfl | rfl | rfl | rfl | rfl | rfl | rfl | rfl | rfl | rfl | rfl | rfl | rfl | rfl | rfl | rfl | rfl | rfl | rfl
  · exact o_words_of
  · exact o_skeleton
  · exact o_distance
  · exact o_tails
  · exact o_is_word
  · exact o_is_deed_of
  · exact o_played
  · exact o_law_cell
  · exact o_law_digits
  · exact o_law_draw
  · exact o_law_pick
  · exact o_law_like
  · exact o_law_words
  · exact o_law_changed
  · exact o_law_skeleton
  · exact o_law_table
  · exact o_law_script
  · exact o_law_played
  · exact o_law_told
  · exact o_law⟩
abbrev n_words_of : Nat := 0
abbrev n_skeleton : Nat := 1
abbrev n_distance : Nat := 2
abbrev n_tails : Nat := 3
abbrev n_is_word : Nat := 4
abbrev n_is_deed_of : Nat := 5
abbrev n_played : Nat := 6
abbrev n_law_cell : Nat := 7
abbrev n_law_digits : Nat := 8
abbrev n_law_draw : Nat := 9
abbrev n_law_pick : Nat := 10
abbrev n_law_like : Nat := 11
abbrev n_law_words : Nat := 12
abbrev n_law_changed : Nat := 13
abbrev n_law_skeleton : Nat := 14
abbrev n_law_table : Nat := 15
abbrev n_law_script : Nat := 16
abbrev n_law_played : Nat := 17
abbrev n_law_told : Nat := 18
abbrev n_law : Nat := 19
abbrev cl (k f : Nat) (ds : List D) (μ : Mu) : Res D := callD prg.tab prg.con prg.dic prg.wf k f ds μ
abbrev gg (k : Nat) : G := ⟨callD prg.tab prg.con prg.dic prg.wf k, con, dic, 100000, decide (2 ≤ k)⟩
theorem c_words_of {k : Nat} {x0 : D} {μ : Mu} : callD prg.tab prg.con prg.dic prg.wf (k + 1) n_words_of [x0] μ = finO μ.length (runB (gg k) b_words_of (startR f_words_of.N.length [x0]) μ) := rfl
theorem c_skeleton {k : Nat} {x0 : D} {μ : Mu} : callD prg.tab prg.con prg.dic prg.wf (k + 1) n_skeleton [x0] μ = finO μ.length (runB (gg k) b_skeleton (startR f_skeleton.N.length [x0]) μ) := rfl
theorem c_distance {k : Nat} {x0 x1 : D} {μ : Mu} : callD prg.tab prg.con prg.dic prg.wf (k + 1) n_distance [x0, x1] μ = finO μ.length (runB (gg k) b_distance (startR f_distance.N.length [x0, x1]) μ) := rfl
theorem c_tails {k : Nat} {x0 x1 : D} {μ : Mu} : callD prg.tab prg.con prg.dic prg.wf (k + 1) n_tails [x0, x1] μ = finO μ.length (runB (gg k) b_tails (startR f_tails.N.length [x0, x1]) μ) := rfl
theorem c_is_word {k : Nat} {x0 : D} {μ : Mu} : callD prg.tab prg.con prg.dic prg.wf (k + 1) n_is_word [x0] μ = finO μ.length (runB (gg k) b_is_word (startR f_is_word.N.length [x0]) μ) := rfl
theorem c_is_deed_of {k : Nat} {x0 x1 : D} {μ : Mu} : callD prg.tab prg.con prg.dic prg.wf (k + 1) n_is_deed_of [x0, x1] μ = finO μ.length (runB (gg k) b_is_deed_of (startR f_is_deed_of.N.length [x0, x1]) μ) := rfl
theorem c_played {k : Nat} {x0 x1 : D} {μ : Mu} : callD prg.tab prg.con prg.dic prg.wf (k + 1) n_played [x0, x1] μ = finO μ.length (runB (gg k) b_played (startR f_played.N.length [x0, x1]) μ) := rfl
theorem c_law_cell {k : Nat} {x0 x1 : D} {μ : Mu} : callD prg.tab prg.con prg.dic prg.wf (k + 1) n_law_cell [x0, x1] μ = finO μ.length (runB (gg k) b_law_cell (startR f_law_cell.N.length [x0, x1]) μ) := rfl
theorem c_law_digits {k : Nat} {x0 x1 x2 : D} {μ : Mu} : callD prg.tab prg.con prg.dic prg.wf (k + 1) n_law_digits [x0, x1, x2] μ = finO μ.length (runB (gg k) b_law_digits (startR f_law_digits.N.length [x0, x1, x2]) μ) := rfl
theorem c_law_draw {k : Nat} {x0 x1 : D} {μ : Mu} : callD prg.tab prg.con prg.dic prg.wf (k + 1) n_law_draw [x0, x1] μ = finO μ.length (runB (gg k) b_law_draw (startR f_law_draw.N.length [x0, x1]) μ) := rfl
theorem c_law_pick {k : Nat} {x0 x1 : D} {μ : Mu} : callD prg.tab prg.con prg.dic prg.wf (k + 1) n_law_pick [x0, x1] μ = finO μ.length (runB (gg k) b_law_pick (startR f_law_pick.N.length [x0, x1]) μ) := rfl
theorem c_law_like {k : Nat} {x0 x1 : D} {μ : Mu} : callD prg.tab prg.con prg.dic prg.wf (k + 1) n_law_like [x0, x1] μ = finO μ.length (runB (gg k) b_law_like (startR f_law_like.N.length [x0, x1]) μ) := rfl
theorem c_law_words {k : Nat} {x0 x1 : D} {μ : Mu} : callD prg.tab prg.con prg.dic prg.wf (k + 1) n_law_words [x0, x1] μ = finO μ.length (runB (gg k) b_law_words (startR f_law_words.N.length [x0, x1]) μ) := rfl
theorem c_law_changed {k : Nat} {x0 x1 : D} {μ : Mu} : callD prg.tab prg.con prg.dic prg.wf (k + 1) n_law_changed [x0, x1] μ = finO μ.length (runB (gg k) b_law_changed (startR f_law_changed.N.length [x0, x1]) μ) := rfl
theorem c_law_skeleton {k : Nat} {x0 : D} {μ : Mu} : callD prg.tab prg.con prg.dic prg.wf (k + 1) n_law_skeleton [x0] μ = finO μ.length (runB (gg k) b_law_skeleton (startR f_law_skeleton.N.length [x0]) μ) := rfl
theorem c_law_table {k : Nat} {x0 x1 : D} {μ : Mu} : callD prg.tab prg.con prg.dic prg.wf (k + 1) n_law_table [x0, x1] μ = finO μ.length (runB (gg k) b_law_table (startR f_law_table.N.length [x0, x1]) μ) := rfl
theorem c_law_script {k : Nat} {x0 x1 : D} {μ : Mu} : callD prg.tab prg.con prg.dic prg.wf (k + 1) n_law_script [x0, x1] μ = finO μ.length (runB (gg k) b_law_script (startR f_law_script.N.length [x0, x1]) μ) := rfl
theorem c_law_played {k : Nat} {x0 x1 : D} {μ : Mu} : callD prg.tab prg.con prg.dic prg.wf (k + 1) n_law_played [x0, x1] μ = finO μ.length (runB (gg k) b_law_played (startR f_law_played.N.length [x0, x1]) μ) := rfl
theorem c_law_told {k : Nat} {x0 x1 : D} {μ : Mu} : callD prg.tab prg.con prg.dic prg.wf (k + 1) n_law_told [x0, x1] μ = finO μ.length (runB (gg k) b_law_told (startR f_law_told.N.length [x0, x1]) μ) := rfl
theorem c_law {k : Nat} {x0 : D} {μ : Mu} : callD prg.tab prg.con prg.dic prg.wf (k + 1) n_law [x0] μ = finO μ.length (runB (gg k) b_law (startR f_law.N.length [x0]) μ) := rfl
theorem t_0 : (" " : Str) = tx [32] := by decide +kernel
theorem t_1 : ("" : Str) = tx [] := by decide +kernel
theorem t_2 : ("text" : Str) = tx [116, 101, 120, 116] := by decide +kernel
theorem t_3 : ("number" : Str) = tx [110, 117, 109, 98, 101, 114] := by decide +kernel
theorem t_4 : ("keep" : Str) = tx [107, 101, 101, 112] := by decide +kernel
theorem t_5 : ("swap" : Str) = tx [115, 119, 97, 112] := by decide +kernel
theorem t_6 : ("cut" : Str) = tx [99, 117, 116] := by decide +kernel
theorem t_7 : ("put" : Str) = tx [112, 117, 116] := by decide +kernel
theorem t_8 : ("one" : Str) = tx [111, 110, 101] := by decide +kernel
theorem t_9 : ("file" : Str) = tx [102, 105, 108, 101] := by decide +kernel
theorem t_10 : ("of" : Str) = tx [111, 102] := by decide +kernel
theorem t_11 : ("in" : Str) = tx [105, 110] := by decide +kernel
theorem t_12 : ("a" : Str) = tx [97] := by decide +kernel
theorem t_13 : ("b" : Str) = tx [98] := by decide +kernel
theorem t_14 : ("n" : Str) = tx [110] := by decide +kernel
theorem t_15 : ("new" : Str) = tx [110, 101, 119] := by decide +kernel
theorem t_16 : ("c" : Str) = tx [99] := by decide +kernel
theorem t_17 : ("m" : Str) = tx [109] := by decide +kernel
theorem t_18 : ("x" : Str) = tx [120] := by decide +kernel
theorem t_19 : ("y" : Str) = tx [121] := by decide +kernel
theorem t_20 : ("jump" : Str) = tx [106, 117, 109, 112] := by decide +kernel
theorem t_21 : ("z" : Str) = tx [122] := by decide +kernel
theorem t_22 : ("stay" : Str) = tx [115, 116, 97, 121] := by decide +kernel
theorem t_23 : ("  two words " : Str) = tx [32, 32, 116, 119, 111, 32, 119, 111, 114, 100, 115, 32] := by decide +kernel
theorem t_24 : ("and" : Str) = tx [97, 110, 100] := by decide +kernel
theorem t_25 : ("two" : Str) = tx [116, 119, 111] := by decide +kernel
theorem t_26 : ("words" : Str) = tx [119, 111, 114, 100, 115] := by decide +kernel
theorem bn_words_of : ∀ (kV doc pm : Value) (an : Option Addr) (cdv ct : Value) (us : List Value), us.length = (["row"] : List Str).length → bindArgs (PySem.W.fnOf "words_of" "words_of" (defArgs (top 5)) (defBody (top 5)) (defScope (top 5)) .none kV doc pm an cdv ct) ⟨us, []⟩ = pure ((["row"] : List Str).zip us) := fun _ _ _ _ _ _ us hl => match us, hl with | [_], _ => rfl
theorem bn_skeleton : ∀ (kV doc pm : Value) (an : Option Addr) (cdv ct : Value) (us : List Value), us.length = (["words"] : List Str).length → bindArgs (PySem.W.fnOf "skeleton" "skeleton" (defArgs (top 6)) (defBody (top 6)) (defScope (top 6)) .none kV doc pm an cdv ct) ⟨us, []⟩ = pure ((["words"] : List Str).zip us) := fun _ _ _ _ _ _ us hl => match us, hl with | [_], _ => rfl
theorem bn_distance : ∀ (kV doc pm : Value) (an : Option Addr) (cdv ct : Value) (us : List Value), us.length = (["one", "other"] : List Str).length → bindArgs (PySem.W.fnOf "distance" "distance" (defArgs (top 7)) (defBody (top 7)) (defScope (top 7)) .none kV doc pm an cdv ct) ⟨us, []⟩ = pure ((["one", "other"] : List Str).zip us) := fun _ _ _ _ _ _ us hl => match us, hl with | [_, _], _ => rfl
theorem bn_tails : ∀ (kV doc pm : Value) (an : Option Addr) (cdv ct : Value) (us : List Value), us.length = (["first", "second"] : List Str).length → bindArgs (PySem.W.fnOf "tails" "tails" (defArgs (top 8)) (defBody (top 8)) (defScope (top 8)) .none kV doc pm an cdv ct) ⟨us, []⟩ = pure ((["first", "second"] : List Str).zip us) := fun _ _ _ _ _ _ us hl => match us, hl with | [_, _], _ => rfl
theorem bn_is_word : ∀ (kV doc pm : Value) (an : Option Addr) (cdv ct : Value) (us : List Value), us.length = (["thing"] : List Str).length → bindArgs (PySem.W.fnOf "is_word" "is_word" (defArgs (top 9)) (defBody (top 9)) (defScope (top 9)) .none kV doc pm an cdv ct) ⟨us, []⟩ = pure ((["thing"] : List Str).zip us) := fun _ _ _ _ _ _ us hl => match us, hl with | [_], _ => rfl
theorem bn_is_deed_of : ∀ (kV doc pm : Value) (an : Option Addr) (cdv ct : Value) (us : List Value), us.length = (["deed", "word"] : List Str).length → bindArgs (PySem.W.fnOf "is_deed_of" "is_deed_of" (defArgs (top 10)) (defBody (top 10)) (defScope (top 10)) .none kV doc pm an cdv ct) ⟨us, []⟩ = pure ((["deed", "word"] : List Str).zip us) := fun _ _ _ _ _ _ us hl => match us, hl with | [_, _], _ => rfl
theorem bn_played : ∀ (kV doc pm : Value) (an : Option Addr) (cdv ct : Value) (us : List Value), us.length = (["words", "script"] : List Str).length → bindArgs (PySem.W.fnOf "played" "played" (defArgs (top 11)) (defBody (top 11)) (defScope (top 11)) .none kV doc pm an cdv ct) ⟨us, []⟩ = pure ((["words", "script"] : List Str).zip us) := fun _ _ _ _ _ _ us hl => match us, hl with | [_, _], _ => rfl
theorem bn_law_cell : ∀ (kV doc pm : Value) (an : Option Addr) (cdv ct : Value) (us : List Value), us.length = (["script", "k"] : List Str).length → bindArgs (PySem.W.fnOf "_law_cell" "_law_cell" (defArgs (top 13)) (defBody (top 13)) (defScope (top 13)) .none kV doc pm an cdv ct) ⟨us, []⟩ = pure ((["script", "k"] : List Str).zip us) := fun _ _ _ _ _ _ us hl => match us, hl with | [_, _], _ => rfl
theorem bn_law_digits : ∀ (kV doc pm : Value) (an : Option Addr) (cdv ct : Value) (us : List Value), us.length = (["script", "first", "last"] : List Str).length → bindArgs (PySem.W.fnOf "_law_digits" "_law_digits" (defArgs (top 14)) (defBody (top 14)) (defScope (top 14)) .none kV doc pm an cdv ct) ⟨us, []⟩ = pure ((["script", "first", "last"] : List Str).zip us) := fun _ _ _ _ _ _ us hl => match us, hl with | [_, _, _], _ => rfl
theorem bn_law_draw : ∀ (kV doc pm : Value) (an : Option Addr) (cdv ct : Value) (us : List Value), us.length = (["box", "many"] : List Str).length → bindArgs (PySem.W.fnOf "_law_draw" "_law_draw" (defArgs (top 15)) (defBody (top 15)) (defScope (top 15)) .none kV doc pm an cdv ct) ⟨us, []⟩ = pure ((["box", "many"] : List Str).zip us) := fun _ _ _ _ _ _ us hl => match us, hl with | [_, _], _ => rfl
theorem bn_law_pick : ∀ (kV doc pm : Value) (an : Option Addr) (cdv ct : Value) (us : List Value), us.length = (["box", "things"] : List Str).length → bindArgs (PySem.W.fnOf "_law_pick" "_law_pick" (defArgs (top 16)) (defBody (top 16)) (defScope (top 16)) .none kV doc pm an cdv ct) ⟨us, []⟩ = pure ((["box", "things"] : List Str).zip us) := fun _ _ _ _ _ _ us hl => match us, hl with | [_, _], _ => rfl
theorem bn_law_like : ∀ (kV doc pm : Value) (an : Option Addr) (cdv ct : Value) (us : List Value), us.length = (["told", "due"] : List Str).length → bindArgs (PySem.W.fnOf "_law_like" "_law_like" (defArgs (top 17)) (defBody (top 17)) (defScope (top 17)) .none kV doc pm an cdv ct) ⟨us, []⟩ = pure ((["told", "due"] : List Str).zip us) := fun _ _ _ _ _ _ us hl => match us, hl with | [_, _], _ => rfl
theorem bn_law_words : ∀ (kV doc pm : Value) (an : Option Addr) (cdv ct : Value) (us : List Value), us.length = (["box", "many"] : List Str).length → bindArgs (PySem.W.fnOf "_law_words" "_law_words" (defArgs (top 18)) (defBody (top 18)) (defScope (top 18)) .none kV doc pm an cdv ct) ⟨us, []⟩ = pure ((["box", "many"] : List Str).zip us) := fun _ _ _ _ _ _ us hl => match us, hl with | [_, _], _ => rfl
theorem bn_law_changed : ∀ (kV doc pm : Value) (an : Option Addr) (cdv ct : Value) (us : List Value), us.length = (["box", "words"] : List Str).length → bindArgs (PySem.W.fnOf "_law_changed" "_law_changed" (defArgs (top 19)) (defBody (top 19)) (defScope (top 19)) .none kV doc pm an cdv ct) ⟨us, []⟩ = pure ((["box", "words"] : List Str).zip us) := fun _ _ _ _ _ _ us hl => match us, hl with | [_, _], _ => rfl
theorem bn_law_skeleton : ∀ (kV doc pm : Value) (an : Option Addr) (cdv ct : Value) (us : List Value), us.length = (["words"] : List Str).length → bindArgs (PySem.W.fnOf "_law_skeleton" "_law_skeleton" (defArgs (top 20)) (defBody (top 20)) (defScope (top 20)) .none kV doc pm an cdv ct) ⟨us, []⟩ = pure ((["words"] : List Str).zip us) := fun _ _ _ _ _ _ us hl => match us, hl with | [_], _ => rfl
theorem bn_law_table : ∀ (kV doc pm : Value) (an : Option Addr) (cdv ct : Value) (us : List Value), us.length = (["one", "other"] : List Str).length → bindArgs (PySem.W.fnOf "_law_table" "_law_table" (defArgs (top 21)) (defBody (top 21)) (defScope (top 21)) .none kV doc pm an cdv ct) ⟨us, []⟩ = pure ((["one", "other"] : List Str).zip us) := fun _ _ _ _ _ _ us hl => match us, hl with | [_, _], _ => rfl
theorem bn_law_script : ∀ (kV doc pm : Value) (an : Option Addr) (cdv ct : Value) (us : List Value), us.length = (["one", "other"] : List Str).length → bindArgs (PySem.W.fnOf "_law_script" "_law_script" (defArgs (top 22)) (defBody (top 22)) (defScope (top 22)) .none kV doc pm an cdv ct) ⟨us, []⟩ = pure ((["one", "other"] : List Str).zip us) := fun _ _ _ _ _ _ us hl => match us, hl with | [_, _], _ => rfl
theorem bn_law_played : ∀ (kV doc pm : Value) (an : Option Addr) (cdv ct : Value) (us : List Value), us.length = (["words", "script"] : List Str).length → bindArgs (PySem.W.fnOf "_law_played" "_law_played" (defArgs (top 23)) (defBody (top 23)) (defScope (top 23)) .none kV doc pm an cdv ct) ⟨us, []⟩ = pure ((["words", "script"] : List Str).zip us) := fun _ _ _ _ _ _ us hl => match us, hl with | [_, _], _ => rfl
theorem bn_law_told : ∀ (kV doc pm : Value) (an : Option Addr) (cdv ct : Value) (us : List Value), us.length = (["words", "script"] : List Str).length → bindArgs (PySem.W.fnOf "_law_told" "_law_told" (defArgs (top 24)) (defBody (top 24)) (defScope (top 24)) .none kV doc pm an cdv ct) ⟨us, []⟩ = pure ((["words", "script"] : List Str).zip us) := fun _ _ _ _ _ _ us hl => match us, hl with | [_, _], _ => rfl
theorem bn_law : ∀ (kV doc pm : Value) (an : Option Addr) (cdv ct : Value) (us : List Value), us.length = (["script"] : List Str).length → bindArgs (PySem.W.fnOf "law" "law" (defArgs (top 25)) (defBody (top 25)) (defScope (top 25)) .none kV doc pm an cdv ct) ⟨us, []⟩ = pure ((["script"] : List Str).zip us) := fun _ _ _ _ _ _ us hl => match us, hl with | [_], _ => rfl
end PyI.K26
/-! V1: calls; the law's digits, draws, likeness. -/
namespace PyI.K26
open PySem L2 PyProof.Rows
section
variable {k f c : Nat} {b : B} {ρ ρ' : Rho} {ds fs l : List D} {μ μ' ν : Mu} {d : D}
theorem call_of (hc : callD prg.tab prg.con prg.dic prg.wf (k + 1) f ds μ = finO μ.length (runB (gg k) b ρ μ)) (hl : μ'.length = μ.length) (h : runB (gg k) b ρ μ = .rt d μ') : (gg (k + 1)).call f ds μ = .ok d μ' := by
  show callD prg.tab prg.con prg.dic prg.wf (k + 1) f ds μ = _
  rw [hc, h, finO_rt, fin_same hl]
theorem call_er (hc : callD prg.tab prg.con prg.dic prg.wf (k + 1) f ds μ = finO μ.length (runB (gg k) b ρ μ)) (hl : μ'.length = μ.length) (h : runB (gg k) b ρ μ = .er c fs ρ' μ') : (gg (k + 1)).call f ds μ = .err c fs μ' := by
  show callD prg.tab prg.con prg.dic prg.wf (k + 1) f ds μ = _
  rw [hc, h, finO_er hl]
theorem call_more (hc : callD prg.tab prg.con prg.dic prg.wf (k + 1) f ds μ = finO μ.length (runB (gg k) b ρ μ)) (hμ : PureM μ) (hd : pureD d = true) (h : runB (gg k) b ρ μ = .rt d (μ ++ ν)) : (gg (k + 1)).call f ds μ = .ok d μ := by
  show callD prg.tab prg.con prg.dic prg.wf (k + 1) f ds μ = _
  rw [hc, h, finO_rt, fin_more hμ hd]
theorem call_more_er (hc : callD prg.tab prg.con prg.dic prg.wf (k + 1) f ds μ = finO μ.length (runB (gg k) b ρ μ)) (hμ : PureM μ) (hd : pureDs fs = true) (h : runB (gg k) b ρ μ = .er c fs ρ' (μ ++ ν)) : (gg (k + 1)).call f ds μ = .err c fs μ := by
  show callD prg.tab prg.con prg.dic prg.wf (k + 1) f ds μ = _
  rw [hc, h, finO_er_more hμ hd]
theorem call_lst (hc : callD prg.tab prg.con prg.dic prg.wf (k + 1) f ds μ = finO μ.length (runB (gg k) b ρ μ)) (hμ : PureM μ) (hl : pureDs l = true) (h : runB (gg k) b ρ μ = .rt (.ref μ.length) (μ ++ [.lst l])) : (gg (k + 1)).call f ds μ = .ok (.lst l) μ := by
  show callD prg.tab prg.con prg.dic prg.wf (k + 1) f ds μ = _
  rw [hc, h, finO_rt, fin_ret hμ hl]
theorem call_dic {i : Nat} (hc : callD prg.tab prg.con prg.dic prg.wf (k + 1) f ds μ = finO μ.length (runB (gg k) b ρ μ)) (hm : ∀ l, ν[i]? ≠ some (.lst l)) (hi : i < ν.length) (h : runB (gg k) b ρ μ = .rt (.ref (μ.length + i)) (μ ++ ν)) : (gg (k + 1)).call f ds μ = .ok (.ref (μ.length + i)) (μ ++ ν) := by
  show callD prg.tab prg.con prg.dic prg.wf (k + 1) f ds μ = _
  rw [hc, h, finO_rt, fin_dic hm hi]
end
abbrev dBody : B := forB (nthS b_law_digits 1)
abbrev dBig : B := forB (nthS (thenB (nthS dBody 3)) 0)
abbrev dSm : B := forB (nthS (elseB (nthS dBody 3)) 1)
section
variable {k : Nat} {μ : Mu}
theorem cell_ok {i : Nat} {ns : List Int} : ∃ v, (gg (k + 1)).call n_law_cell [.kl (ns.map D.int), nD i] μ = .ok (.int v) μ := by
  have test : evalT (gg k) (.val (.cmp .lt (.var 1) (.bif .len (.cons (.var 0) .nil)))) (startR f_law_cell.N.length [.kl (ns.map D.int), nD i]) μ = .ok (decide ((i : Int) < ((ns.map D.int).length : Int))) μ := tv_bl (ev_cmp (ev_var rfl) (ev_bif1 (ev_var rfl) len_kl) lt_int)
  by_cases h : i < ns.length
  · refine ⟨ns[i], call_of c_law_cell rfl (run_rt (ifs_true (test.trans ?_) (run_rt (st_ret (ev_idx (ev_var rfl) (ev_var rfl) (ix_kl (by rw [List.getElem?_map, List.getElem?_eq_getElem h]; rfl)))))))⟩
    rw [decide_eq_true (by rw [List.length_map]; omega)]
  · refine ⟨0, call_of c_law_cell rfl (run_nx (ifs_false (test.trans ?_) run_nil) (run_rt (st_ret ev_cst)))⟩
    rw [decide_eq_false (by rw [List.length_map]; omega)]
theorem big_loop {n m : Nat} {x0 x1 x2 x4 x6 x7 : Option D} {c : Int} {ds : List Int} (hn : n = μ.length) (hm : m ≤ 1000000) (hl : ds.length ≤ m) :
    ∃ ρ' μ', forLoop (fbody (gg k) (.nm 6) dBig) (chkOf none) (rngD 0 60) [x0, x1, x2, some (.ref n), x4, some (.int c), x6, x7] (μ ++ [.lst (ds.map D.int)]) = .nx ρ' μ' ∧
      ∃ (ds' : List Int) (c' : Int) (o6 : Option D), ds'.length ≤ m + 60 ∧ μ' = μ ++ [.lst (ds'.map D.int)] ∧ ρ' = [x0, x1, x2, some (.ref n), x4, some (.int c'), o6, x7] := by
  refine for_range (fun j ρ ν => ∃ (ds' : List Int) (c' : Int) (o6 : Option D), ds'.length ≤ m + j ∧ ν = μ ++ [.lst (ds'.map D.int)] ∧ ρ = [x0, x1, x2, some (.ref n), x4, some (.int c'), o6, x7]) ⟨ds, c, x6, hl, rfl, rfl⟩ ?_
  rintro i hi ρ ν ⟨ds', c', o6, h1, rfl, rfl⟩
  subst hn
  generalize (0 : Int) + (i : Int) = j
  rw [fbody_nm]
  have g3 : (ds'.map D.int).length < 16777216 := by rw [List.length_map]; omega
  have test : evalT (gg k) (.val (.cmp .gt (.var 5) (.cst (.int 0)))) ([x0, x1, x2, some (.ref μ.length), x4, some (.int c'), o6, x7].set 6 (some (.int j))) (μ ++ [.lst (ds'.map D.int)]) = .ok (decide (0 < c')) _ := tv_bl (ev_cmp (ev_var rfl) ev_cst gt_int)
  by_cases hc : 0 < c'
  · rw [decide_eq_true hc] at test
    refine .inl ⟨_, _, run_nx (ifs_true test (run_nx (st_append (ev_var rfl) (ev_bin (ev_bif1 (ev_var rfl) int_int) ev_cst (mod_int (by decide))) snoc_get g3 snoc_set snoc_get) (run_nx (st_set (ev_bin (ev_var rfl) ev_cst (fdiv_int (by decide) (by decide)))) run_nil))) run_nil, ds' ++ [c' % 1000], c' / 1000, _, by simp; omega, by rw [List.map_append]; rfl, rfl⟩
  · rw [decide_eq_false hc] at test
    exact .inl ⟨_, _, run_nx (ifs_false test run_nil) run_nil, ds', c', _, by omega, rfl, rfl⟩
theorem small_loop {n m : Nat} {x0 x1 x2 x4 x5 x6 : Option D} {c : Int} {ds : List Int} (hn : n = μ.length) (hm : m ≤ 1000000) (hl : ds.length ≤ m) :
    ∃ ρ' μ', forLoop (fbody (gg k) (.nm 6) dSm) (chkOf none) (rngD 0 12) [x0, x1, x2, some (.ref n), x4, x5, x6, some (.int c)] (μ ++ [.lst (ds.map D.int)]) = .nx ρ' μ' ∧
      ∃ (ds' : List Int) (c' : Int) (o6 : Option D), ds'.length ≤ m + 12 ∧ μ' = μ ++ [.lst (ds'.map D.int)] ∧ ρ' = [x0, x1, x2, some (.ref n), x4, x5, o6, some (.int c')] := by
  refine for_range (fun j ρ ν => ∃ (ds' : List Int) (c' : Int) (o6 : Option D), ds'.length ≤ m + j ∧ ν = μ ++ [.lst (ds'.map D.int)] ∧ ρ = [x0, x1, x2, some (.ref n), x4, x5, o6, some (.int c')]) ⟨ds, c, x6, hl, rfl, rfl⟩ ?_
  rintro i hi ρ ν ⟨ds', c', o6, h1, rfl, rfl⟩
  subst hn
  generalize (0 : Int) + (i : Int) = j
  rw [fbody_nm]
  have g3 : (ds'.map D.int).length < 16777216 := by rw [List.length_map]; omega
  refine .inl ⟨_, _, run_nx (st_set (ev_bin (ev_bif1 (ev_bin (ev_bin (ev_bin (ev_var rfl) ev_cst (mul_int (.inr (by decide)))) (ev_bin ev_cst (ev_var rfl) (mul_int (.inl (by decide)))) rfl) ev_cst rfl) int_int) ev_cst (mod_int (by decide)))) (run_nx (st_append (ev_var rfl) (ev_bin (ev_bif1 (ev_bin (ev_var rfl) ev_cst (fdiv_int (by decide) (by decide))) int_int) ev_cst (mod_int (by decide))) snoc_get g3 snoc_set snoc_get) run_nil), ds' ++ [((c' * 16807 + 7 * j + 1) % 2147483647) / 997 % 1000], _, _, by simp; omega, by rw [List.map_append]; rfl, rfl⟩
theorem digits_ok {ns : List Int} (hμ : PureM μ) : ∃ ds : List Int, (gg (k + 2)).call n_law_digits [.kl (ns.map D.int), .int 0, .int 63] μ = .ok (.lst (ds.map D.int)) μ := by
  have loop := for_range (f := fbody (gg (k + 1)) (.nm 4) dBody) (lo := 0) (n := 63) (ρ := [some (.kl (ns.map D.int)), some (.int 0), some (.int 63), some (.ref μ.length), none, none, none, none]) (μ := μ ++ [.lst []])
    (fun i ρ ν => ∃ (ds : List Int) (o4 o5 o6 o7 : Option D), ds.length ≤ 60 * i ∧ ν = μ ++ [.lst (ds.map D.int)] ∧ ρ = [some (.kl (ns.map D.int)), some (.int 0), some (.int 63), some (.ref μ.length), o4, o5, o6, o7])
    ⟨[], none, none, none, none, by simp, rfl, rfl⟩ (by
      rintro i hi ρ ν ⟨ds, o4, o5, o6, o7, h1, rfl, rfl⟩
      rw [Int.zero_add, fbody_nm]
      obtain ⟨v, hv⟩ := cell_ok (k := k) (i := i) (ns := ns) (μ := μ ++ [.lst (ds.map D.int)])
      generalize hX : D.kl (ns.map D.int) = X at hv ⊢
      obtain ⟨c, h3⟩ : ∃ c, runS (gg (k + 1)) (nthS dBody 1) [some X, some (.int 0), some (.int 63), some (.ref μ.length), some (nD i), some (.int v), o6, o7] (μ ++ [.lst (ds.map D.int)]) = .nx [some X, some (.int 0), some (.int 63), some (.ref μ.length), some (nD i), some (.int c), o6, o7] (μ ++ [.lst (ds.map D.int)]) := by
        have test : evalT (gg (k + 1)) (.val (.cmp .lt (.var 5) (.cst (.int 0)))) [some X, some (.int 0), some (.int 63), some (.ref μ.length), some (nD i), some (.int v), o6, o7] (μ ++ [.lst (ds.map D.int)]) = .ok (decide (v < 0)) _ := tv_bl (ev_cmp (ev_var rfl) ev_cst lt_int)
        by_cases hc : v < 0
        · rw [decide_eq_true hc] at test
          exact ⟨1 - 2 * v, ifs_true test (run_nx (st_set (ev_bin ev_cst (ev_bin ev_cst (ev_var rfl) (mul_int (.inl (by decide)))) rfl)) run_nil)⟩
        · rw [decide_eq_false hc] at test
          exact ⟨v, ifs_false test run_nil⟩
      have test : evalT (gg (k + 1)) (.val (.cmp .gt (.bif .len (.cons (.var 3) .nil)) (.cst (.int 1500)))) [some X, some (.int 0), some (.int 63), some (.ref μ.length), some (nD i), some (.int c), o6, o7] (μ ++ [.lst (ds.map D.int)]) = .ok (decide ((1500 : Int) < ((ds.map D.int).length : Int))) (μ ++ [.lst (ds.map D.int)]) := tv_bl (ev_cmp (ev_bif1 (ev_var rfl) (len_ref snoc_get)) ev_cst gt_int)
      by_cases hb : (1500 : Int) < ((ds.map D.int).length : Int)
      · rw [decide_eq_true hb] at test
        exact .inr ⟨_, _, run_nx (st_set (ev_call2 (ev_var rfl) (ev_var rfl) hv)) (run_nx h3 (run_br (ifs_true test (run_br (ρ' := [some X, some (.int 0), some (.int 63), some (.ref μ.length), some (nD i), some (.int c), o6, o7]) (μ' := μ ++ [.lst (ds.map D.int)]) (by rw [runS]))))), ds, _, _, _, _, by omega, rfl, rfl⟩
      · rw [decide_eq_false hb] at test
        have gp : (0 : Int) ≤ 18 ∧ (18 : Int) ≤ 1000000 ∧ (10 : Int).natAbs < 2 ^ 64 := by decide
        have ep : ∀ {ν : Mu}, binD .pow (.int 10) (.int 18) ν = .ok (.int ((10 : Int) ^ (18 : Int).toNat)) ν := fun {ν} => by
          show needs _ _ = _
          rw [needs_pos gp]
        have t4 : evalT (gg (k + 1)) (.val (.cmp .ge (.var 5) (.bin .pow (.cst (.int 10)) (.cst (.int 18))))) [some X, some (.int 0), some (.int 63), some (.ref μ.length), some (nD i), some (.int c), o6, o7] (μ ++ [.lst (ds.map D.int)]) = .ok (decide ((10 : Int) ^ (18 : Int).toNat ≤ c)) (μ ++ [.lst (ds.map D.int)]) := tv_bl (ev_cmp (ev_var rfl) (ev_bin ev_cst ev_cst ep) ge_int)
        have h4 : ∃ ρ' μ', runS (gg (k + 1)) (nthS dBody 3) [some X, some (.int 0), some (.int 63), some (.ref μ.length), some (nD i), some (.int c), o6, o7] (μ ++ [.lst (ds.map D.int)]) = .nx ρ' μ' ∧ ∃ (ds : List Int) (o4 o5 o6 o7 : Option D), ds.length ≤ 60 * (i + 1) ∧ μ' = μ ++ [.lst (ds.map D.int)] ∧ ρ' = [some X, some (.int 0), some (.int 63), some (.ref μ.length), o4, o5, o6, o7] := by
          by_cases hg : (10 : Int) ^ (18 : Int).toNat ≤ c
          · rw [decide_eq_true hg] at t4
            obtain ⟨ρ', μ', e, ds', c', o6', q1, q2, q3⟩ := big_loop (k := k + 1) (n := μ.length) (m := 60 * i) (x0 := some X) (x1 := some (.int 0)) (x2 := some (.int 63)) (x4 := some (nD i)) (x6 := o6) (x7 := o7) (c := c) (ds := ds) (μ := μ) rfl (by omega) h1
            exact ⟨ρ', μ', ifs_true t4 (run_nx (for_run' (it_rng1 (i := 60) (n := 60) ev_cst rfl (by omega)) e) run_nil), ds', _, _, _, _, by omega, q2, q3⟩
          · rw [decide_eq_false hg] at t4
            obtain ⟨ρ', μ', e, ds', c', o6', q1, q2, q3⟩ := small_loop (k := k + 1) (n := μ.length) (m := 60 * i) (x0 := some X) (x1 := some (.int 0)) (x2 := some (.int 63)) (x4 := some (nD i)) (x5 := some (.int c)) (x6 := o6) (c := (c * 48271 + (i : Int) * 69621 + 11) % 2147483647) (ds := ds) (μ := μ) rfl (by omega) h1
            exact ⟨ρ', μ', ifs_false t4 (run_nx (st_set (ev_bin (ev_bif1 (ev_bin (ev_bin (ev_bin (ev_var rfl) ev_cst (mul_int (.inr (by decide)))) (ev_bin (ev_var rfl) ev_cst (mul_int (.inr (by decide)))) rfl) ev_cst rfl) int_int) ev_cst (mod_int (by decide)))) (run_nx (for_run' (it_rng1 (i := 12) (n := 12) ev_cst rfl (by omega)) e) run_nil)), ds', _, _, _, _, by omega, q2, q3⟩
        obtain ⟨ρ', μ', e4, q⟩ := h4
        exact .inl ⟨ρ', μ', run_nx (st_set (ev_call2 (ev_var rfl) (ev_var rfl) hv)) (run_nx h3 (run_nx (ifs_false test run_nil) (run_nx e4 run_nil))), q⟩)
  obtain ⟨ρ', μ', e, ds, o4, o5, o6, o7, h1, rfl, rfl⟩ := loop
  refine ⟨ds, ?_⟩
  have full : runB (gg (k + 1)) b_law_digits (startR f_law_digits.N.length [.kl (ns.map D.int), .int 0, .int 63]) μ = .rt (.ref μ.length) (μ ++ [.lst (ds.map D.int)]) := by
    have hb : b_law_digits = .cons (.new 3 (.lst .nil)) (.cons (.for_ (.nm 4) (.rng2 (.var 1) (.var 2)) dBody) (.cons (.ret (.var 3)) .nil)) := by kernel_rfl
    have hs : startR f_law_digits.N.length [.kl (ns.map D.int), .int 0, .int 63] = [some (.kl (ns.map D.int)), some (.int 0), some (.int 63), none, none, none, none, none] := rfl
    rw [hb, hs]
    refine run_nx (ρ' := [some (.kl (ns.map D.int)), some (.int 0), some (.int 63), some (.ref μ.length), none, none, none, none]) (μ' := μ ++ [.lst []]) (st_new ev_lst0) ?_
    have hi : evalIt (gg (k + 1)) (.rng2 (.var 1) (.var 2)) [some (.kl (ns.map D.int)), some (.int 0), some (.int 63), some (.ref μ.length), none, none, none, none] (μ ++ [.lst []]) = .ok (rngD 0 63, none) (μ ++ [.lst []]) := it_rng2 (μ1 := μ ++ [.lst []]) (i := 0) (j := 63) (n := 0) (m := 63) (ev_var rfl) (ev_var rfl) rfl rfl (by omega)
    exact run_nx (for_run' hi e) (run_rt (st_ret (ev_var rfl)))
  exact call_lst (c_law_digits (k := k + 1)) hμ (pureDs_map (fun _ => rfl) ds) full
end
/-- the heap: the box -/
def Bx (ν : Mu) : Prop := ∃ (ds : List Int) (at_ : Nat), ν = [.lst [.lst (ds.map D.int), nD at_]]
theorem Bx.pure {ν : Mu} (h : Bx ν) : PureM ν := by
  obtain ⟨ds, at_, rfl⟩ := h
  intro m hm
  rcases List.mem_cons.mp hm with rfl | q
  · refine ⟨_, rfl, ?_⟩
    simp only [pureDs, pureD, pureDs_map (f := D.int) (fun _ => rfl) ds, nD, Bool.and_true]
  · cases q
theorem Bx.len {ν : Mu} (h : Bx ν) : ν.length = 1 := by
  obtain ⟨ds, at_, rfl⟩ := h
  rfl
section
variable {k : Nat} {ν : Mu}
theorem draw_ok (h : Bx ν) {m : Nat} (hm : 0 < m) : ∃ r ν', r < m ∧ Bx ν' ∧ (gg (k + 1)).call n_law_draw [.ref 0, nD m] ν = .ok (nD r) ν' := by
  obtain ⟨ds, at_, rfl⟩ := h
  have hseq : ∀ (x : Nat), ([.lst [.lst (ds.map D.int), nD x]] : Mu)[0]? = some (.lst [.lst (ds.map D.int), nD x]) := fun _ => rfl
  have st2 : ∀ {o : Out}, runB (gg k) (match b_law_draw with | .cons _ (.cons _ b) => b | b => b) [some (.ref 0), some (nD m), some (nD at_)] [.lst [.lst (ds.map D.int), nD (at_ + 1)]] = o → runB (gg k) b_law_draw (startR f_law_draw.N.length [.ref 0, nD m]) [.lst [.lst (ds.map D.int), nD at_]] = o := fun {o} e => by
    refine run_nx (st_set (ev_idx (ev_var rfl) ev_cst (ix_ref (n := 1) (hseq _) rfl))) (run_nx (ρ' := [some (.ref 0), some (nD m), some (nD at_)]) (μ' := [.lst [.lst (ds.map D.int), nD (at_ + 1)]]) ?_ e)
    have e1 : evalE (gg k) (.bin .add (.var 2) (.cst (.int 1))) [some (.ref 0), some (nD m), some (nD at_)] [.lst [.lst (ds.map D.int), nD at_]] = .ok (nD (at_ + 1)) [.lst [.lst (ds.map D.int), nD at_]] := ev_add1 (ev_var rfl)
    show runS (gg k) (.setIx (.var 0) (.cst (.int 1)) (.bin .add (.var 2) (.cst (.int 1)))) [some (.ref 0), some (nD m), some (nD at_)] [.lst [.lst (ds.map D.int), nD at_]] = _
    rw [runS, e1, then_ok, ev_var (d := .ref 0) rfl, then_ok, ev_cst, then_ok]
    rfl
  have e0 : evalE (gg k) (.idx (.var 0) (.cst (.int 0))) [some (.ref 0), some (nD m), some (nD at_)] [.lst [.lst (ds.map D.int), nD (at_ + 1)]] = .ok (.lst (ds.map D.int)) [.lst [.lst (ds.map D.int), nD (at_ + 1)]] := ev_idx (ev_var rfl) ev_cst (ix_ref (n := 0) (hseq _) rfl)
  have test : evalT (gg k) (.val (.cmp .lt (.var 2) (.bif .len (.cons (.idx (.var 0) (.cst (.int 0))) .nil)))) [some (.ref 0), some (nD m), some (nD at_)] [.lst [.lst (ds.map D.int), nD (at_ + 1)]] = .ok (decide ((at_ : Int) < ((ds.map D.int).length : Int))) [.lst [.lst (ds.map D.int), nD (at_ + 1)]] := tv_bl (ev_cmp (ev_var rfl) (ev_bif1 e0 len_lst) lt_int)
  have modn : ∀ (v : Int), ∃ r : Nat, r < m ∧ v % (m : Int) = (r : Int) := fun v => by
    have h1 := Int.emod_nonneg v (show (m : Int) ≠ 0 by omega)
    have h2 := Int.emod_lt_of_pos v (show (0 : Int) < (m : Int) by omega)
    exact ⟨(v % (m : Int)).toNat, by omega, by omega⟩
  by_cases hc : at_ < ds.length
  · rw [decide_eq_true (by rw [List.length_map]; omega)] at test
    obtain ⟨r, hr, er⟩ := modn ds[at_]
    refine ⟨r, _, hr, ⟨ds, at_ + 1, rfl⟩, call_of c_law_draw rfl (st2 (run_rt (ifs_true test (run_rt (st_ret (ev_bin (ev_bif1 (ev_idx e0 (ev_var rfl) (ix_lst (d := .int ds[at_]) (by rw [List.getElem?_map, List.getElem?_eq_getElem hc]; rfl))) int_int) (ev_var rfl) ((mod_int (by omega)).trans ?_)))))))⟩
    rw [er]
  · rw [decide_eq_false (by rw [List.length_map]; omega)] at test
    obtain ⟨r, hr, er⟩ := modn ((at_ : Int) * 7)
    refine ⟨r, _, hr, ⟨ds, at_ + 1, rfl⟩, call_of c_law_draw rfl (st2 (run_nx (ifs_false test run_nil) (run_rt (st_ret (ev_bin (ev_bif1 (ev_bin (ev_var rfl) ev_cst (mul_int (.inr (by decide)))) int_int) (ev_var rfl) ((mod_int (by omega)).trans ?_))))))⟩
    rw [er]
theorem pick_ok (h : Bx ν) {l : List D} (hl : l ≠ []) : ∃ x ν', x ∈ l ∧ Bx ν' ∧ (gg (k + 2)).call n_law_pick [.ref 0, .lst l] ν = .ok x ν' := by
  obtain ⟨r, ν', hr, hb, e⟩ := draw_ok (k := k) h (m := 900) (by decide)
  have h0 : 0 < l.length := List.length_pos_iff.mpr hl
  have hm := Nat.mod_lt r h0
  refine ⟨l[r % l.length], ν', List.getElem_mem hm, hb, call_of c_law_pick (by rw [hb.len, h.len]) (run_rt (st_ret (ev_idx (ev_var rfl) (ev_bin (ev_bif1 (ev_call2 (ev_var rfl) ev_cst e) int_int) (ev_bif1 (ev_var rfl) len_lst) (mod_n h0)) (ix_lst (List.getElem?_eq_getElem hm)))))⟩
end
/-! ### likeness -/
/-- what is looked at part by part, at most n deep -/
def lk : Nat → D → Prop
  | _, .non => True
  | _, .bl _ => True
  | _, .int _ => True
  | _, .str s => s.cps.toList.all uni = true ∧ s.length ≤ 9000
  | n + 1, .tup l => l.length ≤ 1000 ∧ ∀ x ∈ l, lk n x
  | _, _ => False
theorem ne_nat {a b : Nat} {μ : Mu} : cmpD .ne (nD a) (nD b) μ = .ok (!decide (a = b)) μ := by
  show needs _ _ = _
  rw [needs_pos ⟨rfl, rfl⟩]
  show Res.ok (!((a : Int) == (b : Int))) μ = _
  congr 2
  by_cases h : a = b
  · subst h; simp
  · exact (beq_eq_false_iff_ne.mpr fun z => h (Int.ofNat.inj z)).trans (decide_eq_false h).symm
theorem join1 {l : List Nat} {μ : Mu} (h : l.length ≤ 9000) : metD .join (.str (tx [])) [.lst [.str (tx l)]] μ = .ok (.str (tx l)) μ := by
  have e1 : strsOf [D.str (tx l)] = some [tx l] := rfl
  have e2 : (seqD μ (.lst [.str (tx l)])).bind strsOf = some [tx l] := e1
  show (match (seqD μ (.lst [.str (tx l)])).bind strsOf with
    | some ys => needs ((ys.map fun (s : Str) => s.length).sum + ys.length * (tx []).length ≤ 16777216) (Res.ok (D.str (Txt.join (tx []) ys)) μ)
    | none => .stuck) = _
  rw [e2]
  have hz : ([tx l].map fun (s : Str) => s.length).sum + [tx l].length * (tx []).length ≤ 16777216 := by
    have h1 : (tx l).length = l.length := tx_len l
    have h2 : (tx []).length = 0 := tx_len []
    show ((tx l).length + 0) + 1 * (tx []).length ≤ 16777216
    omega
  have e3 : Txt.join (tx []) [tx l] = tx l := by
    rw [show [tx l] = [l].map tx from rfl, tx_join]
    rfl
  show needs (([tx l].map fun (s : Str) => s.length).sum + [tx l].length * (tx []).length ≤ 16777216) (Res.ok (D.str (Txt.join (tx []) [tx l])) μ) = _
  rw [needs_pos hz, e3]
theorem like_ok : ∀ (n : Nat) {k : Nat} {d : D} {μ : Mu}, lk n d → (gg (k + n + 1)).call n_law_like [d, d] μ = .ok (.bl true) μ := by
  intro n
  induction n with
  | zero =>
    intro k d μ h
    cases d with
    | tup l => exact h.elim
    | lst l => exact h.elim
    | kl l => exact h.elim
    | kt l => exact h.elim
    | ref n => exact h.elim
    | non =>
      refine call_of c_law_like rfl (run_nx (ifs_false (tv_bl (isi_eq (ev_var rfl) rfl)) run_nil) (run_rt (ifs_true (tv_bl (ev_cmp (ev_var rfl) ev_cst rfl)) (run_rt (st_ret (ev_cmp (ev_var rfl) ev_cst rfl))))))
    | bl v =>
      refine call_of c_law_like rfl (run_nx (ifs_false (tv_bl (isi_eq (ev_var rfl) rfl)) run_nil) (run_nx (ifs_false (tv_bl (ev_cmp (ev_var rfl) ev_cst rfl)) run_nil) ?_))
      cases v with
      | true => exact run_rt (ifs_true (tv_bl (ev_cmp (ev_var rfl) ev_cst rfl)) (run_rt (st_ret (ev_cmp (ev_var rfl) ev_cst rfl))))
      | false => exact run_nx (ifs_false (tv_bl (ev_cmp (ev_var rfl) ev_cst rfl)) run_nil) (run_rt (ifs_true (tv_bl (ev_cmp (ev_var rfl) ev_cst rfl)) (run_rt (st_ret (ev_cmp (ev_var rfl) ev_cst rfl)))))
    | int i =>
      refine call_of c_law_like rfl (run_nx (ifs_false (tv_bl (isi_eq (ev_var rfl) rfl)) run_nil) (run_nx (ifs_false (tv_bl (ev_cmp (ev_var rfl) ev_cst rfl)) run_nil) (run_nx (ifs_false (tv_bl (ev_cmp (ev_var rfl) ev_cst rfl)) run_nil) (run_nx (ifs_false (tv_bl (ev_cmp (ev_var rfl) ev_cst rfl)) run_nil) (run_nx (ifs_false (tv_bl (isi_eq (ev_var rfl) rfl)) run_nil) (run_rt (st_ret ?_)))))))
      refine ev_and_t (x := .bl true) (isi_eq (ev_var rfl) rfl) rfl (ev_and_t (x := .bl true) (μ1 := μ) ?_ rfl (ev_cmp (ev_var rfl) (ev_var rfl) (eq_int.trans (by rw [beq_self_eq_true]))))
      rw [evalE, tv_bl (isi_eq (ev_var rfl) (v := false) rfl), bind_ok]
      rfl
    | str s =>
      obtain ⟨h1, h2⟩ := h
      rw [tx_self s] at h1 h2 ⊢
      generalize s.cps.toList = l at h1 h2
      rw [tx_len] at h2
      rw [tx_l] at h1
      refine call_of c_law_like rfl (run_nx (ifs_false (tv_bl (isi_eq (ev_var rfl) rfl)) run_nil) (run_nx (ifs_false (tv_bl (ev_cmp (ev_var rfl) ev_cst rfl)) run_nil) (run_nx (ifs_false (tv_bl (ev_cmp (ev_var rfl) ev_cst rfl)) run_nil) (run_nx (ifs_false (tv_bl (ev_cmp (ev_var rfl) ev_cst rfl)) run_nil) (run_rt (ifs_true (tv_bl (isi_eq (ev_var rfl) rfl)) (run_rt (st_ret ?_))))))))
      refine ev_and_t (x := .bl true) (isi_eq (ev_var rfl) rfl) rfl (ev_cmp (ev_met1 (x := .str (tx [])) (ev_cs (show ("" : Str) = tx [] by decide +kernel)) rfl (ev_lst1 (ev_var rfl)) (join1 h2)) (ev_var rfl) ((eq_tx h1 h1).trans (by rw [beq_self_eq_true])))
  | succ n ih =>
    intro k d μ h
    cases d with
    | lst l => exact h.elim
    | kl l => exact h.elim
    | kt l => exact h.elim
    | ref n => exact h.elim
    | tup l =>
      obtain ⟨h1, h2⟩ := h
      refine call_of c_law_like rfl (run_rt (ifs_true (tv_bl (isi_eq (ev_var rfl) rfl)) (run_nx (ifs_false (μ' := μ) ?_ run_nil) (run_rt (st_ret ?_)))))
      · have t1 : evalT (gg (k + (n + 1))) (.not (.val (.isi (.var 0) .tuple))) (startR f_law_like.N.length [.tup l, .tup l]) μ = .ok (!true) μ := tv_not (tv_bl (isi_eq (ev_var rfl) rfl))
        rw [evalT, t1, bind_ok]
        show evalT _ _ _ _ = _
        exact tv_bl (ev_cmp (ev_bif1 (ev_var rfl) len_tup) (ev_bif1 (ev_var rfl) len_tup) (ne_nat.trans (by simp)))
      · refine ev_cmp (x := .lst []) (y := .lst []) (μ1 := μ) (comp_empty (a := nD) (ds := List.range l.length) ?_ (fun i hi => ?_) (by simp; omega)) ev_lst0 rfl
        · rw [← rng0]
          exact it_rng1 (ev_bif1 (ev_var rfl) len_tup) rfl (by omega)
        · have hi' : i < l.length := List.mem_range.mp hi
          have e := ih (k := k) (d := l[i]) (μ := μ) (h2 _ (List.getElem_mem hi'))
          have g : l[i]? = some l[i] := List.getElem?_eq_getElem hi'
          refine cbody_no (tv_not (tv_bl (ev_call2 (ev_idx (ev_var rfl) (ev_var rfl) (ix_tup g)) (ev_idx (ev_var rfl) (ev_var rfl) (ix_tup g)) e)))
    | non => exact ih (k := k + 1) (d := .non) (by cases n <;> trivial) |> fun e => by rw [show k + (n + 1) + 1 = k + 1 + n + 1 by omega]; exact e
    | bl v => exact ih (k := k + 1) (d := .bl v) (by cases n <;> trivial) |> fun e => by rw [show k + (n + 1) + 1 = k + 1 + n + 1 by omega]; exact e
    | int i => exact ih (k := k + 1) (d := .int i) (by cases n <;> trivial) |> fun e => by rw [show k + (n + 1) + 1 = k + 1 + n + 1 by omega]; exact e
    | str s => exact ih (k := k + 1) (d := .str s) (by cases n <;> exact h) |> fun e => by rw [show k + (n + 1) + 1 = k + 1 + n + 1 by omega]; exact e
end PyI.K26
/-! V2: words, their skeletons. -/
namespace PyI.K26
open PySem L2 PyProof.Rows
inductive Wd where
  | t (l : List Nat)
  | s (b : Bool) (n : List Nat)
inductive Bw where
  | t (l : List Nat)
  | s (b : Bool) (i : Nat)
  deriving DecidableEq
def kd : Bool → Str
  | true => "text"
  | false => "number"
def wD : Wd → D
  | .t l => .str (tx l)
  | .s b n => .tup [.str (kd b), .str (tx n)]
def bD : Bw → D
  | .t l => .str (tx l)
  | .s b i => .tup [.str (kd b), nD i]
def okT (l : List Nat) : Prop := l ≠ [] ∧ 32 ∉ l ∧ l.length ≤ 100 ∧ l.all uni = true
def okW : Wd → Prop
  | .t l => okT l
  | .s _ n => n.length ≤ 100 ∧ n.all uni = true
def okB : Bw → Prop
  | .t l => okT l
  | .s _ i => i ≤ 1000
theorem kd_ne : (kd true = kd false) = False := eq_false (by decide +kernel)
theorem kd_ne' : (kd false = kd true) = False := eq_false (by decide +kernel)
theorem kd_uni (b : Bool) : (kd b).cps.all (· < 0x110000) = true := by cases b <;> decide +kernel
theorem kd_inj {a b : Bool} : (kd a = kd b) = (a = b) := by
  cases a <;> cases b <;> simp [kd_ne, kd_ne']
/-! ### equality of bare words -/
theorem bD_ok {x : Bw} (h : okB x) : eqOk 64 (bD x) = true := by
  cases x with
  | t l =>
    show (tx l).cps.all (· < 0x110000) = true
    rw [tx_all]; exact h.2.2.2
  | s b i =>
    show ((kd b).cps.all (· < 0x110000) && (true && true)) = true
    rw [kd_uni]; rfl
theorem bD_eq (x y : Bw) : eqD (bD x) (bD y) = decide (x = y) := by
  cases x with
  | t l =>
    cases y with
    | t m =>
      show (tx l == tx m) = _
      rw [tx_beq]
      by_cases h : l = m
      · subst h; simp
      · rw [decide_eq_false (fun z => h (Bw.t.inj z)), beq_eq_false_iff_ne.mpr h]
    | s b i => rw [decide_eq_false (fun z => by cases z)]; rfl
  | s b i =>
    cases y with
    | t m => rw [decide_eq_false (fun z => by cases z)]; rfl
    | s c j =>
      show ((kd b == kd c) && (((i : Int) == (j : Int)) && true)) = _
      by_cases h : b = c
      · by_cases h2 : i = j
        · subst h h2; simp
        · have e : ((i : Int) == (j : Int)) = false := beq_eq_false_iff_ne.mpr (fun z => h2 (Int.ofNat.inj z))
          rw [decide_eq_false (fun z => h2 (Bw.s.inj z).2), e, Bool.false_and, Bool.and_false]
      · rw [decide_eq_false (fun z => h (Bw.s.inj z).1), beq_eq_false_iff_ne.mpr (fun z => h (by rw [kd_inj] at z; exact z)), Bool.false_and]
theorem eq_bw {x y : Bw} {μ : Mu} (hx : okB x) (hy : okB y) : cmpD .eq (bD x) (bD y) μ = .ok (decide (x = y)) μ := by
  have hd : ∀ z : Bw, deref μ (bD z) = bD z := fun z => by cases z <;> rfl
  show needs (eqOk 64 (deref μ (bD x)) = true ∧ eqOk 64 (deref μ (bD y)) = true) _ = _
  rw [hd, hd, needs_pos ⟨bD_ok hx, bD_ok hy⟩, bD_eq]
theorem ne_bw {x y : Bw} {μ : Mu} (hx : okB x) (hy : okB y) : cmpD .ne (bD x) (bD y) μ = .ok (!decide (x = y)) μ := by
  have hd : ∀ z : Bw, deref μ (bD z) = bD z := fun z => by cases z <;> rfl
  show needs (eqOk 64 (deref μ (bD x)) = true ∧ eqOk 64 (deref μ (bD y)) = true) (Res.ok (!eqD (deref μ (bD x)) (deref μ (bD y))) μ) = _
  rw [hd, hd, needs_pos ⟨bD_ok hx, bD_ok hy⟩, bD_eq]
theorem bD_pure (x : Bw) : pureD (bD x) = true := by cases x <;> rfl
theorem bD_lk {x : Bw} (h : okB x) : lk 1 (bD x) := by
  cases x with
  | t l => exact ⟨h.2.2.2, by rw [tx_len]; have := h.2.2.1; omega⟩
  | s b i =>
    refine ⟨by simp, fun z hz => ?_⟩
    rcases List.mem_cons.mp hz with rfl | hz
    · exact ⟨by cases b <;> decide +kernel, by cases b <;> decide +kernel⟩
    · rw [List.mem_singleton.mp hz]; trivial
theorem bDs_pure (l : List Bw) : pureDs (l.map bD) = true := pureDs_map bD_pure l
/-! ### skeletons -/
abbrev Nm := List (List Nat)
def nxt (L : Nm) (n : List Nat) : Nm := if n ∈ L then L else L ++ [n]
def sk : Nm → Nm → List Wd → List Bw
  | _, _, [] => []
  | T, N, .t l :: r => .t l :: sk T N r
  | T, N, .s true n :: r => .s true ((nxt T n).idxOf n + 1) :: sk (nxt T n) N r
  | T, N, .s false n :: r => .s false ((nxt N n).idxOf n + 1) :: sk T (nxt N n) r
theorem sk_len : ∀ (T N : Nm) (ws : List Wd), (sk T N ws).length = ws.length
  | _, _, [] => rfl
  | T, N, .t l :: r => congrArg (· + 1) (sk_len T N r)
  | T, N, .s true n :: r => congrArg (· + 1) (sk_len (nxt T n) N r)
  | T, N, .s false n :: r => congrArg (· + 1) (sk_len T (nxt N n) r)
theorem nxt_len (L : Nm) (n : List Nat) : (nxt L n).length ≤ L.length + 1 := by
  unfold nxt
  split
  · omega
  · rw [List.length_append]; exact Nat.le_refl _
theorem nxt_mem (L : Nm) (n : List Nat) : n ∈ nxt L n := by
  unfold nxt
  split
  · assumption
  · exact List.mem_append_right _ (List.mem_singleton_self _)
theorem nxt_idx (L : Nm) (n : List Nat) : (nxt L n).idxOf n < L.length + 1 := Nat.lt_of_lt_of_le (List.idxOf_lt_length_of_mem (nxt_mem L n)) (nxt_len L n)
theorem sk_ok : ∀ (T N : Nm) (ws : List Wd) (m : Nat), (∀ w ∈ ws, okW w) → T.length ≤ m → N.length ≤ m → m + ws.length ≤ 999 → ∀ b ∈ sk T N ws, okB b
  | _, _, [], _, _, _, _, _, b, hb => by cases hb
  | T, N, .t l :: r, m, h, h1, h2, h3, b, hb => by
    rcases List.mem_cons.mp hb with rfl | hb
    · exact h _ (List.mem_cons_self ..)
    · exact sk_ok T N r m (fun w hw => h w (List.mem_cons_of_mem _ hw)) h1 h2 (by rw [List.length_cons] at h3; omega) b hb
  | T, N, .s true n :: r, m, h, h1, h2, h3, b, hb => by
    rw [List.length_cons] at h3
    rcases List.mem_cons.mp hb with rfl | hb
    · have := nxt_idx T n
      show _ + 1 ≤ 1000
      omega
    · have := nxt_len T n
      exact sk_ok (nxt T n) N r (m + 1) (fun w hw => h w (List.mem_cons_of_mem _ hw)) (by omega) (by omega) (by omega) b hb
  | T, N, .s false n :: r, m, h, h1, h2, h3, b, hb => by
    rw [List.length_cons] at h3
    rcases List.mem_cons.mp hb with rfl | hb
    · have := nxt_idx N n
      show _ + 1 ≤ 1000
      omega
    · have := nxt_len N n
      exact sk_ok T (nxt N n) r (m + 1) (fun w hw => h w (List.mem_cons_of_mem _ hw)) (by omega) (by omega) (by omega) b hb
/-! ### names in lists -/
abbrev nmD (n : List Nat) : D := .str (tx n)
theorem nm_eq (a b : List Nat) : eqD (nmD a) (nmD b) = decide (a = b) := by
  show (tx a == tx b) = _
  rw [tx_beq]
  by_cases h : a = b
  · subst h; simp
  · rw [decide_eq_false h, beq_eq_false_iff_ne.mpr h]
theorem nm_any (L : Nm) (n : List Nat) : ((L.map nmD).any fun y => eqD y (nmD n)) = decide (n ∈ L) := by
  induction L with
  | nil => rfl
  | cons a L ih =>
    rw [List.map_cons, List.any_cons, ih, nm_eq]
    by_cases h : a = n
    · subst h; simp
    · have h' : ¬ n = a := fun z => h z.symm
      simp [h, h', List.mem_cons]
theorem nm_flat (L : Nm) : (L.map nmD).all flatD = true := by simp [flatD]
theorem nm_idx (L : Nm) (n : List Nat) : ((L.map nmD).findIdx fun y => eqD y (nmD n)) = L.idxOf n := by
  induction L with
  | nil => rfl
  | cons a L ih =>
    rw [List.map_cons, List.findIdx_cons, nm_eq, ih, List.idxOf_cons]
    by_cases h : a = n
    · subst h; simp
    · rw [decide_eq_false h, beq_eq_false_iff_ne.mpr h]
theorem notin_nm {μ : Mu} {m : Nat} {L : Nm} {n : List Nat} (h : μ[m]? = some (.lst (L.map nmD))) : cmpD .notin (nmD n) (.ref m) μ = .ok (!decide (n ∈ L)) μ := by
  have e1 : getDic μ (.ref m) (nmD n) = none := gd_lst h
  have e2 : seqD μ (.ref m) = some (L.map nmD) := by unfold seqD; simp only [h]
  unfold cmpD
  simp only [e1, e2]
  rw [needs_pos ⟨rfl, nm_flat L⟩, nm_any]
theorem index_nm {μ : Mu} {m : Nat} {L : Nm} {n : List Nat} (h : μ[m]? = some (.lst (L.map nmD))) (hn : n ∈ L) : metD .index (.ref m) [nmD n] μ = .ok (nD (L.idxOf n)) μ := by
  unfold metD
  simp only [h]
  have e := (nm_any L n).trans (decide_eq_true hn)
  rw [needs_pos (by refine ⟨rfl, nm_flat L, e⟩)]
  rw [nm_idx]
theorem ty_index {μ : Mu} {m : Nat} {l : List D} (h : μ[m]? = some (.lst l)) : tyD .index (.ref m) μ = true := by
  unfold tyD
  simp only [h]
/-! ### the law's skeleton -/
section
variable {k : Nat} {μ : Mu}
abbrev Sn (M : Nat) : List (Key × D) := [(.inr "text", .ref (M + 0)), (.inr "number", .ref (M + 1))]
theorem sn_get (M : Nat) (b : Bool) : valD (Sn M) (.inr (kd b)) = some (.ref (M + if b then 0 else 1)) := by
  cases b with
  | true => rw [valD_cons, if_pos rfl]; rfl
  | false =>
    rw [valD_cons, if_neg (fun z => by have := Sum.inr.inj z; rw [show ("text" : Str) = kd true from rfl, kd_ne] at this; exact this), valD_cons, if_pos (show (Sum.inr "number" : Key) = Sum.inr (kd false) from rfl)]; rfl
theorem sn_mk (M : Nat) : mergeD ([] : List (Key × D)) [((.inr "text" : Key), D.ref (M + 0)), (.inr "number", .ref (M + 1))] = Sn M := by
  show putD (putD ([] : List (Key × D)) (.inr "text") (.ref (M + 0))) (.inr "number") (.ref (M + 1)) = _
  have h1 : putD ([] : List (Key × D)) (.inr "text") (.ref (M + 0)) = [(.inr "text", .ref (M + 0))] := rfl
  rw [h1]
  unfold putD
  rw [if_neg]
  · rfl
  · rw [List.any_cons, decide_eq_false]
    · simp
    · intro z
      have := Sum.inr.inj z
      rw [show ("text" : Str) = kd true from rfl, show ("number" : Str) = kd false from rfl, kd_ne] at this
      exact this
abbrev lsH (μ : Mu) (T N : Nm) (acc : List Bw) : Mu := μ ++ [.lst (T.map nmD), .lst (N.map nmD), .dk (Sn μ.length), .lst (acc.map bD)]
abbrev lsB : B := forB (nthS b_law_skeleton 2)
abbrev lsR (μ : Mu) (ws : D) (o : Option D) : Rho := [some ws, some (.ref (μ.length + 2)), some (.ref (μ.length + 3)), o]
theorem map_snoc {α β : Type} (f : α → β) (l : List α) (x : α) : l.map f ++ [f x] = (l ++ [x]).map f := by rw [List.map_append]; rfl
theorem ls_step {X : D} {w : Wd} {T N : Nm} {acc : List Bw} (hw : okW w) (ha : acc.length ≤ 1000) (hT : T.length ≤ 1000) (hN : N.length ≤ 1000) : ∃ T' N' x, T'.length ≤ T.length + 1 ∧ N'.length ≤ N.length + 1 ∧ (∀ r, sk T N (w :: r) = x :: sk T' N' r) ∧
    runB (gg k) lsB (lsR μ X (some (wD w))) (lsH μ T N acc) = .nx (lsR μ X (some (wD w))) (lsH μ T' N' (acc ++ [x])) := by
  have g3 : ∀ {T N : Nm}, (lsH μ T N acc)[μ.length + 3]? = some (.lst (acc.map bD)) := fun {T N} => fr_get
  have g0 : ∀ {T N : Nm}, (lsH μ T N acc)[μ.length + 0]? = some (.lst (T.map nmD)) := fun {T N} => fr_get
  have g1 : ∀ {T N : Nm}, (lsH μ T N acc)[μ.length + 1]? = some (.lst (N.map nmD)) := fun {T N} => fr_get
  have g2 : ∀ {T N : Nm}, (lsH μ T N acc)[μ.length + 2]? = some (.dk (Sn μ.length)) := fun {T N} => fr_get
  have hz : (acc.map bD).length < 16777216 := by rw [List.length_map]; omega
  have put : ∀ {T N : Nm} {x : Bw} {e : E} (he : evalE (gg k) e (lsR μ X (some (wD w))) (lsH μ T N acc) = .ok (bD x) (lsH μ T N acc)), runS (gg k) (.expr (.met .append (.var 2) (.cons e .nil))) (lsR μ X (some (wD w))) (lsH μ T N acc) = .nx (lsR μ X (some (wD w))) (lsH μ T N (acc ++ [x])) := fun {T N x e} he =>
    st_append (ev_var rfl) he g3 hz (by rw [map_snoc, fr_set]; rfl) g3
  cases w with
  | t l => exact ⟨T, N, .t l, by omega, by omega, fun r => rfl, run_nx (ifs_true (tv_bl (isi_eq (ev_var rfl) rfl)) (run_nx (put (x := .t l) (ev_var rfl)) run_nil)) run_nil⟩
  | s b n =>
    have eN : ∀ {T N : Nm}, evalE (gg k) (.idx (.var 3) (.cst (.int 1))) (lsR μ X (some (wD (.s b n)))) (lsH μ T N acc) = .ok (nmD n) (lsH μ T N acc) := fun {T N} => ev_idx (ev_var rfl) ev_cst ix1
    have eK : ∀ {T N : Nm}, evalE (gg k) (.idx (.var 3) (.cst (.int 0))) (lsR μ X (some (wD (.s b n)))) (lsH μ T N acc) = .ok (.str (kd b)) (lsH μ T N acc) := fun {T N} => ev_idx (ev_var rfl) ev_cst ix0
    have eL : ∀ {T N : Nm}, evalE (gg k) (.idx (.var 1) (.idx (.var 3) (.cst (.int 0)))) (lsR μ X (some (wD (.s b n)))) (lsH μ T N acc) = .ok (.ref (μ.length + if b then 0 else 1)) (lsH μ T N acc) := fun {T N} => ev_idx (ev_var rfl) eK (ix_dk g2 rfl (sn_get _ b))
    cases b with
    | true =>
      have fin : ∀ {T : Nm}, n ∈ T → runS (gg k) (.expr (.met .append (.var 2) (.cons (.tup (.cons (.idx (.var 3) (.cst (.int 0))) (.cons (.bin .add (.met .index (.idx (.var 1) (.idx (.var 3) (.cst (.int 0)))) (.cons (.idx (.var 3) (.cst (.int 1))) .nil)) (.cst (.int 1))) .nil))) .nil))) (lsR μ X (some (wD (.s true n)))) (lsH μ T N acc) = .nx (lsR μ X (some (wD (.s true n)))) (lsH μ T N (acc ++ [.s true (T.idxOf n + 1)])) := fun {T} hn =>
        put (x := .s true (T.idxOf n + 1)) (ev_tup2 eK (ev_add1 (ev_met1 eL (ty_index g0) eN (index_nm g0 hn))))
      refine ⟨nxt T n, N, .s true ((nxt T n).idxOf n + 1), nxt_len T n, by omega, fun r => rfl, ?_⟩
      refine run_nx (ifs_false (tv_bl (isi_eq (ev_var rfl) rfl)) ?_) run_nil
      have test : evalT (gg k) (.val (.cmp .notin (.idx (.var 3) (.cst (.int 1))) (.idx (.var 1) (.idx (.var 3) (.cst (.int 0)))))) (lsR μ X (some (wD (.s true n)))) (lsH μ T N acc) = .ok (!decide (n ∈ T)) (lsH μ T N acc) := tv_bl (ev_cmp eN eL (notin_nm g0))
      unfold nxt
      by_cases h : n ∈ T
      · rw [decide_eq_true h] at test
        rw [if_pos h]
        exact run_nx (ifs_false test run_nil) (run_nx (fin h) run_nil)
      · rw [decide_eq_false h] at test
        rw [if_neg h]
        refine run_nx (ifs_true test (run_nx (st_append (μ3 := lsH μ (T ++ [n]) N acc) eL eN g0 ?_ ?_ g0) run_nil)) (run_nx (fin (List.mem_append_right _ (List.mem_singleton_self _))) run_nil)
        · rw [List.length_map]; omega
        · rw [map_snoc nmD, fr_set]; rfl
    | false =>
      have fin : ∀ {N : Nm}, n ∈ N → runS (gg k) (.expr (.met .append (.var 2) (.cons (.tup (.cons (.idx (.var 3) (.cst (.int 0))) (.cons (.bin .add (.met .index (.idx (.var 1) (.idx (.var 3) (.cst (.int 0)))) (.cons (.idx (.var 3) (.cst (.int 1))) .nil)) (.cst (.int 1))) .nil))) .nil))) (lsR μ X (some (wD (.s false n)))) (lsH μ T N acc) = .nx (lsR μ X (some (wD (.s false n)))) (lsH μ T N (acc ++ [.s false (N.idxOf n + 1)])) := fun {N} hn =>
        put (x := .s false (N.idxOf n + 1)) (ev_tup2 eK (ev_add1 (ev_met1 eL (ty_index g1) eN (index_nm g1 hn))))
      refine ⟨T, nxt N n, .s false ((nxt N n).idxOf n + 1), by omega, nxt_len N n, fun r => rfl, ?_⟩
      refine run_nx (ifs_false (tv_bl (isi_eq (ev_var rfl) rfl)) ?_) run_nil
      have test : evalT (gg k) (.val (.cmp .notin (.idx (.var 3) (.cst (.int 1))) (.idx (.var 1) (.idx (.var 3) (.cst (.int 0)))))) (lsR μ X (some (wD (.s false n)))) (lsH μ T N acc) = .ok (!decide (n ∈ N)) (lsH μ T N acc) := tv_bl (ev_cmp eN eL (notin_nm g1))
      unfold nxt
      by_cases h : n ∈ N
      · rw [decide_eq_true h] at test
        rw [if_pos h]
        exact run_nx (ifs_false test run_nil) (run_nx (fin h) run_nil)
      · rw [decide_eq_false h] at test
        rw [if_neg h]
        refine run_nx (ifs_true test (run_nx (st_append (μ3 := lsH μ T (N ++ [n]) acc) eL eN g1 ?_ ?_ g1) run_nil)) (run_nx (fin (List.mem_append_right _ (List.mem_singleton_self _))) run_nil)
        · rw [List.length_map]; omega
        · rw [map_snoc nmD, fr_set]; rfl
theorem ls_loop {X : D} : ∀ {ws : List Wd} {T N : Nm} {acc : List Bw} {o : Option D}, (∀ w ∈ ws, okW w) → acc.length + ws.length ≤ 500 → T.length ≤ acc.length → N.length ≤ acc.length →
    ∃ T' N' o', forLoop (fbody (gg k) (.nm 3) lsB) (chkOf none) (ws.map wD) (lsR μ X o) (lsH μ T N acc) = .nx (lsR μ X o') (lsH μ T' N' (acc ++ sk T N ws))
  | [], T, N, acc, o, _, _, _, _ => ⟨T, N, o, by rw [sk, List.append_nil]; exact for_nil⟩
  | w :: ws, T, N, acc, o, hw, hl, hT, hN => by
    rw [List.length_cons] at hl
    obtain ⟨T', N', x, q1, q2, q3, q4⟩ := ls_step (k := k) (μ := μ) (X := X) (T := T) (N := N) (acc := acc) (hw w (List.mem_cons_self ..)) (by omega) (by omega) (by omega)
    have hx : (acc ++ [x]).length = acc.length + 1 := by simp
    obtain ⟨T2, N2, o2, q⟩ := ls_loop (X := X) (ws := ws) (T := T') (N := N') (acc := acc ++ [x]) (o := some (wD w)) (fun z hz => hw z (List.mem_cons_of_mem _ hz)) (by omega) (by omega) (by omega)
    refine ⟨T2, N2, o2, ?_⟩
    rw [q3, List.map_cons, show acc ++ x :: sk T' N' ws = (acc ++ [x]) ++ sk T' N' ws by simp]
    exact for_cons_nx (by rw [fbody_nm]; exact q4) q
theorem lskel_ok {ws : List Wd} (hμ : PureM μ) (hw : ∀ w ∈ ws, okW w) (hl : ws.length ≤ 500) : (gg (k + 1)).call n_law_skeleton [.tup (ws.map wD)] μ = .ok (.tup ((sk [] [] ws).map bD)) μ := by
  obtain ⟨T', N', o', q⟩ := ls_loop (k := k) (μ := μ) (X := .tup (ws.map wD)) (ws := ws) (T := []) (N := []) (acc := []) (o := none) hw (by simp; omega) (Nat.le_refl _) (Nat.le_refl _)
  refine call_more c_law_skeleton hμ (bDs_pure _) (run_nx (ρ' := [some (.tup (ws.map wD)), some (.ref (μ.length + 2)), none, none]) (μ' := μ ++ [.lst [], .lst [], .dk (Sn μ.length)]) (st_set ?_) (run_nx (ρ' := lsR μ (.tup (ws.map wD)) none) (μ' := lsH μ [] [] []) ?_ (run_nx (for_run' (it_tup (ev_var rfl)) q) (run_rt (st_ret (ev_bif1 (ev_var rfl) (tuple_ref fr_get)))))))
  · refine (ev_disp2 (ev_newL (n := μ.length + 0) ev_lst0 rfl) (ev_newL (n := μ.length + 1) ev_lst0 (by simp)) (n := μ.length + 2) (by simp)).trans ?_
    rw [sn_mk μ.length]
    simp
  · refine (st_new ev_lst0).trans ?_
    simp
/-! ### the program's skeleton -/
def pk (T N : Nm) : Bool → Nm
  | true => T
  | false => N
def up (b c : Bool) (L : Nm) (n : List Nat) : Nm := if b = c then nxt L n else L
theorem sk_s (T N : Nm) (b : Bool) (n : List Nat) (r : List Wd) : sk T N (.s b n :: r) = .s b ((nxt (pk T N b) n).idxOf n + 1) :: sk (up b true T n) (up b false N n) r := by cases b <;> rfl
theorem pk_up (T N : Nm) (b c : Bool) (n : List Nat) : pk (up b true T n) (up b false N n) c = up b c (pk T N c) n := by cases b <;> cases c <;> rfl
theorem up_len (b c : Bool) (L : Nm) (n : List Nat) : (up b c L n).length ≤ L.length + 1 := by
  unfold up
  split
  · exact nxt_len L n
  · omega
theorem idx_new {L : Nm} {n : List Nat} (h : n ∉ L) : (L ++ [n]).idxOf n = L.length := by rw [List.idxOf_append, if_neg h]; simp
theorem idx_old {L : Nm} {n m : List Nat} (h : m ∈ L) : (L ++ [n]).idxOf m = L.idxOf m := by rw [List.idxOf_append, if_pos h]
abbrev ky (b : Bool) (n : List Nat) : List Key := [.inr (kd b), .inr (tx n)]
theorem ky_eq {b c : Bool} {n m : List Nat} : ky b n = ky c m ↔ (b = c ∧ n = m) := by
  constructor
  · intro h
    have h1 := (List.cons.inj h).1
    have h2 := (List.cons.inj (List.cons.inj h).2).1
    exact ⟨by have := Sum.inr.inj h1; rw [kd_inj] at this; exact this, tx_inj.mp (Sum.inr.inj h2)⟩
  · rintro ⟨rfl, rfl⟩; rfl
structure Sk (T N : Nm) (A : List (List Key × D)) (C : List (Key × D)) : Prop where
  a : ∀ b n, valD A (ky b n) = if n ∈ pk T N b then some (.tup [.str (kd b), nD ((pk T N b).idxOf n + 1)]) else none
  c : ∀ b, valD C (.inr (kd b)) = some (nD (pk T N b).length)
theorem Sk.put {T N : Nm} {A : List (List Key × D)} {C : List (Key × D)} (h : Sk T N A C) {b : Bool} {n : List Nat} (hn : n ∉ pk T N b) :
    Sk (up b true T n) (up b false N n) (putD A (ky b n) (.tup [.str (kd b), nD ((pk T N b).length + 1)])) (putD C (.inr (kd b)) (nD ((pk T N b).length + 1))) := by
  constructor
  · intro c m
    rw [valD_put, pk_up, h.a]
    by_cases e : b = c
    · subst e
      unfold up nxt
      rw [if_pos (rfl : b = b), if_neg hn]
      by_cases e2 : n = m
      · subst e2
        rw [if_pos rfl, if_pos (List.mem_append_right _ (List.mem_singleton_self _)), idx_new hn]
      · rw [if_neg (fun z => e2 (ky_eq.mp z).2)]
        have : m ∈ pk T N b ++ [n] ↔ m ∈ pk T N b := by
          rw [List.mem_append, List.mem_singleton]
          exact ⟨fun z => z.elim id fun z => absurd z.symm e2, .inl⟩
        by_cases e3 : m ∈ pk T N b
        · rw [if_pos e3, if_pos (this.mpr e3), idx_old e3]
        · rw [if_neg e3, if_neg (fun z => e3 (this.mp z))]
    · unfold up
      rw [if_neg e, if_neg (fun z => e (ky_eq.mp z).1)]
  · intro c
    rw [valD_put, pk_up, h.c]
    by_cases e : b = c
    · subst e
      unfold up nxt
      rw [if_pos rfl, if_pos rfl, if_neg hn, List.length_append]; rfl
    · unfold up
      rw [if_neg e, if_neg (fun z => e (by have := Sum.inr.inj z; rw [kd_inj] at this; exact this))]
theorem up_mem {T N : Nm} {b : Bool} {n : List Nat} (h : n ∈ pk T N b) : up b true T n = T ∧ up b false N n = N := by
  unfold up nxt
  cases b with
  | true => exact ⟨by rw [if_pos rfl]; exact if_pos h, if_neg (by decide)⟩
  | false => exact ⟨if_neg (by decide), by rw [if_pos rfl]; exact if_pos h⟩
abbrev psH (μ : Mu) (A : List (List Key × D)) (C : List (Key × D)) (acc : List Bw) : Mu := μ ++ [.dt A, .dk C, .lst (acc.map bD)]
abbrev psB : B := forB (nthS b_skeleton 3)
abbrev psR (μ : Mu) (ws : D) (o : Option D) : Rho := [some ws, some (.ref (μ.length + 0)), some (.ref (μ.length + 1)), some (.ref (μ.length + 2)), o]
theorem ps_step {X : D} {w : Wd} {T N : Nm} {A : List (List Key × D)} {C : List (Key × D)} {acc : List Bw} (hS : Sk T N A C) (hA : A.length ≤ 1000) (hC : C.length ≤ 1000) (ha : acc.length ≤ 1000) : ∃ T' N' A' C' x, Sk T' N' A' C' ∧ A'.length ≤ A.length + 1 ∧ C'.length ≤ C.length + 1 ∧ (∀ r, sk T N (w :: r) = x :: sk T' N' r) ∧
    runB (gg k) psB (psR μ X (some (wD w))) (psH μ A C acc) = .nx (psR μ X (some (wD w))) (psH μ A' C' (acc ++ [x])) := by
  have g0 : ∀ {A C}, (psH μ A C acc)[μ.length + 0]? = some (.dt A) := fun {A C} => fr_get
  have g1 : ∀ {A C}, (psH μ A C acc)[μ.length + 1]? = some (.dk C) := fun {A C} => fr_get
  have g2 : ∀ {A C}, (psH μ A C acc)[μ.length + 2]? = some (.lst (acc.map bD)) := fun {A C} => fr_get
  have hz : (acc.map bD).length < 16777216 := by rw [List.length_map]; omega
  have put : ∀ {A C} {x : Bw} {r : Option D} (he : getDicS (psH μ A C acc) (.ref (μ.length + 0)) (wD w) = some r) (hr : r.getD (wD w) = bD x), runS (gg k) (.expr (.met .append (.var 3) (.cons (.get2 (.var 1) (.var 4) (.var 4)) .nil))) (psR μ X (some (wD w))) (psH μ A C acc) = .nx (psR μ X (some (wD w))) (psH μ A C (acc ++ [x])) := fun {A C x r} he hr => by
    have e := ev_get2 (Γ := gg k) (ρ := psR μ X (some (wD w))) (o := .var 1) (k := .var 4) (e := .var 4) (ev_var rfl) (by unfold isDic; simp only [g0]) (ev_var rfl) (ev_var rfl) he
    rw [hr] at e
    exact st_append (ev_var rfl) e g2 hz (by rw [map_snoc, fr_set]; rfl) g2
  cases w with
  | t l =>
    have he : getDicS (psH μ A C acc) (.ref (μ.length + 0)) (wD (.t l)) = some none := by
      show getDicS _ _ (.str _) = _
      unfold getDicS
      simp only [g0]
    refine ⟨T, N, A, C, .t l, hS, by omega, by omega, fun r => rfl, run_nx (ifs_false (tv_and_f (tv_not (k := true) (tv_bl (isi_eq (ev_var rfl) rfl)))) run_nil) (run_nx (put (x := .t l) he rfl) run_nil)⟩
  | s b n =>
    have kK : keysD (wD (.s b n)) = some (ky b n) := rfl
    have eK : ∀ {A C}, evalE (gg k) (.idx (.var 4) (.cst (.int 0))) (psR μ X (some (wD (.s b n)))) (psH μ A C acc) = .ok (.str (kd b)) (psH μ A C acc) := fun {A C} => ev_idx (ev_var rfl) ev_cst ix0
    have test : evalT (gg k) (.and (.not (.val (.isi (.var 4) .str))) (.val (.cmp .notin (.var 4) (.var 1)))) (psR μ X (some (wD (.s b n)))) (psH μ A C acc) = .ok (!(valD A (ky b n)).isSome) (psH μ A C acc) := tv_and_t (tv_not (k := false) (tv_bl (isi_eq (ev_var rfl) rfl))) (tv_bl (ev_cmp (ev_var rfl) (ev_var rfl) (notin_dt g0 kK)))
    have he : ∀ {A C}, getDicS (psH μ A C acc) (.ref (μ.length + 0)) (wD (.s b n)) = some (valD A (ky b n)) := fun {A C} => gd_dt g0 kK
    by_cases h : n ∈ pk T N b
    · obtain ⟨u1, u2⟩ := up_mem h
      have hv : valD A (ky b n) = some (.tup [.str (kd b), nD ((pk T N b).idxOf n + 1)]) := by rw [hS.a, if_pos h]
      rw [hv] at test
      refine ⟨T, N, A, C, .s b ((pk T N b).idxOf n + 1), hS, by omega, by omega, fun r => ?_, run_nx (ifs_false test run_nil) (run_nx (put he (by rw [hv]; rfl)) run_nil)⟩
      rw [sk_s, u1, u2]
      unfold nxt
      rw [if_pos h]
    · have hv : valD A (ky b n) = none := by rw [hS.a, if_neg h]
      rw [hv] at test
      have hS' := hS.put h
      have hv' : valD (putD A (ky b n) (.tup [.str (kd b), nD ((pk T N b).length + 1)])) (ky b n) = some (.tup [.str (kd b), nD ((pk T N b).length + 1)]) := by rw [valD_put, if_pos rfl]
      have hc' : valD (putD C (.inr (kd b)) (nD ((pk T N b).length + 1))) (.inr (kd b)) = some (nD ((pk T N b).length + 1)) := by rw [valD_put, if_pos rfl]
      refine ⟨_, _, _, _, .s b ((pk T N b).length + 1), hS', putD_len, putD_len, fun r => ?_, run_nx (ifs_true test (run_nx (μ' := psH μ A (putD C (.inr (kd b)) (nD ((pk T N b).length + 1))) acc) (st_daug (n := C.length) (ev_var rfl) eK ((gd_dk g1 rfl).trans (by rw [hS.c])) ev_cst ((pd_dk g1 rfl).trans ?_) (by omega)) (run_nx (st_setIx (ev_tup2 eK (ev_idx (ev_var rfl) eK (ix_dk g1 rfl hc'))) (ev_var rfl) (ev_var rfl) ((put_dt g0 kK (by omega)).trans ?_)) run_nil))) (run_nx (put he (by rw [hv']; rfl)) run_nil)⟩
      · rw [sk_s]
        unfold nxt
        rw [if_neg h, idx_new h]
      · rw [fr_set]; rfl
      · rw [fr_set]; rfl
theorem ps_loop {X : D} : ∀ {ws : List Wd} {T N : Nm} {A : List (List Key × D)} {C : List (Key × D)} {acc : List Bw} {o : Option D}, Sk T N A C → acc.length + ws.length ≤ 500 → A.length ≤ acc.length → C.length ≤ acc.length + 10 →
    ∃ A' C' o', forLoop (fbody (gg k) (.nm 4) psB) (chkOf none) (ws.map wD) (psR μ X o) (psH μ A C acc) = .nx (psR μ X o') (psH μ A' C' (acc ++ sk T N ws))
  | [], T, N, A, C, acc, o, _, _, _, _ => ⟨A, C, o, by rw [sk, List.append_nil]; exact for_nil⟩
  | w :: ws, T, N, A, C, acc, o, hS, hl, hA, hC => by
    rw [List.length_cons] at hl
    obtain ⟨T', N', A', C', x, qs, q1, q2, q3, q4⟩ := ps_step (k := k) (μ := μ) (X := X) (w := w) (acc := acc) hS (by omega) (by omega) (by omega)
    have hx : (acc ++ [x]).length = acc.length + 1 := by simp
    obtain ⟨A2, C2, o2, q⟩ := ps_loop (X := X) (ws := ws) (acc := acc ++ [x]) (o := some (wD w)) qs (by omega) (by omega) (by omega)
    refine ⟨A2, C2, o2, ?_⟩
    rw [q3, List.map_cons, show acc ++ x :: sk T' N' ws = (acc ++ [x]) ++ sk T' N' ws by simp]
    exact for_cons_nx (by rw [fbody_nm]; exact q4) q
abbrev C0 : List (Key × D) := [(.inr "text", .int 0), (.inr "number", .int 0)]
theorem c0_mk : mergeD ([] : List (Key × D)) [((.inr "text" : Key), D.int 0), (.inr "number", .int 0)] = C0 := by
  show putD (putD ([] : List (Key × D)) (.inr "text") (.int 0)) (.inr "number") (.int 0) = _
  have h1 : putD ([] : List (Key × D)) (.inr "text") (.int 0) = [(.inr "text", .int 0)] := rfl
  rw [h1]
  unfold putD
  rw [if_neg]
  · rfl
  · rw [List.any_cons, decide_eq_false]
    · simp
    · intro z
      have := Sum.inr.inj z
      rw [show ("text" : Str) = kd true from rfl, show ("number" : Str) = kd false from rfl, kd_ne] at this
      exact this
theorem sk0 : Sk [] [] [] C0 := by
  constructor
  · intro b n; cases b <;> rfl
  · intro b
    cases b with
    | true => rw [valD_cons, if_pos (show (Sum.inr "text" : Key) = Sum.inr (kd true) from rfl)]; rfl
    | false =>
      rw [valD_cons, if_neg (fun z => by have := Sum.inr.inj z; rw [show ("text" : Str) = kd true from rfl, kd_ne] at this; exact this), valD_cons, if_pos (show (Sum.inr "number" : Key) = Sum.inr (kd false) from rfl)]; rfl
theorem skel_ok {ws : List Wd} (hμ : PureM μ) (hl : ws.length ≤ 500) : (gg (k + 1)).call n_skeleton [.tup (ws.map wD)] μ = .ok (.tup ((sk [] [] ws).map bD)) μ := by
  obtain ⟨A', C', o', q⟩ := ps_loop (k := k) (μ := μ) (X := .tup (ws.map wD)) (ws := ws) (acc := []) (o := none) sk0 (by simp; omega) (Nat.zero_le _) (by decide)
  refine call_more c_skeleton hμ (bDs_pure _) (run_nx (ρ' := [some (.tup (ws.map wD)), some (.ref (μ.length + 0)), none, none, none]) (μ' := μ ++ [.dt []]) (st_set (ev_dnewT rfl)) (run_nx (ρ' := [some (.tup (ws.map wD)), some (.ref (μ.length + 0)), some (.ref (μ.length + 1)), none, none]) (μ' := μ ++ [.dt [], .dk C0]) (st_set ?_) (run_nx (ρ' := psR μ (.tup (ws.map wD)) none) (μ' := psH μ [] C0 []) ?_ (run_nx (for_run' (it_tup (ev_var rfl)) q) (run_rt (st_ret (ev_bif1 (ev_var rfl) (tuple_ref fr_get))))))))
  · refine (ev_disp2 ev_cst ev_cst (n := μ.length + 1) (by simp)).trans ?_
    rw [c0_mk]
    simp
  · refine (st_new ev_lst0).trans ?_
    simp
end
end PyI.K26
/-! V3: tails. -/
namespace PyI.K26
open PySem L2 PyProof.Rows
abbrev dn (m : Nat) : List D := rngDown ((m : Int) - 1) m
theorem dn_zero : dn 0 = [] := rfl
theorem dn_succ (m : Nat) : dn (m + 1) = nD m :: dn m := by
  unfold dn rngDown
  rw [List.range_succ_eq_map, List.map_cons, List.map_map]
  refine congr (congrArg List.cons ?_) ?_
  · show D.int _ = D.int _
    congr 1
    show ((m + 1 : Nat) : Int) - 1 + ((0 : Nat) : Int) * (-1) = (m : Int)
    omega
  · refine List.map_congr_left fun k _ => ?_
    show D.int _ = D.int _
    congr 1
    show ((m + 1 : Nat) : Int) - 1 + ((k + 1 : Nat) : Int) * (-1) = ((m : Int) - 1) + (k : Int) * (-1)
    omega
section
variable {Γ : G} {ρ : Rho} {μ μ1 μ2 μ3 : Mu} {a b c : E}
theorem it_dn {i : Int} {m : Nat} (ha : evalE Γ a ρ μ = .ok (.int i) μ1) (hb : evalE Γ b ρ μ1 = .ok (.int (-1)) μ2) (hc : evalE Γ c ρ μ2 = .ok (.int (-1)) μ3) (hi : i = (m : Int) - 1) (hm : m ≤ 1000000) : evalIt Γ (.rng3 a b c) ρ μ = .ok (dn m, none) μ3 := by
  subst hi
  rw [evalIt, ha, bind_ok, hb, bind_ok, hc, bind_ok]
  show needs _ _ = _
  have h1 : lim62 (-1) := by unfold lim62; exact ⟨by decide, by decide⟩
  have h2 : lim62 ((m : Int) - 1) := by unfold lim62; constructor <;> omega
  rw [needs_pos ⟨rfl, h2, h1⟩]
  have : (((m : Int) - 1) - -1).toNat = m := by omega
  rw [this]
theorem ev_bif3 {f : Bif} {x y z : D} {r : Res D} (ha : evalE Γ a ρ μ = .ok x μ1) (hb : evalE Γ b ρ μ1 = .ok y μ2) (hc : evalE Γ c ρ μ2 = .ok z μ3) (h : bifD f [x, y, z] μ3 = r) : evalE Γ (.bif f (.cons a (.cons b (.cons c .nil)))) ρ μ = r := by
  rw [evalE, evalEs, ha, bind_ok, evalEs, hb, bind_ok, evalEs, hc, bind_ok, evalEs, bind_ok, bind_ok, bind_ok, bind_ok]
  exact h
end
theorem min3_n {i j l : Nat} {μ : Mu} : bifD .min [nD i, nD j, nD l] μ = .ok (nD (min i (min j l))) μ := by
  show Res.ok (D.int _) μ = _
  congr 2
  split <;> split <;> omega
/-- one row: what is left of the second one -/
abbrev lv (xs ys : List Bw) : Nat := lev (fun x y => decide (x = y)) xs ys
def rowR (xs ys : List Bw) : List D := (List.range (ys.length + 1)).map fun j => nD (lv xs (ys.drop j))
def rws (ys : List Bw) : List Bw → List D
  | [] => [.lst (rowR [] ys)]
  | x :: xs => .lst (rowR (x :: xs) ys) :: rws ys xs
theorem rowR_get {xs ys : List Bw} {j : Nat} (h : j ≤ ys.length) : (rowR xs ys)[j]? = some (nD (lv xs (ys.drop j))) := by
  unfold rowR
  rw [List.getElem?_map, List.getElem?_range (by omega)]
  rfl
theorem rws_get {ys : List Bw} : ∀ {xs : List Bw} {i : Nat}, i ≤ xs.length → (rws ys xs)[i]? = some (.lst (rowR (xs.drop i) ys))
  | [], 0, _ => rfl
  | x :: xs, 0, _ => rfl
  | x :: xs, i + 1, h => by
    rw [rws, List.getElem?_cons_succ, rws_get (by rw [List.length_cons] at h; omega)]
    rfl
  | [], i + 1, h => by simp at h
theorem rowR_pure (xs ys : List Bw) : pureDs (rowR xs ys) = true := pureDs_map (fun _ => rfl) _
theorem rws_pure {ys : List Bw} : ∀ {xs : List Bw}, pureDs (rws ys xs) = true
  | [] => by
    show (pureDs (rowR [] ys) && true) = true
    rw [rowR_pure]; rfl
  | x :: xs => by
    show (pureDs (rowR (x :: xs) ys) && pureDs (rws ys xs)) = true
    rw [rowR_pure, rws_pure]; rfl
/-- what stands in the row, from its end up to m -/
def part (xs ys : List Bw) (m : Nat) : List D := ((List.range' m (ys.length + 1 - m)).map fun j => nD (lv xs (ys.drop j))).reverse
theorem part_zero (xs ys : List Bw) : (part xs ys 0).reverse = rowR xs ys := by
  unfold part rowR
  rw [List.reverse_reverse, List.range_eq_range']; rfl
theorem part_step {xs ys : List Bw} {m : Nat} (h : m ≤ ys.length) : part xs ys m = part xs ys (m + 1) ++ [nD (lv xs (ys.drop m))] := by
  unfold part
  rw [show ys.length + 1 - m = (ys.length + 1 - (m + 1)) + 1 by omega, List.range'_succ, List.map_cons, List.reverse_cons]
theorem part_end (xs ys : List Bw) : part xs ys ys.length = [nD xs.length] := by
  unfold part
  rw [show ys.length + 1 - ys.length = 1 by omega]
  show [nD (lv xs (ys.drop ys.length))] = _
  rw [List.drop_length]
  unfold lv
  rw [lev_nil2]
theorem part_len (xs ys : List Bw) (m : Nat) : (part xs ys m).length ≤ ys.length + 1 := by
  unfold part
  simp
section
variable {k : Nat} {ν : Mu}
abbrev tO : B := forB (nthS b_tails 2)
abbrev tI : B := forB (nthS tO 2)
theorem ti_loop {x : Bw} {xs ys : List Bw} {r0 r2 r3 : Option D} (hx : okB x) (hys : ∀ y ∈ ys, okB y) (hl : ys.length ≤ 500) : ∀ {m : Nat} {o : Option D}, m ≤ ys.length →
    ∃ o', forLoop (fbody (gg k) (.nm 7) tI) (chkOf none) (dn m) [r0, some (.tup (ys.map bD)), r2, r3, some (bD x), some (.lst (rowR xs ys)), some (.ref ν.length), o] (ν ++ [.lst (part (x :: xs) ys m)]) = .nx [r0, some (.tup (ys.map bD)), r2, r3, some (bD x), some (.lst (rowR xs ys)), some (.ref ν.length), o'] (ν ++ [.lst (part (x :: xs) ys 0)])
  | 0, o, _ => ⟨o, for_nil⟩
  | m + 1, o, hm => by
    obtain ⟨o', q⟩ := ti_loop hx hys hl (m := m) (o := some (nD m)) (by omega)
    refine ⟨o', ?_⟩
    rw [dn_succ]
    refine for_cons_nx (ρ' := [r0, some (.tup (ys.map bD)), r2, r3, some (bD x), some (.lst (rowR xs ys)), some (.ref ν.length), some (nD m)]) ?_ q
    rw [fbody_nm]
    show runB (gg k) tI [r0, some (.tup (ys.map bD)), r2, r3, some (bD x), some (.lst (rowR xs ys)), some (.ref ν.length), some (nD m)] _ = _
    have hy : ys[m]? = some ys[m] := List.getElem?_eq_getElem (by omega)
    have hd : ys.drop m = ys[m] :: ys.drop (m + 1) := List.drop_eq_getElem_cons (by omega)
    have hyd : (ys.map bD)[m]? = some (bD ys[m]) := by rw [List.getElem?_map, hy]; rfl
    have hz : (part (x :: xs) ys (m + 1)).length < 16777216 := by have := part_len (x :: xs) ys (m + 1); omega
    have test : evalT (gg k) (.val (.cmp .eq (.var 4) (.idx (.var 1) (.var 7)))) [r0, some (.tup (ys.map bD)), r2, r3, some (bD x), some (.lst (rowR xs ys)), some (.ref ν.length), some (nD m)] (ν ++ [.lst (part (x :: xs) ys (m + 1))]) = .ok (decide (x = ys[m])) _ := tv_bl (ev_cmp (ev_var rfl) (ev_idx (ev_var rfl) (ev_var rfl) (ix_tup hyd)) (eq_bw hx (hys _ (List.getElem_mem _))))
    have e1 : evalE (gg k) (.idx (.var 5) (.bin .add (.var 7) (.cst (.int 1)))) [r0, some (.tup (ys.map bD)), r2, r3, some (bD x), some (.lst (rowR xs ys)), some (.ref ν.length), some (nD m)] (ν ++ [.lst (part (x :: xs) ys (m + 1))]) = .ok (nD (lv xs (ys.drop (m + 1)))) (ν ++ [.lst (part (x :: xs) ys (m + 1))]) := ev_idx (ev_var rfl) (ev_add1 (ev_var rfl)) (ix_lst (rowR_get hm))
    have e2 : evalE (gg k) (.idx (.var 5) (.var 7)) [r0, some (.tup (ys.map bD)), r2, r3, some (bD x), some (.lst (rowR xs ys)), some (.ref ν.length), some (nD m)] (ν ++ [.lst (part (x :: xs) ys (m + 1))]) = .ok (nD (lv xs (ys.drop m))) (ν ++ [.lst (part (x :: xs) ys (m + 1))]) := ev_idx (ev_var rfl) (ev_var rfl) (ix_lst (rowR_get (by omega)))
    have e3 : evalE (gg k) (.idx (.var 6) (.neg (.cst (.int 1)))) [r0, some (.tup (ys.map bD)), r2, r3, some (bD x), some (.lst (rowR xs ys)), some (.ref ν.length), some (nD m)] (ν ++ [.lst (part (x :: xs) ys (m + 1))]) = .ok (nD (lv (x :: xs) (ys.drop (m + 1)))) (ν ++ [.lst (part (x :: xs) ys (m + 1))]) := ev_idx (ev_var rfl) ev_m1 (ix_last (l := part (x :: xs) ys (m + 2)) (by rw [part_step hm]; exact snoc_get))
    have wr : (ν ++ [MO.lst (part (x :: xs) ys (m + 1))] : Mu).set ν.length (.lst (part (x :: xs) ys (m + 1) ++ [nD (lv (x :: xs) (ys.drop m))])) = ν ++ [.lst (part (x :: xs) ys m)] := by rw [snoc_set, part_step (m := m) (by omega)]
    by_cases h : x = ys[m]
    · rw [decide_eq_true h] at test
      have ev : lv (x :: xs) (ys.drop m) = lv xs (ys.drop (m + 1)) := by rw [hd]; exact lev_eq (decide_eq_true h)
      rw [ev] at wr
      exact run_nx (ifs_true test (run_nx (st_append (ev_var rfl) e1 snoc_get hz wr snoc_get) run_nil)) run_nil
    · rw [decide_eq_false h] at test
      have ev : lv (x :: xs) (ys.drop m) = 1 + min (lv xs (ys.drop (m + 1))) (min (lv xs (ys.drop m)) (lv (x :: xs) (ys.drop (m + 1)))) := by
        rw [hd]
        refine (lev_ne (decide_eq_false h)).trans ?_
        unfold lv
        omega
      rw [ev] at wr
      exact run_nx (ifs_false test (run_nx (st_append (ev_var rfl) (ev_bin (a := .cst (.int 1)) (x := nD 1) ev_cst (ev_bif3 e1 e2 e3 min3_n) add_n) snoc_get hz wr snoc_get) run_nil)) run_nil
theorem to_loop {μ : Mu} {ys : List Bw} {r0 : Option D} (hys : ∀ y ∈ ys, okB y) (hl : ys.length ≤ 500) : ∀ {zs d : List Bw} {J : List MO} {o4 o5 o6 o7 : Option D}, (∀ z ∈ zs, okB z) → zs.length + d.length ≤ 500 →
    ∃ J' o4' o5' o6' o7', forLoop (fbody (gg k) (.nm 4) tO) (chkOf none) (zs.map bD) [r0, some (.tup (ys.map bD)), some (nD ys.length), some (.ref (μ.length + 0)), o4, o5, o6, o7] (μ ++ (.lst (rws ys d).reverse :: J)) = .nx [r0, some (.tup (ys.map bD)), some (nD ys.length), some (.ref (μ.length + 0)), o4', o5', o6', o7'] (μ ++ (.lst (rws ys (zs.reverse ++ d)).reverse :: J'))
  | [], d, J, o4, o5, o6, o7, _, _ => ⟨J, o4, o5, o6, o7, for_nil⟩
  | z :: zs, d, J, o4, o5, o6, o7, hz, hd => by
    rw [List.length_cons] at hd
    have hrl : ∀ d : List Bw, (rws ys d).length = d.length + 1 := fun d => by
      induction d with
      | nil => rfl
      | cons x d ih => rw [rws, List.length_cons, ih]; rfl
    have hlast : ∃ l, (rws ys d).reverse = l ++ [.lst (rowR d ys)] := by
      cases d with
      | nil => exact ⟨[], rfl⟩
      | cons x d => exact ⟨(rws ys d).reverse, by rw [rws, List.reverse_cons]⟩
    obtain ⟨l, hlr⟩ := hlast
    have hzz := hz z (List.mem_cons_self ..)
    have hν : (μ ++ (MO.lst (rws ys d).reverse :: J)).length = μ.length + 1 + J.length := by simp; omega
    obtain ⟨o', q⟩ := ti_loop (k := k) (ν := μ ++ (MO.lst (rws ys d).reverse :: J)) (x := z) (xs := d) (ys := ys) (r0 := r0) (r2 := some (nD ys.length)) (r3 := some (.ref (μ.length + 0))) hzz hys hl (m := ys.length) (o := o7) (Nat.le_refl _)
    obtain ⟨J', a, b, c, e, q2⟩ := to_loop (μ := μ) (ys := ys) (r0 := r0) hys hl (zs := zs) (d := z :: d) (J := J ++ [.lst (part (z :: d) ys 0)]) (o4 := some (bD z)) (o5 := some (.lst (rowR d ys))) (o6 := some (.ref (μ ++ (MO.lst (rws ys d).reverse :: J)).length)) (o7 := o') (fun w hw => hz w (List.mem_cons_of_mem _ hw)) (by rw [List.length_cons]; omega)
    refine ⟨J', a, b, c, e, ?_⟩
    rw [List.map_cons]
    rw [show (z :: zs).reverse ++ d = zs.reverse ++ z :: d by simp]
    refine for_cons_nx ?_ q2
    rw [fbody_nm]
    have g0 : (μ ++ (MO.lst (rws ys d).reverse :: J))[μ.length + 0]? = some (.lst (rws ys d).reverse) := fr_get
    have g0' : ∀ {m : MO}, ((μ ++ (MO.lst (rws ys d).reverse :: J)) ++ [m])[μ.length + 0]? = some (.lst (rws ys d).reverse) := fun {m} => by rw [fr_app]; exact fr_get
    refine run_nx (ρ' := [r0, some (.tup (ys.map bD)), some (nD ys.length), some (.ref (μ.length + 0)), some (bD z), some (.lst (rowR d ys)), o6, o7]) (st_set (ev_idx (ev_var rfl) ev_m1 (ix_last (by rw [← hlr]; exact g0)))) ?_
    refine run_nx (ρ' := [r0, some (.tup (ys.map bD)), some (nD ys.length), some (.ref (μ.length + 0)), some (bD z), some (.lst (rowR d ys)), some (.ref (μ ++ (MO.lst (rws ys d).reverse :: J)).length), o7]) (μ' := (μ ++ (MO.lst (rws ys d).reverse :: J)) ++ [.lst (part (z :: d) ys ys.length)]) ?_ ?_
    · refine (st_new (ev_lst1 (ev_add1 (ev_idx (ev_var rfl) (ev_var rfl) (ix_lst (rowR_get (Nat.le_refl _))))))).trans ?_
      rw [part_end, List.drop_length]
      unfold lv
      rw [lev_nil2]; rfl
    · refine run_nx (for_run' (it_dn (m := ys.length) (ev_bin (ev_var rfl) ev_cst rfl) ev_m1 ev_m1 rfl (by omega)) q) (run_nx ?_ run_nil)
      refine st_append (ev_var rfl) (ev_revL (ev_var rfl) (lstD_ref snoc_get)) g0' (by rw [List.length_reverse, hrl]; omega) ?_ g0'
      rw [part_zero, fr_app, fr_set, rws, List.reverse_cons]
      rfl
theorem tails_ok {μ : Mu} {xs ys : List Bw} (hμ : PureM μ) (hx : ∀ x ∈ xs, okB x) (hy : ∀ y ∈ ys, okB y) (h1 : xs.length ≤ 500) (h2 : ys.length ≤ 500) : (gg (k + 1)).call n_tails [.tup (xs.map bD), .tup (ys.map bD)] μ = .ok (.lst (rws ys xs)) μ := by
  obtain ⟨J', a, b, c, e, q⟩ := to_loop (k := k) (μ := μ) (ys := ys) (r0 := some (.tup (xs.map bD))) hy h2 (zs := xs.reverse) (d := []) (J := []) (o4 := none) (o5 := none) (o6 := none) (o7 := none) (fun z hz => hx z (List.mem_reverse.mp hz)) (by simp; omega)
  rw [List.reverse_reverse, List.append_nil] at q
  have e0 : evalE (gg k) (.comp [7] (.nm 7) (.rng1 (.bin .add (.var 2) (.cst (.int 1)))) .yes (.bin .sub (.var 2) (.var 7))) [some (.tup (xs.map bD)), some (.tup (ys.map bD)), some (nD ys.length), none, none, none, none, none] μ = .ok (.lst (rowR [] ys)) μ := by
    have hc := comp_all (f := cbody (gg k) [7] (.nm 7) .yes (.bin .sub (.var 2) (.var 7)) [some (.tup (xs.map bD)), some (.tup (ys.map bD)), some (nD ys.length), none, none, none, none, none]) (a := nD) (g := fun j => nD (lv [] (ys.drop j))) (μ := μ) (ds := List.range (ys.length + 1)) (fun j hj => by
      have hj' := List.mem_range.mp hj
      refine cbody_nm (ev_bin (ev_var rfl) (ev_var rfl) ((sub_n (by omega)).trans ?_))
      unfold lv
      rw [lev_nil, List.length_drop]) (by simp; omega)
    refine ev_comp ?_ hc
    rw [← rng0]
    exact it_rng1 (i := ((ys.length + 1 : Nat) : Int)) (ev_add1 (ev_var rfl)) rfl (by omega)
  have fin : runB (gg k) b_tails (startR f_tails.N.length [.tup (xs.map bD), .tup (ys.map bD)]) μ = .rt (.lst (rws ys xs)) (μ ++ (.lst (rws ys xs).reverse :: J')) := by
    refine run_nx (ρ' := [some (.tup (xs.map bD)), some (.tup (ys.map bD)), some (nD ys.length), none, none, none, none, none]) (st_set (ev_bif1 (ev_var rfl) (len_tup.trans (by rw [List.length_map])))) (run_nx (ρ' := [some (.tup (xs.map bD)), some (.tup (ys.map bD)), some (nD ys.length), some (.ref (μ.length + 0)), none, none, none, none]) (μ' := μ ++ [.lst [.lst (rowR [] ys)]]) (st_new (ev_lst1 e0)) (run_nx (for_run' (it_tup (ev_revT (ev_var rfl))) (by rw [← List.map_reverse]; exact q)) (run_rt (st_ret ?_))))
    have := ev_revL (Γ := gg k) (ρ := [some (.tup (xs.map bD)), some (.tup (ys.map bD)), some (nD ys.length), some (.ref (μ.length + 0)), a, b, c, e]) (e := .var 3) (ev_var rfl) (lstD_ref (μ := μ ++ (.lst (rws ys xs).reverse :: J')) (n := μ.length + 0) fr_get)
    rw [List.reverse_reverse] at this
    exact this
  exact call_more c_tails hμ (by show pureDs _ = true; exact rws_pure) fin
end
end PyI.K26
/-! V4: the law's table. -/
namespace PyI.K26
open PySem L2 PyProof.Rows
def mn : List Nat → Nat
  | [] => 0
  | [a] => a
  | a :: b :: r => min a (mn (b :: r))
theorem ints_n : ∀ (W : List Nat), intsOf (W.map nD) = some (W.map fun (n : Nat) => (n : Int))
  | [] => rfl
  | n :: W => by
    show (intsOf (W.map nD)).map _ = _
    rw [ints_n W]; rfl
theorem minL_n : ∀ (W : List Nat), minL (W.map fun (n : Nat) => (n : Int)) = (mn W : Nat)
  | [] => rfl
  | [a] => rfl
  | a :: b :: r => by
    have ih := minL_n (b :: r)
    show (if minL ((b :: r).map fun (n : Nat) => (n : Int)) < (a : Int) then minL ((b :: r).map fun (n : Nat) => (n : Int)) else (a : Int)) = _
    rw [ih]
    show (if ((mn (b :: r) : Nat) : Int) < (a : Int) then _ else _) = ((min a (mn (b :: r)) : Nat) : Int)
    split <;> omega
theorem eqOks_n (n : Nat) : ∀ (W : List Nat), eqOks n (W.map nD) = true
  | [] => rfl
  | w :: W => by
    show (true && eqOks n (W.map nD)) = true
    rw [eqOks_n n W]; rfl
section
variable {μ : Mu} {m : Nat} {W : List Nat}
theorem eq_nil (h : μ[m]? = some (.lst (W.map nD))) : cmpD .eq (.ref m) (.lst []) μ = .ok W.isEmpty μ := by
  have hd : deref μ (.ref m) = .lst (W.map nD) := by unfold deref; simp only [h]
  show needs (eqOk 64 (deref μ (.ref m)) = true ∧ eqOk 64 (.lst []) = true) (Res.ok (eqD (deref μ (.ref m)) (.lst [])) μ) = _
  rw [hd, needs_pos ⟨eqOks_n 63 W, rfl⟩]
  cases W <;> rfl
theorem min_ways (h : μ[m]? = some (.lst (W.map nD))) (hl : W.length ≤ 1000) {Γ : G} {ρ : Rho} {w : Nat} (hw : ρ[w]? = some (some (.ref m))) :
    evalE Γ (.bif .min (.cons (.bin .add (.var w) (.bin .mul (.lst (.cons (.cst (.int 0)) .nil)) (.bif .int (.cons (.cmp .eq (.var w) (.lst .nil)) .nil)))) .nil)) ρ μ = .ok (nD (mn W)) μ := by
  have e1 := ev_bif1 (Γ := Γ) (ρ := ρ) (ev_cmp (ev_var hw) ev_lst0 (eq_nil h)) int_bl
  have hm : ∀ {b : Bool}, binD .mul (.lst [.int 0]) (nD (if b then 1 else 0)) μ = .ok (.lst (if b then [.int 0] else [])) μ := fun {b} => by
    cases b with
    | false =>
      show needs _ _ = _
      rw [needs_pos (by decide)]
      rfl
    | true =>
      show needs _ _ = _
      rw [needs_pos (by decide)]
      rfl
  have e2 := ev_bin (ev_lst1 (Γ := Γ) (ρ := ρ) (e := .cst (.int 0)) ev_cst) e1 hm
  have ha : binD .add (.ref m) (.lst (if W.isEmpty then [.int 0] else [])) μ = .ok (.lst (W.map nD ++ if W.isEmpty then [.int 0] else [])) μ := by
    show (match lstD μ (.ref m), lstD μ (.lst (if W.isEmpty then [.int 0] else [])) with
      | some i, some j => needs (i.length + j.length ≤ 16777216) (Res.ok (D.lst (i ++ j)) μ)
      | _, _ => .stuck) = _
    rw [lstD_ref h]
    refine needs_pos ?_
    rw [List.length_map]
    split
    · show W.length + 1 ≤ _; omega
    · show W.length + 0 ≤ _; omega
  refine ev_bif1 (ev_bin (ev_var hw) e2 ha) ?_
  cases W with
  | nil => rfl
  | cons a W =>
    rw [show (D.lst ((a :: W).map nD ++ if (a :: W).isEmpty then [.int 0] else [])) = .lst ((a :: W).map nD) by simp]
    show (match (lstD μ (.lst ((a :: W).map nD))).bind intsOf with
      | some l => needs (0 < l.length) (Res.ok (D.int (minL l)) μ)
      | none => .stuck) = _
    rw [show (lstD μ (.lst ((a :: W).map nD))).bind intsOf = some ((a :: W).map fun (n : Nat) => (n : Int)) from ints_n (a :: W)]
    show needs _ _ = _
    rw [needs_pos (by simp), minL_n]
end
section
variable {k : Nat} {μ : Mu} {xs ys : List Bw}
abbrev lvv (xs ys : List Bw) (i j : Nat) : Nat := lv (xs.drop i) (ys.drop j)
abbrev kij (i j : Nat) : List Key := [.inl (i : Int), .inl (j : Int)]
theorem kij_eq {i j i' j' : Nat} : kij i j = kij i' j' ↔ (i = i' ∧ j = j') := by
  constructor
  · intro h
    have h1 := Sum.inl.inj (List.cons.inj h).1
    have h2 := Sum.inl.inj (List.cons.inj (List.cons.inj h).2).1
    omega
  · rintro ⟨rfl, rfl⟩; rfl
/-- the table is right where P holds -/
def Tb (xs ys : List Bw) (kvs : List (List Key × D)) (P : Nat → Nat → Prop) : Prop := ∀ i j, i ≤ xs.length → j ≤ ys.length → P i j → valD kvs (kij i j) = some (nD (lvv xs ys i j))
theorem Tb.put {kvs : List (List Key × D)} {P Q : Nat → Nat → Prop} {i j : Nat} (h : Tb xs ys kvs P) (hQ : ∀ i' j', Q i' j' → (i' = i ∧ j' = j) ∨ P i' j') : Tb xs ys (putD kvs (kij i j) (nD (lvv xs ys i j))) Q := by
  intro i' j' h1 h2 hq
  rw [valD_put]
  by_cases e : kij i j = kij i' j'
  · rw [if_pos e]
    obtain ⟨rfl, rfl⟩ := kij_eq.mp e
    rfl
  · rw [if_neg e]
    rcases hQ i' j' hq with ⟨rfl, rfl⟩ | q
    · exact absurd rfl e
    · exact h i' j' h1 h2 q
def wys (xs ys : List Bw) (i j : Nat) : List Nat :=
  (if i < xs.length ∧ j < ys.length then [lvv xs ys (i + 1) (j + 1) + if xs[i]? = ys[j]? then 0 else 1] else []) ++ (if i < xs.length then [lvv xs ys (i + 1) j + 1] else []) ++ (if j < ys.length then [lvv xs ys i (j + 1) + 1] else [])
theorem wys_mn {i j : Nat} (hi : i ≤ xs.length) (hj : j ≤ ys.length) : mn (wys xs ys i j) = lvv xs ys i j := by
  unfold wys lvv lv
  by_cases h1 : i < xs.length
  · have d1 : xs.drop i = xs[i] :: xs.drop (i + 1) := List.drop_eq_getElem_cons h1
    by_cases h2 : j < ys.length
    · have d2 : ys.drop j = ys[j] :: ys.drop (j + 1) := List.drop_eq_getElem_cons h2
      rw [if_pos ⟨h1, h2⟩, if_pos h1, if_pos h2]
      have e1 : xs[i]? = some xs[i] := List.getElem?_eq_getElem h1
      have e2 : ys[j]? = some ys[j] := List.getElem?_eq_getElem h2
      rw [e1, e2]
      show min _ (min _ _) = _
      conv => rhs; rw [d1, d2, lev_cons]
      rw [← d1, ← d2]
      congr 2
      by_cases h : xs[i] = ys[j]
      · rw [if_pos (by rw [h]), if_pos (decide_eq_true h)]
      · rw [if_neg (fun z => h (Option.some.inj z)), if_neg (by rw [decide_eq_false h]; decide)]
    · have hj' : j = ys.length := by omega
      subst hj'
      rw [if_neg (fun z => h2 z.2), if_pos h1, if_neg h2]
      show _ + 1 = _
      rw [List.drop_length, lev_nil2, lev_nil2, List.length_drop, List.length_drop]
      omega
  · have hi' : i = xs.length := by omega
    subst hi'
    rw [if_neg (fun z => h1 z.1), if_neg h1]
    by_cases h2 : j < ys.length
    · rw [if_pos h2]
      show _ + 1 = _
      rw [List.drop_length, lev_nil, lev_nil, List.length_drop, List.length_drop]
      omega
    · have hj' : j = ys.length := by omega
      subst hj'
      rw [if_neg h2, List.drop_length, List.drop_length, lev_nil]
      rfl
theorem wys_len {i j : Nat} : (wys xs ys i j).length ≤ 3 := by
  have l1 : ∀ {c : Prop} [Decidable c] {a : Nat}, (if c then [a] else ([] : List Nat)).length ≤ 1 := fun {c _ a} => by
    split
    · exact Nat.le_refl _
    · exact Nat.zero_le _
  unfold wys
  rw [List.length_append, List.length_append]
  exact Nat.add_le_add (Nat.add_le_add l1 l1) l1
abbrev bO : B := forB (nthS b_law_table 1)
abbrev bI : B := forB (nthS bO 0)
abbrev tbR (μ : Mu) (xs ys : List Bw) (i : D) (o4 o5 : Option D) : Rho := [some (.tup (xs.map bD)), some (.tup (ys.map bD)), some (.ref (μ.length + 0)), some i, o4, o5]
theorem lt_len {ρ : Rho} {ν : Mu} {v w i : Nat} {l : List Bw} (h1 : ρ[v]? = some (some (nD i))) (h2 : ρ[w]? = some (some (.tup (l.map bD)))) : evalT (gg k) (.val (.cmp .lt (.var v) (.bif .len (.cons (.var w) .nil)))) ρ ν = .ok (decide (i < l.length)) ν := tv_bl (ev_cmp (ev_var h1) (ev_bif1 (ev_var h2) len_tup) (by rw [List.length_map]; exact lt_n))
theorem tv_and {t u : T} {ρ : Rho} {ν : Mu} {a b : Bool} (h : evalT (gg k) t ρ ν = .ok a ν) (h2 : evalT (gg k) u ρ ν = .ok b ν) : evalT (gg k) (.and t u) ρ ν = .ok (a && b) ν := by
  cases a with
  | true => exact tv_and_t h h2
  | false => exact tv_and_f h
theorem if_app {t : T} {e : E} {ρ : Rho} {ν : Mu} {w : Nat} {W : List Nat} {c : Bool} {v : Nat} (hw : ρ[w]? = some (some (.ref ν.length))) (hl : W.length ≤ 1000) (ht : evalT (gg k) t ρ (ν ++ [.lst (W.map nD)]) = .ok c (ν ++ [.lst (W.map nD)])) (he : c = true → evalE (gg k) e ρ (ν ++ [.lst (W.map nD)]) = .ok (nD v) (ν ++ [.lst (W.map nD)])) :
    runS (gg k) (.ifs t (.cons (.expr (.met .append (.var w) (.cons e .nil))) .nil) .nil) ρ (ν ++ [.lst (W.map nD)]) = .nx ρ (ν ++ [.lst ((W ++ if c then [v] else []).map nD)]) := by
  cases c with
  | true => exact ifs_true ht (run_nx (st_append (ev_var hw) (he rfl) snoc_get (by rw [List.length_map]; omega) (by rw [snoc_set, List.map_append]; rfl) snoc_get) run_nil)
  | false =>
    rw [show (W ++ if false = true then [v] else []) = W by simp]
    exact ifs_false ht run_nil
theorem tb_step {i j : Nat} {kvs : List (List Key × D)} {J : List MO} {P : Nat → Nat → Prop} {o5 : Option D} (hx : ∀ x ∈ xs, okB x) (hy : ∀ y ∈ ys, okB y) (hi : i ≤ xs.length) (hj : j ≤ ys.length) (hT : Tb xs ys kvs P) (p1 : i < xs.length → P (i + 1) j) (p2 : j < ys.length → P i (j + 1)) (p3 : i < xs.length → j < ys.length → P (i + 1) (j + 1)) (hk : kvs.length < 16777216) :
    ∃ o5', runB (gg k) bI (tbR μ xs ys (nD i) (some (nD j)) o5) (μ ++ (.dt kvs :: J)) = .nx (tbR μ xs ys (nD i) (some (nD j)) o5') (μ ++ (.dt (putD kvs (kij i j) (nD (lvv xs ys i j))) :: (J ++ [.lst ((wys xs ys i j).map nD)]))) := by
  refine ⟨some (.ref (μ ++ (MO.dt kvs :: J)).length), ?_⟩
  generalize hν : (μ ++ (MO.dt kvs :: J)) = ν
  have g0 : ∀ {m : MO}, (ν ++ [m])[μ.length + 0]? = some (.dt kvs) := fun {m} => by rw [← hν, fr_app]; exact fr_get
  have hkk : ∀ {a b : Nat}, keysD (.tup [nD a, nD b]) = some (kij a b) := fun {a b} => rfl
  have ix : ∀ {a b : Nat} {m : MO}, a ≤ xs.length → b ≤ ys.length → P a b → idxA (.ref (μ.length + 0)) (.tup [nD a, nD b]) (ν ++ [m]) = .ok (nD (lvv xs ys a b)) (ν ++ [m]) := fun {a b m} h1 h2 h3 => ix_dt g0 hkk (hT a b h1 h2 h3)
  let R : Rho := tbR μ xs ys (nD i) (some (nD j)) (some (.ref ν.length))
  have s1 := if_app (k := k) (t := .and (.val (.cmp .lt (.var 3) (.bif .len (.cons (.var 0) .nil)))) (.val (.cmp .lt (.var 4) (.bif .len (.cons (.var 1) .nil)))))
    (e := .bin .add (.idx (.var 2) (.tup (.cons (.bin .add (.var 3) (.cst (.int 1))) (.cons (.bin .add (.var 4) (.cst (.int 1))) .nil)))) (.bif .int (.cons (.cmp .ne (.idx (.var 0) (.var 3)) (.idx (.var 1) (.var 4))) .nil)))
    (ρ := R) (ν := ν) (w := 5) (W := []) (v := lvv xs ys (i + 1) (j + 1) + if xs[i]? = ys[j]? then 0 else 1) rfl (Nat.zero_le _) (tv_and (lt_len rfl rfl) (lt_len rfl rfl)) (fun hc => by
      simp only [Bool.and_eq_true, decide_eq_true_eq] at hc
      obtain ⟨c1, c2⟩ := hc
      have hx' : (xs.map bD)[i]? = some (bD xs[i]) := by rw [List.getElem?_map, List.getElem?_eq_getElem c1]; rfl
      have hy' : (ys.map bD)[j]? = some (bD ys[j]) := by rw [List.getElem?_map, List.getElem?_eq_getElem c2]; rfl
      refine ev_bin (ev_idx (ev_var rfl) (ev_tup2 (ev_add1 (ev_var rfl)) (ev_add1 (ev_var rfl))) (ix (by omega) (by omega) (p3 c1 c2))) (ev_bif1 (ev_cmp (ev_idx (ev_var rfl) (ev_var rfl) (ix_tup hx')) (ev_idx (ev_var rfl) (ev_var rfl) (ix_tup hy')) (ne_bw (hx _ (List.getElem_mem _)) (hy _ (List.getElem_mem _)))) int_bl) (add_n.trans ?_)
      rw [List.getElem?_eq_getElem c1, List.getElem?_eq_getElem c2]
      by_cases h : xs[i] = ys[j]
      · rw [decide_eq_true h, if_pos (congrArg some h)]; rfl
      · rw [decide_eq_false h, if_neg (fun z => h (Option.some.inj z))]; rfl)
  have s2 := fun W hl => if_app (k := k) (t := .val (.cmp .lt (.var 3) (.bif .len (.cons (.var 0) .nil))))
    (e := .bin .add (.idx (.var 2) (.tup (.cons (.bin .add (.var 3) (.cst (.int 1))) (.cons (.var 4) .nil)))) (.cst (.int 1)))
    (ρ := R) (ν := ν) (w := 5) (W := W) (v := lvv xs ys (i + 1) j + 1) rfl hl (lt_len rfl rfl) (fun hc => by
      simp only [decide_eq_true_eq] at hc
      exact ev_add1 (ev_idx (ev_var rfl) (ev_tup2 (ev_add1 (ev_var rfl)) (ev_var rfl)) (ix (by omega) hj (p1 hc))))
  have s3 := fun W hl => if_app (k := k) (t := .val (.cmp .lt (.var 4) (.bif .len (.cons (.var 1) .nil))))
    (e := .bin .add (.idx (.var 2) (.tup (.cons (.var 3) (.cons (.bin .add (.var 4) (.cst (.int 1))) .nil)))) (.cst (.int 1)))
    (ρ := R) (ν := ν) (w := 5) (W := W) (v := lvv xs ys i (j + 1) + 1) rfl hl (lt_len rfl rfl) (fun hc => by
      simp only [decide_eq_true_eq] at hc
      exact ev_add1 (ev_idx (ev_var rfl) (ev_tup2 (ev_var rfl) (ev_add1 (ev_var rfl))) (ix hi (by omega) (p2 hc))))
  have hW : (([] ++ if (decide (i < xs.length) && decide (j < ys.length)) = true then [lvv xs ys (i + 1) (j + 1) + if xs[i]? = ys[j]? then 0 else 1] else []) ++ (if decide (i < xs.length) = true then [lvv xs ys (i + 1) j + 1] else [])) ++ (if decide (j < ys.length) = true then [lvv xs ys i (j + 1) + 1] else []) = wys xs ys i j := by
    unfold wys
    simp only [List.nil_append, Bool.and_eq_true, decide_eq_true_eq]
  have hl1 : ∀ {c : Bool} {a : Nat} {W : List Nat} {n : Nat}, W.length ≤ n → (W ++ if c then [a] else []).length ≤ n + 1 := fun {c a W n} h => by
    rw [List.length_append]
    split
    · show W.length + 1 ≤ _; omega
    · show W.length + 0 ≤ _; omega
  have t3 := s3 (([] ++ if (decide (i < xs.length) && decide (j < ys.length)) = true then [lvv xs ys (i + 1) (j + 1) + if xs[i]? = ys[j]? then 0 else 1] else []) ++ (if decide (i < xs.length) = true then [lvv xs ys (i + 1) j + 1] else [])) (Nat.le_trans (hl1 (n := 1) (hl1 (W := []) (n := 0) (Nat.le_refl 0))) (by decide))
  rw [hW] at t3
  refine run_nx (ρ' := R) (μ' := ν ++ [.lst (([] : List Nat).map nD)]) (st_new ev_lst0) (run_nx s1 (run_nx (s2 _ (Nat.le_trans (hl1 (W := []) (n := 0) (Nat.le_refl 0)) (by decide))) (run_nx t3 (run_nx ?_ run_nil))))
  refine st_setIx (min_ways snoc_get (Nat.le_trans wys_len (by decide)) rfl) (ev_var rfl) (ev_tup2 (ev_var rfl) (ev_var rfl)) ((put_dt g0 hkk hk).trans ?_)
  rw [wys_mn hi hj, ← hν, fr_app, fr_set]
  rfl
/-- pairs that are done, when m rounds and n of the next are left -/
abbrev dnP (i n : Nat) : Nat → Nat → Prop := fun i' j' => i < i' ∨ (i' = i ∧ n ≤ j')
theorem tb_in {i : Nat} (hx : ∀ x ∈ xs, okB x) (hy : ∀ y ∈ ys, okB y) (hi : i ≤ xs.length) : ∀ {n : Nat} {kvs : List (List Key × D)} {J : List MO} {o4 o5 : Option D}, n ≤ ys.length + 1 → Tb xs ys kvs (dnP i n) → kvs.length + n < 16777216 →
    ∃ kvs' J' o4' o5', forLoop (fbody (gg k) (.nm 4) bI) (chkOf none) (dn n) (tbR μ xs ys (nD i) o4 o5) (μ ++ (.dt kvs :: J)) = .nx (tbR μ xs ys (nD i) o4' o5') (μ ++ (.dt kvs' :: J')) ∧ Tb xs ys kvs' (dnP i 0) ∧ kvs'.length ≤ kvs.length + n
  | 0, kvs, J, o4, o5, _, h, _ => ⟨kvs, J, o4, o5, for_nil, h, Nat.le_refl _⟩
  | n + 1, kvs, J, o4, o5, hn, h, hk => by
    obtain ⟨o5', q⟩ := tb_step (k := k) (μ := μ) (i := i) (j := n) (J := J) (o5 := o5) hx hy hi (by omega) h (fun _ => .inl (by omega)) (fun _ => .inr ⟨rfl, Nat.le_refl _⟩) (fun _ _ => .inl (by omega)) (by omega)
    have hp := putD_len (kvs := kvs) (k := kij i n) (d := nD (lvv xs ys i n))
    obtain ⟨kvs', J', a, b, q2, h2, h3⟩ := tb_in hx hy hi (n := n) (kvs := putD kvs (kij i n) (nD (lvv xs ys i n))) (J := J ++ [.lst ((wys xs ys i n).map nD)]) (o4 := some (nD n)) (o5 := o5') (by omega) (h.put (fun i' j' hq => by
      unfold dnP at hq ⊢
      omega)) (by omega)
    refine ⟨kvs', J', a, b, ?_, h2, by omega⟩
    rw [dn_succ]
    exact for_cons_nx (by rw [fbody_nm]; exact q) q2
abbrev dmP (m : Nat) : Nat → Nat → Prop := fun i' _ => m ≤ i'
theorem tb_out (hx : ∀ x ∈ xs, okB x) (hy : ∀ y ∈ ys, okB y) (hl : ys.length ≤ 500) : ∀ {m : Nat} {kvs : List (List Key × D)} {J : List MO} {o3 : Option D} {o4 o5 : Option D}, m ≤ xs.length + 1 → Tb xs ys kvs (dmP m) → kvs.length + m * 501 < 16777216 →
    ∃ kvs' J' o3' o4' o5', forLoop (fbody (gg k) (.nm 3) bO) (chkOf none) (dn m) [some (.tup (xs.map bD)), some (.tup (ys.map bD)), some (.ref (μ.length + 0)), o3, o4, o5] (μ ++ (.dt kvs :: J)) = .nx [some (.tup (xs.map bD)), some (.tup (ys.map bD)), some (.ref (μ.length + 0)), o3', o4', o5'] (μ ++ (.dt kvs' :: J')) ∧ Tb xs ys kvs' (dmP 0)
  | 0, kvs, J, o3, o4, o5, _, h, _ => ⟨kvs, J, o3, o4, o5, for_nil, h⟩
  | m + 1, kvs, J, o3, o4, o5, hm, h, hk => by
    rw [Nat.succ_mul] at hk
    obtain ⟨kvs', J', a, b, q, h2, h3⟩ := tb_in (k := k) (μ := μ) (i := m) hx hy (by omega) (n := ys.length + 1) (kvs := kvs) (J := J) (o4 := o4) (o5 := o5) (Nat.le_refl _) (fun i' j' h1 h2 hq => h i' j' h1 h2 (by
      unfold dnP at hq
      show m + 1 ≤ i'
      omega)) (by omega)
    obtain ⟨kvs2, J2, a2, b2, c2, q2, h4⟩ := tb_out hx hy hl (m := m) (kvs := kvs') (J := J') (o3 := some (nD m)) (o4 := a) (o5 := b) (by omega) (fun i' j' h1 h2' hq => h2 i' j' h1 h2' (by
      have hq' : m ≤ i' := hq
      show m < i' ∨ (i' = m ∧ 0 ≤ j')
      omega)) (by omega)
    refine ⟨kvs2, J2, a2, b2, c2, ?_, h4⟩
    rw [dn_succ]
    refine for_cons_nx ?_ q2
    rw [fbody_nm]
    refine run_nx (for_run' (it_dn (m := ys.length + 1) (ev_bif1 (ev_var rfl) len_tup) ev_m1 ev_m1 ?_ (by omega)) q) run_nil
    rw [List.length_map]
    omega
theorem table_ok (hx : ∀ x ∈ xs, okB x) (hy : ∀ y ∈ ys, okB y) (h1 : xs.length ≤ 500) (h2 : ys.length ≤ 500) : ∃ kvs J, Tb xs ys kvs (fun _ _ => True) ∧ (gg (k + 1)).call n_law_table [.tup (xs.map bD), .tup (ys.map bD)] μ = .ok (.ref (μ.length + 0)) (μ ++ (.dt kvs :: J)) := by
  obtain ⟨kvs, J, a, b, c, q, h⟩ := tb_out (k := k) (μ := μ) (xs := xs) (ys := ys) hx hy h2 (m := xs.length + 1) (kvs := []) (J := []) (o3 := none) (o4 := none) (o5 := none) (Nat.le_refl _) (fun i' j' e1 _ hq => absurd hq (by show ¬ _ ≤ _; omega)) (by simp; omega)
  have e : evalIt (gg k) (.rng3 (.bif .len (.cons (.var 0) .nil)) (.neg (.cst (.int 1))) (.neg (.cst (.int 1)))) [some (.tup (xs.map bD)), some (.tup (ys.map bD)), some (.ref (μ.length + 0)), none, none, none] (μ ++ [MO.dt []]) = .ok (dn (xs.length + 1), none) (μ ++ [MO.dt []]) := by
    refine it_dn (m := xs.length + 1) (ev_bif1 (ev_var rfl) len_tup) ev_m1 ev_m1 ?_ (by omega)
    rw [List.length_map]
    omega
  have full : runB (gg k) b_law_table (startR f_law_table.N.length [.tup (xs.map bD), .tup (ys.map bD)]) μ = .rt (.ref (μ.length + 0)) (μ ++ (.dt kvs :: J)) :=
    run_nx (ρ' := [some (.tup (xs.map bD)), some (.tup (ys.map bD)), some (.ref (μ.length + 0)), none, none, none]) (μ' := μ ++ [MO.dt []]) (st_set (ev_dnewT rfl)) (run_nx (for_run' e q) (run_rt (st_ret (ev_var rfl))))
  exact ⟨kvs, J, fun i j e1 e2 _ => h i j e1 e2 (Nat.zero_le _), call_dic (i := 0) (ν := MO.dt kvs :: J) c_law_table (fun l z => by cases z) (Nat.succ_pos _) full⟩
end
end PyI.K26
/-! V5: scripts. -/
namespace PyI.K26
open PySem L2 PyProof.Rows
abbrev sc (xs ys : List Bw) : List (Dd Bw) := scr (fun x y => decide (x = y)) xs ys
def dD : Dd Bw → D
  | .keep => .str "keep"
  | .cut => .str "cut"
  | .swap y => .tup [.str "swap", bD y]
  | .put y => .tup [.str "put", bD y]
theorem dD_pure (d : Dd Bw) : pureD (dD d) = true := by
  cases d with
  | swap y => show (true && (pureD (bD y) && true)) = true; rw [bD_pure]; rfl
  | put y => show (true && (pureD (bD y) && true)) = true; rw [bD_pure]; rfl
  | _ => rfl
section
variable {xs ys : List Bw} {h t : Nat}
theorem sc_nil : sc [] [] = [] := by unfold sc scr; rfl
theorem sc_cases (hh : h ≤ xs.length) (ht : t ≤ ys.length) (hn : h < xs.length ∨ t < ys.length) :
    (∃ x, h < xs.length ∧ t < ys.length ∧ xs[h]? = some x ∧ ys[t]? = some x ∧ lvv xs ys (h + 1) (t + 1) = lvv xs ys h t ∧ sc (xs.drop h) (ys.drop t) = .keep :: sc (xs.drop (h + 1)) (ys.drop (t + 1))) ∨
    (∃ x y, h < xs.length ∧ t < ys.length ∧ xs[h]? = some x ∧ ys[t]? = some y ∧ x ≠ y ∧ lvv xs ys (h + 1) (t + 1) + 1 = lvv xs ys h t ∧ sc (xs.drop h) (ys.drop t) = .swap y :: sc (xs.drop (h + 1)) (ys.drop (t + 1))) ∨
    (h < xs.length ∧ (t < ys.length → ∃ x y, xs[h]? = some x ∧ ys[t]? = some y ∧ x ≠ y ∧ lvv xs ys (h + 1) (t + 1) + 1 ≠ lvv xs ys h t) ∧ lvv xs ys (h + 1) t + 1 = lvv xs ys h t ∧ sc (xs.drop h) (ys.drop t) = .cut :: sc (xs.drop (h + 1)) (ys.drop t)) ∨
    (∃ y, t < ys.length ∧ ys[t]? = some y ∧ (h < xs.length → ∃ x, xs[h]? = some x ∧ x ≠ y ∧ lvv xs ys (h + 1) (t + 1) + 1 ≠ lvv xs ys h t ∧ lvv xs ys (h + 1) t + 1 ≠ lvv xs ys h t) ∧ sc (xs.drop h) (ys.drop t) = .put y :: sc (xs.drop h) (ys.drop (t + 1))) := by
  by_cases h1 : h < xs.length
  · have d1 : xs.drop h = xs[h] :: xs.drop (h + 1) := List.drop_eq_getElem_cons h1
    have g1 : xs[h]? = some xs[h] := List.getElem?_eq_getElem h1
    by_cases h2 : t < ys.length
    · have d2 : ys.drop t = ys[t] :: ys.drop (t + 1) := List.drop_eq_getElem_cons h2
      have g2 : ys[t]? = some ys[t] := List.getElem?_eq_getElem h2
      have es : sc (xs.drop h) (ys.drop t) = if decide (xs[h] = ys[t]) then .keep :: sc (xs.drop (h + 1)) (ys.drop (t + 1)) else if lvv xs ys (h + 1) (t + 1) + 1 = lvv xs ys h t then .swap ys[t] :: sc (xs.drop (h + 1)) (ys.drop (t + 1)) else if lvv xs ys (h + 1) t + 1 = lvv xs ys h t then .cut :: sc (xs.drop (h + 1)) (ys.drop t) else .put ys[t] :: sc (xs.drop h) (ys.drop (t + 1)) := by
        unfold lvv lv sc
        rw [d1, d2]
        conv => lhs; unfold scr
      by_cases e : xs[h] = ys[t]
      · refine .inl ⟨ys[t], h1, h2, by rw [g1, e], g2, ?_, by rw [es, if_pos (decide_eq_true e)]⟩
        unfold lvv lv
        rw [d1, d2, lev_eq (decide_eq_true e)]
      · rw [if_neg (by rw [decide_eq_false e]; decide)] at es
        by_cases e2 : lvv xs ys (h + 1) (t + 1) + 1 = lvv xs ys h t
        · exact .inr (.inl ⟨_, _, h1, h2, g1, g2, e, e2, by rw [es, if_pos e2]⟩)
        · rw [if_neg e2] at es
          by_cases e3 : lvv xs ys (h + 1) t + 1 = lvv xs ys h t
          · exact .inr (.inr (.inl ⟨h1, fun _ => ⟨_, _, g1, g2, e, e2⟩, e3, by rw [es, if_pos e3]⟩))
          · exact .inr (.inr (.inr ⟨_, h2, g2, fun _ => ⟨_, g1, e, e2, e3⟩, by rw [es, if_neg e3]⟩))
    · have ht' : t = ys.length := by omega
      subst ht'
      refine .inr (.inr (.inl ⟨h1, fun z => absurd z h2, ?_, ?_⟩))
      · unfold lvv lv
        rw [List.drop_length, lev_nil2, lev_nil2, List.length_drop, List.length_drop]
        omega
      · rw [List.drop_length, d1]
        unfold sc
        conv => lhs; unfold scr
  · have hh' : h = xs.length := by omega
    subst hh'
    have h2 : t < ys.length := by omega
    have d2 : ys.drop t = ys[t] :: ys.drop (t + 1) := List.drop_eq_getElem_cons h2
    have g2 : ys[t]? = some ys[t] := List.getElem?_eq_getElem h2
    refine .inr (.inr (.inr ⟨_, h2, g2, fun z => absurd z h1, ?_⟩))
    rw [List.drop_length, d2]
    unfold sc
    conv => lhs; unfold scr
theorem sc_end (hh : h = xs.length) (ht : t = ys.length) : sc (xs.drop h) (ys.drop t) = [] := by
  subst hh ht
  rw [List.drop_length, List.drop_length, sc_nil]
end
section
variable {k : Nat} {μ : Mu} {xs ys : List Bw}
abbrev wB : B := match nthS b_distance 6 with | .whl _ b => b | _ => .nil
abbrev wT : T := whlT (nthS b_distance 6)
abbrev dR (μ : Mu) (xs ys : List Bw) (X Y : D) (h t : Nat) (o8 o9 : Option D) : Rho := [some X, some Y, some (.tup (xs.map bD)), some (.tup (ys.map bD)), some (.lst (rws ys xs)), some (.ref μ.length), some (nD h), some (nD t), o8, o9]
abbrev dH (μ : Mu) (acc : List (Dd Bw)) : Mu := μ ++ [.lst (acc.map dD)]
theorem bget {l : List Bw} {i : Nat} {x : Bw} (h : l[i]? = some x) : (l.map bD)[i]? = some (bD x) := by rw [List.getElem?_map, h]; rfl
theorem push {ρ : Rho} {ν : Mu} {w : Nat} {e : E} {acc : List (Dd Bw)} {d : Dd Bw} (hw : ρ[w]? = some (some (.ref ν.length))) (hl : acc.length ≤ 5000) (he : evalE (gg k) e ρ (dH ν acc) = .ok (dD d) (dH ν acc)) : runS (gg k) (.expr (.met .append (.var w) (.cons e .nil))) ρ (dH ν acc) = .nx ρ (dH ν (acc ++ [d])) :=
  st_append (ev_var hw) he snoc_get (by rw [List.length_map]; omega) (by rw [snoc_set, map_snoc]) snoc_get
theorem aug1 {ρ : Rho} {ν : Mu} {i n : Nat} (h : ρ[i]? = some (some (nD n))) : runS (gg k) (.aug i .add (.cst (.int 1))) ρ ν = .nx (ρ.set i (some (nD (n + 1)))) ν := st_aug h ev_cst
theorem ds_step {X Y : D} {h t : Nat} {acc : List (Dd Bw)} {o8 o9 : Option D} (hx : ∀ x ∈ xs, okB x) (hy : ∀ y ∈ ys, okB y) (hh : h ≤ xs.length) (ht : t ≤ ys.length) (hn : h < xs.length ∨ t < ys.length) (hl : acc.length ≤ 5000) :
    ∃ d h' t' o8' o9', sc (xs.drop h) (ys.drop t) = d :: sc (xs.drop h') (ys.drop t') ∧ h' ≤ xs.length ∧ t' ≤ ys.length ∧ h + t < h' + t' ∧ runB (gg k) wB (dR μ xs ys X Y h t o8 o9) (dH μ acc) = .nx (dR μ xs ys X Y h' t' o8' o9') (dH μ (acc ++ [d])) := by
  let b9 : D := .bl (decide (h < xs.length) && decide (t < ys.length))
  have ltE : ∀ {ρ : Rho} {v w i : Nat} {l : List Bw} (h1 : ρ[v]? = some (some (nD i))) (h2 : ρ[w]? = some (some (.tup (l.map bD)))), evalE (gg k) (.cmp .lt (.var v) (.bif .len (.cons (.var w) .nil))) ρ (dH μ acc) = .ok (.bl (decide (i < l.length))) (dH μ acc) := fun h1 h2 => ev_cmp (ev_var h1) (ev_bif1 (ev_var h2) len_tup) (by rw [List.length_map]; exact lt_n)
  have s8 : runS (gg k) (.set (.nm 8) (.idx (.idx (.var 4) (.var 6)) (.var 7))) (dR μ xs ys X Y h t o8 o9) (dH μ acc) = .nx (dR μ xs ys X Y h t (some (nD (lvv xs ys h t))) o9) (dH μ acc) := st_set (ev_idx (ev_idx (ev_var rfl) (ev_var rfl) (ix_lst (rws_get hh))) (ev_var rfl) (ix_lst (rowR_get ht)))
  have s9 : runS (gg k) (.set (.nm 9) (.and (.cmp .lt (.var 6) (.bif .len (.cons (.var 2) .nil))) (.cmp .lt (.var 7) (.bif .len (.cons (.var 3) .nil))))) (dR μ xs ys X Y h t (some (nD (lvv xs ys h t))) o9) (dH μ acc) = .nx (dR μ xs ys X Y h t (some (nD (lvv xs ys h t))) (some b9)) (dH μ acc) := st_set (ev_andb (ltE rfl rfl) (ltE rfl rfl))
  have t9 : evalT (gg k) (.val (.var 9)) (dR μ xs ys X Y h t (some (nD (lvv xs ys h t))) (some b9)) (dH μ acc) = .ok (decide (h < xs.length) && decide (t < ys.length)) (dH μ acc) := tv_bl (ev_var rfl)
  have tEq : ∀ {x y : Bw}, xs[h]? = some x → ys[t]? = some y → evalT (gg k) (.val (.cmp .eq (.idx (.var 2) (.var 6)) (.idx (.var 3) (.var 7)))) (dR μ xs ys X Y h t (some (nD (lvv xs ys h t))) (some b9)) (dH μ acc) = .ok (decide (x = y)) (dH μ acc) := fun {x y} h1 h2 => tv_bl (ev_cmp (ev_idx (ev_var rfl) (ev_var rfl) (ix_tup (bget h1))) (ev_idx (ev_var rfl) (ev_var rfl) (ix_tup (bget h2))) (eq_bw (hx _ (List.mem_of_getElem? h1)) (hy _ (List.mem_of_getElem? h2))))
  have tSw : h < xs.length → t < ys.length → evalT (gg k) (.val (.cmp .eq (.bin .add (.idx (.idx (.var 4) (.bin .add (.var 6) (.cst (.int 1)))) (.bin .add (.var 7) (.cst (.int 1)))) (.cst (.int 1))) (.var 8))) (dR μ xs ys X Y h t (some (nD (lvv xs ys h t))) (some b9)) (dH μ acc) = .ok (decide (lvv xs ys (h + 1) (t + 1) + 1 = lvv xs ys h t)) (dH μ acc) := fun h1 h2 => tv_bl (ev_cmp (ev_add1 (ev_idx (ev_idx (ev_var rfl) (ev_add1 (ev_var rfl)) (ix_lst (rws_get (i := h + 1) h1))) (ev_add1 (ev_var rfl)) (ix_lst (rowR_get (j := t + 1) h2)))) (ev_var rfl) eq_n)
  have tCu : h < xs.length → evalT (gg k) (.val (.cmp .eq (.bin .add (.idx (.idx (.var 4) (.bin .add (.var 6) (.cst (.int 1)))) (.var 7)) (.cst (.int 1))) (.var 8))) (dR μ xs ys X Y h t (some (nD (lvv xs ys h t))) (some b9)) (dH μ acc) = .ok (decide (lvv xs ys (h + 1) t + 1 = lvv xs ys h t)) (dH μ acc) := fun h1 => tv_bl (ev_cmp (ev_add1 (ev_idx (ev_idx (ev_var rfl) (ev_add1 (ev_var rfl)) (ix_lst (rws_get (i := h + 1) h1))) (ev_var rfl) (ix_lst (rowR_get ht)))) (ev_var rfl) eq_n)
  have tHe : evalT (gg k) (.val (.cmp .lt (.var 6) (.bif .len (.cons (.var 2) .nil)))) (dR μ xs ys X Y h t (some (nD (lvv xs ys h t))) (some b9)) (dH μ acc) = .ok (decide (h < xs.length)) (dH μ acc) := tv_bl (ltE rfl rfl)
  have eY : ∀ {y : Bw}, ys[t]? = some y → evalE (gg k) (.idx (.var 3) (.var 7)) (dR μ xs ys X Y h t (some (nD (lvv xs ys h t))) (some b9)) (dH μ acc) = .ok (bD y) (dH μ acc) := fun {y} h2 => ev_idx (ev_var rfl) (ev_var rfl) (ix_tup (bget h2))
  rcases sc_cases hh ht hn with ⟨x, h1, h2, g1, g2, e1, e⟩ | ⟨x, y, h1, h2, g1, g2, ne, e1, e⟩ | ⟨h1, hq, e1, e⟩ | ⟨y, h2, g2, hq, e⟩
  · refine ⟨_, _, _, some (nD (lvv xs ys h t)), some b9, e, h1, h2, by omega, run_nx s8 (run_nx s9 (run_nx (ifs_true (tv_and_t (by rw [t9, decide_eq_true h1, decide_eq_true h2]; rfl) (by rw [tEq g1 g2, decide_eq_true rfl])) (run_nx (push (d := .keep) rfl hl ev_cst) (run_nx (aug1 rfl) (run_nx (aug1 rfl) run_nil)))) run_nil))⟩
  · refine ⟨_, _, _, some (nD (lvv xs ys h t)), some b9, e, h1, h2, by omega, run_nx s8 (run_nx s9 (run_nx (ifs_false (tv_and_t (by rw [t9, decide_eq_true h1, decide_eq_true h2]; rfl) (by rw [tEq g1 g2, decide_eq_false ne])) (run_nx (ifs_true (tv_and_t (by rw [t9, decide_eq_true h1, decide_eq_true h2]; rfl) (by rw [tSw h1 h2, decide_eq_true e1])) (run_nx (push (d := .swap y) rfl hl (ev_tup2 ev_cst (eY g2))) (run_nx (aug1 rfl) (run_nx (aug1 rfl) run_nil)))) run_nil)) run_nil))⟩
  · have n1 : evalT (gg k) (.and (.val (.var 9)) (.val (.cmp .eq (.idx (.var 2) (.var 6)) (.idx (.var 3) (.var 7))))) (dR μ xs ys X Y h t (some (nD (lvv xs ys h t))) (some b9)) (dH μ acc) = .ok false (dH μ acc) := by
      by_cases h2 : t < ys.length
      · obtain ⟨x, y, g1, g2, ne, _⟩ := hq h2
        exact tv_and_t (by rw [t9, decide_eq_true h1, decide_eq_true h2]; rfl) (by rw [tEq g1 g2, decide_eq_false ne])
      · exact tv_and_f (by rw [t9, decide_eq_false h2, Bool.and_false])
    have n2 : evalT (gg k) (.and (.val (.var 9)) (.val (.cmp .eq (.bin .add (.idx (.idx (.var 4) (.bin .add (.var 6) (.cst (.int 1)))) (.bin .add (.var 7) (.cst (.int 1)))) (.cst (.int 1))) (.var 8)))) (dR μ xs ys X Y h t (some (nD (lvv xs ys h t))) (some b9)) (dH μ acc) = .ok false (dH μ acc) := by
      by_cases h2 : t < ys.length
      · obtain ⟨x, y, g1, g2, ne, ne2⟩ := hq h2
        exact tv_and_t (by rw [t9, decide_eq_true h1, decide_eq_true h2]; rfl) (by rw [tSw h1 h2, decide_eq_false ne2])
      · exact tv_and_f (by rw [t9, decide_eq_false h2, Bool.and_false])
    refine ⟨_, _, _, some (nD (lvv xs ys h t)), some b9, e, h1, ht, by omega, run_nx s8 (run_nx s9 (run_nx (ifs_false n1 (run_nx (ifs_false n2 (run_nx (ifs_true (tv_and_t (by rw [tHe, decide_eq_true h1]) (by rw [tCu h1, decide_eq_true e1])) (run_nx (push (d := .cut) rfl hl ev_cst) (run_nx (aug1 rfl) run_nil))) run_nil)) run_nil)) run_nil))⟩
  · have n1 : evalT (gg k) (.and (.val (.var 9)) (.val (.cmp .eq (.idx (.var 2) (.var 6)) (.idx (.var 3) (.var 7))))) (dR μ xs ys X Y h t (some (nD (lvv xs ys h t))) (some b9)) (dH μ acc) = .ok false (dH μ acc) := by
      by_cases h1 : h < xs.length
      · obtain ⟨x, g1, ne, _⟩ := hq h1
        exact tv_and_t (by rw [t9, decide_eq_true h1, decide_eq_true h2]; rfl) (by rw [tEq g1 g2, decide_eq_false ne])
      · exact tv_and_f (by rw [t9, decide_eq_false h1, Bool.false_and])
    have n2 : evalT (gg k) (.and (.val (.var 9)) (.val (.cmp .eq (.bin .add (.idx (.idx (.var 4) (.bin .add (.var 6) (.cst (.int 1)))) (.bin .add (.var 7) (.cst (.int 1)))) (.cst (.int 1))) (.var 8)))) (dR μ xs ys X Y h t (some (nD (lvv xs ys h t))) (some b9)) (dH μ acc) = .ok false (dH μ acc) := by
      by_cases h1 : h < xs.length
      · obtain ⟨x, g1, ne, ne2, _⟩ := hq h1
        exact tv_and_t (by rw [t9, decide_eq_true h1, decide_eq_true h2]; rfl) (by rw [tSw h1 h2, decide_eq_false ne2])
      · exact tv_and_f (by rw [t9, decide_eq_false h1, Bool.false_and])
    have n3 : evalT (gg k) (.and (.val (.cmp .lt (.var 6) (.bif .len (.cons (.var 2) .nil)))) (.val (.cmp .eq (.bin .add (.idx (.idx (.var 4) (.bin .add (.var 6) (.cst (.int 1)))) (.var 7)) (.cst (.int 1))) (.var 8)))) (dR μ xs ys X Y h t (some (nD (lvv xs ys h t))) (some b9)) (dH μ acc) = .ok false (dH μ acc) := by
      by_cases h1 : h < xs.length
      · obtain ⟨x, g1, ne, ne2, ne3⟩ := hq h1
        exact tv_and_t (by rw [tHe, decide_eq_true h1]) (by rw [tCu h1, decide_eq_false ne3])
      · exact tv_and_f (by rw [tHe, decide_eq_false h1])
    refine ⟨_, _, _, some (nD (lvv xs ys h t)), some b9, e, hh, h2, by omega, run_nx s8 (run_nx s9 (run_nx (ifs_false n1 (run_nx (ifs_false n2 (run_nx (ifs_false n3 (run_nx (push (d := .put y) rfl hl (ev_tup2 ev_cst (eY g2))) (run_nx (aug1 rfl) run_nil))) run_nil)) run_nil)) run_nil))⟩
theorem dist_ok {X Y : D} (hμ : PureM μ) (hx : ∀ x ∈ xs, okB x) (hy : ∀ y ∈ ys, okB y) (h1 : xs.length ≤ 500) (h2 : ys.length ≤ 500) (eX : (gg (k)).call n_skeleton [X] μ = .ok (.tup (xs.map bD)) μ) (eY : (gg (k)).call n_skeleton [Y] μ = .ok (.tup (ys.map bD)) μ) (eT : (gg (k)).call n_tails [.tup (xs.map bD), .tup (ys.map bD)] μ = .ok (.lst (rws ys xs)) μ) :
    (gg (k + 1)).call n_distance [X, Y] μ = .ok (.tup [nD (lv xs ys), .tup ((sc xs ys).map dD)]) μ := by
  have hsl : (sc xs ys).length ≤ 1000 := Nat.le_trans (scr_len xs ys) (by omega)
  obtain ⟨ρ', μ', q, a, b, h', t', e1, e2⟩ := whl_dec (c := fun ρ μ => evalT (gg k) wT ρ μ) (f := fun ρ μ => runB (gg k) wB ρ μ)
    (fun m ρ ν => ∃ h t acc o8 o9, m = (xs.length - h) + (ys.length - t) ∧ h ≤ xs.length ∧ t ≤ ys.length ∧ acc ++ sc (xs.drop h) (ys.drop t) = sc xs ys ∧ ρ = dR μ xs ys X Y h t o8 o9 ∧ ν = dH μ acc)
    (fun ρ ν => ∃ o8 o9 h t, ρ = dR μ xs ys X Y h t o8 o9 ∧ ν = dH μ (sc xs ys))
    (by
      rintro m ρ ν ⟨h, t, acc, o8, o9, hm, hh, ht, ha, rfl, rfl⟩
      have ltT : ∀ {v w i : Nat} {l : List Bw} (h1 : (dR μ xs ys X Y h t o8 o9)[v]? = some (some (nD i))) (h2 : (dR μ xs ys X Y h t o8 o9)[w]? = some (some (.tup (l.map bD)))), evalT (gg k) (.val (.cmp .lt (.var v) (.bif .len (.cons (.var w) .nil)))) (dR μ xs ys X Y h t o8 o9) (dH μ acc) = .ok (decide (i < l.length)) (dH μ acc) := fun h1 h2 => tv_bl (ev_cmp (ev_var h1) (ev_bif1 (ev_var h2) len_tup) (by rw [List.length_map]; exact lt_n))
      have hal : acc.length ≤ 5000 := by
        have := congrArg List.length ha
        rw [List.length_append] at this
        omega
      by_cases hn : h < xs.length ∨ t < ys.length
      · obtain ⟨d, h', t', o8', o9', e, b1, b2, b3, q⟩ := ds_step (k := k) (μ := μ) (X := X) (Y := Y) (acc := acc) (o8 := o8) (o9 := o9) hx hy hh ht hn hal
        refine .inr ⟨?_, _, _, _, q, ?_, h', t', acc ++ [d], o8', o9', rfl, b1, b2, ?_, rfl, rfl⟩
        · by_cases c1 : h < xs.length
          · exact tv_or_t (by rw [ltT rfl rfl, decide_eq_true c1])
          · exact tv_or_f (by rw [ltT rfl rfl, decide_eq_false c1]) (by rw [ltT rfl rfl, decide_eq_true (hn.resolve_left c1)])
        · omega
        · rw [← ha, e]; simp
      · refine .inl ⟨tv_or_f (by rw [ltT rfl rfl, decide_eq_false (fun z => hn (.inl z))]) (by rw [ltT rfl rfl, decide_eq_false (fun z => hn (.inr z))]), o8, o9, h, t, rfl, ?_⟩
        rw [← ha, sc_end (by omega) (by omega), List.append_nil])
    100000 (xs.length + ys.length) (by omega) (ρ := dR μ xs ys X Y 0 0 none none) (μ := dH μ []) ⟨0, 0, [], none, none, rfl, Nat.zero_le _, Nat.zero_le _, rfl, rfl, rfl⟩
  subst e1 e2
  have s0 : runS (gg k) (nthS b_distance 0) [some X, some Y, none, none, none, none, none, none, none, none] μ = .nx [some X, some Y, some (.tup (xs.map bD)), none, none, none, none, none, none, none] μ := st_set (ev_call1 (ev_var rfl) eX)
  have s1 : runS (gg k) (nthS b_distance 1) [some X, some Y, some (.tup (xs.map bD)), none, none, none, none, none, none, none] μ = .nx [some X, some Y, some (.tup (xs.map bD)), some (.tup (ys.map bD)), none, none, none, none, none, none] μ := st_set (ev_call1 (ev_var rfl) eY)
  have s2 : runS (gg k) (nthS b_distance 2) [some X, some Y, some (.tup (xs.map bD)), some (.tup (ys.map bD)), none, none, none, none, none, none] μ = .nx [some X, some Y, some (.tup (xs.map bD)), some (.tup (ys.map bD)), some (.lst (rws ys xs)), none, none, none, none, none] μ := st_set (ev_call2 (ev_var rfl) (ev_var rfl) eT)
  have hp : pureD (.tup [nD (lv xs ys), .tup ((sc xs ys).map dD)]) = true := by
    show (true && (pureDs _ && true)) = true
    rw [pureDs_map dD_pure]; rfl
  refine call_more c_distance hμ hp (run_nx s0 (run_nx s1 (run_nx s2 (run_nx (ρ' := [some X, some Y, some (.tup (xs.map bD)), some (.tup (ys.map bD)), some (.lst (rws ys xs)), some (.ref μ.length), none, none, none, none]) (μ' := dH μ []) (st_new ev_lst0) (run_nx (st_set ev_cst) (run_nx (st_set ev_cst) (run_nx (st_whl q) (run_rt (st_ret (ev_tup2 (ev_idx (ev_idx (ev_var rfl) ev_cst (ix_lst (n := 0) (rws_get (Nat.zero_le _)))) ev_cst (ix_lst (n := 0) (rowR_get (Nat.zero_le _)))) (ev_bif1 (ev_var rfl) (tuple_ref snoc_get))))))))))))
end
end PyI.K26
/-! V6: the law's script. -/
namespace PyI.K26
open PySem L2 PyProof.Rows
section
variable {k : Nat} {μ : Mu} {xs ys : List Bw}
abbrev cB : B := forB (nthS b_law_script 3)
abbrev cR (μ : Mu) (xs ys : List Bw) (n : Nat) (h t : Nat) (o6 o7 : Option D) : Rho := [some (.tup (xs.map bD)), some (.tup (ys.map bD)), some (.ref (μ.length + 0)), some (nD h), some (nD t), some (.ref n), o6, o7]
theorem cs_step {kvs : List (List Key × D)} {J : List MO} {h t n : Nat} {acc : List (Dd Bw)} {o6 o7 : Option D} (hT : Tb xs ys kvs (fun _ _ => True)) (hx : ∀ x ∈ xs, okB x) (hy : ∀ y ∈ ys, okB y) (hh : h ≤ xs.length) (ht : t ≤ ys.length) (hl : acc.length ≤ 5000) (hnn : (μ ++ (MO.dt kvs :: J)).length = n) :
    (h = xs.length ∧ t = ys.length ∧ ∃ o7', runB (gg k) cB (cR μ xs ys n h t o6 o7) (dH (μ ++ (MO.dt kvs :: J)) acc) = .nx (cR μ xs ys n h t o6 o7') (dH (μ ++ (MO.dt kvs :: J)) acc)) ∨
    ∃ d h' t' o7', sc (xs.drop h) (ys.drop t) = d :: sc (xs.drop h') (ys.drop t') ∧ h' ≤ xs.length ∧ t' ≤ ys.length ∧ h + t < h' + t' ∧ runB (gg k) cB (cR μ xs ys n h t o6 o7) (dH (μ ++ (MO.dt kvs :: J)) acc) = .nx (cR μ xs ys n h' t' o6 o7') (dH (μ ++ (MO.dt kvs :: J)) (acc ++ [d])) := by
  subst hnn
  generalize hν : (μ ++ (MO.dt kvs :: J)) = ν
  have g0 : ∀ {m : MO}, (ν ++ [m])[μ.length + 0]? = some (.dt kvs) := fun {m} => by rw [← hν, fr_app]; exact fr_get
  have hkk : ∀ {a b : Nat}, keysD (.tup [nD a, nD b]) = some (kij a b) := fun {a b} => rfl
  have ix : ∀ {a b : Nat}, a ≤ xs.length → b ≤ ys.length → idxA (.ref (μ.length + 0)) (.tup [nD a, nD b]) (dH ν acc) = .ok (nD (lvv xs ys a b)) (dH ν acc) := fun {a b} h1 h2 => ix_dt g0 hkk (hT a b h1 h2 trivial)
  let R : Rho := cR μ xs ys ν.length h t o6 (some (nD (lvv xs ys h t)))
  have s7 : runS (gg k) (.set (.nm 7) (.idx (.var 2) (.tup (.cons (.var 3) (.cons (.var 4) .nil))))) (cR μ xs ys ν.length h t o6 o7) (dH ν acc) = .nx R (dH ν acc) := st_set (ev_idx (ev_var rfl) (ev_tup2 (ev_var rfl) (ev_var rfl)) (ix hh ht))
  have tI : evalT (gg k) (.val (.cmp .lt (.var 3) (.bif .len (.cons (.var 0) .nil)))) R (dH ν acc) = .ok (decide (h < xs.length)) (dH ν acc) := lt_len rfl rfl
  have tJ : evalT (gg k) (.val (.cmp .lt (.var 4) (.bif .len (.cons (.var 1) .nil)))) R (dH ν acc) = .ok (decide (t < ys.length)) (dH ν acc) := lt_len rfl rfl
  have tEq : ∀ {x y : Bw}, xs[h]? = some x → ys[t]? = some y → evalT (gg k) (.val (.cmp .eq (.idx (.var 0) (.var 3)) (.idx (.var 1) (.var 4)))) R (dH ν acc) = .ok (decide (x = y)) (dH ν acc) := fun {x y} h1 h2 => tv_bl (ev_cmp (ev_idx (ev_var rfl) (ev_var rfl) (ix_tup (bget h1))) (ev_idx (ev_var rfl) (ev_var rfl) (ix_tup (bget h2))) (eq_bw (hx _ (List.mem_of_getElem? h1)) (hy _ (List.mem_of_getElem? h2))))
  have e11 : h < xs.length → t < ys.length → evalE (gg k) (.idx (.var 2) (.tup (.cons (.bin .add (.var 3) (.cst (.int 1))) (.cons (.bin .add (.var 4) (.cst (.int 1))) .nil)))) R (dH ν acc) = .ok (nD (lvv xs ys (h + 1) (t + 1))) (dH ν acc) := fun h1 h2 => ev_idx (ev_var rfl) (ev_tup2 (ev_add1 (ev_var rfl)) (ev_add1 (ev_var rfl))) (ix h1 h2)
  have tKe : h < xs.length → t < ys.length → evalT (gg k) (.val (.cmp .eq (.idx (.var 2) (.tup (.cons (.bin .add (.var 3) (.cst (.int 1))) (.cons (.bin .add (.var 4) (.cst (.int 1))) .nil)))) (.var 7))) R (dH ν acc) = .ok (decide (lvv xs ys (h + 1) (t + 1) = lvv xs ys h t)) (dH ν acc) := fun h1 h2 => tv_bl (ev_cmp (e11 h1 h2) (ev_var rfl) eq_n)
  have tSw : h < xs.length → t < ys.length → evalT (gg k) (.val (.cmp .eq (.bin .add (.idx (.var 2) (.tup (.cons (.bin .add (.var 3) (.cst (.int 1))) (.cons (.bin .add (.var 4) (.cst (.int 1))) .nil)))) (.cst (.int 1))) (.var 7))) R (dH ν acc) = .ok (decide (lvv xs ys (h + 1) (t + 1) + 1 = lvv xs ys h t)) (dH ν acc) := fun h1 h2 => tv_bl (ev_cmp (ev_add1 (e11 h1 h2)) (ev_var rfl) eq_n)
  have tCu : h < xs.length → evalT (gg k) (.val (.cmp .eq (.bin .add (.idx (.var 2) (.tup (.cons (.bin .add (.var 3) (.cst (.int 1))) (.cons (.var 4) .nil)))) (.cst (.int 1))) (.var 7))) R (dH ν acc) = .ok (decide (lvv xs ys (h + 1) t + 1 = lvv xs ys h t)) (dH ν acc) := fun h1 => tv_bl (ev_cmp (ev_add1 (ev_idx (ev_var rfl) (ev_tup2 (ev_add1 (ev_var rfl)) (ev_var rfl)) (ix h1 ht))) (ev_var rfl) eq_n)
  have eY : ∀ {y : Bw}, ys[t]? = some y → evalE (gg k) (.idx (.var 1) (.var 4)) R (dH ν acc) = .ok (bD y) (dH ν acc) := fun {y} h2 => ev_idx (ev_var rfl) (ev_var rfl) (ix_tup (bget h2))
  have TT : h < xs.length → evalT (gg k) (.val (.cmp .lt (.var 3) (.bif .len (.cons (.var 0) .nil)))) R (dH ν acc) = .ok true (dH ν acc) := fun h1 => by rw [tI, decide_eq_true h1]
  have TF : ¬ h < xs.length → evalT (gg k) (.val (.cmp .lt (.var 3) (.bif .len (.cons (.var 0) .nil)))) R (dH ν acc) = .ok false (dH ν acc) := fun h1 => by rw [tI, decide_eq_false h1]
  have UT : t < ys.length → evalT (gg k) (.val (.cmp .lt (.var 4) (.bif .len (.cons (.var 1) .nil)))) R (dH ν acc) = .ok true (dH ν acc) := fun h1 => by rw [tJ, decide_eq_true h1]
  have UF : ¬ t < ys.length → evalT (gg k) (.val (.cmp .lt (.var 4) (.bif .len (.cons (.var 1) .nil)))) R (dH ν acc) = .ok false (dH ν acc) := fun h1 => by rw [tJ, decide_eq_false h1]
  by_cases hn : h < xs.length ∨ t < ys.length
  · right
    have key : (∃ x y, h < xs.length ∧ t < ys.length ∧ xs[h]? = some x ∧ ys[t]? = some y ∧ x ≠ y ∧ lvv xs ys (h + 1) (t + 1) + 1 ≠ lvv xs ys h t) ∨ ¬ (h < xs.length ∧ t < ys.length) →
        evalT (gg k) (.and (.val (.cmp .lt (.var 3) (.bif .len (.cons (.var 0) .nil)))) (.and (.val (.cmp .lt (.var 4) (.bif .len (.cons (.var 1) .nil)))) (.and (.val (.cmp .eq (.idx (.var 0) (.var 3)) (.idx (.var 1) (.var 4)))) (.val (.cmp .eq (.idx (.var 2) (.tup (.cons (.bin .add (.var 3) (.cst (.int 1))) (.cons (.bin .add (.var 4) (.cst (.int 1))) .nil)))) (.var 7)))))) R (dH ν acc) = .ok false (dH ν acc) ∧
        evalT (gg k) (.and (.val (.cmp .lt (.var 3) (.bif .len (.cons (.var 0) .nil)))) (.and (.val (.cmp .lt (.var 4) (.bif .len (.cons (.var 1) .nil)))) (.val (.cmp .eq (.bin .add (.idx (.var 2) (.tup (.cons (.bin .add (.var 3) (.cst (.int 1))) (.cons (.bin .add (.var 4) (.cst (.int 1))) .nil)))) (.cst (.int 1))) (.var 7))))) R (dH ν acc) = .ok false (dH ν acc) := by
      rintro (⟨x, y, h1, h2, g1, g2, ne, ne2⟩ | nn)
      · exact ⟨tv_and_t (TT h1) (tv_and_t (UT h2) (tv_and_f (by rw [tEq g1 g2, decide_eq_false ne]))), tv_and_t (TT h1) (tv_and_t (UT h2) (by rw [tSw h1 h2, decide_eq_false ne2]))⟩
      · by_cases h1 : h < xs.length
        · have h2 : ¬ t < ys.length := fun z => nn ⟨h1, z⟩
          exact ⟨tv_and_t (TT h1) (tv_and_f (UF h2)), tv_and_t (TT h1) (tv_and_f (UF h2))⟩
        · exact ⟨tv_and_f (TF h1), tv_and_f (TF h1)⟩
    rcases sc_cases hh ht hn with ⟨x, h1, h2, g1, g2, e1, e⟩ | ⟨x, y, h1, h2, g1, g2, ne, e1, e⟩ | ⟨h1, hq, e1, e⟩ | ⟨y, h2, g2, hq, e⟩
    · exact ⟨_, _, _, some (nD (lvv xs ys h t)), e, h1, h2, by omega, run_nx s7 (run_nx (ifs_true (tv_and_t (TT h1) (tv_and_t (UT h2) (tv_and_t (by rw [tEq g1 g2, decide_eq_true rfl]) (by rw [tKe h1 h2, decide_eq_true e1])))) (run_nx (push (d := .keep) rfl hl ev_cst) (run_nx (st_par2 (ev_add1 (ev_var rfl)) (ev_add1 (ev_var rfl))) run_nil))) run_nil)⟩
    · exact ⟨_, _, _, some (nD (lvv xs ys h t)), e, h1, h2, by omega, run_nx s7 (run_nx (ifs_false (tv_and_t (TT h1) (tv_and_t (UT h2) (tv_and_f (by rw [tEq g1 g2, decide_eq_false ne])))) (run_nx (ifs_true (tv_and_t (TT h1) (tv_and_t (UT h2) (by rw [tSw h1 h2, decide_eq_true e1]))) (run_nx (push (d := .swap y) rfl hl (ev_tup2 ev_cst (eY g2))) (run_nx (st_par2 (ev_add1 (ev_var rfl)) (ev_add1 (ev_var rfl))) run_nil))) run_nil)) run_nil)⟩
    · obtain ⟨n1, n2⟩ := key (by
        by_cases h2 : t < ys.length
        · obtain ⟨x, y, g1, g2, ne, ne2⟩ := hq h2
          exact .inl ⟨x, y, h1, h2, g1, g2, ne, ne2⟩
        · exact .inr fun z => h2 z.2)
      exact ⟨_, _, _, some (nD (lvv xs ys h t)), e, h1, ht, by omega, run_nx s7 (run_nx (ifs_false n1 (run_nx (ifs_false n2 (run_nx (ifs_true (tv_and_t (TT h1) (by rw [tCu h1, decide_eq_true e1])) (run_nx (push (d := .cut) rfl hl ev_cst) (run_nx (st_set (ev_add1 (ev_var rfl))) run_nil))) run_nil)) run_nil)) run_nil)⟩
    · obtain ⟨n1, n2⟩ := key (by
        by_cases h1 : h < xs.length
        · obtain ⟨x, g1, ne, ne2, _⟩ := hq h1
          exact .inl ⟨x, y, h1, h2, g1, g2, ne, ne2⟩
        · exact .inr fun z => h1 z.1)
      have n3 : evalT (gg k) (.and (.val (.cmp .lt (.var 3) (.bif .len (.cons (.var 0) .nil)))) (.val (.cmp .eq (.bin .add (.idx (.var 2) (.tup (.cons (.bin .add (.var 3) (.cst (.int 1))) (.cons (.var 4) .nil)))) (.cst (.int 1))) (.var 7)))) R (dH ν acc) = .ok false (dH ν acc) := by
        by_cases h1 : h < xs.length
        · obtain ⟨x, g1, ne, ne2, ne3⟩ := hq h1
          exact tv_and_t (TT h1) (by rw [tCu h1, decide_eq_false ne3])
        · exact tv_and_f (TF h1)
      exact ⟨_, _, _, some (nD (lvv xs ys h t)), e, hh, h2, by omega, run_nx s7 (run_nx (ifs_false n1 (run_nx (ifs_false n2 (run_nx (ifs_false n3 (run_nx (ifs_true (UT h2) (run_nx (push (d := .put y) rfl hl (ev_tup2 ev_cst (eY g2))) (run_nx (st_set (ev_add1 (ev_var rfl))) run_nil))) run_nil)) run_nil)) run_nil)) run_nil)⟩
  · left
    have a1 : ¬ h < xs.length := fun z => hn (.inl z)
    have a2 : ¬ t < ys.length := fun z => hn (.inr z)
    exact ⟨by omega, by omega, some (nD (lvv xs ys h t)), run_nx s7 (run_nx (ifs_false (tv_and_f (TF a1)) (run_nx (ifs_false (tv_and_f (TF a1)) (run_nx (ifs_false (tv_and_f (TF a1)) (run_nx (ifs_false (UF a2) run_nil) run_nil)) run_nil)) run_nil)) run_nil)⟩
theorem script_ok (hμ : PureM μ) (hx : ∀ x ∈ xs, okB x) (hy : ∀ y ∈ ys, okB y) (h1 : xs.length ≤ 500) (h2 : ys.length ≤ 500) : (gg (k + 2)).call n_law_script [.tup (xs.map bD), .tup (ys.map bD)] μ = .ok (.tup [nD (lv xs ys), .tup ((sc xs ys).map dD)]) μ := by
  obtain ⟨kvs, J, hT, eT⟩ := table_ok (k := k) (μ := μ) hx hy h1 h2
  have hsl : (sc xs ys).length ≤ 1000 := Nat.le_trans (scr_len xs ys) (by omega)
  obtain ⟨ρ', μ', q, h, t, acc, o6, o7, hr, hh, ht, ha, e1, e2⟩ := for_range (f := fbody (gg (k + 1)) (.nm 6) cB) (lo := 0) (n := xs.length + ys.length) (ρ := cR μ xs ys (μ ++ (MO.dt kvs :: J)).length 0 0 none none) (μ := dH (μ ++ (MO.dt kvs :: J)) [])
    (fun i ρ ν => ∃ h t acc o6 o7, xs.length + ys.length ≤ h + t + (xs.length + ys.length - i) ∧ h ≤ xs.length ∧ t ≤ ys.length ∧ acc ++ sc (xs.drop h) (ys.drop t) = sc xs ys ∧ ρ = cR μ xs ys (μ ++ (MO.dt kvs :: J)).length h t o6 o7 ∧ ν = dH (μ ++ (MO.dt kvs :: J)) acc)
    ⟨0, 0, [], none, none, by omega, Nat.zero_le _, Nat.zero_le _, rfl, rfl, rfl⟩ (by
      rintro i hi ρ ν ⟨h, t, acc, o6, o7, hm, hh, ht, ha, rfl, rfl⟩
      left
      generalize (0 : Int) + (i : Int) = z
      rw [fbody_nm]
      have hal : acc.length ≤ 5000 := by
        have := congrArg List.length ha
        rw [List.length_append] at this
        omega
      rcases cs_step (k := k + 1) (μ := μ) (J := J) (o6 := some (.int z)) (o7 := o7) hT hx hy hh ht hal rfl with ⟨c1, c2, o7', q⟩ | ⟨d, h', t', o7', e, b1, b2, b3, q⟩
      · exact ⟨_, _, q, h, t, acc, some (.int z), o7', by omega, hh, ht, ha, rfl, rfl⟩
      · exact ⟨_, _, q, h', t', acc ++ [d], some (.int z), o7', by omega, b1, b2, by rw [← ha, e]; simp, rfl, rfl⟩)
  have hacc : acc = sc xs ys := by
    rw [← ha, sc_end (by omega) (by omega), List.append_nil]
  subst e1 e2 hacc
  have hp : pureD (.tup [nD (lv xs ys), .tup ((sc xs ys).map dD)]) = true := by
    show (true && (pureDs _ && true)) = true
    rw [pureDs_map dD_pure]; rfl
  have s0 : runS (gg (k + 1)) (nthS b_law_script 0) [some (.tup (xs.map bD)), some (.tup (ys.map bD)), none, none, none, none, none, none] μ = .nx [some (.tup (xs.map bD)), some (.tup (ys.map bD)), some (.ref (μ.length + 0)), none, none, none, none, none] (μ ++ (MO.dt kvs :: J)) := st_set (ev_call2 (ev_var rfl) (ev_var rfl) eT)
  have s1 : runS (gg (k + 1)) (nthS b_law_script 1) [some (.tup (xs.map bD)), some (.tup (ys.map bD)), some (.ref (μ.length + 0)), none, none, none, none, none] (μ ++ (MO.dt kvs :: J)) = .nx [some (.tup (xs.map bD)), some (.tup (ys.map bD)), some (.ref (μ.length + 0)), some (nD 0), some (nD 0), none, none, none] (μ ++ (MO.dt kvs :: J)) := st_tp2 (ev_tup2 ev_cst ev_cst)
  have s2 : runS (gg (k + 1)) (nthS b_law_script 2) [some (.tup (xs.map bD)), some (.tup (ys.map bD)), some (.ref (μ.length + 0)), some (nD 0), some (nD 0), none, none, none] (μ ++ (MO.dt kvs :: J)) = .nx (cR μ xs ys (μ ++ (MO.dt kvs :: J)).length 0 0 none none) (dH (μ ++ (MO.dt kvs :: J)) []) := st_new ev_lst0
  have it : evalIt (gg (k + 1)) (.rng1 (.bin .add (.bif .len (.cons (.var 0) .nil)) (.bif .len (.cons (.var 1) .nil)))) (cR μ xs ys (μ ++ (MO.dt kvs :: J)).length 0 0 none none) (dH (μ ++ (MO.dt kvs :: J)) []) = .ok (rngD 0 (xs.length + ys.length), none) (dH (μ ++ (MO.dt kvs :: J)) []) := it_rng1 (i := ((xs.length + ys.length : Nat) : Int)) (ev_bin (ev_bif1 (ev_var rfl) len_tup) (ev_bif1 (ev_var rfl) len_tup) (by rw [List.length_map, List.length_map]; exact add_n)) rfl (by omega)
  have s4 : evalE (gg (k + 1)) (.tup (.cons (.idx (.var 2) (.tup (.cons (.cst (.int 0)) (.cons (.cst (.int 0)) .nil)))) (.cons (.bif .tuple (.cons (.var 5) .nil)) .nil))) (cR μ xs ys (μ ++ (MO.dt kvs :: J)).length h t o6 o7) (dH (μ ++ (MO.dt kvs :: J)) (sc xs ys)) = .ok (.tup [nD (lv xs ys), .tup ((sc xs ys).map dD)]) (dH (μ ++ (MO.dt kvs :: J)) (sc xs ys)) :=
    ev_tup2 (ev_idx (ev_var rfl) (ev_tup2 ev_cst ev_cst) (ix_dt (ks := kij 0 0) (by rw [dH, fr_app]; exact fr_get) rfl (hT 0 0 (Nat.zero_le _) (Nat.zero_le _) trivial))) (ev_bif1 (ev_var rfl) (tuple_ref snoc_get))
  have full := run_nx s0 (run_nx s1 (run_nx s2 (run_nx (for_run' it q) (run_rt (b := .nil) (st_ret s4)))))
  rw [dH, fr_app] at full
  exact call_more c_law_script hμ hp full
end
end PyI.K26
/-! V7: played. -/
namespace PyI.K26
open PySem L2 PyProof.Rows
inductive De where
  | d (x : Dd Bw)
  | j
  | y
def eD : De → D
  | .d x => dD x
  | .j => .tup [.str "jump", .str "z"]
  | .y => .str "stay"
def okE : De → Prop
  | .d (.swap b) => okB b
  | .d (.put b) => okB b
  | _ => True
section
variable (xs : List Bw)
def stp (e : De) (a : Nat) (m : List Bw) : Option (Nat × List Bw) := match e with
  | .d .keep => (xs[a]?).map fun x => (a + 1, m ++ [x])
  | .d .cut => if a < xs.length then some (a + 1, m) else none
  | .d (.swap b) => if a < xs.length then some (a + 1, m ++ [b]) else none
  | .d (.put b) => some (a, m ++ [b])
  | .j => none
  | .y => none
def rl : List De → Nat → List Bw → Nat → (Nat × List Bw) ⊕ Nat
  | [], a, m, _ => .inl (a, m)
  | e :: es, a, m, p => match stp xs e a m with
    | some (a', m') => rl es a' m' (p + 1)
    | none => .inr p
def pl (es : List De) : List Bw ⊕ Nat := match rl xs es 0 [] 0 with
  | .inr q => .inr q
  | .inl (a, m) => if a = xs.length then .inl m else .inr es.length
end
def resD : List Bw ⊕ Nat → D
  | .inl l => .tup (l.map bD)
  | .inr n => nD n
theorem stp_le {xs : List Bw} {e : De} {a a' : Nat} {m m' : List Bw} (h : stp xs e a m = some (a', m')) (ha : a ≤ xs.length) : a' ≤ xs.length ∧ m'.length ≤ m.length + 1 := by
  unfold stp at h
  split at h
  · cases hx : xs[a]? with
    | none => rw [hx] at h; cases h
    | some x =>
      rw [hx] at h
      have := (List.getElem?_eq_some_iff.mp hx).1
      cases h
      exact ⟨this, by simp⟩
  · split at h
    · cases h; exact ⟨by omega, by omega⟩
    · cases h
  · split at h
    · cases h; exact ⟨by omega, by simp⟩
    · cases h
  · cases h; exact ⟨ha, by simp⟩
  · cases h
  · cases h
theorem rl_le {xs : List Bw} : ∀ {es : List De} {a p a' : Nat} {m m' : List Bw}, rl xs es a m p = .inl (a', m') → a ≤ xs.length → a' ≤ xs.length
  | [], a, p, a', m, m', h, ha => by cases h; exact ha
  | e :: es, a, p, a', m, m', h, ha => by
    unfold rl at h
    cases hs : stp xs e a m with
    | none => rw [hs] at h; cases h
    | some q =>
      obtain ⟨a1, m1⟩ := q
      rw [hs] at h
      exact rl_le h (stp_le hs ha).1
/-- played, a least script gives the other one -/
theorem rl_sc (xs : List Bw) : ∀ (n : Nat) (zs ys : List Bw) (h : Nat) (m : List Bw) (p : Nat), zs.length + ys.length ≤ n → xs.drop h = zs → h ≤ xs.length → rl xs ((sc zs ys).map .d) h m p = .inl (xs.length, m ++ ys)
  | n, zs, ys, h, m, p, hn, hz, hh => by
    have cutS : ∀ {x : Bw} {zs' : List Bw}, xs.drop h = x :: zs' → h < xs.length ∧ xs[h]? = some x ∧ xs.drop (h + 1) = zs' := fun {x zs'} e => by
      have h1 : h < xs.length := by
        have := congrArg List.length e
        rw [List.length_drop, List.length_cons] at this
        omega
      have d1 : xs.drop h = xs[h] :: xs.drop (h + 1) := List.drop_eq_getElem_cons h1
      rw [d1] at e
      obtain ⟨e1, e2⟩ := List.cons.inj e
      exact ⟨h1, by rw [List.getElem?_eq_getElem h1, e1], e2⟩
    match zs, ys with
    | [], [] =>
      have : h = xs.length := by
        have := congrArg List.length hz
        rw [List.length_drop, List.length_nil] at this
        omega
      rw [sc_nil, this]
      simp [rl]
    | [], y :: ys =>
      have e : sc [] (y :: ys) = .put y :: sc [] ys := by unfold sc; conv => lhs; unfold scr
      rw [e, List.map_cons, rl]
      simp only [stp]
      rw [rl_sc xs (n - 1) [] ys h (m ++ [y]) (p + 1) (by simp at hn ⊢; omega) hz hh]
      simp
    | x :: zs, [] =>
      have e : sc (x :: zs) [] = .cut :: sc zs [] := by unfold sc; conv => lhs; unfold scr
      obtain ⟨h1, h2, h3⟩ := cutS hz
      rw [e, List.map_cons, rl]
      simp only [stp, h1, if_true]
      exact rl_sc xs (n - 1) zs [] (h + 1) m (p + 1) (by simp at hn ⊢; omega) h3 h1
    | x :: zs, y :: ys =>
      obtain ⟨h1, h2, h3⟩ := cutS hz
      have es : sc (x :: zs) (y :: ys) = if decide (x = y) then .keep :: sc zs ys else if lv zs ys + 1 = lv (x :: zs) (y :: ys) then .swap y :: sc zs ys else if lv zs (y :: ys) + 1 = lv (x :: zs) (y :: ys) then .cut :: sc zs (y :: ys) else .put y :: sc (x :: zs) ys := by
        unfold lv sc
        conv => lhs; unfold scr
      rw [List.length_cons, List.length_cons] at hn
      rw [es]
      by_cases c1 : x = y
      · subst c1
        rw [if_pos (decide_eq_true rfl), List.map_cons, rl]
        simp only [stp, h2, Option.map_some]
        rw [rl_sc xs (n - 1) zs ys (h + 1) (m ++ [x]) (p + 1) (by omega) h3 h1]
        simp
      · rw [if_neg (by rw [decide_eq_false c1]; decide)]
        by_cases c2 : lv zs ys + 1 = lv (x :: zs) (y :: ys)
        · rw [if_pos c2, List.map_cons, rl]
          simp only [stp, h1, if_true]
          rw [rl_sc xs (n - 1) zs ys (h + 1) (m ++ [y]) (p + 1) (by omega) h3 h1]
          simp
        · rw [if_neg c2]
          by_cases c3 : lv zs (y :: ys) + 1 = lv (x :: zs) (y :: ys)
          · rw [if_pos c3, List.map_cons, rl]
            simp only [stp, h1, if_true]
            exact rl_sc xs (n - 1) zs (y :: ys) (h + 1) m (p + 1) (by rw [List.length_cons]; omega) h3 h1
          · rw [if_neg c3, List.map_cons, rl]
            simp only [stp]
            rw [rl_sc xs (n - 1) (x :: zs) ys h (m ++ [y]) (p + 1) (by rw [List.length_cons]; omega) hz hh]
            simp
termination_by n zs ys => zs.length + ys.length
decreasing_by all_goals (simp only [List.length_cons]; omega)
theorem pl_sc (xs ys : List Bw) : pl xs ((sc xs ys).map .d) = .inl ys := by
  unfold pl
  rw [rl_sc xs _ xs ys 0 [] 0 (Nat.le_refl _) rfl (Nat.zero_le _)]
  simp
/-! ### words, deeds -/
theorem bD_okn {n : Nat} {x : Bw} (h : okB x) : eqOk (n + 1) (bD x) = true := by
  cases x with
  | t l =>
    show (tx l).cps.all (· < 0x110000) = true
    rw [tx_all]; exact h.2.2.2
  | s b i =>
    show ((kd b).cps.all (· < 0x110000) && (true && true)) = true
    rw [kd_uni]; rfl
theorem eD_ok {e : De} (h : okE e) : eqOk 64 (eD e) = true := by
  cases e with
  | j => decide +kernel
  | y => decide +kernel
  | d x =>
    cases x with
    | keep => decide +kernel
    | cut => decide +kernel
    | swap b =>
      show (("swap" : Str).cps.all (· < 0x110000) && (eqOk 63 (bD b) && true)) = true
      rw [bD_okn h]; decide +kernel
    | put b =>
      show (("put" : Str).cps.all (· < 0x110000) && (eqOk 63 (bD b) && true)) = true
      rw [bD_okn h]; decide +kernel
theorem eD_deref (e : De) (μ : Mu) : deref μ (eD e) = eD e := by
  cases e with
  | d x => cases x <;> rfl
  | _ => rfl
def isK : De → Bool
  | .d .keep => true
  | _ => false
def isC : De → Bool
  | .d .cut => true
  | _ => false
def isS : De → Bool
  | .d (.swap _) => true
  | _ => false
def isP : De → Bool
  | .d (.put _) => true
  | _ => false
theorem eq_K {e : De} {μ : Mu} (h : okE e) : cmpD .eq (eD e) (.str "keep") μ = .ok (isK e) μ := by
  show needs (eqOk 64 (deref μ (eD e)) = true ∧ eqOk 64 (.str "keep") = true) (Res.ok (eqD (deref μ (eD e)) (.str "keep")) μ) = _
  rw [eD_deref, needs_pos ⟨eD_ok h, by decide +kernel⟩]
  congr 1
  cases e with
  | d x => cases x with
    | swap b => rfl
    | put b => rfl
    | _ => decide +kernel
  | j => rfl
  | y => decide +kernel
theorem eq_C {e : De} {μ : Mu} (h : okE e) : cmpD .eq (eD e) (.str "cut") μ = .ok (isC e) μ := by
  show needs (eqOk 64 (deref μ (eD e)) = true ∧ eqOk 64 (.str "cut") = true) (Res.ok (eqD (deref μ (eD e)) (.str "cut")) μ) = _
  rw [eD_deref, needs_pos ⟨eD_ok h, by decide +kernel⟩]
  congr 1
  cases e with
  | d x => cases x with
    | swap b => rfl
    | put b => rfl
    | _ => decide +kernel
  | j => rfl
  | y => decide +kernel
theorem ne_C {e : De} {μ : Mu} (h : okE e) : cmpD .ne (eD e) (.str "cut") μ = .ok (!isC e) μ := by
  show needs (eqOk 64 (deref μ (eD e)) = true ∧ eqOk 64 (.str "cut") = true) (Res.ok (!eqD (deref μ (eD e)) (.str "cut")) μ) = _
  rw [eD_deref, needs_pos ⟨eD_ok h, by decide +kernel⟩]
  congr 1
  cases e with
  | d x => cases x with
    | swap b => rfl
    | put b => rfl
    | _ => decide +kernel
  | j => rfl
  | y => decide +kernel
section
variable {k : Nat} {μ : Mu}
theorem in_kd {b : Bool} : cmpD .in_ (.str (kd b)) (.tup [.str "text", .str "number"]) μ = .ok true μ := by
  cases b <;> kernel_rfl
theorem word_ok {b : Bw} (h : okB b) : (gg (k + 1)).call n_is_word [bD b] μ = .ok (.bl true) μ := by
  cases b with
  | t l =>
    obtain ⟨h1, h2, h3, h4⟩ := h
    refine call_of c_is_word rfl (run_rt (ifs_true (tv_bl (isi_eq (ev_var rfl) rfl)) (run_rt (st_ret ?_))))
    refine ev_and_t (x := .bl true) (μ1 := μ) (ev_cmp (ev_var rfl) (ev_cs (l := []) (by decide +kernel)) ((ne_tx h4 rfl).trans ?_)) rfl (ev_cmp (ev_cs (l := [32]) (by decide +kernel)) (ev_var rfl) ((notin_c rfl).trans ?_))
    · rw [beq_eq_false_iff_ne.mpr h1]; rfl
    · rw [decide_eq_false h2]; rfl
  | s c i =>
    refine call_of c_is_word rfl (run_nx (ifs_false (tv_bl (isi_eq (ev_var rfl) rfl)) run_nil) (run_rt (st_ret ?_)))
    refine ev_and_t (x := .bl true) (μ1 := μ) (isi_eq (ev_var rfl) rfl) rfl (ev_and_t (x := .bl true) (μ1 := μ) (ev_cmp (ev_bif1 (ev_var rfl) len_tup) ev_cst (by exact eq_n (a := 2) (b := 2))) rfl (ev_cmp (ev_idx (ev_var rfl) ev_cst ix0) (ev_tup2 ev_cst ev_cst) in_kd))
def wdS : Bool → Str
  | true => "swap"
  | false => "put"
def isW : Bool → De → Bool
  | true, e => isS e
  | false, e => isP e
theorem eq_hd {s t : Str} (hs : s.cps.all (· < 0x110000) = true) (ht : t.cps.all (· < 0x110000) = true) {v : Bool} (h : (s == t) = v) : cmpD .eq (.str s) (.str t) μ = .ok v μ := (eq_str hs ht).trans (by rw [h])
theorem deed_ok {e : De} {w : Bool} (h : okE e) : (gg (k + 2)).call n_is_deed_of [eD e, .str (wdS w)] μ = .ok (.bl (isW w e)) μ := by
  have no : isW w e = false → isiD (eD e) .tuple μ = .ok (.bl false) μ → (gg (k + 2)).call n_is_deed_of [eD e, .str (wdS w)] μ = .ok (.bl (isW w e)) μ := fun e1 e2 => by
    rw [e1]
    exact call_of c_is_deed_of rfl (run_rt (st_ret (ev_and_f (x := .bl false) (isi_eq (ev_var rfl) e2) rfl)))
  have yes : ∀ {s : Str} {x : D} {v : Bool}, eD e = .tup [.str s, x] → s.cps.all (· < 0x110000) = true → (s == wdS w) = v → (v = true → (gg (k + 1)).call n_is_word [x] μ = .ok (.bl true) μ) → isW w e = v → (gg (k + 2)).call n_is_deed_of [eD e, .str (wdS w)] μ = .ok (.bl (isW w e)) μ := fun {s x v} e1 hs e2 e3 e4 => by
    rw [e4, e1]
    have hw : (wdS w).cps.all (· < 0x110000) = true := by cases w <;> decide +kernel
    have p1 : evalE (gg (k + 1)) (.isi (.var 0) .tuple) (startR f_is_deed_of.N.length [.tup [.str s, x], .str (wdS w)]) μ = .ok (.bl true) μ := isi_eq (ev_var rfl) rfl
    have p2 : evalE (gg (k + 1)) (.cmp .eq (.bif .len (.cons (.var 0) .nil)) (.cst (.int 2))) (startR f_is_deed_of.N.length [.tup [.str s, x], .str (wdS w)]) μ = .ok (.bl true) μ := ev_cmp (ev_bif1 (ev_var rfl) len_tup) ev_cst (by exact eq_n (a := 2) (b := 2))
    have p3 : evalE (gg (k + 1)) (.cmp .eq (.idx (.var 0) (.cst (.int 0))) (.var 1)) (startR f_is_deed_of.N.length [.tup [.str s, x], .str (wdS w)]) μ = .ok (.bl v) μ := ev_cmp (ev_idx (ev_var rfl) ev_cst ix0) (ev_var rfl) (eq_hd hs hw e2)
    cases v with
    | true => exact call_of c_is_deed_of rfl (run_rt (st_ret (ev_and_t p1 rfl (ev_and_t p2 rfl (ev_and_t p3 rfl (ev_call1 (ev_idx (ev_var rfl) ev_cst ix1) (e3 rfl)))))))
    | false => exact call_of c_is_deed_of rfl (run_rt (st_ret (ev_and_t p1 rfl (ev_and_t p2 rfl (ev_and_f p3 rfl)))))
  cases e with
  | j => cases w <;> exact yes (v := false) rfl (by decide +kernel) (by decide +kernel) (fun z => by cases z) rfl
  | y => cases w <;> exact no rfl rfl
  | d x =>
    cases x with
    | keep => cases w <;> exact no rfl rfl
    | cut => cases w <;> exact no rfl rfl
    | swap b => cases w with
      | true => exact yes (v := true) rfl (by decide +kernel) (by decide +kernel) (fun _ => word_ok h) rfl
      | false => exact yes (v := false) rfl (by decide +kernel) (by decide +kernel) (fun z => by cases z) rfl
    | put b => cases w with
      | true => exact yes (v := false) rfl (by decide +kernel) (by decide +kernel) (fun z => by cases z) rfl
      | false => exact yes (v := true) rfl (by decide +kernel) (by decide +kernel) (fun _ => word_ok h) rfl
end
end PyI.K26
/-! V8: played, walked. -/
namespace PyI.K26
open PySem L2 PyProof.Rows
theorem for_cons_er {f : D → Rho → Mu → Out} {d : D} {ds : List D} {ρ ρ' : Rho} {μ μ' : Mu} {c : Nat} {fs : List D} (h : f d ρ μ = .er c fs ρ' μ') : forLoop f (chkOf none) (d :: ds) ρ μ = .er c fs ρ' μ' := by
  unfold forLoop
  rw [if_pos (show chkOf none μ = true from rfl), h]
def en (p : Nat) (l : List D) : List D := (l.zipIdx p).map fun q => D.tup [.int (q.2 : Nat), q.1]
theorem en_cons {p : Nat} {d : D} {l : List D} : en p (d :: l) = .tup [nD p, d] :: en (p + 1) l := by
  unfold en
  rw [List.zipIdx_cons, List.map_cons]
theorem tv_cmpT {Γ : G} {o : Cop} {a b : E} {ρ : Rho} {μ μ1 μ2 : Mu} {x y : D} {v : Bool} (ha : evalE Γ a ρ μ = .ok x μ1) (hb : evalE Γ b ρ μ1 = .ok y μ2) (h : cmpD o x y μ2 = .ok v μ2) : evalT Γ (.val (.cmp o a b)) ρ μ = .ok v μ2 := tv_bl (ev_cmp ha hb h)
section
variable {k : Nat} {μ : Mu} {xs : List Bw}
theorem tv_orb {t u : T} {ρ : Rho} {ν : Mu} {a b : Bool} {Γ : G} (h : evalT Γ t ρ ν = .ok a ν) (h2 : evalT Γ u ρ ν = .ok b ν) : evalT Γ (.or t u) ρ ν = .ok (a || b) ν := by
  cases a with
  | true => exact tv_or_t h
  | false => exact tv_or_f h h2
theorem tv_andb {t u : T} {ρ : Rho} {ν : Mu} {a b : Bool} {Γ : G} (h : evalT Γ t ρ ν = .ok a ν) (h2 : evalT Γ u ρ ν = .ok b ν) : evalT Γ (.and t u) ρ ν = .ok (a && b) ν := by
  cases a with
  | true => exact tv_and_t h h2
  | false => exact tv_and_f h
abbrev pB : B := forB (nthS b_played 2)
abbrev bH (μ : Mu) (m : List Bw) : Mu := μ ++ [.lst (m.map bD)]
abbrev pR (μ : Mu) (X Y : D) (a : Nat) (o4 o5 o6 : Option D) : Rho := [some X, some Y, some (.ref μ.length), some (nD a), o4, o5, o6]
def tk (e : De) : Bool := isK e || (isC e || isS e)
theorem bpush {ρ : Rho} {ν : Mu} {w : Nat} {e : E} {m : List Bw} {b : Bw} {Γ : G} (hw : ρ[w]? = some (some (.ref ν.length))) (hl : m.length ≤ 5000) (he : evalE Γ e ρ (bH ν m) = .ok (bD b) (bH ν m)) : runS Γ (.expr (.met .append (.var w) (.cons e .nil))) ρ (bH ν m) = .nx ρ (bH ν (m ++ [b])) :=
  st_append (ev_var hw) he snoc_get (by rw [List.length_map]; omega) (by rw [snoc_set, map_snoc]) snoc_get
theorem p_step {Y : D} {e : De} {a p : Nat} {m : List Bw} {o6 : Option D} (he : okE e) (ha : a ≤ xs.length) (hm : m.length ≤ 5000) (hp : p ≤ 5000) :
    (∀ a' m', stp xs e a m = some (a', m') → ∃ o6', runB (gg (k + 2)) pB (pR μ (.tup (xs.map bD)) Y a (some (nD p)) (some (eD e)) o6) (bH μ m) = .nx (pR μ (.tup (xs.map bD)) Y a' (some (nD p)) (some (eD e)) o6') (bH μ m')) ∧
    (stp xs e a m = none → ∃ ρ', runB (gg (k + 2)) pB (pR μ (.tup (xs.map bD)) Y a (some (nD p)) (some (eD e)) o6) (bH μ m) = .er 0 [nD p] ρ' (bH μ m)) := by
  let R : Rho := pR μ (.tup (xs.map bD)) Y a (some (nD p)) (some (eD e)) (some (.bl (tk e)))
  have s0 : runS (gg (k + 2)) (nthS pB 0) (pR μ (.tup (xs.map bD)) Y a (some (nD p)) (some (eD e)) o6) (bH μ m) = .nx R (bH μ m) :=
    st_set (ev_orb (ev_cmp (ev_var rfl) ev_cst (eq_K he)) (ev_orb (ev_cmp (ev_var rfl) ev_cst (eq_C he)) (ev_call2 (ev_var rfl) ev_cst (deed_ok (w := true) he))))
  have tP : evalT (gg (k + 2)) (.not (.val (.call 5 (.cons (.var 5) (.cons (.cst (.str "put")) .nil))))) R (bH μ m) = .ok (!isP e) (bH μ m) := tv_not (tv_bl (ev_call2 (ev_var rfl) ev_cst (deed_ok (w := false) he)))
  have tT : evalT (gg (k + 2)) (.val (.var 6)) R (bH μ m) = .ok (tk e) (bH μ m) := tv_bl (ev_var rfl)
  have tE : evalT (gg (k + 2)) (.val (.cmp .eq (.var 3) (.bif .len (.cons (.var 0) .nil)))) R (bH μ m) = .ok (decide (a = xs.length)) (bH μ m) := tv_cmpT (ev_var rfl) (ev_bif1 (ev_var rfl) len_tup) (by rw [List.length_map]; exact eq_n)
  have t1 := tv_andb tP (tv_orb (tv_not tT) tE)
  have tK : evalT (gg (k + 2)) (.val (.cmp .eq (.var 5) (.cst (.str "keep")))) R (bH μ m) = .ok (isK e) (bH μ m) := tv_cmpT (ev_var rfl) ev_cst (eq_K he)
  have tC : evalT (gg (k + 2)) (.val (.cmp .ne (.var 5) (.cst (.str "cut")))) R (bH μ m) = .ok (!isC e) (bH μ m) := tv_cmpT (ev_var rfl) ev_cst (ne_C he)
  have rse : (!isP e && (!tk e || decide (a = xs.length))) = true → ∃ ρ', runB (gg (k + 2)) pB (pR μ (.tup (xs.map bD)) Y a (some (nD p)) (some (eD e)) o6) (bH μ m) = .er 0 [nD p] ρ' (bH μ m) := fun h => by
    rw [h] at t1
    exact ⟨R, run_nx s0 (run_er (ifs_true t1 (run_er (st_rse (show decide (2 ≤ k + 2) = true from decide_eq_true (by omega)) (ev_var rfl) (by omega)))))⟩
  have tA : ∀ {ν : Mu} {a2 : Nat}, tk e = true → runS (gg (k + 2)) (nthS pB 3) R ν = .nx (pR μ (.tup (xs.map bD)) Y (a + 1) (some (nD p)) (some (eD e)) (some (.bl (tk e)))) ν := fun {ν a2} h => ifs_true ((tv_bl (ev_var rfl)).trans (by rw [h])) (run_nx (aug1 rfl) run_nil)
  have tB : ∀ {ν : Mu}, tk e = false → runS (gg (k + 2)) (nthS pB 3) R ν = .nx R ν := fun {ν} h => ifs_false ((tv_bl (ev_var rfl)).trans (by rw [h])) run_nil
  cases e with
  | j => exact ⟨fun a' m' h => (by cases h), fun _ => rse rfl⟩
  | y => exact ⟨fun a' m' h => (by cases h), fun _ => rse rfl⟩
  | d x =>
    cases x with
    | keep =>
      by_cases h1 : a < xs.length
      · have hx : xs[a]? = some xs[a] := List.getElem?_eq_getElem h1
        rw [decide_eq_false (show ¬ a = xs.length by omega)] at t1
        refine ⟨fun a' m' h => ?_, fun h => by rw [stp, hx] at h; cases h⟩
        rw [stp, hx] at h
        cases h
        exact ⟨_, run_nx s0 (run_nx (ifs_false t1 run_nil) (run_nx (ifs_true tK (run_nx (bpush rfl hm (ev_idx (ev_var rfl) (ev_var rfl) (ix_tup (bget hx)))) run_nil)) (run_nx (tA (a2 := 0) rfl) run_nil)))⟩
      · have h2 : a = xs.length := by omega
        have hx : xs[a]? = none := List.getElem?_eq_none (by omega)
        refine ⟨fun a' m' h => (by rw [stp, hx] at h; cases h), fun _ => rse (by rw [decide_eq_true h2]; rfl)⟩
    | cut =>
      by_cases h1 : a < xs.length
      · rw [decide_eq_false (show ¬ a = xs.length by omega)] at t1
        refine ⟨fun a' m' h => ?_, fun h => by rw [stp, if_pos h1] at h; cases h⟩
        rw [stp, if_pos h1] at h
        cases h
        exact ⟨_, run_nx s0 (run_nx (ifs_false t1 run_nil) (run_nx (ifs_false tK (run_nx (ifs_false tC run_nil) run_nil)) (run_nx (tA (a2 := 0) rfl) run_nil)))⟩
      · have h2 : a = xs.length := by omega
        refine ⟨fun a' m' h => (by rw [stp, if_neg h1] at h; cases h), fun _ => rse (by rw [decide_eq_true h2]; rfl)⟩
    | swap b =>
      by_cases h1 : a < xs.length
      · rw [decide_eq_false (show ¬ a = xs.length by omega)] at t1
        refine ⟨fun a' m' h => ?_, fun h => by rw [stp, if_pos h1] at h; cases h⟩
        rw [stp, if_pos h1] at h
        cases h
        exact ⟨_, run_nx s0 (run_nx (ifs_false t1 run_nil) (run_nx (ifs_false tK (run_nx (ifs_true tC (run_nx (bpush rfl hm (ev_idx (ev_var rfl) ev_cst ix1)) run_nil)) run_nil)) (run_nx (tA (a2 := 0) rfl) run_nil)))⟩
      · have h2 : a = xs.length := by omega
        refine ⟨fun a' m' h => (by rw [stp, if_neg h1] at h; cases h), fun _ => rse (by rw [decide_eq_true h2]; rfl)⟩
    | put b =>
      refine ⟨fun a' m' h => ?_, fun h => by cases h⟩
      cases h
      exact ⟨_, run_nx s0 (run_nx (ifs_false t1 run_nil) (run_nx (ifs_false tK (run_nx (ifs_true tC (run_nx (bpush rfl hm (ev_idx (ev_var rfl) ev_cst ix1)) run_nil)) run_nil)) (run_nx (tB rfl) run_nil)))⟩
theorem p_loop {Y : D} : ∀ {es : List De} {a p : Nat} {m : List Bw} {o4 o5 o6 : Option D}, (∀ e ∈ es, okE e) → a ≤ xs.length → m.length + es.length ≤ 5000 → p + es.length ≤ 5000 →
    (∀ a' m', rl xs es a m p = .inl (a', m') → ∃ o4' o5' o6', forLoop (fbody (gg (k + 2)) (.tp [4, 5]) pB) (chkOf none) (en p (es.map eD)) (pR μ (.tup (xs.map bD)) Y a o4 o5 o6) (bH μ m) = .nx (pR μ (.tup (xs.map bD)) Y a' o4' o5' o6') (bH μ m')) ∧
    (∀ q, rl xs es a m p = .inr q → ∃ ρ' m', q ≤ 5000 ∧ forLoop (fbody (gg (k + 2)) (.tp [4, 5]) pB) (chkOf none) (en p (es.map eD)) (pR μ (.tup (xs.map bD)) Y a o4 o5 o6) (bH μ m) = .er 0 [nD q] ρ' (bH μ m'))
  | [], a, p, m, o4, o5, o6, _, _, _, _ => ⟨fun a' m' h => (by cases h; exact ⟨o4, o5, o6, for_nil⟩), fun q h => by cases h⟩
  | e :: es, a, p, m, o4, o5, o6, he, ha, hm, hp => by
    rw [List.length_cons] at hm hp
    obtain ⟨q1, q2⟩ := p_step (k := k) (μ := μ) (xs := xs) (Y := Y) (e := e) (a := a) (p := p) (m := m) (o6 := o6) (he e (List.mem_cons_self ..)) ha (by omega) (by omega)
    rw [List.map_cons, en_cons]
    cases hs : stp xs e a m with
    | none =>
      obtain ⟨ρ', q⟩ := q2 hs
      have hr : rl xs (e :: es) a m p = .inr p := by rw [rl, hs]
      rw [hr]
      refine ⟨fun a' m' h => (by cases h), fun q h => ?_⟩
      cases h
      exact ⟨ρ', m, by omega, for_cons_er (by rw [fbody_tp2]; exact q)⟩
    | some w =>
      obtain ⟨a1, m1⟩ := w
      obtain ⟨o6', q⟩ := q1 _ _ hs
      obtain ⟨b1, b2⟩ := stp_le hs ha
      have hr : rl xs (e :: es) a m p = rl xs es a1 m1 (p + 1) := by rw [rl, hs]
      rw [hr]
      obtain ⟨z1, z2⟩ := p_loop (Y := Y) (es := es) (a := a1) (p := p + 1) (m := m1) (o4 := some (nD p)) (o5 := some (eD e)) (o6 := o6') (fun x hx => he x (List.mem_cons_of_mem _ hx)) b1 (by omega) (by omega)
      refine ⟨fun a' m' h => ?_, fun q' h => ?_⟩
      · obtain ⟨o4', o5', o6', z⟩ := z1 _ _ h
        exact ⟨o4', o5', o6', for_cons_nx (by rw [fbody_tp2]; exact q) z⟩
      · obtain ⟨ρ', m', z0, z⟩ := z2 _ h
        exact ⟨ρ', m', z0, for_cons_nx (by rw [fbody_tp2]; exact q) z⟩
theorem pure_resL (l : List Bw) : pureD (.tup (l.map bD)) = true := bDs_pure l
theorem played_ok {es : List De} (hμ : PureM μ) (he : ∀ e ∈ es, okE e) (hl : es.length ≤ 5000) :
    (∀ l, pl xs es = .inl l → (gg (k + 3)).call n_played [.tup (xs.map bD), .tup (es.map eD)] μ = .ok (.tup (l.map bD)) μ) ∧
    (∀ q, pl xs es = .inr q → (gg (k + 3)).call n_played [.tup (xs.map bD), .tup (es.map eD)] μ = .err 0 [nD q] μ) := by
  obtain ⟨z1, z2⟩ := p_loop (k := k) (μ := μ) (xs := xs) (Y := .tup (es.map eD)) (es := es) (a := 0) (p := 0) (m := []) (o4 := none) (o5 := none) (o6 := none) he (Nat.zero_le _) (by simp; omega) (by omega)
  have s0 : runS (gg (k + 2)) (nthS b_played 0) [some (.tup (xs.map bD)), some (.tup (es.map eD)), none, none, none, none, none] μ = .nx [some (.tup (xs.map bD)), some (.tup (es.map eD)), some (.ref μ.length), none, none, none, none] (bH μ []) := st_new ev_lst0
  have s1 : runS (gg (k + 2)) (nthS b_played 1) [some (.tup (xs.map bD)), some (.tup (es.map eD)), some (.ref μ.length), none, none, none, none] (bH μ []) = .nx (pR μ (.tup (xs.map bD)) (.tup (es.map eD)) 0 none none none) (bH μ []) := st_set ev_cst
  have it : evalIt (gg (k + 2)) (.enum (.var 1)) (pR μ (.tup (xs.map bD)) (.tup (es.map eD)) 0 none none none) (bH μ []) = .ok (en 0 (es.map eD), none) (bH μ []) := it_enumT (ev_var rfl)
  unfold pl
  cases hr : rl xs es 0 [] 0 with
  | inr q =>
    refine ⟨fun l h => (by cases h), fun q' h => ?_⟩
    cases h
    obtain ⟨ρ', m', _, z⟩ := z2 _ hr
    exact call_more_er c_played hμ rfl (run_nx s0 (run_nx s1 (run_er (for_run' it z))))
  | inl w =>
    obtain ⟨a, m⟩ := w
    obtain ⟨o4, o5, o6, z⟩ := z1 _ _ hr
    have hle := rl_le hr (Nat.zero_le _)
    have tL : evalT (gg (k + 2)) (.val (.cmp .lt (.var 3) (.bif .len (.cons (.var 0) .nil)))) (pR μ (.tup (xs.map bD)) (.tup (es.map eD)) a o4 o5 o6) (bH μ m) = .ok (decide (a < xs.length)) (bH μ m) := tv_cmpT (ev_var rfl) (ev_bif1 (ev_var rfl) len_tup) (by rw [List.length_map]; exact lt_n)
    by_cases h1 : a = xs.length
    · rw [decide_eq_false (by omega)] at tL
      simp only [h1, if_true]
      refine ⟨fun l h => ?_, fun q h => by cases h⟩
      cases h
      exact call_more c_played hμ (pure_resL m) (run_nx s0 (run_nx s1 (run_nx (for_run' it z) (run_nx (ifs_false tL run_nil) (run_rt (st_ret (ev_bif1 (ev_var rfl) (tuple_ref snoc_get))))))))
    · rw [decide_eq_true (by omega)] at tL
      simp only [h1, if_false]
      refine ⟨fun l h => (by cases h), fun q h => ?_⟩
      cases h
      exact call_more_er c_played hμ rfl (run_nx s0 (run_nx s1 (run_nx (for_run' it z) (run_er (ifs_true tL (run_er (st_rse (show decide (2 ≤ k + 2) = true from decide_eq_true (by omega)) (ev_bif1 (ev_var rfl) (len_tup.trans (by rw [List.length_map]))) (by omega))))))))
theorem told_ok {es : List De} (hμ : PureM μ) (he : ∀ e ∈ es, okE e) (hl : es.length ≤ 5000) : (gg (k + 4)).call n_law_told [.tup (xs.map bD), .tup (es.map eD)] μ = .ok (resD (pl xs es)) μ := by
  obtain ⟨z1, z2⟩ := played_ok (k := k) (μ := μ) (xs := xs) hμ he hl
  cases h : pl xs es with
  | inl l => exact call_of c_law_told rfl (run_rt (try_ok (ev_call2 (ev_var rfl) (ev_var rfl) (z1 l h))))
  | inr q => exact call_of c_law_told rfl (run_rt (try_er (ev_call2 (ev_var rfl) (ev_var rfl) (z2 q h)) rfl))
end
end PyI.K26
/-! V9: the law's played. -/
namespace PyI.K26
open PySem L2 PyProof.Rows
section
variable {k : Nat} {μ : Mu} {xs : List Bw}
abbrev qB : B := forB (nthS b_law_played 1)
abbrev qR (μ : Mu) (X Y : D) (a : Nat) (o4 o5 : Option D) : Rho := [some X, some Y, some (nD a), some (.ref μ.length), o4, o5]
theorem q_step {Y : List D} {e : De} {a p : Nat} {m : List Bw} {o5 : Option D} (he : okE e) (ha : a ≤ xs.length) (hm : m.length ≤ 5000) (hY : Y[p]? = some (eD e)) :
    (∀ a' m', stp xs e a m = some (a', m') → ∃ o5', runB (gg k) qB (qR μ (.tup (xs.map bD)) (.tup Y) a (some (nD p)) o5) (bH μ m) = .nx (qR μ (.tup (xs.map bD)) (.tup Y) a' (some (nD p)) o5') (bH μ m')) ∧
    (stp xs e a m = none → runB (gg k) qB (qR μ (.tup (xs.map bD)) (.tup Y) a (some (nD p)) o5) (bH μ m) = .rt (nD p) (bH μ m)) := by
  let R : Rho := qR μ (.tup (xs.map bD)) (.tup Y) a (some (nD p)) (some (eD e))
  have s0 : runS (gg k) (nthS qB 0) (qR μ (.tup (xs.map bD)) (.tup Y) a (some (nD p)) o5) (bH μ m) = .nx R (bH μ m) := st_set (ev_idx (ev_var rfl) (ev_var rfl) (ix_tup hY))
  have tE : evalT (gg k) (.val (.cmp .eq (.var 2) (.bif .len (.cons (.var 0) .nil)))) R (bH μ m) = .ok (decide (a = xs.length)) (bH μ m) := tv_cmpT (ev_var rfl) (ev_bif1 (ev_var rfl) len_tup) (by rw [List.length_map]; exact eq_n)
  have tK : evalT (gg k) (.val (.cmp .eq (.var 5) (.cst (.str "keep")))) R (bH μ m) = .ok (isK e) (bH μ m) := tv_cmpT (ev_var rfl) ev_cst (eq_K he)
  have tC : evalT (gg k) (.val (.cmp .eq (.var 5) (.cst (.str "cut")))) R (bH μ m) = .ok (isC e) (bH μ m) := tv_cmpT (ev_var rfl) ev_cst (eq_C he)
  have tN : evalT (gg k) (.val (.cmp .ne (.var 5) (.cst (.str "cut")))) R (bH μ m) = .ok (!isC e) (bH μ m) := tv_cmpT (ev_var rfl) ev_cst (ne_C he)
  have hd : ∀ {s w : Str} {x : D} {v : Bool}, eD e = .tup [.str s, x] → s.cps.all (· < 0x110000) = true → w.cps.all (· < 0x110000) = true → (s == w) = v → evalT (gg k) (.val (.cmp .eq (.idx (.var 5) (.cst (.int 0))) (.cst (.str w)))) R (bH μ m) = .ok v (bH μ m) := fun {s w x v} e1 e2 e3 e4 => tv_cmpT (ev_idx (ev_var (congrArg (fun d => some (some d)) e1)) ev_cst ix0) ev_cst (eq_hd e2 e3 e4)
  have tA : ∀ {ν : Mu}, runS (gg k) (.set (.nm 2) (.bin .add (.var 2) (.cst (.int 1)))) R ν = .nx (qR μ (.tup (xs.map bD)) (.tup Y) (a + 1) (some (nD p)) (some (eD e))) ν := fun {ν} => st_set (ev_add1 (ev_var rfl))
  have ret : ∀ {ν : Mu}, runS (gg k) (.ret (.var 4)) R ν = .rt (nD p) ν := fun {ν} => st_ret (ev_var rfl)
  cases e with
  | j =>
    refine ⟨fun a' m' h => (by cases h), fun _ => ?_⟩
    exact run_nx s0 (run_rt (ifs_false (tv_or_f tK (tv_or_f tC (hd (s := "jump") rfl (by decide +kernel) (by decide +kernel) (by decide +kernel)))) (run_rt (ifs_false (hd (s := "jump") rfl (by decide +kernel) (by decide +kernel) (by decide +kernel)) (run_rt ret)))))
  | y =>
    refine ⟨fun a' m' h => (by cases h), fun _ => ?_⟩
    have e0 : evalE (gg k) (.idx (.var 5) (.cst (.int 0))) R (bH μ m) = .ok (.str (tx [115])) (bH μ m) := ev_idx (x := .str (tx [115, 116, 97, 121])) (ev_var (by show some (some (D.str "stay")) = _; rw [show ("stay" : Str) = tx [115, 116, 97, 121] by decide +kernel])) ev_cst (ix_str (n := 0) (by decide) rfl)
    have n1 : evalT (gg k) (.val (.cmp .eq (.idx (.var 5) (.cst (.int 0))) (.cst (.str "swap")))) R (bH μ m) = .ok false (bH μ m) := tv_cmpT e0 ev_cst (eq_hd (by decide +kernel) (by decide +kernel) (by decide +kernel))
    have n2 : evalT (gg k) (.val (.cmp .eq (.idx (.var 5) (.cst (.int 0))) (.cst (.str "put")))) R (bH μ m) = .ok false (bH μ m) := tv_cmpT e0 ev_cst (eq_hd (by decide +kernel) (by decide +kernel) (by decide +kernel))
    exact run_nx s0 (run_rt (ifs_false (tv_or_f tK (tv_or_f tC n1)) (run_rt (ifs_false n2 (run_rt ret)))))
  | d x =>
    cases x with
    | keep =>
      by_cases h1 : a < xs.length
      · have hx : xs[a]? = some xs[a] := List.getElem?_eq_getElem h1
        rw [decide_eq_false (show ¬ a = xs.length by omega)] at tE
        refine ⟨fun a' m' h => ?_, fun h => by rw [stp, hx] at h; cases h⟩
        rw [stp, hx] at h
        cases h
        exact ⟨_, run_nx s0 (run_nx (ifs_true (tv_or_t tK) (run_nx (ifs_false tE run_nil) (run_nx (ifs_true tN (run_nx (bpush rfl hm (ev_ite_true tK (ev_idx (ev_var rfl) (ev_var rfl) (ix_tup (bget hx))))) run_nil)) (run_nx tA run_nil)))) run_nil)⟩
      · have hx : xs[a]? = none := List.getElem?_eq_none (by omega)
        rw [decide_eq_true (show a = xs.length by omega)] at tE
        exact ⟨fun a' m' h => (by rw [stp, hx] at h; cases h), fun _ => run_nx s0 (run_rt (ifs_true (tv_or_t tK) (run_rt (ifs_true tE (run_rt ret)))))⟩
    | cut =>
      by_cases h1 : a < xs.length
      · rw [decide_eq_false (show ¬ a = xs.length by omega)] at tE
        refine ⟨fun a' m' h => ?_, fun h => by rw [stp, if_pos h1] at h; cases h⟩
        rw [stp, if_pos h1] at h
        cases h
        exact ⟨_, run_nx s0 (run_nx (ifs_true (tv_or_f tK (tv_or_t tC)) (run_nx (ifs_false tE run_nil) (run_nx (ifs_false tN run_nil) (run_nx tA run_nil)))) run_nil)⟩
      · rw [decide_eq_true (show a = xs.length by omega)] at tE
        exact ⟨fun a' m' h => (by rw [stp, if_neg h1] at h; cases h), fun _ => run_nx s0 (run_rt (ifs_true (tv_or_f tK (tv_or_t tC)) (run_rt (ifs_true tE (run_rt ret)))))⟩
    | swap b =>
      have hs := hd (s := "swap") (w := "swap") (x := bD b) (v := true) rfl (by decide +kernel) (by decide +kernel) (by decide +kernel)
      by_cases h1 : a < xs.length
      · rw [decide_eq_false (show ¬ a = xs.length by omega)] at tE
        refine ⟨fun a' m' h => ?_, fun h => by rw [stp, if_pos h1] at h; cases h⟩
        rw [stp, if_pos h1] at h
        cases h
        exact ⟨_, run_nx s0 (run_nx (ifs_true (tv_or_f tK (tv_or_f tC hs)) (run_nx (ifs_false tE run_nil) (run_nx (ifs_true tN (run_nx (bpush rfl hm (ev_ite_false tK (ev_idx (ev_var rfl) ev_cst ix1))) run_nil)) (run_nx tA run_nil)))) run_nil)⟩
      · rw [decide_eq_true (show a = xs.length by omega)] at tE
        exact ⟨fun a' m' h => (by rw [stp, if_neg h1] at h; cases h), fun _ => run_nx s0 (run_rt (ifs_true (tv_or_f tK (tv_or_f tC hs)) (run_rt (ifs_true tE (run_rt ret)))))⟩
    | put b =>
      have hs := hd (s := "put") (w := "swap") (x := bD b) (v := false) rfl (by decide +kernel) (by decide +kernel) (by decide +kernel)
      have hp := hd (s := "put") (w := "put") (x := bD b) (v := true) rfl (by decide +kernel) (by decide +kernel) (by decide +kernel)
      refine ⟨fun a' m' h => ?_, fun h => by cases h⟩
      cases h
      exact ⟨_, run_nx s0 (run_nx (ifs_false (tv_or_f tK (tv_or_f tC hs)) (run_nx (ifs_true hp (run_nx (bpush rfl hm (ev_idx (ev_var rfl) ev_cst ix1)) run_nil)) run_nil)) run_nil)⟩
theorem q_loop {Y : List D} : ∀ {es : List De} {a p : Nat} {m : List Bw} {o4 o5 : Option D}, (∀ e ∈ es, okE e) → a ≤ xs.length → m.length + es.length ≤ 5000 → Y.drop p = es.map eD →
    (∀ a' m', rl xs es a m p = .inl (a', m') → ∃ o4' o5', forLoop (fbody (gg k) (.nm 4) qB) (chkOf none) ((List.range' p es.length).map nD) (qR μ (.tup (xs.map bD)) (.tup Y) a o4 o5) (bH μ m) = .nx (qR μ (.tup (xs.map bD)) (.tup Y) a' o4' o5') (bH μ m')) ∧
    (∀ q, rl xs es a m p = .inr q → ∃ m', forLoop (fbody (gg k) (.nm 4) qB) (chkOf none) ((List.range' p es.length).map nD) (qR μ (.tup (xs.map bD)) (.tup Y) a o4 o5) (bH μ m) = .rt (nD q) (bH μ m'))
  | [], a, p, m, o4, o5, _, _, _, _ => ⟨fun a' m' h => (by cases h; exact ⟨o4, o5, for_nil⟩), fun q h => by cases h⟩
  | e :: es, a, p, m, o4, o5, he, ha, hm, hp => by
    rw [List.length_cons] at hm
    have hY : Y[p]? = some (eD e) := by
      have := congrArg (fun l : List D => l[0]?) hp
      simpa using this
    have hp' : Y.drop (p + 1) = es.map eD := by
      have := congrArg List.tail hp
      rw [List.tail_drop] at this
      exact this
    obtain ⟨q1, q2⟩ := q_step (k := k) (μ := μ) (xs := xs) (Y := Y) (e := e) (a := a) (p := p) (m := m) (o5 := o5) (he e (List.mem_cons_self ..)) ha (by omega) hY
    rw [List.length_cons, List.range'_succ, List.map_cons]
    cases hs : stp xs e a m with
    | none =>
      have hr : rl xs (e :: es) a m p = .inr p := by rw [rl, hs]
      rw [hr]
      refine ⟨fun a' m' h => (by cases h), fun q h => ?_⟩
      cases h
      exact ⟨m, for_cons_rt (by rw [fbody_nm]; exact q2 hs)⟩
    | some w =>
      obtain ⟨a1, m1⟩ := w
      obtain ⟨o5', q⟩ := q1 _ _ hs
      obtain ⟨b1, b2⟩ := stp_le hs ha
      have hr : rl xs (e :: es) a m p = rl xs es a1 m1 (p + 1) := by rw [rl, hs]
      rw [hr]
      obtain ⟨z1, z2⟩ := q_loop (Y := Y) (es := es) (a := a1) (p := p + 1) (m := m1) (o4 := some (nD p)) (o5 := o5') (fun x hx => he x (List.mem_cons_of_mem _ hx)) b1 (by omega) hp'
      refine ⟨fun a' m' h => ?_, fun q' h => ?_⟩
      · obtain ⟨o4', o5', z⟩ := z1 _ _ h
        exact ⟨o4', o5', for_cons_nx (by rw [fbody_nm]; exact q) z⟩
      · obtain ⟨m', z⟩ := z2 _ h
        exact ⟨m', for_cons_nx (by rw [fbody_nm]; exact q) z⟩
theorem lplayed_ok {es : List De} (hμ : PureM μ) (he : ∀ e ∈ es, okE e) (hl : es.length ≤ 5000) : (gg (k + 1)).call n_law_played [.tup (xs.map bD), .tup (es.map eD)] μ = .ok (resD (pl xs es)) μ := by
  obtain ⟨z1, z2⟩ := q_loop (k := k) (μ := μ) (xs := xs) (Y := es.map eD) (es := es) (a := 0) (p := 0) (m := []) (o4 := none) (o5 := none) he (Nat.zero_le _) (by simp; omega) rfl
  rw [← rngN] at z1 z2
  have s0 : runS (gg k) (nthS b_law_played 0) [some (.tup (xs.map bD)), some (.tup (es.map eD)), none, none, none, none] μ = .nx (qR μ (.tup (xs.map bD)) (.tup (es.map eD)) 0 none none) (bH μ []) := st_par2 ev_cst (ev_newL ev_lst0 rfl)
  have it : evalIt (gg k) (.rng1 (.bif .len (.cons (.var 1) .nil))) (qR μ (.tup (xs.map bD)) (.tup (es.map eD)) 0 none none) (bH μ []) = .ok (rngD 0 es.length, none) (bH μ []) := it_rng1 (i := ((es.length : Nat) : Int)) (ev_bif1 (ev_var rfl) (len_tup.trans (by rw [List.length_map]))) rfl (by omega)
  cases hr : rl xs es 0 [] 0 with
  | inr q =>
    have hpl : pl xs es = .inr q := by unfold pl; rw [hr]
    rw [hpl]
    obtain ⟨m', z⟩ := z2 _ hr
    exact call_more c_law_played hμ rfl (run_nx s0 (run_rt (for_run' it z)))
  | inl w =>
    obtain ⟨a, m⟩ := w
    obtain ⟨o4, o5, z⟩ := z1 _ _ hr
    have tE : evalT (gg k) (.val (.cmp .eq (.var 2) (.bif .len (.cons (.var 0) .nil)))) (qR μ (.tup (xs.map bD)) (.tup (es.map eD)) a o4 o5) (bH μ m) = .ok (decide (a = xs.length)) (bH μ m) := tv_cmpT (ev_var rfl) (ev_bif1 (ev_var rfl) len_tup) (by rw [List.length_map]; exact eq_n)
    by_cases h1 : a = xs.length
    · rw [decide_eq_true h1] at tE
      have hpl : pl xs es = .inl m := by unfold pl; rw [hr]; exact if_pos h1
      rw [hpl]
      show (gg (k + 1)).call n_law_played _ μ = .ok (.tup (m.map bD)) μ
      have fin : evalE (gg k) (.ite (.val (.cmp .eq (.var 2) (.bif .len (.cons (.var 0) .nil)))) (.bif .tuple (.cons (.var 3) .nil)) (.bif .len (.cons (.var 1) .nil))) (qR μ (.tup (xs.map bD)) (.tup (es.map eD)) a o4 o5) (bH μ m) = .ok (.tup (m.map bD)) (bH μ m) := ev_ite_true tE (ev_bif1 (ev_var rfl) (tuple_ref snoc_get))
      exact call_more c_law_played hμ (pure_resL m) (run_nx s0 (run_nx (for_run' it z) (run_rt (st_ret fin))))
    · rw [decide_eq_false h1] at tE
      have hpl : pl xs es = .inr es.length := by unfold pl; rw [hr]; exact if_neg h1
      rw [hpl]
      show (gg (k + 1)).call n_law_played _ μ = .ok (nD es.length) μ
      have fin : evalE (gg k) (.ite (.val (.cmp .eq (.var 2) (.bif .len (.cons (.var 0) .nil)))) (.bif .tuple (.cons (.var 3) .nil)) (.bif .len (.cons (.var 1) .nil))) (qR μ (.tup (xs.map bD)) (.tup (es.map eD)) a o4 o5) (bH μ m) = .ok (nD es.length) (bH μ m) := ev_ite_false tE (ev_bif1 (ev_var rfl) (len_tup.trans (by rw [List.length_map])))
      exact call_more c_law_played hμ rfl (run_nx s0 (run_nx (for_run' it z) (run_rt (st_ret fin))))
end
end PyI.K26
/-! V10: rows of words. -/
namespace PyI.K26
open PySem L2 PyProof.Rows
theorem map_take' {α β : Type} (f : α → β) (l : List α) (n : Nat) : (l.map f).take n = (l.take n).map f := by rw [List.map_take]
theorem cut_ok {α : Type} {f : α → D} {l : List α} {lo hi : Option Int} : ∃ l' : List α, cutD (l.map f) lo hi = l'.map f ∧ (∀ x ∈ l', x ∈ l) ∧ l'.length ≤ l.length := by
  refine ⟨(l.drop (HT.sIx (l.map f).length 0 lo)).take (HT.sIx (l.map f).length (l.map f).length hi - HT.sIx (l.map f).length 0 lo), ?_, fun x hx => List.mem_of_mem_drop (List.mem_of_mem_take hx), ?_⟩
  · unfold cutD
    rw [List.map_take, List.map_drop]
  · rw [List.length_take, List.length_drop]; omega
theorem slc_l {l : List D} {lo hi : Option Int} {μ : Mu} : slcD (.lst l) lo hi μ = .ok (.lst (cutD l lo hi)) μ := rfl
theorem add_l {a b : List D} {μ : Mu} (h : a.length + b.length ≤ 16777216) : binD .add (.lst a) (.lst b) μ = .ok (.lst (a ++ b)) μ := needs_pos h
theorem list_tup {l : List D} {μ : Mu} : bifD .list [.tup l] μ = .ok (.lst l) μ := rfl
def LW : List D := [.str "one", .str "file", .str "of", .str "in", .tup [.str "text", .str "a"], .tup [.str "text", .str "b"], .tup [.str "number", .str "n"]]
def LC : List D := [.str "new", .str "file", .tup [.str "text", .str "c"], .tup [.str "number", .str "m"]]
def LE : List D := [.str "keep", .str "cut", .tup [.str "swap", .str "x"], .tup [.str "put", .str "y"], .tup [.str "jump", .str "z"], .str "stay"]
theorem okT_of {l : List Nat} (h : l ≠ [] ∧ 32 ∉ l ∧ l.length ≤ 100 ∧ l.all uni = true) : okT l := h
theorem LW_ok : ∀ x ∈ LW, ∃ w, okW w ∧ x = wD w := by
  intro x hx
  simp only [LW, List.mem_cons, List.not_mem_nil, or_false] at hx
  rcases hx with rfl | rfl | rfl | rfl | rfl | rfl | rfl
  · exact ⟨.t [111, 110, 101], okT_of (by decide), congrArg D.str (by decide +kernel)⟩
  · exact ⟨.t [102, 105, 108, 101], okT_of (by decide), congrArg D.str (by decide +kernel)⟩
  · exact ⟨.t [111, 102], okT_of (by decide), congrArg D.str (by decide +kernel)⟩
  · exact ⟨.t [105, 110], okT_of (by decide), congrArg D.str (by decide +kernel)⟩
  · exact ⟨.s true [97], ⟨by decide, by decide⟩, congrArg (fun s : Str => D.tup [.str "text", .str s]) (by decide +kernel)⟩
  · exact ⟨.s true [98], ⟨by decide, by decide⟩, congrArg (fun s : Str => D.tup [.str "text", .str s]) (by decide +kernel)⟩
  · exact ⟨.s false [110], ⟨by decide, by decide⟩, congrArg (fun s : Str => D.tup [.str "number", .str s]) (by decide +kernel)⟩
theorem LC_ok : ∀ x ∈ LC, ∃ w, okW w ∧ x = wD w := by
  intro x hx
  simp only [LC, List.mem_cons, List.not_mem_nil, or_false] at hx
  rcases hx with rfl | rfl | rfl | rfl
  · exact ⟨.t [110, 101, 119], okT_of (by decide), congrArg D.str (by decide +kernel)⟩
  · exact ⟨.t [102, 105, 108, 101], okT_of (by decide), congrArg D.str (by decide +kernel)⟩
  · exact ⟨.s true [99], ⟨by decide, by decide⟩, congrArg (fun s : Str => D.tup [.str "text", .str s]) (by decide +kernel)⟩
  · exact ⟨.s false [109], ⟨by decide, by decide⟩, congrArg (fun s : Str => D.tup [.str "number", .str s]) (by decide +kernel)⟩
theorem LE_ok : ∀ x ∈ LE, ∃ e, okE e ∧ x = eD e := by
  intro x hx
  simp only [LE, List.mem_cons, List.not_mem_nil, or_false] at hx
  rcases hx with rfl | rfl | rfl | rfl | rfl | rfl
  · exact ⟨.d .keep, trivial, rfl⟩
  · exact ⟨.d .cut, trivial, rfl⟩
  · exact ⟨.d (.swap (.t [120])), okT_of (by decide), congrArg (fun s : Str => D.tup [.str "swap", .str s]) (by decide +kernel)⟩
  · exact ⟨.d (.put (.t [121])), okT_of (by decide), congrArg (fun s : Str => D.tup [.str "put", .str s]) (by decide +kernel)⟩
  · exact ⟨.j, trivial, rfl⟩
  · exact ⟨.y, trivial, rfl⟩
abbrev eW : E := .lst (.cons (.cst (.str "one")) (.cons (.cst (.str "file")) (.cons (.cst (.str "of")) (.cons (.cst (.str "in")) (.cons (.tup (.cons (.cst (.str "text")) (.cons (.cst (.str "a")) .nil))) (.cons (.tup (.cons (.cst (.str "text")) (.cons (.cst (.str "b")) .nil))) (.cons (.tup (.cons (.cst (.str "number")) (.cons (.cst (.str "n")) .nil))) .nil)))))))
abbrev eC : E := .lst (.cons (.cst (.str "new")) (.cons (.cst (.str "file")) (.cons (.tup (.cons (.cst (.str "text")) (.cons (.cst (.str "c")) .nil))) (.cons (.tup (.cons (.cst (.str "number")) (.cons (.cst (.str "m")) .nil))) .nil))))
abbrev eE : E := .lst (.cons (.cst (.str "keep")) (.cons (.cst (.str "cut")) (.cons (.tup (.cons (.cst (.str "swap")) (.cons (.cst (.str "x")) .nil))) (.cons (.tup (.cons (.cst (.str "put")) (.cons (.cst (.str "y")) .nil))) (.cons (.tup (.cons (.cst (.str "jump")) (.cons (.cst (.str "z")) .nil))) (.cons (.cst (.str "stay")) .nil))))))
section
variable {k : Nat} {ν : Mu} {Γ : G} {ρ : Rho}
theorem ev_eW : evalE Γ eW ρ ν = .ok (.lst LW) ν := by
  simp only [evalE, evalEs, bind_ok]; rfl
theorem ev_eC : evalE Γ eC ρ ν = .ok (.lst LC) ν := by
  simp only [evalE, evalEs, bind_ok]; rfl
theorem ev_eE : evalE Γ eE ρ ν = .ok (.lst LE) ν := by
  simp only [evalE, evalEs, bind_ok]; rfl
/-- words of a row -/
def okR (n : Nat) (ws : List Wd) : Prop := (∀ w ∈ ws, okW w) ∧ ws.length ≤ n
theorem words_all {l : List D} (h : ∀ y ∈ l, ∃ w, okW w ∧ y = wD w) : ∃ ws : List Wd, l = ws.map wD ∧ (∀ w ∈ ws, okW w) := by
  induction l with
  | nil => exact ⟨[], rfl, fun w hw => by cases hw⟩
  | cons y l ih =>
    obtain ⟨w, hw, rfl⟩ := h y (List.mem_cons_self ..)
    obtain ⟨ws, rfl, hws⟩ := ih fun z hz => h z (List.mem_cons_of_mem _ hz)
    refine ⟨w :: ws, rfl, fun x hx => ?_⟩
    rcases List.mem_cons.mp hx with rfl | hx
    · exact hw
    · exact hws x hx
theorem lwords_ok (h : Bx ν) : ∃ ws ν', okR 6 ws ∧ Bx ν' ∧ (gg (k + 3)).call n_law_words [.ref 0, nD 7] ν = .ok (.tup (ws.map wD)) ν' := by
  obtain ⟨r, ν1, hr, hb, e⟩ := draw_ok (k := k + 1) h (m := 7) (by decide)
  have it : evalIt (gg (k + 2)) (.rng1 (.call 9 (.cons (.var 0) (.cons (.var 1) .nil)))) (startR f_law_words.N.length [.ref 0, nD 7]) ν = .ok (rngD 0 r, none) ν1 := it_rng1 (i := ((r : Nat) : Int)) (ev_call2 (ev_var rfl) (ev_var rfl) e) rfl (by omega)
  obtain ⟨l, ν2, e2, hl, hn, hb2⟩ := comp_inv (f := cbody (gg (k + 2)) [2] (.nm 2) .yes (.call 10 (.cons (.var 0) (.cons eW .nil))) (startR f_law_words.N.length [.ref 0, nD 7])) Bx (fun y => ∃ w, okW w ∧ y = wD w) (ds := rngD 0 r) (acc := []) (μ := ν1) (fun d _ μ hI => by
    obtain ⟨x, μ', hx, hB, q⟩ := pick_ok (k := k) hI (l := LW) (by decide)
    obtain ⟨w, hw, rfl⟩ := LW_ok x hx
    exact ⟨_, μ', cbody_nm (ev_call2 (ev_var rfl) ev_eW q), ⟨w, hw, rfl⟩, hB⟩) (by simp [rngD]; omega) (fun y hy => by cases hy) hb
  obtain ⟨ws, rfl, hws⟩ := words_all hl
  refine ⟨ws, ν2, ⟨hws, ?_⟩, hb2, call_of c_law_words (by rw [hb2.len, h.len]) (run_rt (st_ret (ev_bif1 (ev_comp it e2) tuple_lst)))⟩
  rw [List.length_map] at hn
  simp [rngD] at hn
  omega
abbrev gB : B := forB (nthS b_law_changed 1)
theorem changed_ok (h : Bx ν) {ws : List Wd} (hw : okR 6 ws) : ∃ ws' ν', okR 60 ws' ∧ Bx ν' ∧ (gg (k + 3)).call n_law_changed [.ref 0, .tup (ws.map wD)] ν = .ok (.tup (ws'.map wD)) ν' := by
  obtain ⟨r, ν1, hr, hb, e⟩ := draw_ok (k := k + 1) h (m := 4) (by decide)
  let X : D := .tup (ws.map wD)
  have it : evalIt (gg (k + 2)) (.rng1 (.call 9 (.cons (.var 0) (.cons (.cst (.int 4)) .nil)))) [some (.ref 0), some X, some (.lst (ws.map wD)), none, none, none] ν = .ok (rngD 0 r, none) ν1 := it_rng1 (i := ((r : Nat) : Int)) (ev_call2 (ev_var rfl) ev_cst e) rfl (by omega)
  obtain ⟨ρ', ν2, q, us, o3, o4, o5, hus, hul, hb2, e1⟩ := for_range (f := fbody (gg (k + 2)) (.nm 3) gB) (lo := 0) (n := r) (ρ := [some (.ref 0), some X, some (.lst (ws.map wD)), none, none, none]) (μ := ν1)
    (fun i ρ ν => ∃ (us : List Wd) (o3 o4 o5 : Option D), (∀ w ∈ us, okW w) ∧ us.length + 1 ≤ 7 * 2 ^ i ∧ Bx ν ∧ ρ = [some (.ref 0), some X, some (.lst (us.map wD)), o3, o4, o5])
    ⟨ws, none, none, none, hw.1, by have := hw.2; omega, hb, rfl⟩ (by
      rintro i hi ρ μ ⟨us, o3, o4, o5, hus, hul, hI, rfl⟩
      left
      generalize (0 : Int) + (i : Int) = z
      rw [fbody_nm, Nat.pow_succ]
      have hp : 2 ^ i ≤ 8 := Nat.pow_le_pow_right (by decide) (show i ≤ 3 by omega)
      generalize 2 ^ i = p at hul hp ⊢
      obtain ⟨r1, μ1, hr1, hb1, q1⟩ := draw_ok (k := k + 1) hI (m := 900) (by decide)
      obtain ⟨r2, μ2, hr2, hb2, q2⟩ := draw_ok (k := k + 1) hb1 (m := 3) (by decide)
      obtain ⟨a, ha⟩ : ∃ a : Nat, a = r1 % (us.length + 1) := ⟨_, rfl⟩
      have s0 : runS (gg (k + 2)) (nthS gB 0) [some (.ref 0), some X, some (.lst (us.map wD)), some (.int z), o4, o5] μ = .nx [some (.ref 0), some X, some (.lst (us.map wD)), some (.int z), some (nD a), o5] μ1 := st_set (ev_bin (ev_bif1 (ev_call2 (ev_var rfl) ev_cst q1) int_int) (ev_add1 (ev_bif1 (ev_var rfl) (len_lst.trans (by rw [List.length_map])))) (by rw [ha]; exact mod_n (by omega)))
      have s1 : runS (gg (k + 2)) (nthS gB 1) [some (.ref 0), some X, some (.lst (us.map wD)), some (.int z), some (nD a), o5] μ1 = .nx [some (.ref 0), some X, some (.lst (us.map wD)), some (.int z), some (nD a), some (nD r2)] μ2 := st_set (ev_call2 (ev_var rfl) ev_cst q2)
      have t1 : ∀ {μ : Mu}, evalT (gg (k + 2)) (.val (.cmp .eq (.var 5) (.cst (.int 0)))) [some (.ref 0), some X, some (.lst (us.map wD)), some (.int z), some (nD a), some (nD r2)] μ = .ok (decide (r2 = 0)) μ := fun {μ} => tv_cmpT (ev_var rfl) ev_cst (eq_n (b := 0))
      obtain ⟨u1, e1, m1, n1⟩ := cut_ok (f := wD) (l := us) (lo := none) (hi := some (a : Int))
      have hi1 : ∀ {μ : Mu}, evalE (gg (k + 2)) (.slc (.var 2) .none (.some (.var 4))) [some (.ref 0), some X, some (.lst (us.map wD)), some (.int z), some (nD a), some (nD r2)] μ = .ok (.lst (u1.map wD)) μ := fun {μ} => ev_slc_hi (ev_var rfl) (ev_var rfl) (by rw [slc_l, e1])
      by_cases h0 : r2 = 0
      · have t1' := t1 (μ := μ2)
        rw [decide_eq_true h0] at t1'
        obtain ⟨u2, e2, m2, n2⟩ := cut_ok (f := wD) (l := us) (lo := some ((a + 1 : Nat) : Int)) (hi := none)
        refine ⟨_, _, run_nx s0 (run_nx s1 (run_nx (ifs_true t1' (run_nx (st_set (ev_bin hi1 (ev_slc_lo (ev_var rfl) (ev_add1 (ev_var rfl)) (by rw [slc_l, e2])) (add_l (by rw [List.length_map, List.length_map]; omega)))) run_nil)) run_nil)), u1 ++ u2, _, _, _, ?_, ?_, hb2, by rw [List.map_append]; rfl⟩
        · intro w hw
          rcases List.mem_append.mp hw with hw | hw
          · exact hus w (m1 w hw)
          · exact hus w (m2 w hw)
        · rw [List.length_append]; omega
      · have t1' := t1 (μ := μ2)
        rw [decide_eq_false h0] at t1'
        obtain ⟨x, μ3, hx, hb3, q3⟩ := pick_ok (k := k) hb2 (l := LC) (by decide)
        obtain ⟨w, hwk, rfl⟩ := LC_ok x hx
        obtain ⟨u2, e2, m2, n2⟩ := cut_ok (f := wD) (l := us) (lo := some ((a + (if decide (r2 = 1) then 1 else 0) : Nat) : Int)) (hi := none)
        have lo : evalE (gg (k + 2)) (.slc (.var 2) (.some (.bin .add (.var 4) (.bif .int (.cons (.cmp .eq (.var 5) (.cst (.int 1))) .nil)))) .none) [some (.ref 0), some X, some (.lst (us.map wD)), some (.int z), some (nD a), some (nD r2)] μ3 = .ok (.lst (u2.map wD)) μ3 := ev_slc_lo (ev_var rfl) (ev_bin (ev_var rfl) (ev_bif1 (ev_cmp (ev_var rfl) ev_cst (eq_n (b := 1))) int_bl) add_n) (by rw [slc_l, e2])
        refine ⟨_, _, run_nx s0 (run_nx s1 (run_nx (ifs_false t1' (run_nx (st_set (ev_bin (ev_bin hi1 (ev_lst1 (ev_call2 (ev_var rfl) ev_eC q3)) (add_l (by rw [List.length_map]; show u1.length + 1 ≤ _; omega))) lo (add_l (by rw [List.length_append, List.length_map, List.length_map]; show u1.length + 1 + u2.length ≤ _; omega)))) run_nil)) run_nil)), (u1 ++ [w]) ++ u2, _, _, _, ?_, ?_, hb3, by rw [List.map_append, List.map_append]; rfl⟩
        · intro v hv
          rcases List.mem_append.mp hv with hv | hv
          · rcases List.mem_append.mp hv with hv | hv
            · exact hus v (m1 v hv)
            · rw [List.mem_singleton.mp hv]; exact hwk
          · exact hus v (m2 v hv)
        · rw [List.length_append, List.length_append]; show u1.length + 1 + u2.length + 1 ≤ _; omega)
  subst e1
  have hp : 2 ^ r ≤ 8 := Nat.pow_le_pow_right (by decide) (show r ≤ 3 by omega)
  have s0 : runS (gg (k + 2)) (nthS b_law_changed 0) [some (.ref 0), some X, none, none, none, none] ν = .nx [some (.ref 0), some X, some (.lst (ws.map wD)), none, none, none] ν := st_set (ev_bif1 (ev_var rfl) list_tup)
  exact ⟨us, ν2, ⟨hus, by omega⟩, hb2, call_of c_law_changed (by rw [hb2.len, h.len]) (run_nx s0 (run_nx (for_run' it q) (run_rt (st_ret (ev_bif1 (ev_var rfl) tuple_lst)))))⟩
/-! ### words_of on its row -/
def rowE : List D := [.str "  two words ", .tup [.str "text", .str "a"], .str "and", .tup [.str "number", .str "n"], .str " ", .tup [.str "text", .str "b"]]
def rowD : List D := [.str "two", .str "words", .tup [.str "text", .str "a"], .str "and", .tup [.str "number", .str "n"], .tup [.str "text", .str "b"]]
theorem words_run {m : MO} {Γ : G}   : runB Γ b_words_of (startR f_words_of.N.length [.tup rowE]) [m] = .rt (.tup rowD) ([m] ++ [.lst rowD]) := by
  kernel_rfl
end
end PyI.K26
/-! V11: the law. -/
namespace PyI.K26
open PySem L2 PyProof.Rows
theorem lk_up : ∀ {n : Nat} {d : D}, lk n d → lk (n + 1) d
  | n, .non, _ => trivial
  | n, .bl _, _ => trivial
  | n, .int _, _ => trivial
  | n, .str _, h => by cases n <;> exact h
  | 0, .tup _, h => h.elim
  | n + 1, .tup l, h => ⟨h.1, fun x hx => lk_up (h.2 x hx)⟩
  | n, .lst _, h => by cases n <;> exact h.elim
  | n, .kl _, h => by cases n <;> exact h.elim
  | n, .kt _, h => by cases n <;> exact h.elim
  | n, .ref _, h => by cases n <;> exact h.elim
theorem lk_bs {l : List Bw} (h : ∀ b ∈ l, okB b) (hl : l.length ≤ 1000) : lk 2 (.tup (l.map bD)) := by
  refine ⟨by rw [List.length_map]; exact hl, fun x hx => ?_⟩
  obtain ⟨b, hb, rfl⟩ := List.mem_map.mp hx
  exact bD_lk (h b hb)
theorem lk_dd {d : Dd Bw} (h : okE (.d d)) : lk 2 (dD d) := by
  have st : ∀ {s : Str}, s.cps.toList.all uni = true ∧ s.length ≤ 9000 → lk 2 (.str s) := fun h => h
  have st1 : ∀ {s : Str}, s.cps.toList.all uni = true ∧ s.length ≤ 9000 → lk 1 (.str s) := fun h => h
  cases d with
  | keep => exact st (by decide +kernel)
  | cut => exact st (by decide +kernel)
  | swap b =>
    refine ⟨by simp, fun x hx => ?_⟩
    rcases List.mem_cons.mp hx with rfl | hx
    · exact st1 (by decide +kernel)
    · rw [List.mem_singleton.mp hx]; exact bD_lk h
  | put b =>
    refine ⟨by simp, fun x hx => ?_⟩
    rcases List.mem_cons.mp hx with rfl | hx
    · exact st1 (by decide +kernel)
    · rw [List.mem_singleton.mp hx]; exact bD_lk h
theorem sc_ok {n : Nat} : ∀ {xs ys : List Bw}, xs.length + ys.length ≤ n → (∀ y ∈ ys, okB y) → ∀ d ∈ sc xs ys, okE (.d d) := by
  induction n with
  | zero =>
    intro xs ys hn hy d hd
    have h1 : xs = [] := List.length_eq_zero_iff.mp (by omega)
    have h2 : ys = [] := List.length_eq_zero_iff.mp (by omega)
    subst h1 h2
    rw [sc_nil] at hd
    cases hd
  | succ n ih =>
    intro xs ys hn hy d hd
    by_cases h0 : 0 < xs.length ∨ 0 < ys.length
    · have tl : ∀ {i j : Nat}, (xs.drop i).length + (ys.drop j).length ≤ n → d ∈ sc (xs.drop i) (ys.drop j) → okE (.d d) := fun {i j} hl hm => ih hl (fun y hy' => hy y (List.mem_of_mem_drop hy')) d hm
      have hc := sc_cases (xs := xs) (ys := ys) (h := 0) (t := 0) (Nat.zero_le _) (Nat.zero_le _) h0
      rw [List.drop_zero, List.drop_zero] at hc
      rcases hc with ⟨x, h1, h2, g1, g2, e1, e⟩ | ⟨x, y, h1, h2, g1, g2, ne, e1, e⟩ | ⟨h1, hq, e1, e⟩ | ⟨y, h2, g2, hq, e⟩
      · rw [e] at hd
        rcases List.mem_cons.mp hd with rfl | hd
        · trivial
        · exact tl (by rw [List.length_drop, List.length_drop]; omega) hd
      · rw [e] at hd
        rcases List.mem_cons.mp hd with rfl | hd
        · exact hy y (List.mem_of_getElem? g2)
        · exact tl (by rw [List.length_drop, List.length_drop]; omega) hd
      · rw [e] at hd
        rcases List.mem_cons.mp hd with rfl | hd
        · trivial
        · exact tl (i := 1) (j := 0) (by rw [List.length_drop, List.length_drop]; omega) (by rw [List.drop_zero]; exact hd)
      · rw [e] at hd
        rcases List.mem_cons.mp hd with rfl | hd
        · exact hy y (List.mem_of_getElem? g2)
        · exact tl (i := 0) (j := 1) (by rw [List.length_drop, List.length_drop]; omega) (by rw [List.drop_zero]; exact hd)
    · have h1 : xs = [] := List.length_eq_zero_iff.mp (by omega)
      have h2 : ys = [] := List.length_eq_zero_iff.mp (by omega)
      subst h1 h2
      rw [sc_nil] at hd
      cases hd
theorem rl_ok {xs : List Bw} (hx : ∀ x ∈ xs, okB x) : ∀ {es : List De} {a p a' : Nat} {m m' : List Bw}, (∀ e ∈ es, okE e) → (∀ b ∈ m, okB b) → rl xs es a m p = .inl (a', m') → (∀ b ∈ m', okB b) ∧ m'.length ≤ m.length + es.length
  | [], a, p, a', m, m', he, hm, h => by cases h; exact ⟨hm, Nat.le_refl _⟩
  | e :: es, a, p, a', m, m', he, hm, h => by
    unfold rl at h
    cases hs : stp xs e a m with
    | none => rw [hs] at h; cases h
    | some q =>
      obtain ⟨a1, m1⟩ := q
      rw [hs] at h
      have he0 := he e (List.mem_cons_self ..)
      have app : ∀ {b : Bw}, okB b → ∀ c ∈ m ++ [b], okB c := fun {b} hb c hc => by
        rcases List.mem_append.mp hc with hc | hc
        · exact hm c hc
        · rw [List.mem_singleton.mp hc]; exact hb
      have hm1 : (∀ b ∈ m1, okB b) ∧ m1.length ≤ m.length + 1 := by
        unfold stp at hs
        split at hs
        · cases hq : xs[a]? with
          | none => rw [hq] at hs; cases hs
          | some x =>
            rw [hq] at hs
            cases hs
            exact ⟨app (hx x (List.mem_of_getElem? hq)), by simp⟩
        · split at hs
          · cases hs; exact ⟨hm, by omega⟩
          · cases hs
        · split at hs
          · cases hs; exact ⟨app he0, by simp⟩
          · cases hs
        · cases hs; exact ⟨app he0, by simp⟩
        · cases hs
        · cases hs
      obtain ⟨r1, r2⟩ := rl_ok hx (fun z hz => he z (List.mem_cons_of_mem _ hz)) hm1.1 h
      exact ⟨r1, by rw [List.length_cons]; omega⟩
theorem res_lk {xs : List Bw} {es : List De} (hx : ∀ x ∈ xs, okB x) (he : ∀ e ∈ es, okE e) (hl : es.length ≤ 1000) : lk 2 (resD (pl xs es)) := by
  unfold pl
  cases h : rl xs es 0 [] 0 with
  | inr q => trivial
  | inl w =>
    obtain ⟨a, m⟩ := w
    obtain ⟨r1, r2⟩ := rl_ok hx he (fun b hb => by cases hb) h
    show lk 2 (resD (if a = xs.length then .inl m else .inr es.length))
    split
    · exact lk_bs r1 (by simp at r2; omega)
    · trivial
section
variable {k : Nat} {ν : Mu}
abbrev lB : B := forB (nthS b_law 1)
theorem turn_ok (h : Bx ν) {X : D} {z : Int} {o3 o4 o5 o6 o7 o8 o9 : Option D} : ∃ ν' p3 p4 p5 p6 p7 p8, Bx ν' ∧ runB (gg (k + 5)) lB [some X, some (.ref 0), some (.int z), o3, o4, o5, o6, o7, o8, o9] ν = .nx [some X, some (.ref 0), some (.int z), p3, p4, p5, p6, p7, p8, o9] ν' := by
  obtain ⟨w1, ν1, hw1, b1, q1⟩ := lwords_ok (k := k + 2) h
  obtain ⟨w2, ν2, hw2, b2, q2⟩ := lwords_ok (k := k + 2) b1
  obtain ⟨w3, ν3, hw3, b3, q3⟩ := changed_ok (k := k + 2) b2 hw1
  obtain ⟨r4, ν4, hr4, b4, q4⟩ := draw_ok (k := k + 4) b3 (m := 2) (by decide)
  have hν4 := b4.pure
  obtain ⟨w, hw, hwl, hix⟩ : ∃ w : List Wd, (∀ x ∈ w, okW x) ∧ w.length ≤ 60 ∧ idxA (.lst [.tup (w2.map wD), .tup (w3.map wD)]) (nD r4) ν4 = .ok (.tup (w.map wD)) ν4 := by
    rcases Nat.lt_or_ge r4 1 with h0 | h0
    · obtain rfl : r4 = 0 := by omega
      exact ⟨w2, hw2.1, by have := hw2.2; omega, il0⟩
    · obtain rfl : r4 = 1 := by omega
      exact ⟨w3, hw3.1, hw3.2, il1⟩
  have hw1l := hw1.2
  obtain ⟨xs, hxs⟩ : ∃ xs, xs = sk [] [] w1 := ⟨_, rfl⟩
  obtain ⟨ys, hys⟩ : ∃ ys, ys = sk [] [] w := ⟨_, rfl⟩
  have hx : ∀ b ∈ xs, okB b := by rw [hxs]; exact sk_ok [] [] w1 0 hw1.1 (Nat.le_refl _) (Nat.le_refl _) (by omega)
  have hy : ∀ b ∈ ys, okB b := by rw [hys]; exact sk_ok [] [] w 0 hw (Nat.le_refl _) (Nat.le_refl _) (by omega)
  have hxl : xs.length ≤ 60 := by rw [hxs, sk_len]; omega
  have hyl : ys.length ≤ 60 := by rw [hys, sk_len]; exact hwl
  have l1 : (gg (k + 5)).call n_law_skeleton [.tup (w1.map wD)] ν4 = .ok (.tup (xs.map bD)) ν4 := by rw [hxs]; exact lskel_ok hν4 hw1.1 (by omega)
  have l2 : (gg (k + 5)).call n_law_skeleton [.tup (w.map wD)] ν4 = .ok (.tup (ys.map bD)) ν4 := by rw [hys]; exact lskel_ok hν4 hw (by omega)
  have k1 : (gg (k + 5)).call n_skeleton [.tup (w1.map wD)] ν4 = .ok (.tup (xs.map bD)) ν4 := by rw [hxs]; exact skel_ok hν4 (by omega)
  have k2 : (gg (k + 5)).call n_skeleton [.tup (w.map wD)] ν4 = .ok (.tup (ys.map bD)) ν4 := by rw [hys]; exact skel_ok hν4 (by omega)
  have j1 : (gg (k + 4)).call n_skeleton [.tup (w1.map wD)] ν4 = .ok (.tup (xs.map bD)) ν4 := by rw [hxs]; exact skel_ok hν4 (by omega)
  have j2 : (gg (k + 4)).call n_skeleton [.tup (w.map wD)] ν4 = .ok (.tup (ys.map bD)) ν4 := by rw [hys]; exact skel_ok hν4 (by omega)
  have j3 : (gg (k + 4)).call n_tails [.tup (xs.map bD), .tup (ys.map bD)] ν4 = .ok (.lst (rws ys xs)) ν4 := tails_ok hν4 hx hy (by omega) (by omega)
  have ld : (gg (k + 5)).call n_distance [.tup (w1.map wD), .tup (w.map wD)] ν4 = .ok (.tup [nD (lv xs ys), .tup ((sc xs ys).map dD)]) ν4 := dist_ok hν4 hx hy (by omega) (by omega) j1 j2 j3
  have ls : (gg (k + 5)).call n_law_script [.tup (xs.map bD), .tup (ys.map bD)] ν4 = .ok (.tup [nD (lv xs ys), .tup ((sc xs ys).map dD)]) ν4 := script_ok hν4 hx hy (by omega) (by omega)
  have hsc : ∀ d ∈ sc xs ys, okE (.d d) := sc_ok (Nat.le_refl _) hy
  have hsl : (sc xs ys).length ≤ 120 := Nat.le_trans (scr_len xs ys) (by omega)
  have hes : (sc xs ys).map dD = ((sc xs ys).map De.d).map eD := by rw [List.map_map]; rfl
  have lkA : lk 4 (.tup [.tup (xs.map bD), .tup (ys.map bD)]) := by
    refine lk_up ⟨by simp, fun x hx' => ?_⟩
    rcases List.mem_cons.mp hx' with rfl | hx'
    · exact lk_bs hx (by omega)
    · rw [List.mem_singleton.mp hx']; exact lk_bs hy (by omega)
  have lkB : lk 4 (.tup [nD (lv xs ys), .tup ((sc xs ys).map dD)]) := by
    refine ⟨by simp, fun x hx' => ?_⟩
    rcases List.mem_cons.mp hx' with rfl | hx'
    · trivial
    · rw [List.mem_singleton.mp hx']
      refine ⟨by rw [List.length_map]; omega, fun x hx' => ?_⟩
      obtain ⟨d, hd, rfl⟩ := List.mem_map.mp hx'
      exact lk_dd (hsc d hd)
  have likeA : (gg (k + 5)).call n_law_like [.tup [.tup (xs.map bD), .tup (ys.map bD)], .tup [.tup (xs.map bD), .tup (ys.map bD)]] ν4 = .ok (.bl true) ν4 := like_ok 4 lkA
  have likeB : (gg (k + 5)).call n_law_like [.tup [nD (lv xs ys), .tup ((sc xs ys).map dD)], .tup [nD (lv xs ys), .tup ((sc xs ys).map dD)]] ν4 = .ok (.bl true) ν4 := like_ok 4 lkB
  have ltold : (gg (k + 5)).call n_law_told [.tup (xs.map bD), .tup ((sc xs ys).map dD)] ν4 = .ok (.tup (ys.map bD)) ν4 := by
    have := told_ok (k := k + 1) (xs := xs) (es := (sc xs ys).map De.d) hν4 (fun e he => by
      obtain ⟨d, hd, rfl⟩ := List.mem_map.mp he
      exact hsc d hd) (by rw [List.length_map]; omega)
    rw [pl_sc, ← hes] at this
    exact this
  have likeC : (gg (k + 5)).call n_law_like [.tup (ys.map bD), .tup (ys.map bD)] ν4 = .ok (.bl true) ν4 := like_ok 4 (lk_up (lk_up (lk_bs hy (by omega))))
  -- the changed script
  obtain ⟨r5, ν5, hr5, b5, q5⟩ := draw_ok (k := k + 4) b4 (m := 900) (by decide)
  obtain ⟨x6, ν6, hx6, b6, q6⟩ := pick_ok (k := k + 3) b5 (l := LE) (by decide)
  obtain ⟨e6, he6, rfl⟩ := LE_ok x6 hx6
  obtain ⟨r7, ν7, hr7, b7, q7⟩ := draw_ok (k := k + 4) b6 (m := 2) (by decide)
  have hν7 := b7.pure
  obtain ⟨es0, hes0⟩ : ∃ es0, es0 = (sc xs ys).map De.d := ⟨_, rfl⟩
  have hes0k : ∀ e ∈ es0, okE e := fun e he => by
    rw [hes0] at he
    obtain ⟨d, hd, rfl⟩ := List.mem_map.mp he
    exact hsc d hd
  have hes0l : es0.length ≤ 120 := by rw [hes0, List.length_map]; exact hsl
  rw [← hes0] at hes
  obtain ⟨a, ha⟩ : ∃ a : Nat, a = r5 % (es0.length + 1) := ⟨_, rfl⟩
  obtain ⟨u1, c1, m1, n1⟩ := cut_ok (f := eD) (l := es0) (lo := none) (hi := some (a : Int))
  obtain ⟨u2, c2, m2, n2⟩ := cut_ok (f := eD) (l := es0) (lo := some ((a + r7 : Nat) : Int)) (hi := none)
  obtain ⟨es, hes2⟩ : ∃ es, es = (u1 ++ [e6]) ++ u2 := ⟨_, rfl⟩
  have hesk : ∀ e ∈ es, okE e := fun e he => by
    rw [hes2] at he
    rcases List.mem_append.mp he with he | he
    · rcases List.mem_append.mp he with he | he
      · exact hes0k e (m1 e he)
      · rw [List.mem_singleton.mp he]; exact he6
    · exact hes0k e (m2 e he)
  have hesl : es.length ≤ 300 := by
    rw [hes2, List.length_append, List.length_append]
    show u1.length + 1 + u2.length ≤ 300
    omega
  have lt2 : (gg (k + 5)).call n_law_told [.tup (xs.map bD), .tup (es.map eD)] ν7 = .ok (resD (pl xs es)) ν7 := told_ok (k := k + 1) hν7 hesk (by omega)
  have lp2 : (gg (k + 5)).call n_law_played [.tup (xs.map bD), .tup (es.map eD)] ν7 = .ok (resD (pl xs es)) ν7 := lplayed_ok (k := k + 4) hν7 hesk (by omega)
  have likeD : (gg (k + 5)).call n_law_like [resD (pl xs es), resD (pl xs es)] ν7 = .ok (.bl true) ν7 := like_ok 4 (lk_up (lk_up (res_lk hx hesk (by omega))))
  -- the steps
  let O : D := .tup (w1.map wD)
  let T : D := .tup (w.map wD)
  let Bd : D := .lst [.tup (xs.map bD), .tup (ys.map bD)]
  let Du : D := .tup [nD (lv xs ys), .tup ((sc xs ys).map dD)]
  have s0 : runS (gg (k + 5)) (nthS lB 0) [some X, some (.ref 0), some (.int z), o3, o4, o5, o6, o7, o8, o9] ν = .nx [some X, some (.ref 0), some (.int z), some O, o4, o5, o6, o7, o8, o9] ν1 := st_set (ev_call2 (ev_var rfl) ev_cst q1)
  have s1 : runS (gg (k + 5)) (nthS lB 1) [some X, some (.ref 0), some (.int z), some O, o4, o5, o6, o7, o8, o9] ν1 = .nx [some X, some (.ref 0), some (.int z), some O, some T, o5, o6, o7, o8, o9] ν4 := st_set (ev_idx (ev_lst2 (ev_call2 (ev_var rfl) ev_cst q2) (ev_call2 (ev_var rfl) (ev_var rfl) q3)) (ev_call2 (ev_var rfl) ev_cst q4) hix)
  have s2 : runS (gg (k + 5)) (nthS lB 2) [some X, some (.ref 0), some (.int z), some O, some T, o5, o6, o7, o8, o9] ν4 = .nx [some X, some (.ref 0), some (.int z), some O, some T, some Bd, o6, o7, o8, o9] ν4 := st_set (ev_lst2 (ev_call1 (ev_var rfl) l1) (ev_call1 (ev_var rfl) l2))
  have s3 : runS (gg (k + 5)) (nthS lB 3) [some X, some (.ref 0), some (.int z), some O, some T, some Bd, o6, o7, o8, o9] ν4 = .nx [some X, some (.ref 0), some (.int z), some O, some T, some Bd, some Du, o7, o8, o9] ν4 := st_set (ev_call2 (ev_idx (ev_var rfl) ev_cst il0) (ev_idx (ev_var rfl) ev_cst il1) ls)
  have s4 : runS (gg (k + 5)) (nthS lB 4) [some X, some (.ref 0), some (.int z), some O, some T, some Bd, some Du, o7, o8, o9] ν4 = .nx [some X, some (.ref 0), some (.int z), some O, some T, some Bd, some Du, o7, o8, o9] ν4 :=
    ifs_false (tv_or_ff (tv_not (k := true) (tv_bl (ev_call2 (ev_tup2 (ev_call1 (ev_var rfl) k1) (ev_call1 (ev_var rfl) k2)) (ev_bif1 (ev_var rfl) tuple_lst) likeA))) (tv_not (k := true) (tv_bl (ev_call2 (ev_call2 (ev_var rfl) (ev_var rfl) ld) (ev_var rfl) likeB)))) run_nil
  have s5 : runS (gg (k + 5)) (nthS lB 5) [some X, some (.ref 0), some (.int z), some O, some T, some Bd, some Du, o7, o8, o9] ν4 = .nx [some X, some (.ref 0), some (.int z), some O, some T, some Bd, some Du, o7, o8, o9] ν4 :=
    ifs_false (tv_not (k := true) (tv_bl (ev_call2 (ev_call2 (ev_idx (ev_var rfl) ev_cst il0) (ev_idx (ev_var rfl) ev_cst ix1) ltold) (ev_idx (ev_var rfl) ev_cst il1) likeC))) run_nil
  have s6 : runS (gg (k + 5)) (nthS lB 6) [some X, some (.ref 0), some (.int z), some O, some T, some Bd, some Du, o7, o8, o9] ν4 = .nx [some X, some (.ref 0), some (.int z), some O, some T, some Bd, some Du, some (.lst (es0.map eD)), o8, o9] ν4 := st_set (ev_bif1 (ev_idx (ev_var rfl) ev_cst ix1) (by rw [hes]; exact list_tup))
  have s7 : runS (gg (k + 5)) (nthS lB 7) [some X, some (.ref 0), some (.int z), some O, some T, some Bd, some Du, some (.lst (es0.map eD)), o8, o9] ν4 = .nx [some X, some (.ref 0), some (.int z), some O, some T, some Bd, some Du, some (.lst (es0.map eD)), some (nD a), o9] ν5 := st_set (ev_bin (ev_bif1 (ev_call2 (ev_var rfl) ev_cst q5) int_int) (ev_add1 (ev_bif1 (ev_var rfl) (len_lst.trans (by rw [List.length_map])))) (by rw [ha]; exact mod_n (by omega)))
  have s8 : runS (gg (k + 5)) (nthS lB 8) [some X, some (.ref 0), some (.int z), some O, some T, some Bd, some Du, some (.lst (es0.map eD)), some (nD a), o9] ν5 = .nx [some X, some (.ref 0), some (.int z), some O, some T, some Bd, some Du, some (.lst (es.map eD)), some (nD a), o9] ν7 := by
    have v1 := ev_slc_hi (Γ := gg (k + 5)) (ρ := [some X, some (.ref 0), some (.int z), some O, some T, some Bd, some Du, some (.lst (es0.map eD)), some (nD a), o9]) (μ := ν5) (a := .var 7) (c := .var 8) (ev_var rfl) (ev_var rfl) (by rw [slc_l, c1])
    have v2 := ev_slc_lo (Γ := gg (k + 5)) (ρ := [some X, some (.ref 0), some (.int z), some O, some T, some Bd, some Du, some (.lst (es0.map eD)), some (nD a), o9]) (μ := ν6) (a := .var 7) (b := .bin .add (.var 8) (.call 9 (.cons (.var 1) (.cons (.cst (.int 2)) .nil)))) (ev_var rfl) (ev_bin (ev_var rfl) (ev_call2 (ev_var rfl) ev_cst q7) add_n) (by rw [slc_l, c2])
    refine (st_set (ev_bin (ev_bin v1 (ev_lst1 (ev_call2 (ev_var rfl) ev_eE q6)) (add_l (by rw [List.length_map]; show u1.length + 1 ≤ _; omega))) v2 (add_l (by rw [List.length_append, List.length_map, List.length_map]; show u1.length + 1 + u2.length ≤ _; omega)))).trans ?_
    rw [hes2, List.map_append, List.map_append]
    rfl
  have s9 : runS (gg (k + 5)) (nthS lB 9) [some X, some (.ref 0), some (.int z), some O, some T, some Bd, some Du, some (.lst (es.map eD)), some (nD a), o9] ν7 = .nx [some X, some (.ref 0), some (.int z), some O, some T, some Bd, some Du, some (.lst (es.map eD)), some (nD a), o9] ν7 :=
    ifs_false (tv_not (k := true) (tv_bl (ev_call2 (ev_call2 (ev_idx (ev_var rfl) ev_cst il0) (ev_bif1 (ev_var rfl) tuple_lst) lt2) (ev_call2 (ev_idx (ev_var rfl) ev_cst il0) (ev_bif1 (ev_var rfl) tuple_lst) lp2) likeD))) run_nil
  exact ⟨ν7, _, _, _, _, _, _, b7, run_nx s0 (run_nx s1 (run_nx s2 (run_nx s3 (run_nx s4 (run_nx s5 (run_nx s6 (run_nx s7 (run_nx s8 (run_nx s9 run_nil)))))))))⟩
theorem words_row (h : Bx ν) : (gg (k + 1)).call n_words_of [.tup rowE] ν = .ok (.tup rowD) ν := by
  have hp := h.pure
  obtain ⟨ds, at_, rfl⟩ := h
  exact call_more c_words_of hp (by decide +kernel) words_run
theorem lk_row : lk 4 (.tup rowD) := by
  refine lk_up (lk_up ⟨by decide, fun x hx => ?_⟩)
  have st1 : ∀ {s : Str}, s.cps.toList.all uni = true ∧ s.length ≤ 9000 → lk 1 (.str s) := fun h => h
  have st0 : ∀ {s : Str}, s.cps.toList.all uni = true ∧ s.length ≤ 9000 → lk 0 (.str s) := fun h => h
  have tp : ∀ {s t : Str}, (s.cps.toList.all uni = true ∧ s.length ≤ 9000) → (t.cps.toList.all uni = true ∧ t.length ≤ 9000) → lk 1 (.tup [.str s, .str t]) := fun {s t} h1 h2 => ⟨by simp, fun x hx => by
    rcases List.mem_cons.mp hx with rfl | hx
    · exact st0 h1
    · rw [List.mem_singleton.mp hx]; exact st0 h2⟩
  simp only [rowD, List.mem_cons, List.not_mem_nil, or_false] at hx
  rcases hx with rfl | rfl | rfl | rfl | rfl | rfl
  · exact st1 (by decide +kernel)
  · exact st1 (by decide +kernel)
  · exact tp (by decide +kernel) (by decide +kernel)
  · exact st1 (by decide +kernel)
  · exact tp (by decide +kernel) (by decide +kernel)
  · exact tp (by decide +kernel) (by decide +kernel)
end
theorem main : ∀ ns : List Int, ns.length ≤ 63 → ∃ μ', callD prg.tab prg.con prg.dic prg.wf 200 n_law [.kl (ns.map D.int)] [] = .ok (.bl true) μ' := by
  intro ns _
  let X : D := .kl (ns.map D.int)
  obtain ⟨ds, hd⟩ := digits_ok (k := 197) (ns := ns) (μ := []) (fun m hm => by cases hm)
  have s0 : runS (gg 199) (nthS b_law 0) [some X, none, none, none, none, none, none, none, none, none] [] = .nx [some X, some (.ref 0), none, none, none, none, none, none, none, none] [.lst [.lst (ds.map D.int), nD 0]] := st_new (ev_lst2 (ev_call3 (ev_var rfl) ev_cst ev_cst hd) ev_cst)
  obtain ⟨ρ', ν', q, p2, p3, p4, p5, p6, p7, p8, hb, e1⟩ := for_range (f := fbody (gg 199) (.nm 2) lB) (lo := 0) (n := 4) (ρ := [some X, some (.ref 0), none, none, none, none, none, none, none, none]) (μ := [.lst [.lst (ds.map D.int), nD 0]])
    (fun i ρ ν => ∃ p2 p3 p4 p5 p6 p7 p8, Bx ν ∧ ρ = [some X, some (.ref 0), p2, p3, p4, p5, p6, p7, p8, none])
    ⟨none, none, none, none, none, none, none, ⟨ds, 0, rfl⟩, rfl⟩ (by
      rintro i hi ρ μ ⟨p2, p3, p4, p5, p6, p7, p8, hI, rfl⟩
      left
      generalize (0 : Int) + (i : Int) = z
      rw [fbody_nm]
      obtain ⟨ν', q3, q4, q5, q6, q7, q8, hb, e⟩ := turn_ok (k := 194) hI (X := X) (z := z) (o3 := p3) (o4 := p4) (o5 := p5) (o6 := p6) (o7 := p7) (o8 := p8) (o9 := none)
      exact ⟨_, ν', e, some (.int z), q3, q4, q5, q6, q7, q8, hb, rfl⟩)
  subst e1
  have it : evalIt (gg 199) (.rng1 (.cst (.int 4))) [some X, some (.ref 0), none, none, none, none, none, none, none, none] [.lst [.lst (ds.map D.int), nD 0]] = .ok (rngD 0 4, none) [.lst [.lst (ds.map D.int), nD 0]] := it_rng1 (i := 4) (n := 4) ev_cst rfl (by decide)
  have s2 : runS (gg 199) (nthS b_law 2) [some X, some (.ref 0), p2, p3, p4, p5, p6, p7, p8, none] ν' = .nx [some X, some (.ref 0), p2, p3, p4, p5, p6, p7, p8, some (.tup rowE)] ν' := by
    refine st_set ?_
    simp only [evalE, evalEs, bind_ok]; rfl
  have wr : (gg 199).call n_words_of [.tup rowE] ν' = .ok (.tup rowD) ν' := words_row (k := 198) hb
  have lr : (gg 199).call n_law_like [.tup rowD, .tup rowD] ν' = .ok (.bl true) ν' := like_ok 4 (k := 194) lk_row
  have s3 : runS (gg 199) (nthS b_law 3) [some X, some (.ref 0), p2, p3, p4, p5, p6, p7, p8, some (.tup rowE)] ν' = .rt (.bl true) ν' := by
    refine st_ret (ev_call2 (ev_call1 (ev_var rfl) wr) (y := .tup rowD) (μ2 := ν') ?_ lr)
    simp only [evalE, evalEs, bind_ok]; rfl
  have full : runB (gg 199) b_law (startR f_law.N.length [X]) [] = .rt (.bl true) ν' := run_nx s0 (run_nx (for_run' it q) (run_nx s2 (run_rt (b := .nil) s3)))
  refine ⟨[], ?_⟩
  show callD prg.tab prg.con prg.dic prg.wf (199 + 1) n_law [X] [] = _
  rw [c_law, full, finO_rt]
  exact fin_more (μ := []) (ν := ν') (fun m hm => by cases hm) rfl
end PyI.K26
open PySem PySem.W PyProof.Rows
set_option maxRecDepth 100000 in
set_option maxHeartbeats 0 in
theorem PySem.Challenge.cw_sensekept_k26_memory_distance_holds : PySem.Challenge.rw_sensekept_k26_memory_distance.Holds := by
  w_on; o_law; k_head; (case hw => w_witness2)
  k_fill
  refine PyI.law_walk (p := PyI.K26.prg) (ct := ⟨fun c => match c with | 0 => 67 | _ => 0, fun c => (PyI.K26.tb.clss.getD c ("", [])).2⟩) (f := PyI.K26.n_law) (kk := 200) rfl rfl ⟨rfl, by decide, by decide⟩ (fun w h Y => PySem.W.kIn_of Y) PyI.K26.main ?F
  case F =>
    intro w mg fa h KX G hmg
    refine PyI.law_fn PyI.K26.prg_ok ⟨fun c => match c with | 0 => 67 | _ => 0, fun c => (PyI.K26.tb.clss.getD c ("", [])).2⟩ ⟨?bi, ?con, ?dic, ?cls, ?isx, ?fn⟩ hmg rfl rfl rfl 200
    case bi =>
      refine' PyI.biAll KX G ?z0 ?z1 ?z2 ?z3 ?z4 ?z5 ?z6 ?z7 ?z8 ?z9 ?z10 ?z11 ?z12 ?z13 ?z14 ?z15 ?z16 ?z17 ?z18 ?z19 ?z20
      (case z0 => k_is); (case z1 => k_is); (case z2 => k_is); (case z3 => k_is); (case z4 => k_is); (case z5 => k_is); (case z6 => k_is); (case z7 => k_is); (case z8 => k_is); (case z9 => k_is); (case z10 => k_is); (case z11 => k_is); (case z12 => k_is); (case z13 => k_is); (case z14 => k_is); (case z15 => k_is); (case z16 => k_is); (case z17 => k_is); (case z18 => k_is); (case z19 => k_is); (case z20 => k_is)
    case con =>
      intro g x d h1 h2
      cases h1
    case dic =>
      intro g x h1
      cases h1
    case cls =>
      intro c x fl h1
      rcases c with _ | c
      · obtain ⟨rfl, rfl⟩ : ("BadScript" : PySem.Str) = x ∧ (["place"] : List PySem.Str) = fl := Prod.mk.inj (Option.some.inj h1)
        refine' ⟨PyI.cls1_all KX G ?y_a ?y_lC ?y_hbm ?y_sa ?y_exC ?y_tyC ?y_kC ?y_ga ?y_gg ?y_hd ?y_ha ?y_hn ?y_ht ?y_hm ?y_ifi ?y_ity ?y_lI ?y_hcd ?y_lD ?y_lc ?y_hc ?y_hs ?y_ho ?y_hal ?y_hv ?y_sup ?y_hno ?y_hss ?y_hp ?y_har ?y_hf ?y_hpf ?y_htp ?y_hb ?y_S ?y_hks ?y_hx1 ?y_hx2 ?y_hz ?y_hce ?y_hsw, rfl, by decide⟩
        (case y_a => k_is); (case y_lC => k_is); (case y_hbm => rfl); (case y_sa => k_is); (case y_exC => k_is); (case y_tyC => k_is); (case y_kC => k_is); (case y_ga => k_is); (case y_gg => k_is); (case y_hd => k_is); (case y_ha => k_is); (case y_hn => k_is); (case y_ht => k_is); (case y_hm => k_is); (case y_ifi => k_is); (case y_ity => k_is); (case y_lI => k_is); (case y_hcd => k_is); (case y_lD => k_is); (case y_lc => k_is); (case y_hc => k_is); (case y_hs => k_is); (case y_ho => k_is); (case y_hal => ks_is); (case y_hv => k_is); (case y_sup => k_is); (case y_hno => k_is); (case y_hss => k_is); (case y_hp => rfl); (case y_har => rfl); (case y_hf => rfl); (case y_hpf => first | rfl | decide +kernel); (case y_htp => first | rfl | decide +kernel); (case y_hb => exact fun us hl => match us, hl with | [_, _], _ => rfl); (case y_S => first | rfl | decide +kernel); (case y_hks => rfl); (case y_hx1 => decide); (case y_hx2 => decide); (case y_hz => decide); (case y_hce => exact fun env => ⟨_, rfl⟩); (case y_hsw => exact fun _ => rfl)
      · cases h1
    case isx =>
      intro c x b h1
      simp only [PyI.K26.prg, PyI.K26.tb, List.mem_cons, Prod.mk.injEq, List.not_mem_nil, or_false] at h1
      rcases h1 with ⟨rfl, rfl, rfl⟩ | ⟨rfl, rfl, rfl⟩
      · refine' PyI.isxR KX G ?y_a ?y_hc ?y_ht ?y_hs ?y_hne; (case y_a => k_is); (case y_hc => k_is); (case y_ht => k_is); (case y_hs => k_is); (case y_hne => first | rfl | decide)
      · refine' PyI.isxR KX G ?y_a ?y_hc ?y_ht ?y_hs ?y_hne; (case y_a => k_is); (case y_hc => k_is); (case y_ht => k_is); (case y_hs => k_is); (case y_hne => first | rfl | decide)
    case fn =>
      intro d hd
      simp only [PyI.K26.prg, List.mem_cons, List.not_mem_nil, or_false] at hd
      rcases hd with rfl | rfl | rfl | rfl | rfl | rfl | rfl | rfl | rfl | rfl | rfl | rfl | rfl | rfl | rfl | rfl | rfl | rfl | rfl | rfl
      · refine' PyI.defAt (name := "words_of") (qual := "words_of") (st := PyI.K26.top 5) KX G PyI.K26.bn_words_of ?a ?l ?c ?k; (case a => k_is); (case l => k_is); (case c => k_is); (case k => k_is)
      · refine' PyI.defAt (name := "skeleton") (qual := "skeleton") (st := PyI.K26.top 6) KX G PyI.K26.bn_skeleton ?a ?l ?c ?k; (case a => k_is); (case l => k_is); (case c => k_is); (case k => k_is)
      · refine' PyI.defAt (name := "distance") (qual := "distance") (st := PyI.K26.top 7) KX G PyI.K26.bn_distance ?a ?l ?c ?k; (case a => k_is); (case l => k_is); (case c => k_is); (case k => k_is)
      · refine' PyI.defAt (name := "tails") (qual := "tails") (st := PyI.K26.top 8) KX G PyI.K26.bn_tails ?a ?l ?c ?k; (case a => k_is); (case l => k_is); (case c => k_is); (case k => k_is)
      · refine' PyI.defAt (name := "is_word") (qual := "is_word") (st := PyI.K26.top 9) KX G PyI.K26.bn_is_word ?a ?l ?c ?k; (case a => k_is); (case l => k_is); (case c => k_is); (case k => k_is)
      · refine' PyI.defAt (name := "is_deed_of") (qual := "is_deed_of") (st := PyI.K26.top 10) KX G PyI.K26.bn_is_deed_of ?a ?l ?c ?k; (case a => k_is); (case l => k_is); (case c => k_is); (case k => k_is)
      · refine' PyI.defAt (name := "played") (qual := "played") (st := PyI.K26.top 11) KX G PyI.K26.bn_played ?a ?l ?c ?k; (case a => k_is); (case l => k_is); (case c => k_is); (case k => k_is)
      · refine' PyI.defAt (name := "_law_cell") (qual := "_law_cell") (st := PyI.K26.top 13) KX G PyI.K26.bn_law_cell ?a ?l ?c ?k; (case a => k_is); (case l => k_is); (case c => k_is); (case k => k_is)
      · refine' PyI.defAt (name := "_law_digits") (qual := "_law_digits") (st := PyI.K26.top 14) KX G PyI.K26.bn_law_digits ?a ?l ?c ?k; (case a => k_is); (case l => k_is); (case c => k_is); (case k => k_is)
      · refine' PyI.defAt (name := "_law_draw") (qual := "_law_draw") (st := PyI.K26.top 15) KX G PyI.K26.bn_law_draw ?a ?l ?c ?k; (case a => k_is); (case l => k_is); (case c => k_is); (case k => k_is)
      · refine' PyI.defAt (name := "_law_pick") (qual := "_law_pick") (st := PyI.K26.top 16) KX G PyI.K26.bn_law_pick ?a ?l ?c ?k; (case a => k_is); (case l => k_is); (case c => k_is); (case k => k_is)
      · refine' PyI.defAt (name := "_law_like") (qual := "_law_like") (st := PyI.K26.top 17) KX G PyI.K26.bn_law_like ?a ?l ?c ?k; (case a => k_is); (case l => k_is); (case c => k_is); (case k => k_is)
      · refine' PyI.defAt (name := "_law_words") (qual := "_law_words") (st := PyI.K26.top 18) KX G PyI.K26.bn_law_words ?a ?l ?c ?k; (case a => k_is); (case l => k_is); (case c => k_is); (case k => k_is)
      · refine' PyI.defAt (name := "_law_changed") (qual := "_law_changed") (st := PyI.K26.top 19) KX G PyI.K26.bn_law_changed ?a ?l ?c ?k; (case a => k_is); (case l => k_is); (case c => k_is); (case k => k_is)
      · refine' PyI.defAt (name := "_law_skeleton") (qual := "_law_skeleton") (st := PyI.K26.top 20) KX G PyI.K26.bn_law_skeleton ?a ?l ?c ?k; (case a => k_is); (case l => k_is); (case c => k_is); (case k => k_is)
      · refine' PyI.defAt (name := "_law_table") (qual := "_law_table") (st := PyI.K26.top 21) KX G PyI.K26.bn_law_table ?a ?l ?c ?k; (case a => k_is); (case l => k_is); (case c => k_is); (case k => k_is)
      · refine' PyI.defAt (name := "_law_script") (qual := "_law_script") (st := PyI.K26.top 22) KX G PyI.K26.bn_law_script ?a ?l ?c ?k; (case a => k_is); (case l => k_is); (case c => k_is); (case k => k_is)
      · refine' PyI.defAt (name := "_law_played") (qual := "_law_played") (st := PyI.K26.top 23) KX G PyI.K26.bn_law_played ?a ?l ?c ?k; (case a => k_is); (case l => k_is); (case c => k_is); (case k => k_is)
      · refine' PyI.defAt (name := "_law_told") (qual := "_law_told") (st := PyI.K26.top 24) KX G PyI.K26.bn_law_told ?a ?l ?c ?k; (case a => k_is); (case l => k_is); (case c => k_is); (case k => k_is)
      · refine' PyI.defAt (name := "law") (qual := "law") (st := PyI.K26.top 25) KX G PyI.K26.bn_law ?a ?l ?c ?k; (case a => k_is); (case l => k_is); (case c => k_is); (case k => k_is)
#print axioms PySem.Challenge.cw_sensekept_k26_memory_distance_holds
