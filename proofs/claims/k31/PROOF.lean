import PyProof.Rows.All
import Wide.All
import OpenK.AllK
import Wide.FinOn
import HandS.ForMost
import HandS.ForExc
import HandS.ForSpec
import HandS.Style
import HandS.IsInst
import HandS.StrMore
import HandS.StrSplit
import HandS.Flow
import HandS.CallSlots
import HandS.ReplaceLit
import HandS.More
import HandS.WrittenGet
import HandS.TupAny
import HandS.WideBits
import HandS.SortInts
import HandS.ExcInit
import HandS.ExcField
import HandS.ExcIs
import HandS.Translate
import HandS.Dict
import HandS.FStr
import HandS.Iter
import HandS.NoneIn
import HandS.Nested
import KE.KExcSuper
import KE.RegKSuper
import KE.KExcIs
import HandS.ReplaceDef
import HandS.ReplaceList
import KE.IntTextLaws
import PySem.Challenge.RW_sensekept_k31_plain_wrong_texts
set_option Elab.async false
set_option linter.all false
set_option maxRecDepth 100000
set_option maxHeartbeats 4000000
/-! A1: data values D, the small heap Mu, how they stand in the abstract heap. -/
namespace PyI
open PySem L2

inductive D where
  | non | bl (b : Bool) | int (i : Int) | str (s : Str)
  | tup (l : List D) | lst (l : List D) | ref (n : Nat) | kl (l : List D)
  deriving Inhabited

/-- an object that may change -/
inductive MO where
  | lst (l : List D)
  | dead
  | ins (c : Nat) (fs : List (Str × D))
  | dk (kvs : List (Key × D))
  deriving Inhabited

abbrev Mu := List MO
abbrev Rho := List (Option D)

/-- the part of SqT, SqL that no heap changes -/
def TK (K : PySem.W.Frag) (a : Addr) (xs : List V) : Prop := SqT K (fun _ => none) a xs
def LK (K : PySem.W.Frag) (a : Addr) (xs : List V) : Prop := SqL K (fun _ => none) a xs
theorem TK.sq {K : PySem.W.Frag} {H : Hp} {a : Addr} {xs : List V} (h : TK K a xs) : SqT K H a xs := by
  rcases h with h | h
  · rcases h with h | ⟨o, h⟩ <;> cases h
  · exact .inr h
theorem LK.sq {K : PySem.W.Frag} {H : Hp} {a : Addr} {xs : List V} (h : LK K a xs) : SqL K H a xs := by
  rcases h with h | h
  · rcases h with h | ⟨o, h⟩ <;> cases h
  · exact .inr h
/-- our addresses: of the small heap's objects, by number; and what else is kept out of the data -/
structure AM where
  ix : List Addr
  ex : List Addr
def AM.out (M : AM) (a : Addr) : Prop := a ∉ M.ix ∧ a ∉ M.ex
abbrev AM.hide (M : AM) (p : Addr) : AM := { M with ex := p :: M.ex }
abbrev AM.add (M : AM) (p : Addr) : AM := { M with ix := M.ix ++ [p] }
abbrev AM.cut (M : AM) (n : Nat) : AM := { M with ix := M.ix.take n }

def TA' (K : PySem.W.Frag) (H : Hp) (M : AM) (a : Addr) (xs : List V) : Prop := (Rd H a (.tup xs) ∧ M.out a) ∨ TK K a xs
/-- a list of the written part, or one of ours -/
def KA' (K : PySem.W.Frag) (H : Hp) (M : AM) (a : Addr) (xs : List V) : Prop := (Rd H a (.lst xs) ∧ M.out a) ∨ LK K a xs
def LA' (_ : PySem.W.Frag) (H : Hp) (M : AM) (a : Addr) (xs : List V) : Prop := Rd H a (.lst xs) ∧ M.out a
section
variable {K : PySem.W.Frag} {H H' H1 H2 : Hp} {M M' M1 M2 : AM} {a p : Addr} {xs : List V}
theorem TA'.sq (h : TA' K H M a xs) : SqT K H a xs := by
  rcases h with h | h
  · exact .inl h.1
  · exact h.sq
theorem KA'.sq (h : KA' K H M a xs) : SqL K H a xs := by
  rcases h with h | h
  · exact .inl h.1
  · exact h.sq
theorem LA'.sq (h : LA' K H M a xs) : SqL K H a xs := .inl h.1
end

mutual
inductive Rep (K : PySem.W.Frag) (H : Hp) (M : AM) : V → D → Prop
  | non : Rep K H M .non .non
  | bl (b : Bool) : Rep K H M (.bl b) (.bl b)
  | int (i : Int) : Rep K H M (.int i) (.int i)
  | str (x : Str) : Rep K H M (.str x) (.str x)
  | tup {a : Addr} {xs : List V} {ds : List D} : TA' K H M a xs → Reps K H M xs ds → Rep K H M (.ref a) (.tup ds)
  | lst {a : Addr} {xs : List V} {ds : List D} : LA' K H M a xs → Reps K H M xs ds → Rep K H M (.ref a) (.lst ds)
  | ref {a : Addr} {n : Nat} : M.ix[n]? = some a → Rep K H M (.ref a) (.ref n)
  | kl {a : Addr} {xs : List V} {ds : List D} : KA' K H M a xs → Reps K H M xs ds → Rep K H M (.ref a) (.kl ds)
inductive Reps (K : PySem.W.Frag) (H : Hp) (M : AM) : List V → List D → Prop
  | nil : Reps K H M [] []
  | cons {v : V} {vs : List V} {d : D} {ds : List D} : Rep K H M v d → Reps K H M vs ds → Reps K H M (v :: vs) (d :: ds)
end

/-- how heaps go on: what is tracked and no object of ours stays; our objects keep their places -/
structure Evo (M : AM) (H : Hp) (M' : AM) (H' : Hp) : Prop where
  pre : ∀ (n : Nat) (a : Addr), M.ix[n]? = some a → M'.ix[n]? = some a
  len : M.ix.length ≤ M'.ix.length
  ex : M'.ex = M.ex
  keep : ∀ (a : Addr) (o : HO), H a = some o → a ∉ M.ix → H' a = some o ∧ a ∉ M'.ix

/-- what lets a datum stand: the same for the data alone (addresses may leave ex, and new ones come in) -/
structure Stay (M : AM) (H : Hp) (M' : AM) (H' : Hp) : Prop where
  pre : ∀ (n : Nat) (a : Addr), M.ix[n]? = some a → M'.ix[n]? = some a
  keep : ∀ (a : Addr) (o : HO), H a = some o → M.out a → H' a = some o ∧ M'.out a

section
variable {K : PySem.W.Frag} {H H' H1 H2 : Hp} {M M' M1 M2 : AM} {a p : Addr} {xs : List V} {u o : HO}
theorem Evo.refl (M : AM) (H : Hp) : Evo M H M H := ⟨fun _ _ h => h, Nat.le_refl _, rfl, fun _ _ h n => ⟨h, n⟩⟩
theorem Evo.trans (a : Evo M H M1 H1) (b : Evo M1 H1 M2 H2) : Evo M H M2 H2 :=
  ⟨fun n x h => b.pre n x (a.pre n x h), Nat.le_trans a.len b.len, b.ex.trans a.ex, fun x o h n => b.keep x o (a.keep x o h n).1 (a.keep x o h n).2⟩
theorem Evo.stay (e : Evo M H M' H') : Stay M H M' H' := ⟨e.pre, fun a o h n => ⟨(e.keep a o h n.1).1, (e.keep a o h n.1).2, by rw [e.ex]; exact n.2⟩⟩
theorem Stay.trans (a : Stay M H M1 H1) (b : Stay M1 H1 M2 H2) : Stay M H M2 H2 :=
  ⟨fun n x h => b.pre n x (a.pre n x h), fun x o h n => b.keep x o (a.keep x o h n).1 (a.keep x o h n).2⟩
/-- a new address is kept out -/
theorem Stay.hide (h : H p = none) : Stay M H (M.hide p) H := ⟨fun _ _ q => q, fun a o e n => ⟨e, n.1, by
  show a ∉ p :: M.ex
  rw [List.mem_cons]
  rintro (q | q)
  · exact ne_of_none e h q
  · exact n.2 q⟩⟩
theorem Stay.unhide : Stay (M.hide p) H M H := ⟨fun _ _ q => q, fun a o e n => ⟨e, n.1, fun q => n.2 (List.mem_cons_of_mem _ q)⟩⟩
/-- what is kept out becomes ours -/
theorem Stay.take : Stay (M.hide p) H (M.add p) H := ⟨fun n a q => by
    show (M.ix ++ [p])[n]? = some a
    have z : n < M.ix.length := by
      rcases Nat.lt_or_ge n M.ix.length with z | z
      · exact z
      · rw [List.getElem?_eq_none z] at q; cases q
    rw [List.getElem?_append_left z]; exact q, fun a o e n => ⟨e, by
    show a ∉ M.ix ++ [p]
    rw [List.mem_append, List.mem_singleton]
    rintro (q | q)
    · exact n.1 q
    · exact n.2 (by rw [q]; exact List.mem_cons_self ..), fun q => n.2 (List.mem_cons_of_mem _ q)⟩⟩
/-- what is kept out changes -/
theorem Stay.mutEx (h : p ∈ M.ex) : Stay M H M (upd H p o) := ⟨fun _ _ q => q, fun a u e n => ⟨by rw [upd_ne (fun (q : a = p) => n.2 (by rw [q]; exact h))]; exact e, n⟩⟩
theorem Rd.stay (e : Stay M H M' H') (h : Rd H a u) (n : M.out a) : Rd H' a u ∧ M'.out a := by
  rcases h with h | ⟨o, h⟩
  · exact ⟨.inl (e.keep a _ h n).1, (e.keep a _ h n).2⟩
  · exact ⟨.inr ⟨o, (e.keep a _ h n).1⟩, (e.keep a _ h n).2⟩
theorem TA'.stay (e : Stay M H M' H') (h : TA' K H M a xs) : TA' K H' M' a xs := by
  rcases h with h | h
  · exact .inl (Rd.stay e h.1 h.2)
  · exact .inr h
theorem KA'.stay (e : Stay M H M' H') (h : KA' K H M a xs) : KA' K H' M' a xs := by
  rcases h with h | h
  · exact .inl (Rd.stay e h.1 h.2)
  · exact .inr h
theorem LA'.stay (e : Stay M H M' H') (h : LA' K H M a xs) : LA' K H' M' a xs := Rd.stay e h.1 h.2
end
mutual
theorem Rep.stay {K : PySem.W.Frag} {M M' : AM} {H H' : Hp} (e : Stay M H M' H') : ∀ {v : V} {d : D}, Rep K H M v d → Rep K H' M' v d
  | _, _, .non => .non
  | _, _, .bl b => .bl b
  | _, _, .int i => .int i
  | _, _, .str x => .str x
  | _, _, .tup h r => .tup (h.stay e) (Reps.stay e r)
  | _, _, .lst h r => .lst (h.stay e) (Reps.stay e r)
  | _, _, .kl h r => .kl (h.stay e) (Reps.stay e r)
  | _, _, .ref h => .ref (e.pre _ _ h)
theorem Reps.stay {K : PySem.W.Frag} {M M' : AM} {H H' : Hp} (e : Stay M H M' H') : ∀ {vs : List V} {ds : List D}, Reps K H M vs ds → Reps K H' M' vs ds
  | _, _, .nil => .nil
  | _, _, .cons h r => .cons (Rep.stay e h) (Reps.stay e r)
end
theorem Rep.evo {K : PySem.W.Frag} {M M' : AM} {H H' : Hp} {v : V} {d : D} (e : Evo M H M' H') (h : Rep K H M v d) : Rep K H' M' v d := h.stay e.stay
theorem Reps.evo {K : PySem.W.Frag} {M M' : AM} {H H' : Hp} {vs : List V} {ds : List D} (e : Evo M H M' H') (h : Reps K H M vs ds) : Reps K H' M' vs ds := h.stay e.stay

/-! ### no reference from n on -/
mutual
def below (n : Nat) : D → Bool
  | .ref k => decide (k < n)
  | .tup l => belows n l
  | .lst l => belows n l
  | .kl l => belows n l
  | _ => true
def belows (n : Nat) : List D → Bool
  | [] => true
  | d :: ds => below n d && belows n ds
end
def belowMO (n : Nat) : MO → Bool
  | .lst l => belows n l
  | .dead => true
  | .ins _ fs => fs.all fun p => below n p.2
  | .dk kvs => kvs.all fun p => below n p.2

theorem AM.out.cut {M : AM} {a : Addr} (n : Nat) (h : M.out a) : (M.cut n).out a := ⟨fun q => h.1 (List.mem_of_mem_take q), h.2⟩
mutual
theorem Rep.cut {K : PySem.W.Frag} {M : AM} {H : Hp} (n : Nat) : ∀ {v : V} {d : D}, Rep K H M v d → below n d = true → Rep K H (M.cut n) v d
  | _, _, .non, _ => .non
  | _, _, .bl b, _ => .bl b
  | _, _, .int i, _ => .int i
  | _, _, .str x, _ => .str x
  | _, _, .tup (.inl h) r, q => .tup (.inl ⟨h.1, h.2.cut n⟩) (Reps.cut n r (by simpa only [below] using q))
  | _, _, .tup (.inr h) r, q => .tup (.inr h) (Reps.cut n r (by simpa only [below] using q))
  | _, _, .lst h r, q => .lst ⟨h.1, h.2.cut n⟩ (Reps.cut n r (by simpa only [below] using q))
  | _, _, .kl (.inl h) r, q => .kl (.inl ⟨h.1, h.2.cut n⟩) (Reps.cut n r (by simpa only [below] using q))
  | _, _, .kl (.inr h) r, q => .kl (.inr h) (Reps.cut n r (by simpa only [below] using q))
  | _, _, .ref (n := k) h, q => .ref (by
      have q' : k < n := by simpa only [below, decide_eq_true_eq] using q
      show (M.ix.take n)[k]? = _
      rw [List.getElem?_take_of_lt q']; exact h)
theorem Reps.cut {K : PySem.W.Frag} {M : AM} {H : Hp} (n : Nat) : ∀ {vs : List V} {ds : List D}, Reps K H M vs ds → belows n ds = true → Reps K H (M.cut n) vs ds
  | _, _, .nil, _ => .nil
  | _, _, .cons h r, q => by
    simp only [belows, Bool.and_eq_true] at q
    exact .cons (Rep.cut n h q.1) (Reps.cut n r q.2)
end

section
variable {K : PySem.W.Frag} {H H' : Hp} {M : AM}
theorem Reps.length : ∀ {vs : List V} {ds : List D}, Reps K H M vs ds → vs.length = ds.length
  | _, _, .nil => rfl
  | _, _, .cons _ r => congrArg (· + 1) (Reps.length r)
theorem Reps.get : ∀ {vs : List V} {ds : List D} {i : Nat} {d : D}, Reps K H M vs ds → ds[i]? = some d → ∃ v, vs[i]? = some v ∧ Rep K H M v d
  | _, _, 0, _, .cons h _, e => by simp at e; subst e; exact ⟨_, rfl, h⟩
  | _, _, i + 1, d, .cons _ r, e => by
    obtain ⟨v, h1, h2⟩ := Reps.get (i := i) (d := d) r (by simpa using e)
    exact ⟨v, by simpa using h1, h2⟩
theorem Reps.append : ∀ {vs ws : List V} {ds es : List D}, Reps K H M vs ds → Reps K H M ws es → Reps K H M (vs ++ ws) (ds ++ es)
  | _, _, _, _, .nil, s => s
  | _, _, _, _, .cons h r, s => .cons h (Reps.append r s)
theorem Reps.takeL : ∀ {vs : List V} {ds : List D} (n : Nat), Reps K H M vs ds → Reps K H M (vs.take n) (ds.take n)
  | _, _, 0, _ => .nil
  | _, _, _ + 1, .nil => .nil
  | _, _, n + 1, .cons h r => .cons h (Reps.takeL n r)
theorem Reps.dropL : ∀ {vs : List V} {ds : List D} (n : Nat), Reps K H M vs ds → Reps K H M (vs.drop n) (ds.drop n)
  | _, _, 0, r => r
  | _, _, _ + 1, .nil => .nil
  | _, _, n + 1, .cons _ r => Reps.dropL n r
theorem Reps.set {v : V} {d : D} (q : Rep K H M v d) : ∀ {vs : List V} {ds : List D} (n : Nat), Reps K H M vs ds → Reps K H M (vs.set n v) (ds.set n d)
  | _, _, _, .nil => .nil
  | _, _, 0, .cons _ r => .cons q r
  | _, _, n + 1, .cons h r => .cons h (Reps.set q n r)
theorem Reps.rev : ∀ {vs : List V} {ds : List D}, Reps K H M vs ds → Reps K H M vs.reverse ds.reverse
  | _, _, .nil => .nil
  | _, _, .cons h r => by rw [List.reverse_cons, List.reverse_cons]; exact (Reps.rev r).append (.cons h .nil)
theorem Reps.one {v : V} {d : D} (h : Rep K H M v d) : Reps K H M [v] [d] := .cons h .nil
theorem Reps.one_inv {vs : List V} {d : D} (h : Reps K H M vs [d]) : ∃ v, vs = [v] ∧ Rep K H M v d := by
  cases h with
  | cons h r => cases r; exact ⟨_, rfl, h⟩
end

/-! ### the small heap in the abstract one -/
def FRep (K : PySem.W.Frag) (H : Hp) (M : AM) : List (Str × V) → List (Str × D) → Prop := Paired fun p q => p.1 = q.1 ∧ Rep K H M p.2 q.2
def KRep (K : PySem.W.Frag) (H : Hp) (M : AM) : List (Key × V) → List (Key × D) → Prop := Paired fun p q => p.1 = q.1 ∧ Rep K H M p.2 q.2
theorem paired_imp {α β : Type} {R S : α → β → Prop} (h : ∀ x y, R x y → S x y) : ∀ {xs : List α} {ys : List β}, Paired R xs ys → Paired S xs ys
  | _, _, .nil => .nil
  | _, _, .cons a r => .cons (h _ _ a) (paired_imp h r)

/-- the addresses of the classes, by number -/
structure CTab where
  cls : Nat → Addr
  flds : Nat → List Str

def MRep (K : PySem.W.Frag) (ct : CTab) (H : Hp) (M : AM) (a : Addr) : MO → Prop
  | .lst ds => ∃ xs, H a = some (.lst xs) ∧ Reps K H M xs ds
  | .dead => ∃ o, H a = some o
  | .ins c fs => ∃ dx fvs, H a = some (.ins (ct.cls c) dx fvs) ∧ FRep K H M fvs fs
  | .dk kvs => ∃ ks, H a = some (.dK ks) ∧ KRep K H M ks kvs

structure RelH (K : PySem.W.Frag) (ct : CTab) (H : Hp) (μ : Mu) (M : AM) : Prop where
  len : M.ix.length = μ.length
  nd : M.ix.Nodup
  at_ : ∀ (n : Nat) (mo : MO), μ[n]? = some mo → ∃ a, M.ix[n]? = some a ∧ MRep K ct H M a mo
  exs : ∀ a ∈ M.ex, (∃ o, H a = some o) ∧ a ∉ M.ix

section
variable {K : PySem.W.Frag} {ct : CTab} {H H' : Hp} {M M' : AM} {a p : Addr} {mo : MO} {μ : Mu} {o : HO}
theorem MRep.is (h : MRep K ct H M a mo) : ∃ o, H a = some o := by
  cases mo with
  | lst ds => obtain ⟨xs, h, _⟩ := h; exact ⟨_, h⟩
  | dead => exact h
  | ins c fs => obtain ⟨dx, fvs, h, _⟩ := h; exact ⟨_, h⟩
  | dk kvs => obtain ⟨ks, h, _⟩ := h; exact ⟨_, h⟩
theorem RelH.mem (R : RelH K ct H μ M) {a : Addr} (h : a ∈ M.ix) : ∃ o, H a = some o := by
  obtain ⟨n, hn, e⟩ := List.getElem_of_mem h
  have h1 : n < μ.length := R.len ▸ hn
  obtain ⟨a', e', r⟩ := R.at_ n μ[n] (List.getElem?_eq_getElem h1)
  rw [List.getElem?_eq_getElem hn, e] at e'
  cases e'
  exact r.is
theorem RelH.fresh (R : RelH K ct H μ M) {a : Addr} (h : H a = none) : M.out a := by
  refine ⟨fun q => ?_, fun q => ?_⟩
  · obtain ⟨o, e⟩ := R.mem q
    rw [h] at e; cases e
  · obtain ⟨⟨o, e⟩, _⟩ := R.exs a q
    rw [h] at e; cases e

/-- an object is made that is none of ours -/
theorem Evo.new (h : H p = none) : Evo M H M (upd H p o) :=
  ⟨fun _ _ q => q, Nat.le_refl _, rfl, fun a u e n => ⟨by rw [upd_ne (ne_of_none e h)]; exact e, n⟩⟩
theorem ix_add {l : List Addr} {n : Nat} {a p : Addr} (q : l[n]? = some a) : (l ++ [p])[n]? = some a := by
  have z : n < l.length := by
    rcases Nat.lt_or_ge n l.length with z | z
    · exact z
    · rw [List.getElem?_eq_none z] at q; cases q
  rw [List.getElem?_append_left z]; exact q
/-- an object is made that is ours -/
theorem Evo.own (h : H p = none) : Evo M H (M.add p) (upd H p o) :=
  ⟨fun n a q => ix_add q,
    by show _ ≤ (M.ix ++ [p]).length; simp, rfl, fun a u e n => ⟨by rw [upd_ne (ne_of_none e h)]; exact e, by
      show a ∉ M.ix ++ [p]
      rw [List.mem_append, List.mem_singleton]
      rintro (q | q)
      · exact n q
      · exact ne_of_none e h q⟩⟩
/-- one of ours changes -/
theorem Evo.mut (h : p ∈ M.ix) : Evo M H M (upd H p o) :=
  ⟨fun _ _ q => q, Nat.le_refl _, rfl, fun a u e n => ⟨by rw [upd_ne (fun (q : a = p) => n (by rw [q]; exact h))]; exact e, n⟩⟩

theorem MRep.stay (e : Stay M H M' H') (ha : ∀ o, H a = some o → H' a = some o) (h : MRep K ct H M a mo) : MRep K ct H' M' a mo := by
  cases mo with
  | lst ds => obtain ⟨xs, h, r⟩ := h; exact ⟨xs, ha _ h, r.stay e⟩
  | dead => obtain ⟨o, h⟩ := h; exact ⟨o, ha _ h⟩
  | ins c fs => obtain ⟨dx, fvs, h, r⟩ := h; exact ⟨dx, fvs, ha _ h, paired_imp (fun _ _ q => ⟨q.1, q.2.stay e⟩) r⟩
  | dk kvs => obtain ⟨ks, h, r⟩ := h; exact ⟨ks, ha _ h, paired_imp (fun _ _ q => ⟨q.1, q.2.stay e⟩) r⟩

theorem RelH.new (R : RelH K ct H μ M) (h : H p = none) : RelH K ct (upd H p o) μ M :=
  ⟨R.len, R.nd, fun n mo q => by
    obtain ⟨a, e, r⟩ := R.at_ n mo q
    exact ⟨a, e, r.stay (Evo.new h).stay fun u z => by rw [upd_ne (ne_of_none z h)]; exact z⟩, fun a q => by
    obtain ⟨⟨u, z⟩, y⟩ := R.exs a q
    exact ⟨⟨u, by rw [upd_ne (ne_of_none z h)]; exact z⟩, y⟩⟩
/-- a new object is kept out of the data -/
theorem RelH.hide (R : RelH K ct H μ M) (h : H p = none) : RelH K ct (upd H p o) μ (M.hide p) :=
  ⟨R.len, R.nd, fun n mo q => by
    obtain ⟨a, e, r⟩ := R.at_ n mo q
    exact ⟨a, e, r.stay ((Stay.hide h).trans (Evo.new h).stay) fun u z => by rw [upd_ne (ne_of_none z h)]; exact z⟩, fun a q => by
    rcases List.mem_cons.mp q with z | q
    · subst z; exact ⟨⟨o, upd_same⟩, (R.fresh h).1⟩
    · obtain ⟨⟨u, z⟩, y⟩ := R.exs a q
      exact ⟨⟨u, by rw [upd_ne (ne_of_none z h)]; exact z⟩, y⟩⟩
theorem RelH.unhide (R : RelH K ct H μ (M.hide p)) : RelH K ct H μ M :=
  ⟨R.len, R.nd, fun n mo q => by
    obtain ⟨a, e, r⟩ := R.at_ n mo q
    exact ⟨a, e, r.stay Stay.unhide fun _ z => z⟩, fun a q => R.exs a (List.mem_cons_of_mem _ q)⟩
/-- what is kept out changes -/
theorem RelH.mutEx (R : RelH K ct H μ M) (h : p ∈ M.ex) : RelH K ct (upd H p o) μ M :=
  ⟨R.len, R.nd, fun n mo q => by
    obtain ⟨a, e, r⟩ := R.at_ n mo q
    refine ⟨a, e, r.stay (Stay.mutEx h) fun u z => ?_⟩
    rw [upd_ne (fun (x : a = p) => (R.exs p h).2 (by rw [← x]; exact List.mem_of_getElem? e))]; exact z, fun a q => by
    obtain ⟨⟨u, z⟩, y⟩ := R.exs a q
    by_cases x : a = p
    · subst x; exact ⟨⟨o, upd_same⟩, y⟩
    · exact ⟨⟨u, by rw [upd_ne x]; exact z⟩, y⟩⟩
/-- what was kept out becomes ours -/
theorem RelH.takeIn (R : RelH K ct H μ (M.hide p)) (hn : p ∉ M.ex) (hm : MRep K ct H (M.add p) p mo) : RelH K ct H (μ ++ [mo]) (M.add p) := by
  have hp := (R.exs p (List.mem_cons_self ..)).2
  refine ⟨?_, ?_, fun n mo' q => ?_, fun a q => ?_⟩
  · show (M.ix ++ [p]).length = _
    have := R.len
    simp only [List.length_append, List.length_singleton]
    exact congrArg (· + 1) this
  · show (M.ix ++ [p]).Nodup
    rw [List.nodup_append]
    refine ⟨R.nd, by simp, fun a ha b hb => ?_⟩
    rw [List.mem_singleton] at hb
    rintro rfl
    exact hp (hb ▸ ha)
  · rcases Nat.lt_or_ge n μ.length with z | z
    · rw [List.getElem?_append_left z] at q
      obtain ⟨a, e, r⟩ := R.at_ n mo' q
      exact ⟨a, ix_add e, r.stay Stay.take fun _ z => z⟩
    · rw [List.getElem?_append_right z] at q
      have z1 : n - μ.length = 0 := by
        rcases Nat.eq_zero_or_pos (n - μ.length) with y | y
        · exact y
        · rw [List.getElem?_eq_none (by rw [List.length_singleton]; exact y)] at q; cases q
      rw [z1] at q
      simp at q
      subst q
      refine ⟨p, ?_, hm⟩
      show (M.ix ++ [p])[n]? = some p
      have hl : M.ix.length = μ.length := R.len
      rw [List.getElem?_append_right (by rw [hl]; exact z), hl, z1]
      rfl
  · obtain ⟨x, y⟩ := R.exs a (List.mem_cons_of_mem _ q)
    refine ⟨x, ?_⟩
    show a ∉ M.ix ++ [p]
    rw [List.mem_append, List.mem_singleton]
    rintro (z | z)
    · exact y z
    · exact hn (z ▸ q)
theorem RelH.mut (R : RelH K ct H μ M) {n : Nat} (hp : M.ix[n]? = some p) (hm : MRep K ct (upd H p o) M p mo) : RelH K ct (upd H p o) (μ.set n mo) M := by
  have hpm : p ∈ M.ix := List.mem_of_getElem? hp
  refine ⟨by rw [List.length_set]; exact R.len, R.nd, fun k mo' q => ?_, fun a q => ?_⟩
  · rw [List.getElem?_set] at q
    by_cases e : n = k
    · subst e
      rw [if_pos rfl] at q
      split at q
      · cases q; exact ⟨p, hp, hm⟩
      · cases q
    · rw [if_neg e] at q
      obtain ⟨a, e', r⟩ := R.at_ k mo' q
      refine ⟨a, e', r.stay (Evo.mut hpm).stay fun u z => ?_⟩
      have ne : a ≠ p := fun x => e ((List.getElem?_inj (by
        rcases Nat.lt_or_ge n M.ix.length with y | y
        · exact y
        · rw [List.getElem?_eq_none y] at hp; cases hp) R.nd).mp (by rw [hp, e', x]))
      rw [upd_ne ne]; exact z
  · obtain ⟨⟨u, z⟩, y⟩ := R.exs a q
    exact ⟨⟨u, by rw [upd_ne (fun (x : a = p) => y (by rw [x]; exact hpm))]; exact z⟩, y⟩
theorem RelH.cut (R : RelH K ct H μ M) (n : Nat) (hb : (μ.take n).all (belowMO n) = true) : RelH K ct H (μ.take n) (M.cut n) := by
  refine ⟨by show (M.ix.take n).length = _; rw [List.length_take, List.length_take, R.len], R.nd.sublist (List.take_sublist _ _), fun k mo q => ?_, fun a q => ?_⟩
  · have hk : k < n := by
      rcases Nat.lt_or_ge k n with y | y
      · exact y
      · rw [List.getElem?_eq_none (by rw [List.length_take]; omega)] at q; cases q
    have hb' : belowMO n mo = true := (List.all_eq_true.mp hb) mo (List.mem_of_getElem? q)
    rw [List.getElem?_take_of_lt hk] at q
    obtain ⟨a, e, r⟩ := R.at_ k mo q
    refine ⟨a, by show (M.ix.take n)[k]? = _; rw [List.getElem?_take_of_lt hk]; exact e, ?_⟩
    cases mo with
    | lst ds => obtain ⟨xs, h, r⟩ := r; exact ⟨xs, h, r.cut n hb'⟩
    | dead => exact r
    | ins c fs =>
      obtain ⟨dx, fvs, h, r⟩ := r
      refine ⟨dx, fvs, h, ?_⟩
      have hb2 : ∀ p ∈ fs, below n p.2 = true := by simpa [belowMO, List.all_eq_true] using hb'
      clear hb' q h e
      induction r with
      | nil => exact .nil
      | cons a r ih => exact .cons ⟨a.1, a.2.cut n (hb2 _ (List.mem_cons_self ..))⟩ (ih fun p hp => hb2 p (List.mem_cons_of_mem _ hp))
    | dk kvs =>
      obtain ⟨ks, h, r⟩ := r
      refine ⟨ks, h, ?_⟩
      have hb2 : ∀ p ∈ kvs, below n p.2 = true := by simpa [belowMO, List.all_eq_true] using hb'
      clear hb' q h e
      induction r with
      | nil => exact .nil
      | cons a r ih => exact .cons ⟨a.1, a.2.cut n (hb2 _ (List.mem_cons_self ..))⟩ (ih fun p hp => hb2 p (List.mem_cons_of_mem _ hp))
  · obtain ⟨x, y⟩ := R.exs a q
    exact ⟨x, fun z => y (List.mem_of_mem_take z)⟩
/-- evolution seen from the beginning, when what was made is cut off -/
theorem Evo.cut (e : Evo M H M' H') : Evo M H (M'.cut M.ix.length) H' :=
  ⟨fun n a h => by
      have z : n < M.ix.length := by
        rcases Nat.lt_or_ge n M.ix.length with z | z
        · exact z
        · rw [List.getElem?_eq_none z] at h; cases h
      show (M'.ix.take M.ix.length)[n]? = some a
      rw [List.getElem?_take_of_lt z]; exact e.pre n a h,
    by show _ ≤ (M'.ix.take M.ix.length).length; rw [List.length_take]; exact Nat.le_min.mpr ⟨Nat.le_refl _, e.len⟩, e.ex,
    fun a o h n => ⟨(e.keep a o h n).1, fun q => (e.keep a o h n).2 (List.mem_of_mem_take q)⟩⟩
/-- with one address kept out -/
theorem Evo.hide (e : Evo M H M' H') : Evo (M.hide p) H (M'.hide p) H' := ⟨e.pre, e.len, congrArg (p :: ·) e.ex, e.keep⟩
theorem Evo.unhide (e : Evo (M.hide p) H (M'.hide p) H') : Evo M H M' H' := ⟨e.pre, e.len, (List.cons.inj e.ex).2, e.keep⟩
end

/-- slots -/
structure RelE (K : PySem.W.Frag) (H : Hp) (M : AM) (σ : St) (ρ : Rho) : Prop where
  len : σ.length = ρ.length
  at_ : ∀ (i : Nat) (d : D), ρ[i]? = some (some d) → ∃ v, σ[i]? = some (some v) ∧ Rep K H M v d
section
variable {K : PySem.W.Frag} {H H' : Hp} {M M' : AM} {σ : St} {ρ : Rho}
theorem RelE.stay (e : Stay M H M' H') (R : RelE K H M σ ρ) : RelE K H' M' σ ρ :=
  ⟨R.len, fun i d h => by obtain ⟨v, h1, h2⟩ := R.at_ i d h; exact ⟨v, h1, h2.stay e⟩⟩
theorem RelE.evo (e : Evo M H M' H') (R : RelE K H M σ ρ) : RelE K H' M' σ ρ := R.stay e.stay
theorem RelE.set (R : RelE K H M σ ρ) {v : V} {d : D} (r : Rep K H M v d) (i : Nat) : RelE K H M (σ.set i (some v)) (ρ.set i (some d)) := by
  refine ⟨by rw [List.length_set, List.length_set]; exact R.len, fun k d' h => ?_⟩
  rw [List.getElem?_set] at h ⊢
  by_cases e : i = k
  · rw [if_pos e] at h ⊢
    by_cases z : i < ρ.length
    · rw [if_pos z] at h; cases h
      rw [if_pos (by rw [R.len]; exact z)]
      exact ⟨v, rfl, r⟩
    · rw [if_neg z] at h; cases h
  · rw [if_neg e] at h ⊢
    exact R.at_ k d' h
/-- a slot is emptied -/
theorem RelE.clear (R : RelE K H M σ ρ) (i : Nat) (x : Option V) : RelE K H M (σ.set i x) (ρ.set i none) := by
  refine ⟨by rw [List.length_set, List.length_set]; exact R.len, fun k d h => ?_⟩
  rw [List.getElem?_set] at h ⊢
  by_cases e : i = k
  · rw [if_pos e] at h
    split at h <;> simp at h
  · rw [if_neg e] at h ⊢
    exact R.at_ k d h
def wipeR (ρ : Rho) : List Nat → Rho
  | [] => ρ
  | i :: is => (wipeR ρ is).set i none
theorem RelE.wipe (R : RelE K H M σ ρ) : ∀ is : List Nat, RelE K H M (L2.wipe σ is) (wipeR ρ is)
  | [] => R
  | i :: is => (R.wipe is).clear i none
end
theorem wipe_set {σ : St} {i : Nat} {v : Option V} : ∀ {vs : List Nat}, i ∈ vs → L2.wipe (σ.set i v) vs = L2.wipe σ vs := by
  intro vs h
  apply List.ext_getElem?
  intro k
  by_cases hk : k ∈ vs
  · have w : ∀ (τ : St) (vs : List Nat), k ∈ vs → k < τ.length → (L2.wipe τ vs)[k]? = some none := by
      intro τ vs
      induction vs with
      | nil => intro h; cases h
      | cons j js ih =>
        intro hk hl
        unfold L2.wipe
        rw [List.getElem?_set]
        by_cases e : j = k
        · rw [if_pos e, if_pos (by rw [wipe_length, e]; exact hl)]
        · rw [if_neg e]
          rcases List.mem_cons.mp hk with z | z
          · exact absurd z.symm e
          · exact ih z hl
    rcases Nat.lt_or_ge k σ.length with z | z
    · rw [w σ vs hk z, w _ vs hk (by rw [List.length_set]; exact z)]
    · rw [List.getElem?_eq_none (by rw [wipe_length, List.length_set]; exact z), List.getElem?_eq_none (by rw [wipe_length]; exact z)]
  · rw [L2.wipe_out hk, L2.wipe_out hk, List.getElem?_set, if_neg (fun (e : i = k) => hk (by rw [← e]; exact h))]
end PyI
/-! A2: the resolved syntax and its interpreter. -/
namespace PyI
open PySem L2

inductive Bop where
  | add | sub | mul | fdiv | mod | pow | shl | shr | band | bor | bxor
  deriving DecidableEq
inductive Cop where
  | eq | ne | lt | le | gt | ge | is_ | isnot | in_ | notin
  deriving DecidableEq
inductive Ty where
  | str | int | bool | tuple | list
  deriving DecidableEq
inductive Bif where
  | len | int | str | tuple | list | sorted | min | max | sum | any | all | abs | ord | bool
  deriving DecidableEq
inductive Met where
  | append | join | find | isascii | isprintable | split | endswith | startswith | extend | pop | index | isdigit | isalpha | islower
  deriving DecidableEq
inductive Tg where
  | nm (i : Nat)
  | tp (l : List Nat)
  deriving DecidableEq

mutual
inductive E where
  | var (i : Nat)
  | cst (d : D)
  | glob (g : Nat)
  | bin (o : Bop) (a b : E)
  | neg (a : E)
  | inv (a : E)
  | bits (a : E)
  | notv (t : T)
  | and (a b : E)
  | or (a b : E)
  | cmp (o : Cop) (a b : E)
  | chn (o o' : Cop) (a b c : E)
  | ite (t : T) (a b : E)
  | call (f : Nat) (as : Es)
  | bif (b : Bif) (as : Es)
  | isi (a : E) (t : Ty)
  | met (m : Met) (o : E) (as : Es)
  | tr37 (o : E)
  | idx (a b : E)
  | slc (a : E) (lo hi : O)
  | tup (es : Es)
  | lst (es : Es)
  | comp (own : List Nat) (tg : Tg) (it : IT) (c : T) (e : E)
  | gdict (g : Nat) (k : E)            -- CONST[k], a dict of the module with text keys
  | gin (neg : Bool) (g : Nat) (k : E)  -- k in CONST
  | fmt (a : E)                        -- a part {a} of an f-string
  | fs (es : Es)                       -- an f-string of two parts or more
  | dgl (l : List (Str × D)) (k : E)   -- {'..': .., ..}[k]
  | dgt (l : List (Str × D)) (k d : E) -- {'..': .., ..}.get(k, d)
inductive Es where
  | nil
  | cons (e : E) (es : Es)
inductive O where
  | none
  | some (e : E)
inductive T where
  | yes
  | val (e : E)
  | not (t : T)
  | and (t u : T)
  | or (t u : T)
inductive IT where
  | seq (e : E)
  | rng1 (a : E)
  | rng2 (a b : E)
end
/-- e.replace(y, z).replace(..).. -/
inductive R where
  | base (e : E)
  | repl (r : R) (y z : Str)
/-- what a suite of except hands back: literals, fields of the error -/
inductive XA where
  | cst (d : D)
  | fld (k : Nat)
inductive XR where
  | one (a : XA)
  | tup (l : List XA)
mutual
inductive S where
  | rse (c n : Nat) (es : Es)                -- raise C(e, ..)
  | tryR (r : E) (c : Nat) (i : Nat) (h : XR)  -- try: return r / except C as i: return h
  | setR (i : Nat) (r : R)
  | retR (pre : Str) (r : R) (post : Str)      -- return 'pre' + r + 'post'
  | set (tg : Tg) (e : E)
  | new (i : Nat) (e : E)
  | setIx (o i v : E)
  | aug (i : Nat) (o : Bop) (e : E)
  | expr (e : E)
  | ifs (t : T) (a b : B)
  | for_ (tg : Tg) (it : IT) (b : B)
  | whl (t : T) (b : B)
  | ret (e : E)
  | retN
  | pass
  | brk
  | cnt
  | bad                                   -- nothing is known of it
inductive B where
  | nil
  | cons (s : S) (b : B)
end

inductive Res (α : Type) where
  | ok (a : α) (μ : Mu)
  | err (c : Nat) (fs : List D) (μ : Mu)
  | stuck

def Res.bind {α β : Type} (r : Res α) (f : α → Mu → Res β) : Res β := match r with
  | .ok a μ => f a μ
  | .err c fs μ => .err c fs μ
  | .stuck => .stuck
def needs {α : Type} (p : Prop) [Decidable p] (r : Res α) : Res α := if p then r else .stuck
theorem needs_pos {α : Type} {p : Prop} [Decidable p] {r : Res α} (h : p) : needs p r = r := if_pos h

structure G where
  call : Nat → List D → Mu → Res D
  con : Nat → Option D
  dic : Nat → List (Str × D)
  wf : Nat
  mkr : Bool

/-! ### equality -/
mutual
def D.beq : D → D → Bool
  | .non, .non => true
  | .bl a, .bl b => a == b
  | .int a, .int b => a == b
  | .str a, .str b => a == b
  | .ref a, .ref b => a == b
  | .tup a, .tup b => D.beqs a b
  | .lst a, .lst b => D.beqs a b
  | _, _ => false
def D.beqs : List D → List D → Bool
  | [], [] => true
  | x :: xs, y :: ys => D.beq x y && D.beqs xs ys
  | _, _ => false
end
mutual
/-- Python's == on data -/
def eqD : D → D → Bool
  | .non, .non => true
  | .bl a, .bl b => a == b
  | .bl a, .int j => (if a then 1 else 0) == j
  | .int i, .bl b => i == (if b then 1 else 0)
  | .int i, .int j => i == j
  | .str x, .str y => x == y
  | .lst xs, .lst ys => eqDs xs ys
  | .tup xs, .tup ys => eqDs xs ys
  | _, _ => false
def eqDs : List D → List D → Bool
  | [], [] => true
  | x :: xs, y :: ys => eqD x y && eqDs xs ys
  | _, _ => false
end
mutual
/-- what == is told of: no references, texts of signs, at most n deep -/
def eqOk : Nat → D → Bool
  | _, .non | _, .bl _ | _, .int _ => true
  | _, .str s => s.cps.all (· < 0x110000)
  | 0, .tup _ | 0, .lst _ => false
  | n + 1, .tup l => eqOks n l
  | n + 1, .lst l => eqOks n l
  | _, .ref _ => false
  | _, .kl _ => false
def eqOks : Nat → List D → Bool
  | _, [] => true
  | n, d :: ds => eqOk n d && eqOks n ds
end
/-- a list object's content as a datum -/
def deref (μ : Mu) : D → D
  | .ref n => match μ[n]? with
    | some (.lst l) => .lst l
    | _ => .ref n
  | d => d
def flatD : D → Bool
  | .non | .bl _ | .int _ | .str _ => true
  | _ => false
/-- the items of a list or a tuple -/
def seqD (μ : Mu) : D → Option (List D)
  | .tup l => some l
  | .lst l => some l
  | .kl l => some l
  | .ref n => match μ[n]? with
    | some (.lst l) => some l
    | _ => none
  | _ => none
/-- the items of a list -/
def lstD (μ : Mu) : D → Option (List D)
  | .lst l => some l
  | .ref n => match μ[n]? with
    | some (.lst l) => some l
    | _ => none
  | _ => none
def truD (μ : Mu) : D → Mu → Res Bool
  | .non, ν => .ok false ν
  | .bl b, ν => .ok b ν
  | .int i, ν => .ok (i != 0) ν
  | .str s, ν => needs (s.length ≤ 16777216) (.ok (s.length != 0) ν)
  | .tup l, ν => .ok (!l.isEmpty) ν
  | .lst l, ν => .ok (!l.isEmpty) ν
  | .kl _, _ => .stuck
  | .ref n, ν => match μ[n]? with
    | some (.lst l) => .ok (!l.isEmpty) ν
    | _ => .stuck

/-! ### operators -/
/-- a text, so many times -/
def strRep (x : Str) (n : Nat) : Str := ⟨(List.replicate n x.cps).foldl (· ++ ·) #[]⟩
abbrev lim64 (i : Int) : Prop := -(2 ^ 64) < i ∧ i < 2 ^ 64
def binD (o : Bop) (x y : D) (μ : Mu) : Res D := match o, x, y with
  | .add, .int i, .int j => .ok (.int (i + j)) μ
  | .sub, .int i, .int j => .ok (.int (i - j)) μ
  | .mul, .int i, .int j => needs ((lim64 i ∨ lim64 j) ∨ i.natAbs.log2 + j.natAbs.log2 < 1000000) (.ok (.int (i * j)) μ)
  | .fdiv, .int i, .int j => needs (0 < j ∧ (j < 1073741824 ∨ j.natAbs.log2 < 9000)) (.ok (.int (i / j)) μ)
  | .mod, .int i, .int j => needs (0 < j) (.ok (.int (i % j)) μ)
  | .pow, .int i, .int j => needs (0 ≤ j ∧ j ≤ 1000000 ∧ i.natAbs < 2 ^ 64) (.ok (.int (i ^ j.toNat)) μ)
  | .shl, .int i, .int j => needs ((0 ≤ j ∧ j ≤ 1000000 ∧ i.natAbs < 2 ^ 64) ∨ (0 ≤ j ∧ (Builtin.Int.intBits i : Int) + j ≤ 2 ^ 27)) (.ok (.int (i * 2 ^ j.toNat)) μ)
  | .shr, .int i, .int j => needs (0 ≤ j) (.ok (.int (i / 2 ^ j.toNat)) μ)
  | .band, .int i, .int j => .ok (.int (Builtin.bitAnd i j)) μ
  | .bor, .int i, .int j => .ok (.int (Builtin.bitOr i j)) μ
  | .bxor, .int i, .int j => .ok (.int (Builtin.bitXor i j)) μ
  | .add, .str i, .str j => needs (i.length + j.length ≤ 16777216) (.ok (.str (i ++ j)) μ)
  | .add, .tup i, .tup j => needs (i.length + j.length ≤ 16777216) (.ok (.tup (i ++ j)) μ)
  | .mul, .str i, .int j => needs ((-(2 ^ 62) ≤ j ∧ j < 2 ^ 62) ∧ i.length * j.toNat ≤ 16777216) (.ok (.str (strRep i j.toNat)) μ)
  | .add, x, y => match lstD μ x, lstD μ y with
    | some i, some j => needs (i.length + j.length ≤ 16777216) (.ok (.lst (i ++ j)) μ)
    | _, _ => .stuck
  | _, _, _ => .stuck
def ltS (i j : Str) : Bool := decide (i.cps.toList < j.cps.toList)
def cmpD (o : Cop) (x y : D) (μ : Mu) : Res Bool := match o with
  | .eq => let x := deref μ x; let y := deref μ y; needs (eqOk 64 x = true ∧ eqOk 64 y = true) (.ok (eqD x y) μ)
  | .ne => let x := deref μ x; let y := deref μ y; needs (eqOk 64 x = true ∧ eqOk 64 y = true) (.ok (!eqD x y) μ)
  | .lt => match x, y with
    | .int i, .int j => .ok (decide (i < j)) μ
    | .str i, .str j => .ok (ltS i j) μ
    | _, _ => .stuck
  | .le => match x, y with
    | .int i, .int j => .ok (decide (i ≤ j)) μ
    | .str i, .str j => .ok (!ltS j i) μ
    | _, _ => .stuck
  | .gt => match x, y with
    | .int i, .int j => .ok (decide (j < i)) μ
    | .str i, .str j => .ok (ltS j i) μ
    | _, _ => .stuck
  | .ge => match x, y with
    | .int i, .int j => .ok (decide (j ≤ i)) μ
    | .str i, .str j => .ok (!ltS i j) μ
    | _, _ => .stuck
  | .is_ => match x, y with
    | .non, .non => .ok true μ
    | _, .non => .ok false μ
    | .bl a, .bl b => .ok (a == b) μ
    | _, .bl _ => .ok false μ
    | _, _ => .stuck
  | .isnot => match x, y with
    | .non, .non => .ok false μ
    | _, .non => .ok true μ
    | .bl a, .bl b => .ok (!(a == b)) μ
    | _, .bl _ => .ok true μ
    | _, _ => .stuck
  | .in_ => match x, y with
    | .str i, .str j => .ok (!(Builtin.Str.occurrences j i 0 j.length 1).isEmpty) μ
    | x, y => match seqD μ y with
      | some l => needs (flatD x = true ∧ l.all flatD = true) (.ok (l.any fun y => eqD y x) μ)
      | none => .stuck
  | .notin => match x, y with
    | .str i, .str j => .ok (!(!(Builtin.Str.occurrences j i 0 j.length 1).isEmpty)) μ
    | x, y => match seqD μ y with
      | some l => needs (flatD x = true ∧ l.all flatD = true) (.ok (!(l.any fun y => eqD y x)) μ)
      | none => .stuck
def isiD (x : D) (t : Ty) (μ : Mu) : Res D := match x with
  | .non => .ok (.bl false) μ
  | .bl _ => .ok (.bl (t == .bool || t == .int)) μ
  | .int _ => .ok (.bl (t == .int)) μ
  | .str _ => .ok (.bl (t == .str)) μ
  | .tup _ => .ok (.bl (t == .tuple)) μ
  | .lst _ => .ok (.bl (t == .list)) μ
  | .kl _ => .stuck
  | .ref n => match μ[n]? with
    | some (.lst _) => .ok (.bl (t == .list)) μ
    | _ => .stuck
def strsOf : List D → Option (List Str)
  | [] => some []
  | .str s :: ds => (strsOf ds).map (s :: ·)
  | _ => none
def intsOf : List D → Option (List Int)
  | [] => some []
  | .int s :: ds => (intsOf ds).map (s :: ·)
  | _ => none
def boolsOf : List D → Option (List Bool)
  | [] => some []
  | .bl s :: ds => (boolsOf ds).map (s :: ·)
  | _ => none
def maxL : List Int → Int
  | [] => 0
  | [a] => a
  | a :: b :: r => if a < maxL (b :: r) then maxL (b :: r) else a
def minL : List Int → Int
  | [] => 0
  | [a] => a
  | a :: b :: r => if minL (b :: r) < a then minL (b :: r) else a
def insI (a : Int) : List Int → List Int
  | [] => [a]
  | b :: r => if a ≤ b then a :: b :: r else b :: insI a r
def sortI : List Int → List Int
  | [] => []
  | a :: r => insI a (sortI r)
def bifD (b : Bif) (ds : List D) (μ : Mu) : Res D := match b, ds with
  | .len, [.str s] => needs (s.length ≤ 16777216) (.ok (.int s.length) μ)
  | .len, [d] => match seqD μ d with
    | some l => .ok (.int l.length) μ
    | none => .stuck
  | .int, [.int i] => .ok (.int i) μ
  | .int, [.bl k] => .ok (.int (if k then 1 else 0)) μ
  | .int, [.str s] => match PySem.intText? s with
    | some n => needs (s.length ≤ 640) (.ok (.int n) μ)
    | none => .stuck
  | .str, [.int i] => needs (i.natAbs.log2 < 1920) (.ok (.str (toString i)) μ)
  | .abs, [.int i] => .ok (.int (if i < 0 then -i else i)) μ
  | .max, [.int i, .int j] => .ok (.int (if j > i then j else i)) μ
  | .min, [.int i, .int j] => .ok (.int (if j < i then j else i)) μ
  | .tuple, [.tup l] => .ok (.tup l) μ
  | .tuple, [d] => match seqD μ d with
    | some l => .ok (.tup l) μ
    | none => .stuck
  | .list, [d] => match seqD μ d with
    | some l => .ok (.lst l) μ
    | none => .stuck
  | .ord, [.str s] => needs (s.length = 1) (.ok (.int (s.cps.getD 0 0 : Nat)) μ)
  | .sum, [d] => match (lstD μ d).bind intsOf with
    | some l => .ok (.int l.sum) μ
    | none => .stuck
  | .any, [d] => match (lstD μ d).bind boolsOf with
    | some l => .ok (.bl (l.any id)) μ
    | none => .stuck
  | .all, [d] => match (lstD μ d).bind boolsOf with
    | some l => .ok (.bl (l.all id)) μ
    | none => .stuck
  | .max, [d] => match (lstD μ d).bind intsOf with
    | some l => needs (0 < l.length) (.ok (.int (maxL l)) μ)
    | none => .stuck
  | .min, [d] => match (lstD μ d).bind intsOf with
    | some l => needs (0 < l.length) (.ok (.int (minL l)) μ)
    | none => .stuck
  | .sorted, [d] => match (lstD μ d).bind intsOf with
    | some l => .ok (.lst ((sortI l).map D.int)) μ
    | none => .stuck
  | _, _ => .stuck
def metD (m : Met) (o : D) (ds : List D) (μ : Mu) : Res D := match m, o, ds with
  | .append, .ref n, [d] => match μ[n]? with
    | some (.lst l) => needs (l.length < 16777216) (.ok .non (μ.set n (.lst (l ++ [d]))))
    | _ => .stuck
  | .join, .str a, [d] => match (seqD μ d).bind strsOf with
    | some ys => needs ((ys.map (·.length)).sum + ys.length * a.length ≤ 16777216) (.ok (.str (Txt.join a ys)) μ)
    | none => .stuck
  | .find, .str a, [.str b, .int i] => .ok (.int (Txt.find3 a b i)) μ
  | .find, .str a, [.str b] => .ok (.int (Txt.find a b)) μ
  | .isascii, .str a, [] => .ok (.bl (Txt.isascii a)) μ
  | .isprintable, .str a, [] => .ok (.bl (Txt.isprintable a)) μ
  | .isdigit, .str a, [] => .ok (.bl (Txt.isdigit a)) μ
  | .isalpha, .str a, [] => .ok (.bl (Txt.isalpha a)) μ
  | .islower, .str a, [] => .ok (.bl (Txt.islower a)) μ
  | .startswith, .str a, [.str b] => .ok (.bl (Txt.startswith a b)) μ
  | .endswith, .str a, [.str b] => .ok (.bl (Txt.endswith a b)) μ
  | .split, .str a, [.str b] => needs (¬ b.length = 0 ∧ a.length + 2 ≤ 16777216) (.ok (.lst ((Txt.split a b).map D.str)) μ)
  | _, _, _ => .stuck
/-- the receiver is of the method's type -/
def tyD (m : Met) (o : D) (μ : Mu) : Bool := match m, o with
  | .append, .ref n => (match μ[n]? with
    | some (.lst _) => true
    | _ => false)
  | .extend, _ | .pop, _ | .append, _ => false
  | _, .str _ => true
  | _, _ => false
def replD (o : D) (y z : Str) (μ : Mu) : Res D := match o with
  | .str x => needs (x.length + (x.length + 1) * z.length ≤ 16777216) (.ok (.str (Txt.replace x y z)) μ)
  | _ => .stuck
def tr37S (x : Str) : Str := ⟨(x.cps.toList.filter (· != 37)).toArray⟩
def tr37D (o : D) (μ : Mu) : Res D := match o with
  | .str x => needs (x.length ≤ 1000000 ∧ x.cps.all (· < 128) = true) (.ok (.str (tr37S x)) μ)
  | _ => .stuck
def idxD (o i : D) (μ : Mu) : Res D := match o, i with
  | .str z, .int k => match atI z.cps.toList k with
    | some c => needs (z.length ≤ 16777216) (.ok (.str ⟨#[c]⟩) μ)
    | none => .stuck
  | o, .int k => match seqD μ o with
    | some l => match atI l k with
      | some d => .ok d μ
      | none => .stuck
    | none => .stuck
  | _, _ => .stuck
def cutD (xs : List D) (lo hi : Option Int) : List D := (xs.drop (HT.sIx xs.length 0 lo)).take (HT.sIx xs.length xs.length hi - HT.sIx xs.length 0 lo)
def slcD (o : D) (lo hi : Option Int) (μ : Mu) : Res D := match o with
  | .str z => needs (z.length ≤ 16777216) (.ok (.str (cutS z lo hi)) μ)
  | .lst l => .ok (.lst (cutD l lo hi)) μ
  | .ref n => match μ[n]? with
    | some (.lst l) => .ok (.lst (cutD l lo hi)) μ
    | _ => .stuck
  | .tup l => needs (¬ (HT.sIx l.length 0 lo = 0 ∧ HT.sIx l.length l.length hi = l.length)) (.ok (.tup (cutD l lo hi)) μ)
  | _ => .stuck
def setIxD (o i v : D) (μ : Mu) : Res Unit := match o, i with
  | .ref n, .int k => match μ[n]? with
    | some (.lst l) => match ixN l.length k with
      | some j => .ok () (μ.set n (.lst (l.set j v)))
      | none => .stuck
    | _ => .stuck
  | _, _ => .stuck
def assignT (t : Tg) (d : D) (ρ : Rho) : Option Rho := match t with
  | .nm i => some (ρ.set i (some d))
  | .tp l => match d with
    | .tup ds => if ds.length = l.length then some ((l.zip ds).foldl (fun ρ p => ρ.set p.1 (some p.2)) ρ) else none
    | .lst ds => if ds.length = l.length then some ((l.zip ds).foldl (fun ρ p => ρ.set p.1 (some p.2)) ρ) else none
    | _ => none

/-! ### loops of comprehensions -/
def compLoop (f : D → Mu → Res (Option D)) (chk : Mu → Bool) : List D → List D → Mu → Res (List D)
  | acc, [], μ => if chk μ then .ok acc μ else .stuck
  | acc, d :: ds, μ => if chk μ then (match f d μ with
      | .ok none μ' => compLoop f chk acc ds μ'
      | .ok (some y) μ' => needs (acc.length < 16777216) (compLoop f chk (acc ++ [y]) ds μ')
      | _ => .stuck) else .stuck
/-- the items, and the list object that must stay while they are walked -/
abbrev Its := List D × Option (Nat × List D)
def chkOf (src : Option (Nat × List D)) (μ : Mu) : Bool := match src with
  | none => true
  | some (n, l) => match μ[n]? with
    | some (.lst l') => D.beqs l' l
    | _ => false
def rngD (lo : Int) (n : Nat) : List D := (List.range n).map fun (i : Nat) => D.int (lo + (i : Int))
def lim62 (i : Int) : Prop := -(2 ^ 62) ≤ i ∧ i < 2 ^ 62
instance (i : Int) : Decidable (lim62 i) := by unfold lim62; infer_instance
def itD (d : D) (μ : Mu) : Res Its := match d with
  | .tup l => .ok (l, none) μ
  | .lst l => .ok (l, none) μ
  | .ref n => match μ[n]? with
    | some (.lst l) => .ok (l, some (n, l)) μ
    | _ => .stuck
  | .str s => .ok (s.cps.toList.map fun c => D.str ⟨#[c]⟩, none) μ
  | _ => .stuck

/-- the last one of a name -/
def lkL : List (Str × D) → Str → Option D → Option D
  | [], _, r => r
  | (k, d) :: l, s, r => lkL l s (if s = k then some d else r)
mutual
def evalE (Γ : G) : E → Rho → Mu → Res D
  | .var i, ρ, μ => match ρ[i]? with
    | some (some d) => .ok d μ
    | _ => .stuck
  | .cst d, _, μ => .ok d μ
  | .glob g, _, μ => match Γ.con g with
    | some d => .ok d μ
    | none => .stuck
  | .bin o a b, ρ, μ => (evalE Γ a ρ μ).bind fun x μ => (evalE Γ b ρ μ).bind fun y μ => binD o x y μ
  | .neg a, ρ, μ => (evalE Γ a ρ μ).bind fun x μ => match x with
    | .int i => .ok (.int (-i)) μ
    | _ => .stuck
  | .inv a, ρ, μ => (evalE Γ a ρ μ).bind fun x μ => match x with
    | .int i => .ok (.int (Builtin.bitNot i)) μ
    | _ => .stuck
  | .bits a, ρ, μ => (evalE Γ a ρ μ).bind fun x μ => match x with
    | .int i => .ok (.int (Builtin.Int.intBits i)) μ
    | _ => .stuck
  | .notv t, ρ, μ => (evalT Γ t ρ μ).bind fun b μ => .ok (.bl (!b)) μ
  | .and a b, ρ, μ => (evalE Γ a ρ μ).bind fun x μ => (truD μ x μ).bind fun k μ => if k then evalE Γ b ρ μ else .ok x μ
  | .or a b, ρ, μ => (evalE Γ a ρ μ).bind fun x μ => (truD μ x μ).bind fun k μ => if k then .ok x μ else evalE Γ b ρ μ
  | .cmp o a b, ρ, μ => (evalE Γ a ρ μ).bind fun x μ => (evalE Γ b ρ μ).bind fun y μ => (cmpD o x y μ).bind fun k μ => .ok (.bl k) μ
  | .chn o o' a b c, ρ, μ => (evalE Γ a ρ μ).bind fun x μ => (evalE Γ b ρ μ).bind fun y μ => (cmpD o x y μ).bind fun k μ =>
      if k then (evalE Γ c ρ μ).bind fun z μ => (cmpD o' y z μ).bind fun k μ => .ok (.bl k) μ else .ok (.bl false) μ
  | .ite t a b, ρ, μ => (evalT Γ t ρ μ).bind fun k μ => if k then evalE Γ a ρ μ else evalE Γ b ρ μ
  | .call f as, ρ, μ => (evalEs Γ as ρ μ).bind fun ds μ => Γ.call f ds μ
  | .bif b as, ρ, μ => (evalEs Γ as ρ μ).bind fun ds μ => bifD b ds μ
  | .isi a t, ρ, μ => (evalE Γ a ρ μ).bind fun x μ => isiD x t μ
  | .met m o as, ρ, μ => (evalE Γ o ρ μ).bind fun x μ => needs (tyD m x μ = true) ((evalEs Γ as ρ μ).bind fun ds μ => metD m x ds μ)
  | .tr37 o, ρ, μ => (evalE Γ o ρ μ).bind fun x μ => tr37D x μ
  | .idx a b, ρ, μ => (evalE Γ a ρ μ).bind fun x μ => (evalE Γ b ρ μ).bind fun y μ => idxD x y μ
  | .slc a lo hi, ρ, μ => (evalE Γ a ρ μ).bind fun x μ => (evalO Γ lo ρ μ).bind fun l μ => (evalO Γ hi ρ μ).bind fun h μ => slcD x l h μ
  | .tup es, ρ, μ => (evalEs Γ es ρ μ).bind fun ds μ => needs (ds.length ≤ 16777216) (.ok (.tup ds) μ)
  | .lst es, ρ, μ => (evalEs Γ es ρ μ).bind fun ds μ => needs (ds.length ≤ 16777216) (.ok (.lst ds) μ)
  | .comp own tg it c e, ρ, μ => (evalIt Γ it ρ μ).bind fun ds μ =>
      (compLoop (fun d μ => match assignT tg d (wipeR ρ own) with
        | none => .stuck
        | some ρ' => (evalT Γ c ρ' μ).bind fun k μ => if k then (evalE Γ e ρ' μ).bind fun y μ => .ok (some y) μ else .ok none μ) (chkOf ds.2) [] ds.1 μ).bind fun l μ => .ok (.lst l) μ
  | .gdict g k, ρ, μ => (evalE Γ k ρ μ).bind fun x μ => match x with
    | .str s => match (Γ.dic g).lookup s with
      | some d => .ok d μ
      | none => .stuck
    | _ => .stuck
  | .gin neg g k, ρ, μ => (evalE Γ k ρ μ).bind fun x μ => match x with
    | .str s => .ok (.bl (if neg then !((Γ.dic g).lookup s).isSome else ((Γ.dic g).lookup s).isSome)) μ
    | _ => .stuck
  | .fmt a, ρ, μ => (evalE Γ a ρ μ).bind fun x μ => match x with
    | .str y => needs (y.length ≤ 16777216) (.ok (.str y) μ)
    | .int i => needs (i.natAbs.log2 < 1920) (.ok (.str (toString i)) μ)
    | _ => .stuck
  | .fs es, ρ, μ => evalJ Γ es Str.empty ρ μ
  | .dgl l k, ρ, μ => (evalE Γ k ρ μ).bind fun x μ => match x with
    | .str s => match lkL l s none with
      | some d => .ok d μ
      | none => .stuck
    | _ => .stuck
  | .dgt l k d, ρ, μ => (evalE Γ k ρ μ).bind fun x μ => (evalE Γ d ρ μ).bind fun z μ => match x with
    | .str s => .ok ((lkL l s none).getD z) μ
    | _ => .stuck
def evalJ (Γ : G) : Es → Str → Rho → Mu → Res D
  | .nil, acc, _, μ => .ok (.str acc) μ
  | .cons e es, acc, ρ, μ => (evalE Γ e ρ μ).bind fun x μ => match x with
    | .str y => needs ((acc ++ y).length ≤ 16777216) (evalJ Γ es (acc ++ y) ρ μ)
    | _ => .stuck
def evalEs (Γ : G) : Es → Rho → Mu → Res (List D)
  | .nil, _, μ => .ok [] μ
  | .cons e es, ρ, μ => (evalE Γ e ρ μ).bind fun d μ => (evalEs Γ es ρ μ).bind fun ds μ => .ok (d :: ds) μ
def evalO (Γ : G) : O → Rho → Mu → Res (Option Int)
  | .none, _, μ => .ok none μ
  | .some e, ρ, μ => (evalE Γ e ρ μ).bind fun d μ => match d with
    | .int i => .ok (some i) μ
    | _ => .stuck
def evalT (Γ : G) : T → Rho → Mu → Res Bool
  | .yes, _, μ => .ok true μ
  | .val e, ρ, μ => (evalE Γ e ρ μ).bind fun d μ => truD μ d μ
  | .not t, ρ, μ => (evalT Γ t ρ μ).bind fun b μ => .ok (!b) μ
  | .and t u, ρ, μ => (evalT Γ t ρ μ).bind fun b μ => if b then evalT Γ u ρ μ else .ok false μ
  | .or t u, ρ, μ => (evalT Γ t ρ μ).bind fun b μ => if b then .ok true μ else evalT Γ u ρ μ
def evalIt (Γ : G) : IT → Rho → Mu → Res Its
  | .seq e, ρ, μ => (evalE Γ e ρ μ).bind fun d μ => itD d μ
  | .rng1 a, ρ, μ => (evalE Γ a ρ μ).bind fun x μ => match x with
    | .int j => needs (lim62 j) (.ok (rngD 0 j.toNat, none) μ)
    | _ => .stuck
  | .rng2 a b, ρ, μ => (evalE Γ a ρ μ).bind fun x μ => (evalE Γ b ρ μ).bind fun y μ => match x, y with
    | .int i, .int j => needs (lim62 i ∧ lim62 j) (.ok (rngD i (j - i).toNat, none) μ)
    | _, _ => .stuck
end

/-! ### statements -/
def evalR (Γ : G) : R → Rho → Mu → Res D
  | .base e, ρ, μ => evalE Γ e ρ μ
  | .repl r y z, ρ, μ => (evalR Γ r ρ μ).bind fun x μ => replD x y z μ
inductive Out where
  | nx (ρ : Rho) (μ : Mu)
  | br (ρ : Rho) (μ : Mu)
  | ct (ρ : Rho) (μ : Mu)
  | rt (d : D) (μ : Mu)
  | er (c : Nat) (fs : List D) (ρ : Rho) (μ : Mu)
  | stuck
def Res.then {α : Type} (r : Res α) (ρ : Rho) (f : α → Mu → Out) : Out := match r with
  | .ok a μ => f a μ
  | .err c fs μ => .er c fs ρ μ
  | .stuck => .stuck
def Out.next (o : Out) (f : Rho → Mu → Out) : Out := match o with
  | .nx ρ μ => f ρ μ
  | o => o
def forLoop (f : D → Rho → Mu → Out) (chk : Mu → Bool) : List D → Rho → Mu → Out
  | [], ρ, μ => if chk μ then .nx ρ μ else .stuck
  | d :: ds, ρ, μ => if chk μ then (match f d ρ μ with
      | .nx ρ' μ' => forLoop f chk ds ρ' μ'
      | .ct ρ' μ' => forLoop f chk ds ρ' μ'
      | .br ρ' μ' => .nx ρ' μ'
      | o => o) else .stuck
def whileLoop (c : Rho → Mu → Res Bool) (f : Rho → Mu → Out) : Nat → Rho → Mu → Out
  | 0, _, _ => .stuck
  | n + 1, ρ, μ => (c ρ μ).then ρ fun k μ => if k then (match f ρ μ with
      | .nx ρ' μ' => whileLoop c f n ρ' μ'
      | .ct ρ' μ' => whileLoop c f n ρ' μ'
      | .br ρ' μ' => .nx ρ' μ'
      | o => o) else .nx ρ μ
/-- what may stand in an error's text -/
def okArg : D → Bool
  | .int i => decide (0 ≤ i) && decide (i < 1000000000000000000)
  | .str s => decide (s.length ≤ 1000000)
  | _ => false
def XA.val (fs : List D) : XA → Option D
  | .cst d => some d
  | .fld k => fs[k]?
def XA.vals (fs : List D) : List XA → Option (List D)
  | [] => some []
  | a :: l => match a.val fs, XA.vals fs l with
    | some d, some ds => some (d :: ds)
    | _, _ => none
def XR.val (fs : List D) : XR → Option D
  | .one a => a.val fs
  | .tup l => if l.length ≤ 100 then (XA.vals fs l).map D.tup else none
mutual
def runS (Γ : G) : S → Rho → Mu → Out
  | .setR i r, ρ, μ => (evalR Γ r ρ μ).then ρ fun d μ => .nx (ρ.set i (some d)) μ
  | .retR pre r post, ρ, μ => (evalR Γ r ρ μ).then ρ fun x μ => ((binD .add (.str pre) x μ).bind fun y μ => binD .add y (.str post) μ).then ρ fun d μ => .rt d μ
  | .set tg e, ρ, μ => (evalE Γ e ρ μ).then ρ fun d μ => match assignT tg d ρ with
    | some ρ' => .nx ρ' μ
    | none => .stuck
  | .new i e, ρ, μ => (evalE Γ e ρ μ).then ρ fun d μ => match d with
    | .lst l => .nx (ρ.set i (some (.ref μ.length))) (μ ++ [.lst l])
    | _ => .stuck
  | .setIx o i v, ρ, μ => (evalE Γ v ρ μ).then ρ fun x μ => (evalE Γ o ρ μ).then ρ fun y μ => (evalE Γ i ρ μ).then ρ fun z μ => (setIxD y z x μ).then ρ fun _ μ => .nx ρ μ
  | .aug i o e, ρ, μ => match ρ[i]? with
    | some (some (.int x)) => (evalE Γ e ρ μ).then ρ fun y μ => match o, y with
      | .add, .int j => .nx (ρ.set i (some (.int (x + j)))) μ
      | .sub, .int j => .nx (ρ.set i (some (.int (x - j)))) μ
      | _, _ => .stuck
    | _ => .stuck
  | .expr e, ρ, μ => (evalE Γ e ρ μ).then ρ fun _ μ => .nx ρ μ
  | .ifs t a b, ρ, μ => (evalT Γ t ρ μ).then ρ fun k μ => if k then runB Γ a ρ μ else runB Γ b ρ μ
  | .for_ tg it b, ρ, μ => (evalIt Γ it ρ μ).then ρ fun ds μ => forLoop (fun d ρ μ => match assignT tg d ρ with
      | some ρ' => runB Γ b ρ' μ
      | none => .stuck) (chkOf ds.2) ds.1 ρ μ
  | .whl t b, ρ, μ => whileLoop (fun ρ μ => evalT Γ t ρ μ) (fun ρ μ => runB Γ b ρ μ) Γ.wf ρ μ
  | .ret e, ρ, μ => (evalE Γ e ρ μ).then ρ fun d μ => .rt d μ
  | .retN, _, μ => .rt .non μ
  | .pass, ρ, μ => .nx ρ μ
  | .brk, ρ, μ => .br ρ μ
  | .cnt, ρ, μ => .ct ρ μ
  | .bad, _, _ => .stuck
  | .rse c n es, ρ, μ => if Γ.mkr then (evalEs Γ es ρ μ).then ρ fun ds μ => if ds.length = n ∧ ds.all okArg = true then .er c ds.reverse ρ μ else .stuck else .stuck
  | .tryR r c i h, ρ, μ => match evalE Γ r ρ μ with
    | .ok d μ' => .rt d μ'
    | .err c' fs μ' => if c' = c then (match h.val fs with
      | some d => .rt d μ'
      | none => .stuck) else .stuck
    | .stuck => .stuck
def runB (Γ : G) : B → Rho → Mu → Out
  | .nil, ρ, μ => .nx ρ μ
  | .cons s b, ρ, μ => (runS Γ s ρ μ).next fun ρ μ => runB Γ b ρ μ
end

/-! ### defs -/
structure Fn where
  np : Nat
  ns : Nat
  body : B
/-- what a def made is forgotten where nothing points at it; a list that it made is handed back by value -/
def fin (n : Nat) (d : D) (μ : Mu) : Res D :=
  if μ.length = n then .ok d μ else
    let d' := match d with
      | .ref k => if n ≤ k then (match μ[k]? with
          | some (.lst l) => .lst l
          | _ => d) else d
      | _ => d
    if below n d' = true ∧ (μ.take n).all (belowMO n) = true ∧ n ≤ μ.length then .ok d' (μ.take n) else .ok d μ
def finO (n : Nat) : Out → Res D
  | .nx _ μ => fin n .non μ
  | .rt d μ => fin n d μ
  | .er c fs _ μ => if μ.length = n then .err c fs μ else if belows n fs = true ∧ (μ.take n).all (belowMO n) = true ∧ n ≤ μ.length then .err c fs (μ.take n) else .err c fs μ
  | _ => .stuck
def startR (ns : Nat) (ds : List D) : Rho := ds.map some ++ List.replicate (ns - ds.length) none
def callD (tab : List Fn) (con : Nat → Option D) (dic : Nat → List (Str × D)) (wf : Nat) : Nat → Nat → List D → Mu → Res D
  | 0, _, _, _ => .stuck
  | k + 1, f, ds, μ => match tab[f]? with
    | some fn => if ds.length = fn.np then finO μ.length (runB ⟨callD tab con dic wf k, con, dic, wf, decide (2 ≤ k)⟩ fn.body (startR fn.ns ds) μ) else .stuck
    | none => .stuck
end PyI
/-! A3: what the model does, in the words of the interpreter: frames of the proof, and operators. -/
namespace PyI
open PySem L2

/-! ### canonical readings -/
section
variable (X : Cx)
def wE (e : Expr) : TE := fun σ H Q => ∀ pins s, Inv X pins σ H s → wpAny (model X.prog X.w) X.A (eval e X.env) (EP X pins σ Q) X.xe s
def wT (e : Expr) : TT := fun σ H Q => ∀ pins s, Inv X pins σ H s → wpAny (model X.prog X.w) X.A (isTrue e X.env (eval e X.env)) (TP X pins σ Q) X.xe s
def wA (es : List Expr) : TA := fun σ H Q => ∀ (pos : Pos) pins s, Inv X pins σ H s → wpAny (model X.prog X.w) X.A (spliced (backTo pos (starEach es X.env))) (AP X pins σ Q) X.xe s
def wI (tg iter : Expr) : TI := fun σ H (R : L2.It → Hp → Prop) => ∀ pins s, Inv X pins σ H s →
  wpAny (model X.prog X.w) X.A (eval iter X.env) (fun v s1 => wpAny (model X.prog X.w) X.A (pyIter v) (PIE X pins σ tg R) X.xe s1) X.xe s
def wO (f : Value → Value → Sem Value) : R2 := fun x y H Q => ∀ pins s σ v u, Inv X pins σ H s → RelV x v → RelV y u → wpAny (model X.prog X.w) X.A (f v u) (EP X pins σ Q) X.xe s
def wU (f : Value → Sem Value) : V → Hp → VK → Prop := fun x H Q => ∀ pins s σ v, Inv X pins σ H s → RelV x v → wpAny (model X.prog X.w) X.A (f v) (EP X pins σ Q) X.xe s
def wC (f : Value) : List V → Hp → VK → Prop := fun xs H Q => ∀ pins s σ us, Inv X pins σ H s → Vals xs us → wpAny (model X.prog X.w) X.A (call f us) (EP X pins σ Q) X.xe s
def wM (id : String) : V → List V → Hp → VK → Prop := fun x xs H Q => ∀ pins s σ v us, Inv X pins σ H s → RelV x v → Vals xs us → wpAny (model X.prog X.w) X.A (call (.builtin id) (v :: us)) (EP X pins σ Q) X.xe s
end
section
variable {X : Cx} {e : Expr} {es : List Expr} {σ : St} {H : Hp} {Q : VK}
theorem pE : PE X e (wE X e) := ⟨fun pins s _ _ _ I h => h pins s I⟩
theorem pT : PT X e (wT X e) := ⟨fun pins s _ _ _ I h => h pins s I⟩
theorem pA : PA X es (wA X es) := ⟨fun pos pins s _ _ _ I h => h pos pins s I⟩
theorem pI {tg : Expr} : PI X tg e (wI X tg e) := ⟨fun pins s _ _ _ I h => h pins s I⟩
theorem pO {f : Value → Value → Sem Value} : OpR X f (wO X f) := fun pins s σ _ _ _ v u _ I r r' h => h pins s σ v u I r r'
theorem pU {f : Value → Sem Value} : UnR X f (wU X f) := fun pins s σ _ _ v _ I r h => h pins s σ v I r
theorem pC {f : Value} : CallR X f (wC X f) := fun pins s σ _ _ us _ I r h => h pins s σ us I r
theorem pM {id : String} : MtR X id (wM X id) := fun pins s σ _ _ _ v us _ I r r' h => h pins s σ v us I r r'
theorem we {t : TE} (p : PE X e t) (h : t σ H Q) : wE X e σ H Q := fun pins s I => p.run pins s σ H Q I h
theorem wt {t : TT} {Q : Bool → Hp → Prop} (p : PT X e t) (h : t σ H Q) : wT X e σ H Q := fun pins s I => p.run pins s σ H Q I h
theorem wa {t : TA} {Q : List V → Hp → Prop} (p : PA X es t) (h : t σ H Q) : wA X es σ H Q := fun pos pins s I => p.run pos pins s σ H Q I h
theorem wi {tg : Expr} {t : TI} {R : L2.It → Hp → Prop} (p : PI X tg e t) (h : t σ H R) : wI X tg e σ H R := fun pins s I => p.run pins s σ H R I h
theorem wo {f : Value → Value → Sem Value} {r : R2} {x y : V} (p : OpR X f r) (h : r x y H Q) : wO X f x y H Q := fun pins s σ v u I r r' => p pins s σ H x y v u Q I r r' h
theorem wu {f : Value → Sem Value} {r : V → Hp → VK → Prop} {x : V} (p : UnR X f r) (h : r x H Q) : wU X f x H Q := fun pins s σ v I r => p pins s σ H x v Q I r h
theorem wc {f : Value} {r : List V → Hp → VK → Prop} {xs : List V} (p : CallR X f r) (h : r xs H Q) : wC X f xs H Q := fun pins s σ us I r => p pins s σ H xs us Q I r h
theorem wm {id : String} {r : V → List V → Hp → VK → Prop} {x : V} {xs : List V} (p : MtR X id r) (h : r x xs H Q) : wM X id x xs H Q := fun pins s σ v us I r r' => p pins s σ H x xs v us Q I r r' h
end

/-! ### what is due of an answer -/
def ErrRep (K : PySem.W.Frag) (ct : CTab) (H : Hp) (M : AM) (c : Nat) (fs : List D) (cls : Value) (d : Option Addr) : Prop :=
  cls = .ref (ct.cls c) ∧ ∃ dx vs, d = some dx ∧ H dx = some (.xd vs) ∧ vs.map (·.1) = ct.flds c ∧ Reps K H M (vs.map (·.2)) fs
def Ok {α β : Type} (K : PySem.W.Frag) (ct : CTab) (R : Hp → AM → β → α → Prop) (M : AM) (H : Hp) (r : Res α) (Q : β → Hp → Prop) (W : XK) : Prop :=
  match r with
  | .ok a μ' => ∀ v H' M', Evo M H M' H' → RelH K ct H' μ' M' → R H' M' v a → Q v H'
  | .err c fs μ' => ∀ cls d H' M', Evo M H M' H' → RelH K ct H' μ' M' → ErrRep K ct H' M' c fs cls d → W cls d H'
  | .stuck => False
abbrev RD (K : PySem.W.Frag) : Hp → AM → V → D → Prop := fun H M v d => Rep K H M v d
abbrev RDs (K : PySem.W.Frag) : Hp → AM → List V → List D → Prop := fun H M v d => Reps K H M v d
abbrev RB : Hp → AM → Bool → Bool → Prop := fun _ _ v d => v = d
abbrev RO : Hp → AM → Option Int → Option Int → Prop := fun _ _ v d => v = d
abbrev RU : Hp → AM → Unit → Unit → Prop := fun _ _ _ _ => True
section
variable {α β γ δ : Type} {K : PySem.W.Frag} {ct : CTab} {R : Hp → AM → β → α → Prop} {R' : Hp → AM → δ → γ → Prop} {M M1 : AM} {H H1 : Hp} {r : Res α} {μ : Mu} {Q Q1 : β → Hp → Prop} {W : XK}
theorem Ok.evo (e : Evo M H M1 H1) (h : Ok K ct R M H r Q W) : Ok K ct R M1 H1 r Q W := by
  cases r with
  | ok a μ' => exact fun v H' M' e' => h v H' M' (e.trans e')
  | err c fs μ' => exact fun cls d H' M' e' => h cls d H' M' (e.trans e')
  | stuck => exact h
theorem Ok.step {f : α → Mu → Res γ} {Q' : δ → Hp → Prop} (h : Ok K ct R' M H (r.bind f) Q' W)
    (k : ∀ a μ1 v H1 M1, Evo M H M1 H1 → RelH K ct H1 μ1 M1 → R H1 M1 v a → Ok K ct R' M1 H1 (f a μ1) Q' W → Q1 v H1) : Ok K ct R M H r Q1 W := by
  cases r with
  | ok a μ' => exact fun v H' M' e R1 r1 => k a μ' v H' M' e R1 r1 (Ok.evo e h)
  | err c fs μ' => exact h
  | stuck => exact h
theorem Ok.ret {a : α} {v : β} (h : Ok K ct R M H (.ok a μ) Q W) (R1 : RelH K ct H μ M) (r1 : R H M v a) : Q v H := h v H M (Evo.refl M H) R1 r1
theorem Ok.needs {p : Prop} [Decidable p] (h : Ok K ct R M H (needs p r) Q W) : p ∧ Ok K ct R M H r Q W := by
  unfold PyI.needs at h
  by_cases q : p
  · rw [if_pos q] at h; exact ⟨q, h⟩
  · rw [if_neg q] at h; exact h.elim
theorem Ok.imp (h : Ok K ct R M H r Q W) (k : ∀ v H', Q v H' → Q1 v H') : Ok K ct R M H r Q1 W := by
  cases r with
  | ok a μ' => exact fun v H' M' e R1 r1 => k v H' (h v H' M' e R1 r1)
  | err c fs μ' => exact h
  | stuck => exact h
end

/-! ### the frame in which a def's text is read -/
structure Tb where
  fns : List (Str × Nat)
  cons : List Str
  dics : List Str
  clss : List (Str × List Str)
  isx : List (Nat × Str × Bool)
def spF (K : PySem.W.Frag) (ct : CTab) (Γ : G) (f n : Nat) : Sp := fun vs H Q E => ∃ ds μ M, vs.length = n ∧ RelH K ct H μ M ∧ Reps K H M vs ds ∧ Ok K ct (RD K) M H (Γ.call f ds μ) Q E
def bins : List Str := ["len", "int", "str", "tuple", "list", "sorted", "min", "max", "sum", "any", "all", "abs", "ord", "bool", "isinstance", "range", "enumerate", "zip", "set", "type", "reversed"]
/-- a dict of the module with text keys -/
def DicAt (K : PySem.W.Frag) (w : World) (d : Addr) (l : List (Str × D)) : Prop := ∃ es n, KDict K w d es n ∧ ∀ z, match l.lookup z with
  | none => PySem.W.nsIn K d z = some none
  | some dd => ∃ u v, PySem.W.nsIn K d z = some (some u) ∧ RelV v u ∧ ∀ H M, Rep K H M v dd
/-- what may stand in an error's text -/
def FmtV (v : V) : Prop := (∃ i : Int, v = .int i ∧ 0 ≤ i ∧ i < 1000000000000000000) ∨ ∃ s : Str, v = .str s ∧ s.length ≤ 1000000
/-- what the __init__ of an own error keeps: its fields, the last one first -/
def iniS (C : Addr) (flds : List Str) : Sp := fun vs H Q E => ∃ a ws, vs = .ref a :: ws ∧ ws.length = flds.length ∧ (∀ y ∈ ws, FmtV y) ∧ H a = some (exo a C none) ∧
  ∀ dx, H dx = none → dx ≠ a → Q .non (upd (upd H dx (exd dx (flds.zip ws.reverse))) a (exo a C (some dx)))
/-- an own error class, as the written part has it -/
structure ClsK (P : Program) (w : World) (K : PySem.W.Frag) (mg : Str → Option Value) (C : Addr) (x : Str) (flds : List Str) : Prop where
  T : OexC K C
  xf : XfC K C
  ex : ExcC K C
  ini : ∃ fI fd ps, PySem.W.findIn K (.ref C) "__init__" = some (some (.ref fI)) ∧ PySem.W.typeIn K (.ref fI) = some (.type "function") ∧ Binds K fd ps [] ∧ ∀ base, FnOk P w K mg base (L2.CX P w) 1 fI fd ps (iniS C flds)
  mgx : mg x = some (.ref C)
  nos : ∀ f ∈ flds, PySem.W.findIn K (.ref C) f = some none
  exm : PySem.W.exmOne K (.ref C) (.ref C) = some true
structure FrG (P : Program) (w : World) (K : PySem.W.Frag) (mg : Str → Option Value) (base : Heap) (A : Around) (ct : CTab) (tb : Tb) (Γ : G) : Prop where
  units : A.units + 64 < cLine
  bi : ∀ x ∈ bins, mg x = none
  call : ∀ f x n, tb.fns[f]? = some (x, n) → ∃ k a fd ps, FnOk P w K mg base (L2.CX P w) k a fd ps (spF K ct Γ f n) ∧ Room k A ∧ mg x = some (.ref a) ∧ PySem.W.keepIn K (.ref a) = true ∧ Binds K fd ps []
  ar : ∀ f x n ds μ, tb.fns[f]? = some (x, n) → ds.length ≠ n → Γ.call f ds μ = .stuck
  con : ∀ g x d, tb.cons[g]? = some x → Γ.con g = some d → ∃ u v, mg x = some u ∧ RelV v u ∧ ∀ H M, Rep K H M v d
  dic : ∀ g x, tb.dics[g]? = some x → ∃ d, mg x = some (.ref d) ∧ DicAt K w d (Γ.dic g)
  cls : ∀ (c : Nat) (x : Str) (fl : List Str), tb.clss[c]? = some (x, fl) → ClsK P w K mg (ct.cls c) x fl ∧ ct.flds c = fl ∧ fl.Nodup
  room : Γ.mkr = true → Room 2 A
  isx : ∀ c x b, (c, x, b) ∈ tb.isx → ∃ (v : V) (cv : Value), ((mg x = some cv) ∨ (mg x = none ∧ bootBuiltins x = some cv ∧ x ≠ "__name__")) ∧ RelV v cv ∧ (∀ u, RelV v u → u = cv) ∧ PySem.W.kitOne K (.ref (ct.cls c)) cv = some b
structure Fr (X : Cx) (ct : CTab) (tb : Tb) (Γ : G) (N : List Str) (sc : Scope) : Prop where
  hN : X.N = N
  hsc : X.env.scope = sc
  nd : N.Nodup
  calm : X.calm = true
  kindF : sc.kind = .function
  g : FrG X.prog X.w X.K X.mg X.base X.A ct tb Γ

/-- e is evaluated as A tells -/
def Snd (X : Cx) (ct : CTab) (Γ : G) (e : Expr) (A : E) : Prop := ∀ (W : WX) (ρ : Rho) (μ : Mu) (σ : St) (H : Hp) (M : AM) (Q : VK), Takes X W → RelE X.K H M σ ρ → RelH X.K ct H μ M →
  Ok X.K ct (RD X.K) M H (evalE Γ A ρ μ) Q (fun c d H' => W c d σ H') → wE X e σ H Q
def SndA (X : Cx) (ct : CTab) (Γ : G) (es : List Expr) (A : Es) : Prop := ∀ (W : WX) (ρ : Rho) (μ : Mu) (σ : St) (H : Hp) (M : AM) (Q : List V → Hp → Prop), Takes X W → RelE X.K H M σ ρ → RelH X.K ct H μ M →
  Ok X.K ct (RDs X.K) M H (evalEs Γ A ρ μ) Q (fun c d H' => W c d σ H') → wA X es σ H Q
def SndT (X : Cx) (ct : CTab) (Γ : G) (e : Expr) (A : T) : Prop := ∀ (W : WX) (ρ : Rho) (μ : Mu) (σ : St) (H : Hp) (M : AM) (Q : Bool → Hp → Prop), Takes X W → RelE X.K H M σ ρ → RelH X.K ct H μ M →
  Ok X.K ct RB M H (evalT Γ A ρ μ) Q (fun c d H' => W c d σ H') → wT X e σ H Q

/-! ### values -/
section
variable {X : Cx} {ct : CTab} {K : PySem.W.Frag} {H : Hp} {M : AM} {μ : Mu} {x y z v : V} {d d' : D} {Q : VK} {W : XK}
theorem sl16 {n : Nat} (h : n ≤ 16777216) : n ≤ sizeLine := by rw [sizeLine_eq]; exact h
theorem sl16' {n : Nat} (h : n < 16777216) : n < sizeLine := by rw [sizeLine_eq]; exact h
/-- a list object of ours -/
theorem RelH.lst (R : RelH K ct H μ M) {n : Nat} {l : List D} {a : Addr} (h : μ[n]? = some (.lst l)) (ha : M.ix[n]? = some a) : ∃ xs, H a = some (.lst xs) ∧ Reps K H M xs l := by
  obtain ⟨a', e, xs, h1, r⟩ := R.at_ n _ h
  rw [ha] at e; cases e
  exact ⟨xs, h1, r⟩
/-- the items of a list or a tuple -/
theorem seq_of (R : RelH K ct H μ M) (r : Rep K H M x d) {l : List D} (h : seqD μ d = some l) : ∃ a xs, x = .ref a ∧ (SqL K H a xs ∨ SqT K H a xs) ∧ Reps K H M xs l := by
  cases r with
  | tup h1 r1 => cases h; exact ⟨_, _, rfl, .inr h1.sq, r1⟩
  | lst h1 r1 => cases h; exact ⟨_, _, rfl, .inl h1.sq, r1⟩
  | kl h1 r1 => cases h; exact ⟨_, _, rfl, .inl h1.sq, r1⟩
  | ref ha =>
    unfold seqD at h
    simp only at h
    split at h
    · rename_i l' hl
      cases h
      obtain ⟨xs, h1, r1⟩ := R.lst hl ha
      exact ⟨_, _, rfl, .inl (.inl (.inl h1)), r1⟩
    · cases h
  | non => cases h
  | bl => cases h
  | int => cases h
  | str => cases h
theorem Rep.int_inv {i : Int} (r : Rep K H M x (.int i)) : x = .int i := by cases r; rfl
theorem Rep.str_inv {s : Str} (r : Rep K H M x (.str s)) : x = .str s := by cases r; rfl
theorem Rep.bl_inv {b : Bool} (r : Rep K H M x (.bl b)) : x = .bl b := by cases r; rfl
theorem Rep.non_inv (r : Rep K H M x .non) : x = .non := by cases r; rfl

/-- a new tuple, a new list -/
theorem Ok.newT {ds : List D} (h : Ok K ct (RD K) M H (.ok (.tup ds) μ) Q W) (R : RelH K ct H μ M) (r : Reps K H M xs ds) {p : Addr} (hp : H p = none) : Q (.ref p) (upd H p (.tup xs)) :=
  h _ _ M (Evo.new hp) (R.new hp) (.tup (.inl ⟨.inl upd_same, R.fresh hp⟩) (r.evo (Evo.new hp)))
theorem Ok.newL {ds : List D} (h : Ok K ct (RD K) M H (.ok (.lst ds) μ) Q W) (R : RelH K ct H μ M) (r : Reps K H M xs ds) {p : Addr} (hp : H p = none) : Q (.ref p) (upd H p (.lst xs)) :=
  h _ _ M (Evo.new hp) (R.new hp) (.lst ⟨.inl upd_same, R.fresh hp⟩ (r.evo (Evo.new hp)))
theorem lst_of (R : RelH K ct H μ M) (r : Rep K H M x d) {l : List D} (h : lstD μ d = some l) : ∃ a xs, x = .ref a ∧ Rd H a (.lst xs) ∧ Reps K H M xs l := by
  cases r with
  | lst h1 r1 => cases h; exact ⟨_, _, rfl, h1.1, r1⟩
  | kl => cases h
  | ref ha =>
    unfold lstD at h
    simp only at h
    split at h
    · rename_i l' hl
      cases h
      obtain ⟨xs, h1, r1⟩ := R.lst hl ha
      exact ⟨_, _, rfl, .inl h1, r1⟩
    · cases h
  | tup => cases h
  | non => cases h
  | bl => cases h
  | int => cases h
  | str => cases h
theorem strRep_one {s : Str} : strRep s (Int.toNat 1) = s := by
  show Str.mk (#[] ++ s.cps) = s
  rw [Array.empty_append]
theorem strRep_len (s : Str) (n : Nat) : (strRep s n).length = n * s.length := by
  have f : ∀ (n : Nat) (acc : Array Nat), ((List.replicate n s.cps).foldl (· ++ ·) acc).size = acc.size + n * s.cps.size := fun n => by
    induction n with
    | zero => intro acc; simp
    | succ n ih =>
      intro acc
      rw [List.replicate_succ, List.foldl_cons, ih, Array.size_append, Nat.add_assoc, Nat.succ_mul, Nat.add_comm s.cps.size]
  exact (f n #[]).trans (by show 0 + _ = n * s.cps.size; rw [Nat.zero_add])
theorem strRep_nil {s : Str} (h : s.length = 0) {n : Nat} : strRep s n = s := by
  have e : s.cps = #[] := Array.eq_empty_of_size_eq_zero h
  have f : ∀ n : Nat, (List.replicate n (#[] : Array Nat)).foldl (· ++ ·) #[] = #[] := fun n => by
    induction n with
    | zero => rfl
    | succ n ih => rw [List.replicate_succ, List.foldl_cons]; exact ih
  cases s with
  | mk c =>
    unfold strRep
    simp only at e
    rw [e]
    simp only [f]
/-- a text, so many times -/
theorem op_mulS : OpR X (binaryOp .Mult) (fun x y H Q => ∃ s k, x = .str s ∧ y = .int k ∧ -(2 ^ 62) ≤ k ∧ k < 2 ^ 62 ∧ s.length * k.toNat ≤ sizeLine ∧ Q (.str (strRep s k.toNat)) H) := by
  intro pins st σ H x y v u Q I rx ry h
  obtain ⟨s, k, rfl, rfl, k1, k2, hz, q⟩ := h
  obtain ⟨t, rfl⟩ := rx
  obtain ⟨u, rfl⟩ := ry
  refine PySem.P.mul_str ?_ ?_ ?_ ?_
  · rw [decide_eq_false (by omega), decide_eq_false (by omega)]; rfl
  · intro h1 _ h2
    have h3 : (0 : Int) < k := by omega
    have h4 := Int.lt_mul_of_ediv_lt h3 h2
    rw [sizeLine_eq] at hz
    have h5 : ((s.length * k.toNat : Nat) : Int) ≤ ((16777216 : Nat) : Int) := Int.ofNat_le.mpr hz
    rw [Int.natCast_mul, Int.toNat_of_nonneg (Int.le_of_lt h3)] at h5
    generalize (s.length : Int) * k = m at h4 h5
    omega
  · intro _ _
    have : s.length * k.toNat ≤ 16777216 := by rw [sizeLine_eq] at hz; exact hz
    exact decide_eq_false (by omega)
  · split
    · rename_i h1
      have e : strRep s k.toNat = Str.empty := by
        unfold strRep
        rw [Int.toNat_eq_zero.mpr (by omega)]; rfl
      rw [e] at q
      exact ⟨Nat.zero_le _, .str _, H, I.tok _, ⟨_, rfl⟩, q⟩
    · rename_i h1
      split
      · rename_i h2
        have e : strRep s k.toNat = s := by
          simp only [Bool.or_eq_true, beq_iff_eq] at h2
          rcases h2 with h2 | h2
          · rw [h2]; exact strRep_one
          · exact strRep_nil h2
        rw [e] at q
        exact ⟨.str _, H, I, ⟨_, rfl⟩, q⟩
      · exact ⟨by have := strRep_len s k.toNat; unfold strRep at this; rw [this, Nat.mul_comm]; exact hz, .str _, H, I.tok _, ⟨_, rfl⟩, q⟩
/-- a list put behind a list: of our data too -/
theorem op_catL : OpR X (binaryOp .Add) (fun x y H Q => ∃ l b xs zs, x = .ref l ∧ y = .ref b ∧ Rd H l (.lst xs) ∧ Rd H b (.lst zs) ∧ xs.length + zs.length ≤ sizeLine ∧ ∀ p, H p = none → Q (.ref p) (upd H p (.lst (xs ++ zs)))) := by
  intro pins s σ H x y v u Q I rx ry h
  obtain ⟨l, b, xs, zs, rfl, rfl, hl, hb, hz, q⟩ := h
  cases rx
  cases ry
  obtain ⟨_, its, n1, r1, e1⟩ := hl.ok I.hok
  obtain ⟨_, its2, n2, r2, e2⟩ := hb.ok I.hok
  have hlen : its.toArray.size + its2.toArray.size ≤ sizeLine := by
    rw [List.size_toArray, List.size_toArray, ← r1.length, ← r2.length]
    exact hz
  refine PySem.P.add_list e1 e2 ?_ hlen
  rw [List.append_toArray]
  exact ⟨.ref _, _, I.lnew (t' := s.toks) (r1.append r2) (by rw [List.length_append]; exact hz), rfl, q _ I.fresh⟩
theorem bin_ok {op : Operator} {o : Bop} (ho : (match op with | .Add => some Bop.add | .Sub => some .sub | .Mult => some .mul | .FloorDiv => some .fdiv | .Mod => some .mod | .Pow => some .pow | .LShift => some .shl | .RShift => some .shr | .BitAnd => some .band | .BitOr => some .bor | .BitXor => some .bxor | _ => none) = some o)
    (R : RelH X.K ct H μ M) (rx : Rep X.K H M x d) (ry : Rep X.K H M y d') (h : Ok X.K ct (RD X.K) M H (binD o d d' μ) Q W) : wO X (binaryOp op) x y H Q := by
  unfold binD at h
  split at h
  case h_1 i j => cases op <;> cases ho; cases rx; cases ry; exact wo op_add ⟨i, j, rfl, rfl, h.ret R (.int _)⟩
  case h_2 i j => cases op <;> cases ho; cases rx; cases ry; exact wo op_sub ⟨i, j, rfl, rfl, h.ret R (.int _)⟩
  case h_3 i j =>
    cases op <;> cases ho
    cases rx; cases ry
    rcases h.needs.1 with q | q
    · exact wo op_mul ⟨i, j, rfl, rfl, q, h.needs.2.ret R (.int _)⟩
    · exact wo op_mulW ⟨i, j, rfl, rfl, q, h.needs.2.ret R (.int _)⟩
  case h_4 i j =>
    cases op <;> cases ho
    cases rx; cases ry
    rcases h.needs.1 with ⟨q0, q | q⟩
    · exact wo op_fdiv ⟨i, j, rfl, rfl, ⟨q0, q⟩, h.needs.2.ret R (.int _)⟩
    · exact wo op_fdivW ⟨i, j, rfl, rfl, ⟨q0, q⟩, h.needs.2.ret R (.int _)⟩
  case h_5 i j => cases op <;> cases ho; cases rx; cases ry; exact wo op_mod ⟨i, j, rfl, rfl, h.needs.1, h.needs.2.ret R (.int _)⟩
  case h_6 i j => cases op <;> cases ho; cases rx; cases ry; exact wo op_pow ⟨i, j, rfl, rfl, h.needs.1, h.needs.2.ret R (.int _)⟩
  case h_7 i j =>
    cases op <;> cases ho
    cases rx; cases ry
    rcases h.needs.1 with q | q
    · exact wo op_shl ⟨i, j, rfl, rfl, q, h.needs.2.ret R (.int _)⟩
    · exact wo op_shlW ⟨i, j, rfl, rfl, q, h.needs.2.ret R (.int _)⟩
  case h_8 i j => cases op <;> cases ho; cases rx; cases ry; exact wo op_shr ⟨i, j, rfl, rfl, h.needs.1, h.needs.2.ret R (.int _)⟩
  case h_9 i j => cases op <;> cases ho; cases rx; cases ry; exact wo op_and ⟨i, j, rfl, rfl, h.ret R (.int _)⟩
  case h_10 i j => cases op <;> cases ho; cases rx; cases ry; exact wo op_or ⟨i, j, rfl, rfl, h.ret R (.int _)⟩
  case h_11 i j => cases op <;> cases ho; cases rx; cases ry; exact wo op_xor ⟨i, j, rfl, rfl, h.ret R (.int _)⟩
  case h_12 i j => cases op <;> cases ho; cases rx; cases ry; exact wo op_add_str ⟨i, j, rfl, rfl, sl16 h.needs.1, h.needs.2.ret R (.str _)⟩
  case h_13 i j =>
    cases op <;> cases ho
    cases rx with
    | tup h1 r1 =>
      cases ry with
      | tup h2 r2 =>
        have h3 := h.needs.2
        refine wo op_catA ⟨_, _, _, _, rfl, rfl, h1.sq, h2.sq, ?_, fun e => ?_, fun _ e => ?_, fun _ _ p hp => Ok.newT (μ := μ) h3 R (r1.append r2) hp⟩
        · rw [r1.length, r2.length]; exact sl16 h.needs.1
        · subst e; cases r1; exact h3.ret R (.tup h2 r2)
        · subst e
          cases r2
          rw [List.append_nil] at h3
          exact h3.ret R (.tup h1 r1)
  case h_14 i j =>
    cases op <;> cases ho
    cases rx; cases ry
    exact wo op_mulS ⟨i, j, rfl, rfl, h.needs.1.1.1, h.needs.1.1.2, sl16 h.needs.1.2, h.needs.2.ret R (.str _)⟩
  case h_15 =>
    cases op <;> cases ho
    split at h
    · rename_i i j e1 e2
      obtain ⟨a, xs, rfl, hs, rs⟩ := lst_of R rx e1
      obtain ⟨b, ys, rfl, ht, rt⟩ := lst_of R ry e2
      refine wo op_catL ⟨_, _, _, _, rfl, rfl, hs, ht, ?_, fun p hp => Ok.newL (μ := μ) h.needs.2 R (rs.append rt) hp⟩
      rw [rs.length, rt.length]; exact sl16 h.needs.1
    · exact h.elim
  case h_16 => exact h.elim


/-! ### equality -/
mutual
def PD : D → PyData
  | .non => .none
  | .bl b => .bool b
  | .int i => .int i
  | .str s => .str s
  | .tup l => .tuple (PDs l)
  | .lst l => .list (PDs l)
  | .ref _ => .none
  | .kl _ => .none
def PDs : List D → List PyData
  | [] => []
  | d :: ds => PD d :: PDs ds
end
mutual
theorem dp_of {n : Nat} : ∀ {x : V} {d : D}, Rep K H M x d → eqOk n d = true → Dp K H x (PD d)
  | _, _, .non, _ => .non
  | _, _, .bl b, _ => .bl b
  | _, _, .int i, _ => .int i
  | _, _, .str s, _ => .str s
  | _, _, .tup h r, q => by
    cases n with
    | zero => simp [eqOk] at q
    | succ n => exact .tup h.sq (dps_of r (by simpa only [eqOk] using q))
  | _, _, .lst h r, q => by
    cases n with
    | zero => simp [eqOk] at q
    | succ n => exact .lst h.sq (dps_of r (by simpa only [eqOk] using q))
  | _, _, .ref _, q => by cases n <;> simp [eqOk] at q
  | _, _, .kl _ _, q => by cases n <;> simp [eqOk] at q
theorem dps_of {n : Nat} : ∀ {xs : List V} {ds : List D}, Reps K H M xs ds → eqOks n ds = true → DpAll K H xs (PDs ds)
  | _, _, .nil, _ => .nil
  | _, _, .cons h r, q => by
    simp only [eqOks, Bool.and_eq_true] at q
    exact .cons (dp_of h q.1) (dps_of r q.2)
end
mutual
theorem lay_of : ∀ {n : Nat} {d : D}, eqOk n d = true → (PD d).canLay0 = true ∧ (PD d).depth ≤ n
  | _, .non, _ => ⟨rfl, Nat.zero_le _⟩
  | _, .bl _, _ => ⟨rfl, Nat.zero_le _⟩
  | _, .int _, _ => ⟨rfl, Nat.zero_le _⟩
  | n, .str s, q => ⟨by cases n <;> simpa [eqOk, PD, PyData.canLay0, PyData.strOk] using q, Nat.zero_le _⟩
  | 0, .tup _, q => by simp [eqOk] at q
  | 0, .lst _, q => by simp [eqOk] at q
  | n + 1, .tup l, q => by
    have z := lays_of (n := n) (ds := l) (by simpa only [eqOk] using q)
    exact ⟨by simpa only [PD, PyData.canLay0] using z.1, by simpa only [PD, PyData.depth] using Nat.succ_le_succ z.2⟩
  | n + 1, .lst l, q => by
    have z := lays_of (n := n) (ds := l) (by simpa only [eqOk] using q)
    exact ⟨by simpa only [PD, PyData.canLay0] using z.1, by simpa only [PD, PyData.depth] using Nat.succ_le_succ z.2⟩
  | n, .ref _, q => by cases n <;> simp [eqOk] at q
  | n, .kl _, q => by cases n <;> simp [eqOk] at q
theorem lays_of : ∀ {n : Nat} {ds : List D}, eqOks n ds = true → PyData.canLayAll0 (PDs ds) = true ∧ PyData.depthAll (PDs ds) ≤ n
  | _, [], _ => ⟨rfl, Nat.zero_le _⟩
  | n, d :: ds, q => by
    simp only [eqOks, Bool.and_eq_true] at q
    have a := lay_of q.1
    have b := lays_of q.2
    exact ⟨by simp only [PDs, PyData.canLayAll0, a.1, b.1, Bool.and_self], by simp only [PDs, PyData.depthAll]; exact Nat.max_le.mpr ⟨a.2, b.2⟩⟩
end
mutual
theorem eqv_of : ∀ {n m : Nat} {d e : D}, eqOk n d = true → eqOk m e = true → PyData.eqv (PD d) (PD e) = eqD d e
  | n, m, .ref _, _, q, _ => by cases n <;> simp [eqOk] at q
  | n, m, _, .ref _, _, q => by cases m <;> simp [eqOk] at q
  | n, m, .kl _, _, q, _ => by cases n <;> simp [eqOk] at q
  | n, m, _, .kl _, _, q => by cases m <;> simp [eqOk] at q
  | 0, _, .tup _, _, q, _ => by simp [eqOk] at q
  | 0, _, .lst _, _, q, _ => by simp [eqOk] at q
  | _, 0, _, .tup _, _, q => by simp [eqOk] at q
  | _, 0, _, .lst _, _, q => by simp [eqOk] at q
  | n + 1, m + 1, .tup a, .tup b, q, p => by
    simp only [PD, PyData.eqv, eqD]
    exact eqvs_of (n := n) (m := m) (by simpa only [eqOk] using q) (by simpa only [eqOk] using p)
  | n + 1, m + 1, .lst a, .lst b, q, p => by
    simp only [PD, PyData.eqv, eqD]
    exact eqvs_of (n := n) (m := m) (by simpa only [eqOk] using q) (by simpa only [eqOk] using p)
  | n + 1, m + 1, .tup a, .lst b, q, p => by simp only [PD, PyData.eqv, eqD]
  | n + 1, m + 1, .lst a, .tup b, q, p => by simp only [PD, PyData.eqv, eqD]
  | n + 1, m, .tup a, .non, q, p => by simp only [PD, PyData.eqv, eqD]
  | n + 1, m, .tup a, .bl _, q, p => by simp only [PD, PyData.eqv, eqD]
  | n + 1, m, .tup a, .int _, q, p => by simp only [PD, PyData.eqv, eqD]
  | n + 1, m, .tup a, .str _, q, p => by simp only [PD, PyData.eqv, eqD]
  | n + 1, m, .lst a, .non, q, p => by simp only [PD, PyData.eqv, eqD]
  | n + 1, m, .lst a, .bl _, q, p => by simp only [PD, PyData.eqv, eqD]
  | n + 1, m, .lst a, .int _, q, p => by simp only [PD, PyData.eqv, eqD]
  | n + 1, m, .lst a, .str _, q, p => by simp only [PD, PyData.eqv, eqD]
  | n, m + 1, .non, .tup _, q, p => by simp only [PD, PyData.eqv, eqD]
  | n, m + 1, .bl _, .tup _, q, p => by simp only [PD, PyData.eqv, eqD]
  | n, m + 1, .int _, .tup _, q, p => by simp only [PD, PyData.eqv, eqD]
  | n, m + 1, .str _, .tup _, q, p => by simp only [PD, PyData.eqv, eqD]
  | n, m + 1, .non, .lst _, q, p => by simp only [PD, PyData.eqv, eqD]
  | n, m + 1, .bl _, .lst _, q, p => by simp only [PD, PyData.eqv, eqD]
  | n, m + 1, .int _, .lst _, q, p => by simp only [PD, PyData.eqv, eqD]
  | n, m + 1, .str _, .lst _, q, p => by simp only [PD, PyData.eqv, eqD]
  | n, m, .non, .non, q, p => by simp only [PD, PyData.eqv, eqD]
  | n, m, .non, .bl _, q, p => by simp only [PD, PyData.eqv, eqD]
  | n, m, .non, .int _, q, p => by simp only [PD, PyData.eqv, eqD]
  | n, m, .non, .str _, q, p => by simp only [PD, PyData.eqv, eqD]
  | n, m, .bl _, .non, q, p => by simp only [PD, PyData.eqv, eqD]
  | n, m, .bl _, .bl _, q, p => by simp only [PD, PyData.eqv, eqD]
  | n, m, .bl _, .int _, q, p => by simp only [PD, PyData.eqv, eqD]
  | n, m, .bl _, .str _, q, p => by simp only [PD, PyData.eqv, eqD]
  | n, m, .int _, .non, q, p => by simp only [PD, PyData.eqv, eqD]
  | n, m, .int _, .bl _, q, p => by simp only [PD, PyData.eqv, eqD]
  | n, m, .int _, .int _, q, p => by simp only [PD, PyData.eqv, eqD]
  | n, m, .int _, .str _, q, p => by simp only [PD, PyData.eqv, eqD]
  | n, m, .str _, .non, q, p => by simp only [PD, PyData.eqv, eqD]
  | n, m, .str _, .bl _, q, p => by simp only [PD, PyData.eqv, eqD]
  | n, m, .str _, .int _, q, p => by simp only [PD, PyData.eqv, eqD]
  | n, m, .str _, .str _, q, p => by simp only [PD, PyData.eqv, eqD]
theorem eqvs_of : ∀ {n m : Nat} {ds es : List D}, eqOks n ds = true → eqOks m es = true → PyData.eqvAll (PDs ds) (PDs es) = eqDs ds es
  | _, _, [], [], _, _ => by simp only [PDs, PyData.eqvAll, eqDs]
  | _, _, [], _ :: _, _, _ => by simp only [PDs, PyData.eqvAll, eqDs]
  | _, _, _ :: _, [], _, _ => by simp only [PDs, PyData.eqvAll, eqDs]
  | n, m, d :: ds, e :: es, q, p => by
    simp only [eqOks, Bool.and_eq_true] at q p
    simp only [PDs, PyData.eqvAll, eqDs, eqv_of q.1 p.1, eqvs_of q.2 p.2]
end
theorem shaped_of {d : D} (h : eqOk 64 d = true) : SeqAt.shaped (PD d) = true := by
  unfold SeqAt.shaped
  rw [(lay_of h).1, decide_eq_true (lay_of h).2]
  rfl
theorem Rep.deref (R : RelH K ct H μ M) (r : Rep K H M x d) (h : eqOk 64 (deref μ d) = true) : Dp K H x (PD (PyI.deref μ d)) := by
  cases r with
  | ref ha =>
    unfold PyI.deref at h ⊢
    simp only at h ⊢
    split at h
    · rename_i l' hl
      obtain ⟨xs, h1, r1⟩ := R.lst hl ha
      exact .lst (.inl (.inl h1)) (dps_of (n := 63) r1 (by simpa only [eqOk] using h))
    · simp [eqOk] at h
  | non => exact .non
  | bl b => exact .bl b
  | int i => exact .int i
  | str s => exact .str s
  | tup h1 r1 => exact dp_of (.tup h1 r1) h
  | lst h1 r1 => exact dp_of (.lst h1 r1) h
  | kl => simp [PyI.deref, eqOk] at h
/-- flat values -/
theorem flat_of (r : Rep K H M x d) (h : flatD d = true) : flatV x = true := by cases r <;> first | rfl | (simp [flatD] at h)
theorem flats_of : ∀ {xs : List V} {ds : List D}, Reps K H M xs ds → ds.all flatD = true → xs.all flatV = true
  | _, _, .nil, _ => rfl
  | _, _, .cons h r, q => by
    simp only [List.all_cons, Bool.and_eq_true] at q ⊢
    exact ⟨flat_of h q.1, flats_of r q.2⟩
theorem eqV_of (rx : Rep K H M x d) (ry : Rep K H M y d') (h : flatD d = true) (h' : flatD d' = true) : eqV x y = eqD d d' := by
  cases rx <;> first | (simp [flatD] at h; done) | (cases ry <;> first | (simp [flatD] at h'; done) | simp only [eqV, eqD])
theorem inV_of (rx : Rep K H M x d) (h : flatD d = true) : ∀ {xs : List V} {ds : List D}, Reps K H M xs ds → ds.all flatD = true → inV x xs = ds.any fun y => eqD y d
  | _, _, .nil, _ => rfl
  | _, _, .cons hh r, q => by
    simp only [List.all_cons, Bool.and_eq_true] at q
    have ih := inV_of rx h r q.2
    unfold inV at ih ⊢
    rw [List.any_cons, List.any_cons, ih, eqV_of hh rx q.1 h]
/-- is of a bool -/
def rIsB' (neg : Bool) : R2 := fun x y H Q => ∃ b, y = .bl b ∧ (match x with | .byt _ => False | .flt _ => False | .ty _ => False | _ => True) ∧ Q (.bl (if neg then !decide (x = .bl b) else decide (x = .bl b))) H
theorem op_isB' : OpR X (compareOp .Is) (rIsB' false) := by
  intro pins s σ H x y v u Q I rx ry h
  obtain ⟨b, rfl, hx, q⟩ := h
  cases (show u = Value.bool b from ry)
  cases x with
  | non => cases (show v = Value.none from rx); exact wpAny_is_other rfl (by intro z; cases z) ⟨.bl false, H, I, rfl, by simpa using q⟩
  | bl a =>
    cases (show v = Value.bool a from rx)
    by_cases e : a = b
    · subst e; exact wpAny_is_self rfl ⟨.bl true, H, I, rfl, by simpa using q⟩
    · exact wpAny_is_other rfl (fun z => e (Value.bool.inj z)) ⟨.bl false, H, I, rfl, by simpa [e] using q⟩
  | int i => obtain ⟨t, rfl⟩ := rx; exact wpAny_is_other rfl (by intro z; cases z) ⟨.bl false, H, I, rfl, by simpa using q⟩
  | str i => obtain ⟨t, rfl⟩ := rx; exact wpAny_is_other rfl (by intro z; cases z) ⟨.bl false, H, I, rfl, by simpa using q⟩
  | ref a => cases (show v = Value.ref a from rx); exact wpAny_is_other rfl (by intro z; cases z) ⟨.bl false, H, I, rfl, by simpa using q⟩
  | byt _ => exact hx.elim
  | flt _ => exact hx.elim
  | ty _ => exact hx.elim
theorem op_isnB' : OpR X (compareOp .IsNot) (rIsB' true) := by
  intro pins s σ H x y v u Q I rx ry h
  obtain ⟨b, rfl, hx, q⟩ := h
  cases (show u = Value.bool b from ry)
  cases x with
  | non => cases (show v = Value.none from rx); exact wpAny_isNot_other rfl (by intro z; cases z) ⟨.bl true, H, I, rfl, by simpa using q⟩
  | bl a =>
    cases (show v = Value.bool a from rx)
    by_cases e : a = b
    · subst e; exact wpAny_isNot_self rfl ⟨.bl false, H, I, rfl, by simpa using q⟩
    · exact wpAny_isNot_other rfl (fun z => e (Value.bool.inj z)) ⟨.bl true, H, I, rfl, by simpa [e] using q⟩
  | int i => obtain ⟨t, rfl⟩ := rx; exact wpAny_isNot_other rfl (by intro z; cases z) ⟨.bl true, H, I, rfl, by simpa using q⟩
  | str i => obtain ⟨t, rfl⟩ := rx; exact wpAny_isNot_other rfl (by intro z; cases z) ⟨.bl true, H, I, rfl, by simpa using q⟩
  | ref a => cases (show v = Value.ref a from rx); exact wpAny_isNot_other rfl (by intro z; cases z) ⟨.bl true, H, I, rfl, by simpa using q⟩
  | byt _ => exact hx.elim
  | flt _ => exact hx.elim
  | ty _ => exact hx.elim
def copOf : CmpOp → Cop
  | .Eq => .eq | .NotEq => .ne | .Lt => .lt | .LtE => .le | .Gt => .gt | .GtE => .ge | .Is => .is_ | .IsNot => .isnot | .In => .in_ | .NotIn => .notin
/-- comparisons: Q is asked at a bool -/
theorem cmp_ok {op : CmpOp} {B : Bool → Hp → Prop} (hu : X.A.units + 64 < cLine) (R : RelH X.K ct H μ M) (rx : Rep X.K H M x d) (ry : Rep X.K H M y d') (h : Ok X.K ct RB M H (cmpD (copOf op) d d' μ) B W) (hq : ∀ b H', B b H' → Q (.bl b) H') : wO X (compareOp op) x y H Q := by
  cases op
  case Eq =>
    obtain ⟨⟨h1, h2⟩, h⟩ := (show Ok X.K ct RB M H (needs (eqOk 64 (deref μ d) = true ∧ eqOk 64 (deref μ d') = true) (.ok (eqD (deref μ d) (deref μ d')) μ)) B W from h).needs
    refine wo (op_eqD hu) ⟨_, _, rx.deref R h1, ry.deref R h2, shaped_of h1, shaped_of h2, hq _ _ ?_⟩
    rw [eqv_of h1 h2]
    exact h.ret R rfl
  case NotEq =>
    obtain ⟨⟨h1, h2⟩, h⟩ := (show Ok X.K ct RB M H (needs (eqOk 64 (deref μ d) = true ∧ eqOk 64 (deref μ d') = true) (.ok (!eqD (deref μ d) (deref μ d')) μ)) B W from h).needs
    refine wo (op_neD hu) ⟨_, _, rx.deref R h1, ry.deref R h2, shaped_of h1, shaped_of h2, hq _ _ ?_⟩
    rw [eqv_of h1 h2]
    exact h.ret R rfl
  case Lt =>
    unfold cmpD copOf at h
    simp only at h
    split at h
    · cases rx; cases ry; exact wo op_lt ⟨_, _, rfl, rfl, hq _ _ (h.ret R rfl)⟩
    · cases rx; cases ry; exact wo op_lt_str ⟨_, _, rfl, rfl, hq _ _ (h.ret R rfl)⟩
    · exact h.elim
  case LtE =>
    unfold cmpD copOf at h
    simp only at h
    split at h
    · cases rx; cases ry; exact wo op_le ⟨_, _, rfl, rfl, hq _ _ (h.ret R rfl)⟩
    · cases rx; cases ry; exact wo op_le_str ⟨_, _, rfl, rfl, hq _ _ (h.ret R rfl)⟩
    · exact h.elim
  case Gt =>
    unfold cmpD copOf at h
    simp only at h
    split at h
    · cases rx; cases ry; exact wo op_gt ⟨_, _, rfl, rfl, hq _ _ (h.ret R rfl)⟩
    · cases rx; cases ry; exact wo op_gt_str ⟨_, _, rfl, rfl, hq _ _ (h.ret R rfl)⟩
    · exact h.elim
  case GtE =>
    unfold cmpD copOf at h
    simp only at h
    split at h
    · cases rx; cases ry; exact wo op_ge ⟨_, _, rfl, rfl, hq _ _ (h.ret R rfl)⟩
    · cases rx; cases ry; exact wo op_ge_str ⟨_, _, rfl, rfl, hq _ _ (h.ret R rfl)⟩
    · exact h.elim
  case Is =>
    unfold cmpD copOf at h
    simp only at h
    split at h
    · cases rx; cases ry; exact wo op_isN ⟨rfl, hq _ _ (by simpa using h.ret R rfl)⟩
    · rename_i hn
      cases ry
      refine wo op_isN ⟨rfl, hq _ _ ?_⟩
      have e : decide (x = V.non) = false := decide_eq_false (by rintro rfl; cases rx; exact hn rfl)
      rw [e]; exact h.ret R rfl
    · rename_i a b
      cases rx; cases ry
      refine wo op_isB' ⟨b, rfl, trivial, hq _ _ ?_⟩
      have z := h.ret R rfl
      by_cases e : a = b
      · simpa [e] using z
      · have e2 : (a == b) = false := beq_eq_false_iff_ne.mpr e
        rw [e2] at z
        simpa [e] using z
    · rename_i b hn
      cases ry
      refine wo op_isB' ⟨b, rfl, by cases rx <;> trivial, hq _ _ ?_⟩
      have e : decide (x = V.bl b) = false := decide_eq_false (by rintro rfl; cases rx; exact hn _ rfl)
      simp only [Bool.false_eq_true, if_false, e]
      exact h.ret R rfl
    · exact h.elim
  case IsNot =>
    unfold cmpD copOf at h
    simp only at h
    split at h
    · cases rx; cases ry; exact wo op_notN ⟨rfl, hq _ _ (by simpa using h.ret R rfl)⟩
    · rename_i hn
      cases ry
      refine wo op_notN ⟨rfl, hq _ _ ?_⟩
      have e : decide (x = V.non) = false := decide_eq_false (by rintro rfl; cases rx; exact hn rfl)
      rw [e]; exact h.ret R rfl
    · rename_i a b
      cases rx; cases ry
      refine wo op_isnB' ⟨b, rfl, trivial, hq _ _ ?_⟩
      have z := h.ret R rfl
      by_cases e : a = b
      · simpa [e] using z
      · have e2 : (a == b) = false := beq_eq_false_iff_ne.mpr e
        rw [e2] at z
        simpa [e] using z
    · rename_i b hn
      cases ry
      refine wo op_isnB' ⟨b, rfl, by cases rx <;> trivial, hq _ _ ?_⟩
      have e : decide (x = V.bl b) = false := decide_eq_false (by rintro rfl; cases rx; exact hn _ rfl)
      simp only [if_true, e, Bool.not_false]
      exact h.ret R rfl
    · exact h.elim
  case In =>
    unfold cmpD copOf at h
    simp only at h
    split at h
    · cases rx; cases ry; exact wo op_in_str ⟨_, _, rfl, rfl, hq _ _ (h.ret R rfl)⟩
    · split at h
      · rename_i l hl
        obtain ⟨⟨h1, h2⟩, h⟩ := h.needs
        obtain ⟨a, xs, rfl, hs, rs⟩ := seq_of R ry hl
        refine wo op_in_seq ⟨a, xs, rfl, hs, flat_of rx h1, flats_of rs h2, hq _ _ ?_⟩
        simp only [Bool.false_eq_true, if_false, inV_of rx h1 rs h2]
        exact h.ret R rfl
      · exact h.elim
  case NotIn =>
    unfold cmpD copOf at h
    simp only at h
    split at h
    · cases rx; cases ry; exact wo op_notIn_str ⟨_, _, rfl, rfl, hq _ _ (h.ret R rfl)⟩
    · split at h
      · rename_i l hl
        obtain ⟨⟨h1, h2⟩, h⟩ := h.needs
        obtain ⟨a, xs, rfl, hs, rs⟩ := seq_of R ry hl
        refine wo op_notIn_seq ⟨a, xs, rfl, hs, flat_of rx h1, flats_of rs h2, hq _ _ ?_⟩
        simp only [if_true, inV_of rx h1 rs h2]
        exact h.ret R rfl
      · exact h.elim
/-- truth -/
theorem tru_ok {B : Bool → Hp → Prop} {ν : Mu} (R : RelH K ct H μ M) (rx : Rep K H M x d) (h : Ok K ct RB M H (truD μ d μ) B W) : ∃ k, TruV K x H k ∧ truD μ d μ = .ok k μ ∧ B k H := by
  cases rx with
  | non => exact ⟨false, rfl, rfl, h.ret R rfl⟩
  | bl b => exact ⟨b, rfl, rfl, h.ret R rfl⟩
  | int i => exact ⟨i != 0, rfl, rfl, h.ret R rfl⟩
  | str s =>
    have h' := (show Ok K ct RB M H (needs (s.length ≤ 16777216) (.ok (s.length != 0) μ)) B W from h).needs
    refine ⟨s.length != 0, ⟨sl16 h'.1, ?_⟩, needs_pos h'.1, h'.2.ret R rfl⟩
    cases e : s.length with
    | zero => rfl
    | succ n =>
      have e1 : (n + 1 != 0) = true := by simp
      have e2 : (((n + 1 : Nat) : Int) != 0) = true := by simp; omega
      rw [e1, e2]
  | tup h1 r1 =>
    rename_i a xs ds
    refine ⟨!ds.isEmpty, .inr (.inl ⟨_, h1.sq, ?_⟩), rfl, h.ret R rfl⟩
    cases r1 <;> rfl
  | lst h1 r1 =>
    rename_i a xs ds
    refine ⟨!ds.isEmpty, .inl ⟨_, h1.sq, ?_⟩, rfl, h.ret R rfl⟩
    cases r1 <;> rfl
  | kl => exact (h : False).elim
  | ref ha =>
    unfold truD at h ⊢
    simp only at h ⊢
    split at h
    · rename_i l' hl
      obtain ⟨xs, h1, r1⟩ := R.lst hl ha
      refine ⟨!l'.isEmpty, .inl ⟨_, .inl (.inl h1), ?_⟩, rfl, h.ret R rfl⟩
      cases r1 <;> rfl
    · exact h.elim
end
end PyI
/-! A4: text.translate({37: None}); built-in calls, methods, subscripts. -/
namespace PyI.Tr
open PySem Builtin Builtin.Str L2
section
variable {prog : Program} {w : World} {A : Around} {E : Value → Shared → Prop} {s : Shared} {d : Addr} {c : Nat}
abbrev M37 (prog : Program) (w : World) (h : Heap) (d : Addr) : Prop := h.DictOf (mixKind prog w) d [(Sum.inl 37, Value.none)]
theorem m37_keeps {h h' : Heap} (m : M37 prog w h d) (k : ∀ b o, h.get? b = some o → h'.get? b = some o) : M37 prog w h' d := by
  obtain ⟨o, es, ep, ho, r⟩ := m
  exact ⟨o, es, ep, k _ _ ho, r⟩
theorem tl37 {Q : Mapped → Shared → Prop} (hh : A.handled = none) (hd : (d == sysModules) = false) (hm : M37 prog w s.heap d)
    (h1 : c = 37 → ∀ k, Q .drop { s with toks := k })
    (h2 : c ≠ 37 → ∀ h' k, (∀ b o, s.heap.get? b = some o → h'.get? b = some o) → Q .keep { s with heap := h', toks := k }) : wpAny (model prog w) A (tableLookup (.ref d) c) Q E s := by
  unfold tableLookup
  refine wpAny_bind (wpAny_attempt (wpAny_bind (wpAny_mkInt ?_)))
  by_cases hc : c = 37
  · refine wpAny_getItem_of (knd := mixKind prog w) (k := (Sum.inl (c : Int))) (v := Value.none) (mixKind_int ..) hm.mapOf (by subst hc; rfl) ?_
    exact wpAny_pure (h1 hc _)
  · refine wpAny_getItem_missing_of (knd := mixKind prog w) (k := (Sum.inl (c : Int))) (mixKind_int ..) hd hh hm.mapOf ?_ fun h' e hx => ?_
    · unfold valueAt
      rw [List.find?_cons, List.find?_nil]
      have : decide (((Sum.inl 37 : Key), Value.none).1 = Sum.inl (c : Int)) = false := decide_eq_false (fun z => hc (by have := Sum.inl.inj z; omega))
      rw [this]; rfl
    show wpAny _ _ (do let b ← isInstance (.ref e) (.type "LookupError"); _) _ _ _
    obtain ⟨ob, t, ho, hc', _⟩ := hx.there
    refine wpAny_bind (wpAny_isInstance (T := "KeyError") (b := true) ⟨ob, ho, hc'⟩ key_is_lookup ?_)
    show wpAny _ _ (if true = true then (do rule "str.translate.not-in-table"; pure Mapped.keep) else _) _ _ _
    rw [if_pos rfl]
    exact wpAny_bind (wpAny_rule (wpAny_pure (h2 hc h' _ hx.keeps)))
end
abbrev one37 (c : Nat) : Option Nat := if c = 37 then none else some c
theorem pieces37 : ∀ (l : List Nat) (acc : Array Nat), List.foldl (fun acc (p : Str) => acc ++ p.cps) acc (l.map fun c => (⟨#[c]⟩ : Str)) = acc ++ l.toArray
  | [], acc => by
    show acc = acc ++ #[]
    rw [Array.append_empty]
  | c :: l, acc => by
    rw [List.map_cons, List.foldl_cons, pieces37 l]
    apply Array.toList_inj.mp
    simp
/-- what stands while the signs are walked -/
def At37 (x : List Nat) (s : Shared) (rest : List Nat) (st : List Str × Nat × Bool × List (Nat × Option Nat) × Bool) (s' : Shared) : Prop :=
  ∃ (past : List Nat) (pieces : List Str) (known : List (Nat × Option Nat)) (n : Nat) (h' : Heap) (k : Nat), x = past ++ rest ∧ n ≤ past.length ∧ st = (pieces, n, true, known, false) ∧ pieces.reverse = (past.filter (· != 37)).map (fun c => (⟨#[c]⟩ : Str)) ∧
    (∀ c a, List.lookup c known = some a → a = one37 c) ∧ s' = { s with heap := h', toks := k } ∧ ∀ b o, s.heap.get? b = some o → h'.get? b = some o
theorem At37.keep {x : List Nat} {s : Shared} {rest past : List Nat} {n : Nat} {c : Nat} {pieces : List Str} {known : List (Nat × Option Nat)} {h' : Heap} {k : Nat} (hc : c ≠ 37) (h1 : x = past ++ c :: rest) (hn : n ≤ past.length)
    (h3 : pieces.reverse = (past.filter (· != 37)).map (fun c => (⟨#[c]⟩ : Str))) (h4 : ∀ c a, List.lookup c known = some a → a = one37 c) (h6 : ∀ b o, s.heap.get? b = some o → h'.get? b = some o) :
    At37 x s rest (⟨#[c]⟩ :: pieces, n + 1, true, known, false) { s with heap := h', toks := k } := by
  refine ⟨past ++ [c], ⟨#[c]⟩ :: pieces, known, n + 1, h', k, ?_, ?_, rfl, ?_, h4, rfl, h6⟩
  · rw [h1, List.append_assoc] <;> rfl
  · rw [List.length_append]; exact Nat.succ_le_succ hn
  · rw [List.reverse_cons, h3, List.filter_append, List.map_append]
    have : List.filter (fun x => x != 37) [c] = [c] := by simp [hc]
    rw [this]; rfl
theorem At37.drop {x : List Nat} {s : Shared} {rest past : List Nat} {n : Nat} {c : Nat} {pieces : List Str} {known : List (Nat × Option Nat)} {h' : Heap} {k : Nat} (hc : c = 37) (h1 : x = past ++ c :: rest) (hn : n ≤ past.length)
    (h3 : pieces.reverse = (past.filter (· != 37)).map (fun c => (⟨#[c]⟩ : Str))) (h4 : ∀ c a, List.lookup c known = some a → a = one37 c) (h6 : ∀ b o, s.heap.get? b = some o → h'.get? b = some o) :
    At37 x s rest (pieces, n, true, known, false) { s with heap := h', toks := k } := by
  refine ⟨past ++ [c], pieces, known, n, h', k, ?_, ?_, rfl, ?_, h4, rfl, h6⟩
  · rw [h1, List.append_assoc] <;> rfl
  · rw [List.length_append]; exact Nat.le_succ_of_le hn
  · rw [h3, List.filter_append]
    have : List.filter (fun x => x != 37) [c] = [] := by simp [hc]
    rw [this, List.append_nil]
theorem meets37 {prog : Program} {w : World} (x : List Nat) (t : Tok) (d : Addr) (hd : (d == sysModules) = false) (hz : x.length ≤ 1000000) (hf : x.toArray.all (fun y => decide (y < 128)) = true) : MeetsIn prog w («str.translate» ⟨[.str ⟨x.toArray⟩ t, .ref d], []⟩) (fun A R s =>
    A.handled = none ∧ M37 prog w s.heap d ∧ ∀ (v : Value) (h' : Heap) (k : Nat), (∀ b o, s.heap.get? b = some o → h'.get? b = some o) → (∃ t', v = .str ⟨(x.filter (· != 37)).toArray⟩ t') → R (.ok (.ret v)) { s with heap := h', toks := k }) := by
  refine .of_wp fun A R s h => ?_
  obtain ⟨hh, hm, h⟩ := h
  have hh1 : A.in1.handled = none := hh
  have hlen : (⟨x.toArray⟩ : Str).length = x.length := by show x.toArray.size = _; simp
  show wpAny _ _ (if ((⟨x.toArray⟩ : Str).length == 0) = true then (do rule "str.translate.empty"; ret (.str ⟨x.toArray⟩ t)) else (do
    let st ← forIn x.toArray (([], 0, x.toArray.all fun y => decide (y < 128), [], false) : List Str × Nat × Bool × List (Nat × Option Nat) × Bool) _
    _)) _ _ s
  by_cases h0 : ((⟨x.toArray⟩ : Str).length == 0) = true
  · rw [if_pos h0]
    have hx : x = [] := by
      rw [beq_iff_eq, hlen] at h0
      exact List.eq_nil_of_length_eq_zero h0
    subst hx
    exact wpAny_bind (wpAny_rule (wpAny_pure ⟨_, rfl, h _ s.heap s.toks (fun _ _ e => e) ⟨t, rfl⟩⟩))
  · rw [if_neg h0, hf]
    refine wpAny_bind (MeetsSeq2.wpAny_forIn_array _ (At37 x s) _ (fun c rest st s' hI => ?turn) (fun st s' hI => ?fin) x.toArray ([], 0, true, [], false) ?h0)
    case h0 =>
      refine ⟨[], [], [], 0, s.heap, s.toks, ?_, Nat.le_refl _, rfl, rfl, fun c a z => ?_, rfl, fun _ _ e => e⟩
      · rw [List.nil_append]
      · rw [List.lookup_nil] at z
        cases z
    case turn =>
      obtain ⟨past, pieces, known, n, h', k, e1, en, e2, e3, e4, e5, e6⟩ := hI
      subst e2
      subst e5
      have hpl : n ≤ 1000000 := by
        have q := congrArg List.length e1
        rw [List.length_append] at q
        omega
      have hm' : M37 prog w ({ s with heap := h', toks := k } : Shared).heap d := m37_keeps hm e6
      show wpAny _ _ (if tooLong n = true then _ else (if true = true then _ else _)) _ _ _
      rw [show tooLong n = false from PyProof.Rows.short24 (by omega), if_neg Bool.false_ne_true]
      rw [if_pos rfl]
      cases hl : List.lookup c known with
      | some a =>
        have ha := e4 c a hl
        by_cases hc : c = 37
        · have ha' : a = none := by rw [ha]; exact if_pos hc
          subst ha'
          refine wpAny_bind (wpAny_pure ?_)
          exact wpAny_pure (At37.drop hc e1 en e3 e4 e6)
        · have ha' : a = some c := by rw [ha]; exact if_neg hc
          subst ha'
          refine wpAny_bind (wpAny_pure ?_)
          exact wpAny_pure (At37.keep hc e1 en e3 e4 e6)
      | none =>
        have new : ∀ b, b = one37 c → ∀ c' a, List.lookup c' ((c, b) :: known) = some a → a = one37 c' := fun b hb c' a z => by
          rcases PySem.lookup_new z with ⟨q1, q2⟩ | q
          · rw [q2, hb, q1]
          · exact e4 c' a q
        refine wpAny_bind (tl37 hh1 hd hm' (fun hc k2 => ?_) (fun hc h2 k2 k3 => ?_))
        · refine wpAny_bind (wpAny_pure ?_)
          refine wpAny_pure ?_
          exact At37.drop (k := k2) (known := (c, none) :: known) hc e1 en e3 (new none (by rw [one37, if_pos hc])) e6
        · refine wpAny_bind (wpAny_pure ?_)
          refine wpAny_pure ?_
          exact At37.keep (k := k2) (known := (c, some c) :: known) hc e1 en e3 (new (some c) (by rw [one37, if_neg hc])) (fun b o z => k3 b o (e6 b o z))
    case fin =>
      obtain ⟨past, pieces, known, n, h', k, e1, en, e2, e3, e4, e5, e6⟩ := hI
      subst e2
      subst e5
      have ex : x = past := by rw [e1, List.append_nil]
      show wpAny _ _ (if tooLong n = true then _ else retStr { cps := List.foldl (fun acc (p : Str) => acc ++ p.cps) #[] pieces.reverse }) _ _ _
      rw [show tooLong n = false from PyProof.Rows.short24 (by rw [← ex] at en; omega), if_neg Bool.false_ne_true, e3, pieces37, ← ex]
      have ev : (⟨#[] ++ (x.filter (· != 37)).toArray⟩ : Str) = ⟨(x.filter (· != 37)).toArray⟩ := by
        rw [Array.empty_append]
      rw [ev]
      refine wpAny_bind (wpAny_mkStr (wpAny_pure ⟨_, rfl, h _ h' _ e6 ⟨_, rfl⟩⟩) ?_)
      show (x.filter (· != 37)).toArray.size ≤ sizeLine
      have hfl : (x.filter (· != 37)).length ≤ x.length := List.length_filter_le ..
      rw [sizeLine_eq]; simp; omega
end PyI.Tr
namespace PyI
open PySem L2
def rTr37 : V → List V → Hp → VK → Prop := fun x xs H Q => ∃ (z : Str) (d : Addr), x = .str z ∧ xs = [.ref d] ∧ H d = some (.dK [(.inl 37, .non)]) ∧ z.length ≤ 1000000 ∧ z.cps.all (· < 128) = true ∧ Q (.str (tr37S z)) H
theorem mt_tr37 {X : Cx} (hc : X.calm = true) : MtR X "str.translate" rTr37 := by
  intro pins s σ H x xs v us Q I rx rs h
  obtain ⟨a, d, rfl, rfl, hd, h3, hf, h⟩ := h
  obtain ⟨t, rfl⟩ := rx
  cases rs with
  | cons r1 rs =>
    cases rs
    cases r1
    obtain ⟨_, low, vs, kv, dd⟩ := dk_of I.hok hd
    have dd' : Tr.M37 X.prog X.w s.heap d := by
      cases kv with
      | cons p kv =>
        cases kv
        rename_i q
        obtain ⟨q1, q2⟩ := q
        obtain ⟨p1, p2⟩ := p
        cases p1
        cases (show q2 = Value.none from p2)
        exact dd
    obtain ⟨⟨l⟩⟩ := a
    refine call_meetsIn F.slot_str_translate (typeIs_str _ _ _) F.entry_str_translate (F.args_str_translate_2 _ _) (Tr.meets37 l t d low (by have h3' : (l.toArray).size ≤ 1000000 := h3; simpa using h3') hf) ⟨I.ok.hd hc, dd', ?_⟩
    intro v h' k hk ⟨t', e⟩
    subst e
    refine ⟨.str _, H, I.kept (t' := k) hk, ⟨t', rfl⟩, ?_⟩
    have e : tr37S ⟨l.toArray⟩ = ⟨(l.filter (· != 37)).toArray⟩ := by unfold tr37S; rfl
    rw [e] at h
    exact h
end PyI
/-! A5: built-in calls, methods, subscripts by values. -/
namespace PyI
open PySem L2
section
variable {X : Cx} {ct : CTab} {K : PySem.W.Frag} {H : Hp} {M : AM} {μ : Mu} {x y z v : V} {d d' : D} {xs : List V} {ds : List D} {Q : VK} {W : XK}

def tyN : Ty → String
  | .str => "str" | .int => "int" | .bool => "bool" | .tuple => "tuple" | .list => "list"
theorem tyx_t {a : Addr} {xs : List V} (h : SqT K H a xs) : TyX K H (.ref a) (.type "tuple") := by
  rcases h with (h | ⟨o, h⟩) | ⟨o, its, n, h1, h2, _⟩
  · exact .base (.tup h)
  · exact .fTuple h
  · exact .kTuple h1 h2
theorem tyx_l {a : Addr} {xs : List V} (h : SqL K H a xs) : TyX K H (.ref a) (.type "list") := by
  rcases h with (h | ⟨o, h⟩) | ⟨o, its, n, h1, h2, _⟩
  · exact .base (.lst h)
  · exact .base (.frz h)
  · exact .kList h1 h2
theorem isi_ok {t : Ty} (R : RelH X.K ct H μ M) (rx : Rep X.K H M x d) (h : Ok X.K ct (RD X.K) M H (isiD d t μ) Q W) : wC X (.builtin "isinstance") [x, .ty (tyN t)] H Q := by
  have go : ∀ {tn : String} {b : Bool}, TyX X.K H x (.type tn) → kitB tn (tyN t) = some b → Q (.bl b) H → wC X (.builtin "isinstance") [x, .ty (tyN t)] H Q :=
    fun ty k q => wc call_isi ⟨x, _, _, _, _, rfl, .ty _, ty, kit_ty k, q⟩
  cases rx with
  | non => exact go (.base .non) (by cases t <;> decide) (h.ret R (.bl _))
  | bl b => exact go (.base (.bl b)) (by cases t <;> decide) (h.ret R (.bl _))
  | int i => exact go (.base (.int i)) (by cases t <;> decide) (h.ret R (.bl _))
  | str s => exact go (.base (.str s)) (by cases t <;> decide) (h.ret R (.bl _))
  | tup h1 r1 => exact go (tyx_t h1.sq) (by cases t <;> decide) (h.ret R (.bl _))
  | lst h1 r1 => exact go (tyx_l h1.sq) (by cases t <;> decide) (h.ret R (.bl _))
  | kl => exact (h : False).elim
  | ref ha =>
    unfold isiD at h
    simp only at h
    split at h
    · rename_i l hl
      obtain ⟨xs, h1, r1⟩ := R.lst hl ha
      exact go (.base (.lst h1)) (by cases t <;> decide) (h.ret R (.bl _))
    · exact h.elim

theorem reps1 (r : Reps K H M xs [d]) : ∃ x, xs = [x] ∧ Rep K H M x d := Reps.one_inv r
theorem reps2 (r : Reps K H M xs [d, d']) : ∃ x y, xs = [x, y] ∧ Rep K H M x d ∧ Rep K H M y d' := by
  cases r with
  | cons h r => obtain ⟨y, rfl, h'⟩ := reps1 r; exact ⟨_, _, rfl, h, h'⟩
theorem reps0 (r : Reps K H M xs []) : xs = [] := by cases r; rfl
theorem seqL_of (R : RelH K ct H μ M) (r : Rep K H M x d) {l : List D} (h : seqD μ d = some l) (hn : ∀ t, d = .tup t → False) : ∃ a xs, x = .ref a ∧ SqL K H a xs ∧ Reps K H M xs l := by
  cases r with
  | tup h1 r1 => exact (hn _ rfl).elim
  | lst h1 r1 => cases h; exact ⟨_, _, rfl, h1.sq, r1⟩
  | kl h1 r1 => cases h; exact ⟨_, _, rfl, h1.sq, r1⟩
  | ref ha =>
    unfold seqD at h
    simp only at h
    split at h
    · rename_i l' hl
      cases h
      obtain ⟨xs, h1, r1⟩ := R.lst hl ha
      exact ⟨_, _, rfl, .inl (.inl h1), r1⟩
    · cases h
  | non => cases h
  | bl => cases h
  | int => cases h
  | str => cases h
def bifV : Bif → Value
  | .len => .builtin "len" | .int => .type "int" | .str => .type "str" | .tuple => .type "tuple" | .list => .type "list"
  | .sorted => .builtin "sorted" | .min => .builtin "min" | .max => .builtin "max" | .sum => .builtin "sum" | .any => .builtin "any" | .all => .builtin "all"
  | .abs => .builtin "abs" | .ord => .builtin "ord" | .bool => .type "bool"
theorem ints_of : ∀ {xs : List V} {ds : List D} {ys : List Int}, Reps K H M xs ds → intsOf ds = some ys → xs = ys.map V.int
  | _, _, _, .nil, e => by cases e; rfl
  | _, _, ys, .cons h r, e => by
    cases h <;> unfold intsOf at e <;> simp only [Option.map_eq_some_iff, reduceCtorEq] at e
    obtain ⟨zs, hz, rfl⟩ := e
    rw [ints_of r hz]; rfl
theorem bools_of : ∀ {xs : List V} {ds : List D} {ys : List Bool}, Reps K H M xs ds → boolsOf ds = some ys → xs = ys.map V.bl
  | _, _, _, .nil, e => by cases e; rfl
  | _, _, ys, .cons h r, e => by
    cases h <;> unfold boolsOf at e <;> simp only [Option.map_eq_some_iff, reduceCtorEq] at e
    obtain ⟨zs, hz, rfl⟩ := e
    rw [bools_of r hz]; rfl
theorem reps_ints : ∀ (ys : List Int), Reps K H M (ys.map V.int) (ys.map D.int)
  | [] => .nil
  | y :: ys => .cons (.int y) (reps_ints ys)
theorem maxL_mem : ∀ {l : List Int}, l ≠ [] → maxL l ∈ l
  | [], h => absurd rfl h
  | [a], _ => by simp [maxL]
  | a :: b :: r, _ => by
    have := maxL_mem (l := b :: r) (by simp)
    rw [maxL]
    split
    · exact List.mem_cons_of_mem _ this
    · exact List.mem_cons_self ..
theorem maxL_ge : ∀ {l : List Int}, ∀ y ∈ l, y ≤ maxL l
  | [a], y, h => by rw [List.mem_singleton.mp h]; simp [maxL]
  | a :: b :: r, y, h => by
    have ih := fun y h => maxL_ge (l := b :: r) y h
    rw [maxL]
    rcases List.mem_cons.mp h with rfl | h
    · split <;> omega
    · have := ih y h
      split <;> omega
theorem minL_mem : ∀ {l : List Int}, l ≠ [] → minL l ∈ l
  | [], h => absurd rfl h
  | [a], _ => by simp [minL]
  | a :: b :: r, _ => by
    have := minL_mem (l := b :: r) (by simp)
    rw [minL]
    split
    · exact List.mem_cons_of_mem _ this
    · exact List.mem_cons_self ..
theorem minL_le : ∀ {l : List Int}, ∀ y ∈ l, minL l ≤ y
  | [a], y, h => by rw [List.mem_singleton.mp h]; simp [minL]
  | a :: b :: r, y, h => by
    have ih := fun y h => minL_le (l := b :: r) y h
    rw [minL]
    rcases List.mem_cons.mp h with rfl | h
    · split <;> omega
    · have := ih y h
      split <;> omega
theorem insI_perm (a : Int) : ∀ l : List Int, (insI a l).Perm (a :: l)
  | [] => .refl _
  | b :: r => by
    rw [insI]
    split
    · exact .refl _
    · exact ((insI_perm a r).cons b).trans (.swap a b r)
theorem sortI_perm : ∀ l : List Int, (sortI l).Perm l
  | [] => .refl _
  | a :: r => (insI_perm a _).trans ((sortI_perm r).cons a)
theorem insI_up (a : Int) : ∀ {l : List Int}, l.Pairwise (· ≤ ·) → (insI a l).Pairwise (· ≤ ·)
  | [], _ => by simp [insI]
  | b :: r, h => by
    rw [insI]
    rw [List.pairwise_cons] at h
    split
    · rename_i e
      rw [List.pairwise_cons]
      refine ⟨fun y hy => ?_, List.pairwise_cons.mpr h⟩
      rcases List.mem_cons.mp hy with rfl | hy
      · exact e
      · exact Int.le_trans e (h.1 y hy)
    · rename_i e
      rw [List.pairwise_cons]
      refine ⟨fun y hy => ?_, insI_up a h.2⟩
      rcases List.mem_cons.mp ((insI_perm a r).mem_iff.mp hy) with rfl | hy
      · omega
      · exact h.1 y hy
theorem sortI_up : ∀ l : List Int, (sortI l).Pairwise (· ≤ ·)
  | [] => .nil
  | a :: r => insI_up a (sortI_up r)
theorem bif_ok {b : Bif} (hc : X.calm = true) (R : RelH X.K ct H μ M) (r : Reps X.K H M xs ds) (h : Ok X.K ct (RD X.K) M H (bifD b ds μ) Q W) : wC X (bifV b) xs H Q := by
  unfold bifD at h
  split at h
  case h_1 s => obtain ⟨x, rfl, rx⟩ := reps1 r; cases rx; exact wc call_len_str ⟨s, rfl, sl16 h.needs.1, h.needs.2.ret R (.int _)⟩
  case h_2 =>
    obtain ⟨x, rfl, rx⟩ := reps1 r
    split at h
    · rename_i l hl
      obtain ⟨a, xs, rfl, hs, rs⟩ := seq_of R rx hl
      refine wc call_len_seq ⟨a, xs, rfl, hs, ?_⟩
      rw [rs.length]; exact h.ret R (.int _)
    · exact h.elim
  case h_3 => obtain ⟨x, rfl, rx⟩ := reps1 r; cases rx; exact wc call_int1 (.inl ⟨_, rfl, h.ret R (.int _)⟩)
  case h_4 => obtain ⟨x, rfl, rx⟩ := reps1 r; cases rx; exact wc call_int1 (.inr ⟨_, rfl, h.ret R (.int _)⟩)
  case h_5 =>
    obtain ⟨x, rfl, rx⟩ := reps1 r; cases rx
    split at h
    · rename_i n hn
      exact wc call_int_str ⟨_, n, rfl, hn, h.needs.1, h.needs.2.ret R (.int _)⟩
    · exact h.elim
  case h_6 => obtain ⟨x, rfl, rx⟩ := reps1 r; cases rx; exact wc call_str_int ⟨_, rfl, h.needs.1, h.needs.2.ret R (.str _)⟩
  case h_7 => obtain ⟨x, rfl, rx⟩ := reps1 r; cases rx; exact wc call_abs ⟨_, rfl, h.ret R (.int _)⟩
  case h_8 => obtain ⟨x, y, rfl, rx, ry⟩ := reps2 r; cases rx; cases ry; exact wc (call_max2 hc) ⟨_, _, rfl, h.ret R (.int _)⟩
  case h_9 => obtain ⟨x, y, rfl, rx, ry⟩ := reps2 r; cases rx; cases ry; exact wc (call_min2 hc) ⟨_, _, rfl, h.ret R (.int _)⟩
  case h_10 =>
    obtain ⟨x, rfl, rx⟩ := reps1 r
    cases rx with
    | tup h1 r1 => exact wc call_tuple_of ⟨_, _, rfl, .inr ⟨h1.sq, h.ret R (.tup h1 r1)⟩⟩
  case h_11 hn =>
    obtain ⟨x, rfl, rx⟩ := reps1 r
    split at h
    · rename_i l hl
      obtain ⟨a, xs, rfl, hs, rs⟩ := seqL_of R rx hl hn
      exact wc call_tuple_of ⟨a, xs, rfl, .inl ⟨hs, fun p hp => h.newT R rs hp⟩⟩
    · exact h.elim
  case h_12 =>
    obtain ⟨x, rfl, rx⟩ := reps1 r
    split at h
    · rename_i l hl
      obtain ⟨a, xs, rfl, hs, rs⟩ := seq_of R rx hl
      exact wc call_list_of ⟨a, xs, rfl, hs, fun p hp => h.newL R rs hp⟩
    · exact h.elim
  case h_13 s => obtain ⟨x, rfl, rx⟩ := reps1 r; cases rx; exact wc call_ord ⟨s, rfl, h.needs.1, h.needs.2.ret R (.int _)⟩
  case h_14 =>
    obtain ⟨x, rfl, rx⟩ := reps1 r
    split at h
    · rename_i l hl
      obtain ⟨zs, e1, e2⟩ := Option.bind_eq_some_iff.mp hl
      obtain ⟨a, xs, rfl, hs, rs⟩ := lst_of R rx e1
      exact wc (cr_sum hc) ⟨a, l, rfl, .inl (by rw [← ints_of rs e2]; exact hs), h.ret R (.int _)⟩
    · exact h.elim
  case h_15 =>
    obtain ⟨x, rfl, rx⟩ := reps1 r
    split at h
    · rename_i l hl
      obtain ⟨zs, e1, e2⟩ := Option.bind_eq_some_iff.mp hl
      obtain ⟨a, xs, rfl, hs, rs⟩ := lst_of R rx e1
      exact wc (cr_any hc) ⟨a, l, rfl, .inl (by rw [← bools_of rs e2]; exact hs), h.ret R (.bl _)⟩
    · exact h.elim
  case h_16 =>
    obtain ⟨x, rfl, rx⟩ := reps1 r
    split at h
    · rename_i l hl
      obtain ⟨zs, e1, e2⟩ := Option.bind_eq_some_iff.mp hl
      obtain ⟨a, xs, rfl, hs, rs⟩ := lst_of R rx e1
      exact wc (cr_all hc) ⟨a, l, rfl, .inl (by rw [← bools_of rs e2]; exact hs), h.ret R (.bl _)⟩
    · exact h.elim
  case h_17 =>
    obtain ⟨x, rfl, rx⟩ := reps1 r
    split at h
    · rename_i l hl
      obtain ⟨zs, e1, e2⟩ := Option.bind_eq_some_iff.mp hl
      obtain ⟨a, xs, rfl, hs, rs⟩ := lst_of R rx e1
      have hn : l ≠ [] := List.length_pos_iff.mp h.needs.1
      refine wc (cr_max hc) ⟨a, l, rfl, .inl (by rw [← ints_of rs e2]; exact hs), h.needs.1, fun m h1 h2 => ?_⟩
      have e : m = maxL l := Int.le_antisymm (maxL_ge m h1) (h2 _ (maxL_mem hn))
      rw [e]
      exact h.needs.2.ret R (.int _)
    · exact h.elim
  case h_18 =>
    obtain ⟨x, rfl, rx⟩ := reps1 r
    split at h
    · rename_i l hl
      obtain ⟨zs, e1, e2⟩ := Option.bind_eq_some_iff.mp hl
      obtain ⟨a, xs, rfl, hs, rs⟩ := lst_of R rx e1
      have hn : l ≠ [] := List.length_pos_iff.mp h.needs.1
      refine wc (cr_min hc) ⟨a, l, rfl, .inl (by rw [← ints_of rs e2]; exact hs), h.needs.1, fun m h1 h2 => ?_⟩
      have e : m = minL l := Int.le_antisymm (h2 _ (minL_mem hn)) (minL_le m h1)
      rw [e]
      exact h.needs.2.ret R (.int _)
    · exact h.elim
  case h_19 =>
    obtain ⟨x, rfl, rx⟩ := reps1 r
    split at h
    · rename_i l hl
      obtain ⟨zs, e1, e2⟩ := Option.bind_eq_some_iff.mp hl
      obtain ⟨a, xs, rfl, hs, rs⟩ := lst_of R rx e1
      refine wc cr_sortedI ⟨a, l, rfl, .inl (by rw [← ints_of rs e2]; exact hs), fun ns' p h1 h2 hp => ?_⟩
      have e : ns' = sortI l := List.Perm.eq_of_pairwise (fun a b _ _ h1 h2 => Int.le_antisymm h1 h2) h2 (sortI_up l) (h1.trans (sortI_perm l).symm)
      rw [e]
      exact h.newL R (reps_ints _) hp
    · exact h.elim
  case h_20 => exact h.elim

/-! ### methods -/
def metI : Met → String
  | .append => "list.append" | .join => "str.join" | .find => "str.find" | .isascii => "str.isascii" | .isprintable => "str.isprintable" | .split => "str.split"
  | .endswith => "str.endswith" | .startswith => "str.startswith" | .extend => "list.extend" | .pop => "list.pop" | .index => "str.index" | .isdigit => "str.isdigit" | .isalpha => "str.isalpha" | .islower => "str.islower"
def metT : Met → String
  | .append => "list" | .extend => "list" | .pop => "list"
  | _ => "str"
theorem strs_of : ∀ {xs : List V} {ds : List D} {ys : List Str}, Reps K H M xs ds → strsOf ds = some ys → xs = ys.map V.str
  | _, _, _, .nil, e => by cases e; rfl
  | _, _, ys, .cons h r, e => by
    cases h <;> unfold strsOf at e <;> simp only [Option.map_eq_some_iff, reduceCtorEq] at e
    obtain ⟨zs, hz, rfl⟩ := e
    rw [strs_of r hz]; rfl
theorem reps_strs : ∀ (ys : List Str), Reps K H M (ys.map V.str) (ys.map D.str)
  | [] => .nil
  | y :: ys => .cons (.str y) (reps_strs ys)
theorem met_ty {m : Met} {o : D} (R : RelH K ct H μ M) (rx : Rep K H M x o) (h : tyD m o μ = true) : tyV K (metT m) x H := by
  unfold tyD at h
  split at h
  case h_1 =>
    cases rx with
    | ref ha =>
      split at h
      · rename_i l hl
        obtain ⟨xs, h1, r1⟩ := R.lst hl ha
        exact .inl ⟨rfl, xs, .inl (.inl h1)⟩
      · cases h
  case h_5 => cases rx; unfold metT; split <;> first | rfl | (exfalso; simp_all; done) | trace_state
  all_goals cases h
theorem met_ok {m : Met} {o : D} (R : RelH X.K ct H μ M) (rx : Rep X.K H M x o) (r : Reps X.K H M xs ds) (h : Ok X.K ct (RD X.K) M H (metD m o ds μ) Q W) : wM X (metI m) x xs H Q := by
  unfold metD at h
  split at h
  case h_1 n d =>
    cases rx with
    | ref ha =>
      obtain ⟨y, rfl, ry⟩ := reps1 r
      split at h
      · rename_i l hl
        obtain ⟨zs, h1, r1⟩ := R.lst hl ha
        obtain ⟨hz, h⟩ := h.needs
        have em : Evo M H M (upd H _ (.lst (zs ++ [y]))) := Evo.mut (List.mem_of_getElem? ha)
        refine wm mt_append ⟨_, zs, y, rfl, rfl, h1, sl16' (by rw [r1.length]; exact hz), ?_⟩
        exact h _ _ M em (R.mut ha ⟨zs ++ [y], upd_same, (r1.evo em).append (Reps.one (ry.evo em))⟩) .non
      · exact h.elim
  case h_2 a d =>
    cases rx
    obtain ⟨y, rfl, ry⟩ := reps1 r
    split at h
    · rename_i ys hy
      obtain ⟨hz, h⟩ := h.needs
      obtain ⟨l, hl, hs⟩ := Option.bind_eq_some_iff.mp hy
      obtain ⟨p, xs, rfl, hq, rs⟩ := seq_of R ry hl
      have e := strs_of rs hs
      subst e
      exact wm mt_join ⟨_, p, ys, rfl, rfl, hq, hz, h.ret R (.str _)⟩
    · exact h.elim
  case h_3 => cases rx; obtain ⟨y, z, rfl, ry, rz⟩ := reps2 r; cases ry; cases rz; exact wm mt_find3 ⟨_, _, _, rfl, rfl, h.ret R (.int _)⟩
  case h_4 => cases rx; obtain ⟨y, rfl, ry⟩ := reps1 r; cases ry; exact wm mt_find ⟨_, _, rfl, rfl, h.ret R (.int _)⟩
  case h_5 => cases rx; cases reps0 r; exact wm mt_isascii ⟨_, rfl, rfl, trivial, h.ret R (.bl _)⟩
  case h_6 => cases rx; cases reps0 r; exact wm mt_isprintable ⟨_, rfl, rfl, trivial, h.ret R (.bl _)⟩
  case h_7 => cases rx; cases reps0 r; exact wm mt_isdigit ⟨_, rfl, rfl, trivial, h.ret R (.bl _)⟩
  case h_8 => cases rx; cases reps0 r; exact wm mt_isalpha ⟨_, rfl, rfl, trivial, h.ret R (.bl _)⟩
  case h_9 => cases rx; cases reps0 r; exact wm mt_islower ⟨_, rfl, rfl, trivial, h.ret R (.bl _)⟩
  case h_10 => cases rx; obtain ⟨y, rfl, ry⟩ := reps1 r; cases ry; exact wm mt_startswith ⟨_, _, rfl, rfl, h.ret R (.bl _)⟩
  case h_11 => cases rx; obtain ⟨y, rfl, ry⟩ := reps1 r; cases ry; exact wm mt_endswith ⟨_, _, rfl, rfl, h.ret R (.bl _)⟩
  case h_12 =>
    cases rx; obtain ⟨y, rfl, ry⟩ := reps1 r; cases ry
    obtain ⟨hz, h⟩ := h.needs
    refine wm mt_split ⟨_, _, rfl, rfl, beq_eq_false_iff_ne.mpr hz.1, sl16 hz.2, fun p hp => ?_⟩
    exact h.newL R (reps_strs _) hp
  case h_13 => exact h.elim

/-! ### subscripts -/
theorem idx_ok {i : D} (R : RelH X.K ct H μ M) (rx : Rep X.K H M x d) (ry : Rep X.K H M y i) (h : Ok X.K ct (RD X.K) M H (idxD d i μ) Q W) : rIx X.K x y H Q := by
  unfold idxD at h
  split at h
  case h_1 z k =>
    cases rx; cases ry
    split at h
    · rename_i c hc
      exact .inr (.inr ⟨_, _, c, rfl, rfl, sl16 h.needs.1, hc, h.needs.2.ret R (.str _)⟩)
    · exact h.elim
  case h_2 k hn =>
    cases ry
    split at h
    · rename_i l hl
      obtain ⟨a, xs, rfl, hs, rs⟩ := seq_of R rx hl
      split at h
      · rename_i e he
        have : ∃ v, atI xs k = some v ∧ Rep X.K H M v e := by
          unfold atI at he ⊢
          obtain ⟨j, hj, hd⟩ := Option.bind_eq_some_iff.mp he
          obtain ⟨v, hv, rv⟩ := rs.get hd
          rw [rs.length]
          exact ⟨v, Option.bind_eq_some_iff.mpr ⟨j, hj, hv⟩, rv⟩
        obtain ⟨v, hv, rv⟩ := this
        rcases hs with hs | hs
        · exact .inl ⟨a, xs, _, v, rfl, rfl, hs, hv, h.ret R rv⟩
        · exact .inr (.inl ⟨a, xs, _, v, rfl, rfl, hs, hv, h.ret R rv⟩)
      · exact h.elim
    · exact h.elim
  case h_3 => exact h.elim
abbrev rSl (K : PySem.W.Frag) : V → Option Int → Option Int → Hp → VK → Prop := fun x lo hi H Q => (rSlS x lo hi H Q ∨ rSlL K x lo hi H Q) ∨ rSlT K x lo hi H Q
theorem sl_any : SlR X (rSl X.K) := (sl_str.or sl_list).or sl_tup
theorem cut_reps {lo hi : Option Int} {l : List D} (r : Reps K H M xs l) : Reps K H M (cutV xs lo hi) (cutD l lo hi) := by
  unfold cutV cutD
  rw [r.length]
  exact (r.dropL _).takeL _
theorem slc_ok {lo hi : Option Int} (R : RelH X.K ct H μ M) (rx : Rep X.K H M x d) (h : Ok X.K ct (RD X.K) M H (slcD d lo hi μ) Q W) : rSl X.K x lo hi H Q := by
  cases rx with
  | str z =>
    obtain ⟨hz, h⟩ := (show Ok X.K ct (RD X.K) M H (needs (z.length ≤ 16777216) (.ok (.str (cutS z lo hi)) μ)) Q W from h).needs
    exact .inl (.inl ⟨z, rfl, sl16 hz, h.ret R (.str _)⟩)
  | lst h1 r1 => exact .inl (.inr ⟨_, _, rfl, h1.sq, fun p hp => Ok.newL (μ := μ) h R (cut_reps r1) hp⟩)
  | tup h1 r1 =>
    rename_i l
    obtain ⟨hz, h⟩ := (show Ok X.K ct (RD X.K) M H (needs (¬ (HT.sIx l.length 0 lo = 0 ∧ HT.sIx l.length l.length hi = l.length)) (.ok (.tup (cutD l lo hi)) μ)) Q W from h).needs
    exact .inr ⟨_, _, rfl, h1.sq, by rw [r1.length]; exact hz, fun p hp => h.newT R (cut_reps r1) hp⟩
  | ref ha =>
    unfold slcD at h
    simp only at h
    split at h
    · rename_i l hl
      obtain ⟨xs, h1, r1⟩ := R.lst hl ha
      exact .inl (.inr ⟨_, _, rfl, .inl (.inl h1), fun p hp => h.newL R (cut_reps r1) hp⟩)
    · exact h.elim
  | kl => exact (h : False).elim
  | non => exact h.elim
  | bl => exact h.elim
  | int => exact h.elim
end
end PyI
/-! A6: from the syntax to the resolved syntax. -/
namespace PyI
open PySem L2

structure RC where
  N : List Str
  tb : Tb
def ixOf {α : Type} [DecidableEq α] (x : α) : List α → Option Nat
  | [] => none
  | y :: ys => if x = y then some 0 else (ixOf x ys).map (· + 1)
theorem ixOf_get {α : Type} [DecidableEq α] {x : α} : ∀ {l : List α} {i : Nat}, ixOf x l = some i → l[i]? = some x
  | [], _, h => by cases h
  | y :: ys, i, h => by
    unfold ixOf at h
    by_cases e : x = y
    · rw [if_pos e] at h; cases h; subst e; rfl
    · rw [if_neg e] at h
      obtain ⟨j, hj, rfl⟩ := Option.map_eq_some_iff.mp h
      simpa using ixOf_get hj
/-- a def of the table: its number and how many arguments it takes -/
def fnOf (x : Str) : List (Str × Nat) → Option (Nat × Nat)
  | [] => none
  | (y, n) :: ys => if x = y then some (0, n) else (fnOf x ys).map fun p => (p.1 + 1, p.2)
theorem fnOf_get {x : Str} : ∀ {l : List (Str × Nat)} {i n : Nat}, fnOf x l = some (i, n) → l[i]? = some (x, n)
  | [], _, _, h => by cases h
  | (y, k) :: ys, i, n, h => by
    unfold fnOf at h
    by_cases e : x = y
    · rw [if_pos e] at h; cases h; subst e; rfl
    · rw [if_neg e] at h
      obtain ⟨⟨j, m⟩, hj, q⟩ := Option.map_eq_some_iff.mp h
      cases q
      simpa using fnOf_get hj
def okName (x : Str) : Bool := !(x == ("__debug__" : Str)) && !(x == ("__classdict__" : Str)) && !(x == ("__name__" : Str))
def visB (sc : Scope) (x : Str) : Bool := match sc.names.lookup x with
  | some .local => true
  | some .cell => true
  | some .free => true
  | _ => false
def glB (sc : Scope) (x : Str) : Bool := match sc.names.lookup x with
  | some .globalImplicit => true
  | _ => false
def star : Expr → Bool
  | .Starred _ _ => true
  | _ => false
def isSlc : Expr → Bool
  | .Slice _ _ none _ => true
  | _ => false
def isSet : Expr → Bool
  | .Set _ _ _ => true
  | _ => false
/-- isTrue reads it by its value's truth -/
def plainT : Expr → Bool
  | .UnaryOp .Not _ _ => false
  | .BoolOp _ _ _ => false
  | .IfExp _ _ _ _ => false
  | .Compare _ _ _ _ => false
  | _ => true
def plainO : Expr → Bool
  | .Call (.Name id _) [] [] _ => id != ("super" : Str)
  | _ => true
def bopOf : Operator → Option Bop
  | .Add => some .add | .Sub => some .sub | .Mult => some .mul | .FloorDiv => some .fdiv | .Mod => some .mod | .Pow => some .pow
  | .LShift => some .shl | .RShift => some .shr | .BitAnd => some .band | .BitOr => some .bor | .BitXor => some .bxor | _ => none
def bifOf (x : Str) : Option Bif :=
  if x = "len" then some .len else if x = "int" then some .int else if x = "str" then some .str else if x = "tuple" then some .tuple else if x = "list" then some .list else
  if x = "abs" then some .abs else if x = "max" then some .max else if x = "min" then some .min else if x = "ord" then some .ord else
  if x = "sum" then some .sum else if x = "any" then some .any else if x = "all" then some .all else if x = "sorted" then some .sorted else none
def tyOf (x : Str) : Option Ty :=
  if x = "str" then some .str else if x = "int" then some .int else if x = "bool" then some .bool else if x = "tuple" then some .tuple else if x = "list" then some .list else none
def metOf (x : Str) : Option Met :=
  if x = "append" then some .append else if x = "join" then some .join else if x = "find" then some .find else if x = "isascii" then some .isascii else if x = "isprintable" then some .isprintable else
  if x = "split" then some .split else if x = "isdigit" then some .isdigit else if x = "isalpha" then some .isalpha else if x = "islower" then some .islower else
  if x = "startswith" then some .startswith else if x = "endswith" then some .endswith else none
def guardO {α : Type} (b : Bool) (o : Option α) : Option α := if b then o else none
theorem guardO_some {α : Type} {b : Bool} {o : Option α} {a : α} (h : guardO b o = some a) : b = true ∧ o = some a := by
  unfold guardO at h
  cases b with
  | true => exact ⟨rfl, h⟩
  | false => cases h
def ownOf (N : List Str) (sc : Scope) : List (Str × Nat) := sc.names.filterMap fun p => match p.2 with
  | .local => (ixOf p.1 N).map fun i => (p.1, i)
  | .cell => (ixOf p.1 N).map fun i => (p.1, i)
  | _ => none
/-- targets: names, tuples of names -/
def resNames (N : List Str) (loc : List Str) : List Expr → Option (List Nat)
  | [] => some []
  | .Name x _ :: es => guardO (decide (x ∈ loc)) ((ixOf x N).bind fun i => (resNames N loc es).map (i :: ·))
  | _ => none
def resTg (N : List Str) (loc : List Str) : Expr → Option Tg
  | .Name x _ => guardO (decide (x ∈ loc)) ((ixOf x N).map Tg.nm)
  | .Tuple es _ _ => (resNames N loc es).map Tg.tp
  | _ => none
def slotsOf : Tg → List Nat
  | .nm i => [i]
  | .tp l => l
def litTab : List (Option Expr) → List Expr → Bool
  | [some (.Constant (.int 37) _ _)], [.Constant .none _ _] => true
  | _, _ => false
def isiArgs : List Expr → Option (Expr × Str)
  | [a, .Name t _] => some (a, t)
  | _ => none
theorem isiArgs_eq {args : List Expr} {q : Expr × Str} (h : isiArgs args = some q) : ∃ p, args = [q.1, .Name q.2 p] := by
  unfold isiArgs at h
  split at h
  · cases h; exact ⟨_, rfl⟩
  · cases h
def trArgs : List Expr → Option (List (Option Expr) × List Expr)
  | [.Dict ks vs _] => some (ks, vs)
  | _ => none
theorem trArgs_eq {args : List Expr} {q : List (Option Expr) × List Expr} (h : trArgs args = some q) : ∃ p, args = [.Dict q.1 q.2 p] := by
  unfold trArgs at h
  split at h
  · cases h; exact ⟨_, rfl⟩
  · cases h
/-- a dict of the module -/
def dicOf (C : RC) (sc : Scope) : Expr → Option Nat
  | .Name x _ => guardO (okName x && glB sc x) (ixOf x C.tb.dics)
  | _ => none
theorem dicOf_eq {C : RC} {sc : Scope} {e : Expr} {g : Nat} (h : dicOf C sc e = some g) : ∃ x p, e = .Name x p ∧ okName x = true ∧ glB sc x = true ∧ C.tb.dics[g]? = some x := by
  unfold dicOf at h
  split at h
  · obtain ⟨h1, h⟩ := guardO_some h
    simp only [Bool.and_eq_true] at h1
    exact ⟨_, _, rfl, h1.1, h1.2, ixOf_get h⟩
  · cases h
def inOp : CmpOp → Option Bool
  | .In => some false
  | .NotIn => some true
  | _ => none
theorem inOp_eq {op : CmpOp} {b : Bool} (h : inOp op = some b) : op = if b then .NotIn else .In := by
  cases op <;> simp [inOp] at h <;> subst h <;> rfl
def litC : Expr → Option D
  | .Constant (.int i) _ _ => some (.int i)
  | .Constant (.bool b) _ _ => some (.bl b)
  | .Constant .none _ _ => some .non
  | .Constant (.str s) _ _ => some (.str s)
  | _ => none
def litP : List (Option Expr) → List Expr → Option (List (Str × D))
  | [], [] => some []
  | some (.Constant (.str s) _ _) :: ks, v :: vs => (litC v).bind fun d => (litP ks vs).map fun l => (s, d) :: l
  | _, _ => none
mutual
def resE : Nat → RC → Scope → Expr → Option E
  | 0, _, _, _ => none
  | n + 1, C, sc, e => match e with
    | .Constant (.int i) _ _ => some (.cst (.int i))
    | .Constant (.bool b) _ _ => some (.cst (.bl b))
    | .Constant .none _ _ => some (.cst .non)
    | .Constant (.str s) _ _ => some (.cst (.str s))
    | .Name x _ => guardO (okName x) (if visB sc x then (ixOf x C.N).map E.var else guardO (glB sc x) ((ixOf x C.tb.cons).map E.glob))
    | .BinOp a op b _ => (bopOf op).bind fun o => (resE n C sc a).bind fun A => (resE n C sc b).map fun B => .bin o A B
    | .UnaryOp .USub a _ => (resE n C sc a).map .neg
    | .UnaryOp .Invert a _ => (resE n C sc a).map .inv
    | .UnaryOp .Not a _ => (resE n C sc a).map fun A => .notv (.val A)
    | .BoolOp .And vs _ => resAnd n C sc vs
    | .BoolOp .Or vs _ => resOr n C sc vs
    | .Compare a [op] [b] _ => (match dicOf C sc b with
        | some g => (inOp op).bind fun neg => (resE n C sc a).map fun A => .gin neg g A
        | none => guardO (!isSet b) ((resE n C sc a).bind fun A => (resE n C sc b).map fun B => .cmp (copOf op) A B))
    | .Compare a [op, op'] [b, c] _ => guardO (!isSet b && !isSet c) ((resE n C sc a).bind fun A => (resE n C sc b).bind fun B => (resE n C sc c).map fun D => .chn (copOf op) (copOf op') A B D)
    | .IfExp c a b _ => (resT n C sc c).bind fun T => (resE n C sc a).bind fun A => (resE n C sc b).map fun B => .ite T A B
    | .Call (.Name f _) args [] _ => guardO (okName f && glB sc f) (match fnOf f C.tb.fns with
        | some (i, k) => guardO (args.length == k && !args.isEmpty) ((resEs n C sc args).map (.call i))
        | none => if f = "isinstance" then (isiArgs args).bind fun p => guardO (okName p.2 && glB sc p.2 && !star p.1) ((tyOf p.2).bind fun ty => (resE n C sc p.1).map fun A => .isi A ty) else guardO (!args.isEmpty) ((bifOf f).bind fun b => (resEs n C sc args).map (.bif b)))
    | .Call (.Attribute (.Dict ks vs _) m apos) [k, d] [] pos => guardO (decide (m = "get") && apos.endLine == pos.line && !star k && !star d && !ks.isEmpty) ((litP ks vs).bind fun l => guardO (decide (l.length ≤ 15)) ((resE n C sc k).bind fun A => (resE n C sc d).map fun B => .dgt l A B))
    | .Call (.Attribute o m apos) args [] pos => guardO (plainO o && apos.endLine == pos.line) (if m = "bit_length" ∧ args.isEmpty = true then (resE n C sc o).map .bits else if m = "translate" then (trArgs args).bind fun p => guardO (litTab p.1 p.2) ((resE n C sc o).map .tr37) else guardO (decide (args.length < 30)) ((metOf m).bind fun t => (resE n C sc o).bind fun A => (resEs n C sc args).map (.met t A)))
    | .Subscript (.Dict ks vs _) k _ => guardO (!isSlc k && !ks.isEmpty) ((litP ks vs).bind fun l => guardO (decide (l.length ≤ 15)) ((resE n C sc k).map (.dgl l)))
    | .Subscript a (.Slice lo hi none _) _ => (resE n C sc a).bind fun A => (resO n C sc lo).bind fun L => (resO n C sc hi).map fun U => .slc A L U
    | .Subscript a b _ => guardO (!isSlc b) (match dicOf C sc a with
      | some g => (resE n C sc b).map fun B => .gdict g B
      | none => (resE n C sc a).bind fun A => (resE n C sc b).map fun B => .idx A B)
    | .Tuple es _ _ => (resEs n C sc es).map .tup
    | .FormattedValue a (-1) none _ => (resE n C sc a).map .fmt
    | .JoinedStr [a] _ => resE n C sc a
    | .JoinedStr (a :: b :: r) _ => (resEs n C sc (a :: b :: r)).map .fs
    | .List es _ => (resEs n C sc es).map .lst
    | .ListComp elt [⟨tg, iter, ifs, 0⟩] scope _ =>
      let own : List (Str × Nat) := ownOf C.N scope
      guardO (blkC C.N sc scope own && !isSet iter) ((resTg C.N (own.map Prod.fst) tg).bind fun t => guardO ((slotsOf t).all fun i => decide (i ∈ own.map Prod.snd)) ((resI n C sc iter).bind fun it =>
        (match ifs with
          | [] => some T.yes
          | [c] => resT n C (relS scope sc) c
          | _ => none).bind fun c => (resE n C (relS scope sc) elt).map fun e => .comp (own.map Prod.snd) t it c e))
    | _ => none
def resAnd : Nat → RC → Scope → List Expr → Option E
  | 0, _, _, _ => none
  | n + 1, C, sc, es => match es with
    | [a] => resE n C sc a
    | a :: b :: r => (resE n C sc a).bind fun A => (resAnd n C sc (b :: r)).map fun B => .and A B
    | [] => none
def resOr : Nat → RC → Scope → List Expr → Option E
  | 0, _, _, _ => none
  | n + 1, C, sc, es => match es with
    | [a] => resE n C sc a
    | a :: b :: r => (resE n C sc a).bind fun A => (resOr n C sc (b :: r)).map fun B => .or A B
    | [] => none
def resEs : Nat → RC → Scope → List Expr → Option Es
  | 0, _, _, _ => none
  | n + 1, C, sc, es => match es with
    | [] => some .nil
    | e :: r => guardO (!star e) ((resE n C sc e).bind fun A => (resEs n C sc r).map (.cons A))
def resO : Nat → RC → Scope → Option Expr → Option O
  | 0, _, _, _ => none
  | n + 1, C, sc, o => match o with
    | none => some .none
    | some e => (resE n C sc e).map .some
def resT : Nat → RC → Scope → Expr → Option T
  | 0, _, _, _ => none
  | n + 1, C, sc, e => match e with
    | .UnaryOp .Not a _ => (resT n C sc a).map .not
    | .BoolOp .And vs _ => resTAnd n C sc vs
    | .BoolOp .Or vs _ => resTOr n C sc vs
    | .Compare a [op] [b] _ => (match dicOf C sc b with
        | some g => (inOp op).bind fun neg => (resE n C sc a).map fun A => .val (.gin neg g A)
        | none => guardO (!isSet b) ((resE n C sc a).bind fun A => (resE n C sc b).map fun B => .val (.cmp (copOf op) A B)))
    | .Compare a [op, op'] [b, c] _ => guardO (!isSet b && !isSet c) ((resE n C sc a).bind fun A => (resE n C sc b).bind fun B => (resE n C sc c).map fun D => .val (.chn (copOf op) (copOf op') A B D))
    | e => guardO (plainT e) ((resE n C sc e).map .val)
def resTAnd : Nat → RC → Scope → List Expr → Option T
  | 0, _, _, _ => none
  | n + 1, C, sc, es => match es with
    | [a] => resT n C sc a
    | a :: b :: r => (resT n C sc a).bind fun A => (resTAnd n C sc (b :: r)).map fun B => .and A B
    | [] => none
def resTOr : Nat → RC → Scope → List Expr → Option T
  | 0, _, _, _ => none
  | n + 1, C, sc, es => match es with
    | [a] => resT n C sc a
    | a :: b :: r => (resT n C sc a).bind fun A => (resTOr n C sc (b :: r)).map fun B => .or A B
    | [] => none
def resI : Nat → RC → Scope → Expr → Option IT
  | 0, _, _, _ => none
  | n + 1, C, sc, e => match e with
    | .Call (.Name f _) args [] _ => if f = "range" then guardO (glB sc f) (match args with
        | [a] => guardO (!star a) ((resE n C sc a).map .rng1)
        | [a, b] => guardO (!star a && !star b) ((resE n C sc a).bind fun A => (resE n C sc b).map fun B => .rng2 A B)
        | _ => none) else (resE n C sc e).map .seq
    | e => guardO (!isSet e) ((resE n C sc e).map .seq)
end
end PyI
/-! A7: expressions: each form by itself. -/
namespace PyI
open PySem L2

/-! ### the forms -/
section
variable {env : Env} {e a b o : Expr} {es : List Expr}
theorem star_cons (h : star e = false) : starEach (e :: es) env = (false, eval e env) :: starEach es env := by
  cases e <;> first | rfl | (simp [star] at h)
theorem star_nil : starEach [] env = [] := rfl
theorem star_all {pos : Pos} : ∀ {es : List Expr}, es.all (fun e => !star e) = true → (backTo pos (starEach es env)).any (·.1) = false
  | [], _ => rfl
  | e :: es, h => by
    simp only [List.all_cons, Bool.and_eq_true, Bool.not_eq_true'] at h
    rw [star_cons h.1]
    have ih := star_all (pos := pos) h.2
    show (false || (backTo pos (starEach es env)).any (·.1)) = false
    rw [ih]; rfl
theorem star_all' {pos : Pos} : ∀ {es : List Expr}, es.all (fun e => !star e) = true → (backTo pos (starEach es env)).all (fun x => !x.1) = true
  | [], _ => rfl
  | e :: es, h => by
    simp only [List.all_cons, Bool.and_eq_true, Bool.not_eq_true'] at h
    rw [star_cons h.1]
    have ih := star_all' (pos := pos) h.2
    show (true && (backTo pos (starEach es env)).all (fun x => !x.1)) = true
    rw [ih]; rfl
theorem true_plain (h : plainT e = true) (whole : Sem Value) : isTrue e env whole = (do let v ← whole; standAt e.pos; holding [v] (truthy v)) := by
  cases e <;> first | rfl | (simp [plainT] at h; done) | skip
  rename_i op x pos
  cases op <;> first | rfl | (simp [plainT] at h)
theorem slc_plain (h : isSlc b = false) (x y : Value) : subscripted b false x y = operate [x, y] (getItem x y) := by
  cases b <;> first | rfl | skip
  rename_i l u s p
  cases s with
  | none => simp [isSlc] at h
  | some s => rfl
theorem base_plain {m : Str} (h : plainO o = true) : attributeBase o m env (eval o env) = eval o env := by
  unfold attributeBase
  split
  · rename_i id p pos
    have h' : id ≠ ("super" : Str) := by simpa [plainO] using h
    have e : (id != ("super" : Str)) = true := by simpa using h'
    simp only [e, Bool.true_or, if_true]
  · rfl
theorem set_marks {op : CmpOp} (h : isSet b = false) : behindInMarks op b = false := by
  cases b <;> first | rfl | (simp [isSet] at h)
theorem set_last {op op' : CmpOp} {c : Expr} (h : isSet c = false) : lastMarks [op, op'] [b, c] = false := by
  show lastMarks [op'] [c] = false
  exact set_marks h
theorem set_iter (h : isSet e = false) (x : Value) : foldedSetIterable e env x = pure x := by
  cases e <;> first | rfl | (simp [isSet] at h)
end

mutual
theorem beq_eq : ∀ (a b : D), D.beq a b = true → a = b
  | .non, b, h => by cases b <;> first | rfl | (simp [D.beq] at h)
  | .bl a, b, h => by cases b <;> first | (simp [D.beq] at h; done) | (rw [show a = _ from by simpa [D.beq] using h])
  | .int a, b, h => by cases b <;> first | (simp [D.beq] at h; done) | (rw [show a = _ from by simpa [D.beq] using h])
  | .str a, b, h => by cases b <;> first | (simp [D.beq] at h; done) | (rw [show a = _ from by simpa [D.beq] using h])
  | .ref a, b, h => by cases b <;> first | (simp [D.beq] at h; done) | (rw [show a = _ from by simpa [D.beq] using h])
  | .tup a, b, h => by
    cases b with
    | tup b => rw [beqs_eq a b (by simpa only [D.beq] using h)]
    | _ => simp [D.beq] at h
  | .lst a, b, h => by
    cases b with
    | lst b => rw [beqs_eq a b (by simpa only [D.beq] using h)]
    | _ => simp [D.beq] at h
theorem beqs_eq : ∀ (a b : List D), D.beqs a b = true → a = b
  | [], b, h => by cases b <;> first | rfl | (simp [D.beqs] at h)
  | x :: xs, b, h => by
    cases b with
    | nil => simp [D.beqs] at h
    | cons y ys =>
      simp only [D.beqs, Bool.and_eq_true] at h
      rw [beq_eq x y h.1, beqs_eq xs ys h.2]
end
end PyI
/-! A8: expressions, form by form. -/
namespace PyI
open PySem L2

def SndO (X : Cx) (ct : CTab) (Γ : G) (o : Option Expr) (A : O) : Prop := ∃ t : TO, PO X o t ∧ ∀ (W : WX) (ρ : Rho) (μ : Mu) (σ : St) (H : Hp) (M : AM) (Q : Option Int → Hp → Prop), Takes X W → RelE X.K H M σ ρ → RelH X.K ct H μ M →
  Ok X.K ct RO M H (evalO Γ A ρ μ) Q (fun c d H' => W c d σ H') → t σ H Q
def wW (X : Cx) (e : Expr) : TT := fun σ H Q => ∀ whole pins s, Inv X pins σ H s → wpAny (model X.prog X.w) X.A (isTrue e X.env whole) (TP X pins σ Q) X.xe s
theorem pW {X : Cx} {e : Expr} : PW X e (wW X e) := ⟨fun whole pins s _ _ _ I h => h whole pins s I⟩
theorem ww {X : Cx} {e : Expr} {t : TT} {σ : St} {H : Hp} {Q : Bool → Hp → Prop} (p : PW X e t) (h : t σ H Q) : wW X e σ H Q := fun whole pins s I => p.run whole pins s σ H Q I h
def SndW (X : Cx) (ct : CTab) (Γ : G) (e : Expr) (A : T) : Prop := ∀ (W : WX) (ρ : Rho) (μ : Mu) (σ : St) (H : Hp) (M : AM) (Q : Bool → Hp → Prop), Takes X W → RelE X.K H M σ ρ → RelH X.K ct H μ M →
  Ok X.K ct RB M H (evalT Γ A ρ μ) Q (fun c d H' => W c d σ H') → wW X e σ H Q
section
variable {X : Cx} {ct : CTab} {Γ : G} {N : List Str} {sc : Scope} {tb : Tb} {e a b c o : Expr} {es args : List Expr} {A B C' : E} {As : Es} {pos apos : Pos} {j : Nat}
theorem snd_cst {v : V} {d : D} (p : PE X e (tC v)) (r : ∀ H M, Rep X.K H M v d) : Snd X ct Γ e (.cst d) := by
  intro W ρ μ σ H M Q tk E R h
  exact we p (Ok.ret (μ := μ) h R (r _ _))
theorem snd_var {i : Nat} {x : Str} (F : Fr X ct tb Γ N sc) (hi : N[i]? = some x) (hv : visB sc x = true) (hd : okName x = true) : Snd X ct Γ (.Name x pos) (.var i) := by
  intro W ρ μ σ H M Q tk E R h
  have hd' : (x == ("__debug__" : Str)) = false ∧ (x == ("__classdict__" : Str)) = false := by simp [okName] at hd ⊢; exact ⟨hd.1.1, hd.1.2⟩
  have hvis : Vis X.env.scope x := by
    rw [F.hsc]
    unfold visB at hv
    unfold Vis
    split at hv
    · rename_i q; exact .inl q
    · rename_i q; exact .inr (.inl q)
    · rename_i q; exact .inr (.inr q)
    · cases hv
  refine we (pe_var (i := i) (by rw [F.hN]; exact hi) hvis hd'.1 hd'.2) ?_
  unfold evalE at h
  split at h
  · rename_i d hd
    obtain ⟨v, h1, r⟩ := E.at_ i d hd
    exact ⟨v, h1, h.ret R r⟩
  · exact h.elim
theorem gl_of (F : Fr X ct tb Γ N sc) {x : Str} (h : glB sc x = true) : Gl X x := by
  unfold glB at h
  split at h
  · rename_i q
    show X.env.scope.names.lookup x = _
    rw [F.hsc]; exact q
  · cases h
theorem ok1 {x : Str} (h : okName x = true) : (x == ("__debug__" : Str)) = false := by simp [okName] at h ⊢; exact h.1.1
theorem ok3 {x : Str} (h : okName x = true) : x ≠ "__name__" := by simp [okName] at h ⊢; exact h.2
theorem snd_glob {g : Nat} {x : Str} (F : Fr X ct tb Γ N sc) (hi : tb.cons[g]? = some x) (hv : glB sc x = true) (hd : okName x = true) : Snd X ct Γ (.Name x pos) (.glob g) := by
  intro W ρ μ σ H M Q tk E R h
  unfold evalE at h
  split at h
  · rename_i d hc
    obtain ⟨u, v, h1, h2, h3⟩ := F.g.con g x d hi hc
    exact we (pe_glob (gl_of F hv) h1 h2 (ok1 hd)) (h.ret R (h3 _ _))
  · exact h.elim
theorem snd_bin {op : Operator} {o : Bop} (ho : bopOf op = some o) (ha : Snd X ct Γ a A) (hb : Snd X ct Γ b B) : Snd X ct Γ (.BinOp a op b pos) (.bin o A B) := by
  intro W ρ μ σ H M Q tk E R h
  unfold evalE at h
  refine we (pe_op pO pE pE) ?_
  refine ha W ρ μ σ H M _ tk E R (h.step fun d μ1 v H1 M1 e1 R1 r1 h1 => ?_)
  refine hb W ρ μ1 σ H1 M1 _ tk (E.evo e1) R1 (h1.step fun d2 μ2 u H2 M2 e2 R2 r2 h2 => ?_)
  exact bin_ok ho R2 (r1.evo e2) r2 h2
theorem snd_neg (ha : Snd X ct Γ a A) : Snd X ct Γ (.UnaryOp .USub a pos) (.neg A) := by
  intro W ρ μ σ H M Q tk E R h
  unfold evalE at h
  refine we (pe_un un_neg pE) ?_
  refine ha W ρ μ σ H M _ tk E R (h.step fun d μ1 v H1 M1 e1 R1 r1 h1 => ?_)
  split at h1
  · cases r1; exact ⟨_, rfl, h1.ret R1 (.int _)⟩
  · exact h1.elim
theorem snd_inv (ha : Snd X ct Γ a A) : Snd X ct Γ (.UnaryOp .Invert a pos) (.inv A) := by
  intro W ρ μ σ H M Q tk E R h
  unfold evalE at h
  refine we (pe_un un_inv pE) ?_
  refine ha W ρ μ σ H M _ tk E R (h.step fun d μ1 v H1 M1 e1 R1 r1 h1 => ?_)
  split at h1
  · cases r1; exact ⟨_, rfl, h1.ret R1 (.int _)⟩
  · exact h1.elim
theorem snd_bits (ho : plainO a = true) {apos : Pos} (hl : (apos.endLine == pos.line) = true) (ha : Snd X ct Γ a A) : Snd X ct Γ (.Call (.Attribute a "bit_length" apos) [] [] pos) (.bits A) := by
  intro W ρ μ σ H M Q tk E R h
  unfold evalE at h
  refine we (pe_bits pE (base_plain ho) hl) ?_
  refine ha W ρ μ σ H M _ tk E R (h.step fun d μ1 v H1 M1 e1 R1 r1 h1 => ?_)
  split at h1
  · cases r1; exact ⟨_, rfl, h1.ret R1 (.int _)⟩
  · exact h1.elim
theorem snd_notv (ha : Snd X ct Γ a A) : Snd X ct Γ (.UnaryOp .Not a pos) (.notv (.val A)) := by
  intro W ρ μ σ H M Q tk E R h
  simp only [evalE, evalT] at h
  refine we (pe_notT pE) ?_
  refine ha W ρ μ σ H M _ tk E R ?_
  cases hA : evalE Γ A ρ μ with
  | stuck => rw [hA] at h; exact h.elim
  | err c fs μ' => rw [hA] at h; exact h
  | ok d μ' =>
    rw [hA] at h
    intro v H1 M1 e1 R1 r1
    have h1 : Ok X.K ct (RD X.K) M1 H1 ((truD μ' d μ').bind fun b μ => .ok (.bl (!b)) μ) Q _ := Ok.evo e1 h
    obtain ⟨k, t, et, q⟩ := tru_ok (ν := μ') (B := fun k H' => Q (.bl (!k)) H') R1 r1 (h1.step fun k μ2 v2 H2 M2 e2 R2 r2 h2 => by cases r2; exact h2.ret R2 (.bl _))
    exact ⟨k, t, q⟩
theorem snd_and {rest : List Expr} (ha : Snd X ct Γ a A) (hb : Snd X ct Γ (.BoolOp .And (b :: rest) pos) B) : Snd X ct Γ (.BoolOp .And (a :: b :: rest) pos) (.and A B) := by
  intro W ρ μ σ H M Q tk E R h
  unfold evalE at h
  refine we (pe_andT pE pE) ?_
  refine ha W ρ μ σ H M _ tk E R (h.step fun d μ1 v H1 M1 e1 R1 r1 h1 => ?_)
  have h2 : Ok X.K ct RB M1 H1 (truD μ1 d μ1) (fun k H' => if k = true then wE X (.BoolOp .And (b :: rest) pos) σ H' Q else Q v H') (fun c d H' => W c d σ H') := by
    refine h1.step fun k μ2 v2 H2 M2 e2 R2 r2 h2 => ?_
    cases r2
    cases k with
    | true => exact hb W ρ μ2 σ H2 M2 _ tk ((E.evo e1).evo e2) R2 h2
    | false => exact h2.ret R2 (r1.evo e2)
  obtain ⟨k, t, _, q⟩ := tru_ok (ν := μ1) R1 r1 h2
  exact ⟨k, t, q⟩
theorem snd_or {rest : List Expr} (ha : Snd X ct Γ a A) (hb : Snd X ct Γ (.BoolOp .Or (b :: rest) pos) B) : Snd X ct Γ (.BoolOp .Or (a :: b :: rest) pos) (.or A B) := by
  intro W ρ μ σ H M Q tk E R h
  unfold evalE at h
  refine we (pe_orT pE pE) ?_
  refine ha W ρ μ σ H M _ tk E R (h.step fun d μ1 v H1 M1 e1 R1 r1 h1 => ?_)
  have h2 : Ok X.K ct RB M1 H1 (truD μ1 d μ1) (fun k H' => if k = true then Q v H' else wE X (.BoolOp .Or (b :: rest) pos) σ H' Q) (fun c d H' => W c d σ H') := by
    refine h1.step fun k μ2 v2 H2 M2 e2 R2 r2 h2 => ?_
    cases r2
    cases k with
    | true => exact h2.ret R2 (r1.evo e2)
    | false => exact hb W ρ μ2 σ H2 M2 _ tk ((E.evo e1).evo e2) R2 h2
  obtain ⟨k, t, _, q⟩ := tru_ok (ν := μ1) R1 r1 h2
  exact ⟨k, t, q⟩
theorem snd_cmp {op : CmpOp} (F : Fr X ct tb Γ N sc) (hs : isSet b = false) (ha : Snd X ct Γ a A) (hb : Snd X ct Γ b B) : Snd X ct Γ (.Compare a [op] [b] pos) (.cmp (copOf op) A B) := by
  intro W ρ μ σ H M Q tk E R h
  unfold evalE at h
  refine we (pe_cmpR pO pE pE (set_marks hs)) ?_
  refine ha W ρ μ σ H M _ tk E R (h.step fun d μ1 v H1 M1 e1 R1 r1 h1 => ?_)
  refine hb W ρ μ1 σ H1 M1 _ tk (E.evo e1) R1 (h1.step fun d2 μ2 u H2 M2 e2 R2 r2 h2 => ?_)
  exact cmp_ok (B := fun k H' => Q (.bl k) H') F.g.units R2 (r1.evo e2) r2 (h2.step fun k μ3 v3 H3 M3 e3 R3 r3 h3 => by cases r3; exact h3.ret R3 (.bl _)) fun _ _ q => q
theorem chn_tail {op op' : CmpOp} {Qv : VK} (F : Fr X ct tb Γ N sc) {W : WX} {ρ : Rho} {μ : Mu} {σ : St} {H : Hp} {M : AM} (tk : Takes X W) (E : RelE X.K H M σ ρ) (R : RelH X.K ct H μ M) (ha : Snd X ct Γ a A) (hb : Snd X ct Γ b B) (hc : Snd X ct Γ c C')
    (h : Ok X.K ct (RD X.K) M H (evalE Γ (.chn (copOf op) (copOf op') A B C') ρ μ) Qv (fun c d H' => W c d σ H')) : tChain (wO X (compareOp op)) (wO X (compareOp op')) (wE X a) (wE X b) (wE X c) σ H Qv := by
  unfold evalE at h
  refine ha W ρ μ σ H M _ tk E R (h.step fun d μ1 v H1 M1 e1 R1 r1 h1 => ?_)
  refine hb W ρ μ1 σ H1 M1 _ tk (E.evo e1) R1 (h1.step fun d2 μ2 u H2 M2 e2 R2 r2 h2 => ?_)
  refine cmp_ok (B := fun k H' => ∃ k', V.bl k = .bl k' ∧ if k' = true then wE X c σ H' fun z H4 => wO X (compareOp op') u z H4 Qv else Qv (.bl false) H') F.g.units R2 (r1.evo e2) r2 (h2.step fun k μ3 v3 H3 M3 e3 R3 r3 h3 => ?_) fun k H' q => q
  cases r3
  refine ⟨_, rfl, ?_⟩
  cases k with
  | true =>
    refine hc W ρ μ3 σ H3 M3 _ tk (((E.evo e1).evo e2).evo e3) R3 (h3.step fun d4 μ4 z H4 M4 e4 R4 r4 h4 => ?_)
    exact cmp_ok (B := fun k H' => Qv (.bl k) H') F.g.units R4 ((r2.evo e3).evo e4) r4 (h4.step fun k μ5 v5 H5 M5 e5 R5 r5 h5 => by cases r5; exact h5.ret R5 (.bl _)) fun _ _ q => q
  | false => exact h3.ret R3 (.bl _)
theorem snd_chn {op op' : CmpOp} (F : Fr X ct tb Γ N sc) (hs : isSet c = false) (ha : Snd X ct Γ a A) (hb : Snd X ct Γ b B) (hc : Snd X ct Γ c C') : Snd X ct Γ (.Compare a [op, op'] [b, c] pos) (.chn (copOf op) (copOf op') A B C') := by
  intro W ρ μ σ H M Q tk E R h
  exact we (pe_chain pO pO pE pE pE (set_last hs)) (chn_tail F tk E R ha hb hc h)
theorem snd_ite {t : T} (hc : SndT X ct Γ c t) (ha : Snd X ct Γ a A) (hb : Snd X ct Γ b B) : Snd X ct Γ (.IfExp c a b pos) (.ite t A B) := by
  intro W ρ μ σ H M Q tk E R h
  unfold evalE at h
  refine we (pe_ifExp pT pE pE) ?_
  refine hc W ρ μ σ H M _ tk E R (h.step fun k μ1 v H1 M1 e1 R1 r1 h1 => ?_)
  cases r1
  cases k with
  | true => exact ha W ρ μ1 σ H1 M1 _ tk (E.evo e1) R1 h1
  | false => exact hb W ρ μ1 σ H1 M1 _ tk (E.evo e1) R1 h1
theorem snd_call {f : Str} {i k : Nat} (F : Fr X ct tb Γ N sc) (hd : okName f = true) (hg : glB sc f = true) (hf : tb.fns[i]? = some (f, k)) (hs : (e :: es).all (fun e => !star e) = true) (ha : SndA X ct Γ (e :: es) As) : Snd X ct Γ (.Call (.Name f apos) (e :: es) [] pos) (.call i As) := by
  intro W ρ μ σ H M Q tk E R h
  unfold evalE at h
  obtain ⟨k', ad, fd, ps, FO, hr, hm, hk, hb⟩ := F.g.call i f k hf
  simp only [List.all_cons, Bool.and_eq_true, Bool.not_eq_true'] at hs
  refine we (pe_callSD (E := fun σ cls d H => W cls d σ H) FO hr (gl_of F hg) hm hk hb .nil (fun σ => passAt tk σ) pA (ok1 hd) (star_cons hs.1) (star_all hs.2)) ?_
  refine ha W ρ μ σ H M _ tk E R (h.step fun ds μ1 vs H1 M1 e1 R1 r1 h1 => ?_)
  rw [List.append_nil]
  refine ⟨ds, μ1, M1, ?_, R1, r1, h1⟩
  by_cases q : ds.length = k
  · rw [r1.length]; exact q
  · rw [F.g.ar i f k ds μ1 hf q] at h1; exact h1.elim
theorem bif_boot {f : Str} {b : Bif} (h : bifOf f = some b) : f ∈ bins ∧ bootBuiltins f = some (bifV b) := by
  unfold bifOf at h
  by_cases q0 : f = "len"
  · rw [if_pos q0] at h
    cases h
    rw [q0]
    exact ⟨by decide, by decide +kernel⟩
  rw [if_neg q0] at h
  by_cases q1 : f = "int"
  · rw [if_pos q1] at h
    cases h
    rw [q1]
    exact ⟨by decide, by decide +kernel⟩
  rw [if_neg q1] at h
  by_cases q2 : f = "str"
  · rw [if_pos q2] at h
    cases h
    rw [q2]
    exact ⟨by decide, by decide +kernel⟩
  rw [if_neg q2] at h
  by_cases q3 : f = "tuple"
  · rw [if_pos q3] at h
    cases h
    rw [q3]
    exact ⟨by decide, by decide +kernel⟩
  rw [if_neg q3] at h
  by_cases q4 : f = "list"
  · rw [if_pos q4] at h
    cases h
    rw [q4]
    exact ⟨by decide, by decide +kernel⟩
  rw [if_neg q4] at h
  by_cases q5 : f = "abs"
  · rw [if_pos q5] at h
    cases h
    rw [q5]
    exact ⟨by decide, by decide +kernel⟩
  rw [if_neg q5] at h
  by_cases q6 : f = "max"
  · rw [if_pos q6] at h
    cases h
    rw [q6]
    exact ⟨by decide, by decide +kernel⟩
  rw [if_neg q6] at h
  by_cases q7 : f = "min"
  · rw [if_pos q7] at h
    cases h
    rw [q7]
    exact ⟨by decide, by decide +kernel⟩
  rw [if_neg q7] at h
  by_cases q8 : f = "ord"
  · rw [if_pos q8] at h
    cases h
    rw [q8]
    exact ⟨by decide, by decide +kernel⟩
  rw [if_neg q8] at h
  by_cases q9 : f = "sum"
  · rw [if_pos q9] at h
    cases h
    rw [q9]
    exact ⟨by decide, by decide +kernel⟩
  rw [if_neg q9] at h
  by_cases q10 : f = "any"
  · rw [if_pos q10] at h
    cases h
    rw [q10]
    exact ⟨by decide, by decide +kernel⟩
  rw [if_neg q10] at h
  by_cases q11 : f = "all"
  · rw [if_pos q11] at h
    cases h
    rw [q11]
    exact ⟨by decide, by decide +kernel⟩
  rw [if_neg q11] at h
  by_cases q12 : f = "sorted"
  · rw [if_pos q12] at h
    cases h
    rw [q12]
    exact ⟨by decide, by decide +kernel⟩
  rw [if_neg q12] at h
  cases h
theorem snd_bif {f : Str} {b : Bif} (F : Fr X ct tb Γ N sc) (hd : okName f = true) (hg : glB sc f = true) (hf : bifOf f = some b) (hs : (e :: es).all (fun e => !star e) = true) (ha : SndA X ct Γ (e :: es) As) : Snd X ct Γ (.Call (.Name f apos) (e :: es) [] pos) (.bif b As) := by
  intro W ρ μ σ H M Q tk E R h
  unfold evalE at h
  obtain ⟨hb, hv⟩ := bif_boot hf
  simp only [List.all_cons, Bool.and_eq_true, Bool.not_eq_true'] at hs
  have go : wA X (e :: es) σ H fun vs H1 => wC X (bifV b) vs H1 Q :=
    ha W ρ μ σ H M _ tk E R (h.step fun ds μ1 vs H1 M1 e1 R1 r1 h1 => bif_ok F.calm R1 r1 h1)
  cases hbv : bifV b with
  | builtin id => rw [hbv] at hv go; exact we (pe_callB pC (gl_of F hg) (F.g.bi f hb) hv pA (ok3 hd) (ok1 hd) (star_cons hs.1) (star_all hs.2)) go
  | type T => rw [hbv] at hv go; exact we (pe_callTy pC (gl_of F hg) (F.g.bi f hb) hv pA (ok3 hd) (ok1 hd) (star_cons hs.1) (star_all hs.2)) go
  | _ => cases b <;> cases hbv
theorem ty_boot {f : Str} {t : Ty} (h : tyOf f = some t) : f ∈ bins ∧ bootBuiltins f = some (.type (tyN t)) := by
  unfold tyOf at h
  repeat' (split at h; · rename_i q; subst q; cases h; exact ⟨by decide, by decide +kernel⟩)
  cases h
theorem snd_isi {f : Str} {t : Ty} {p2 : Pos} (F : Fr X ct tb Γ N sc) (hg : glB sc "isinstance" = true) (hd : okName f = true) (hgt : glB sc f = true) (hf : tyOf f = some t) (hs : star a = false) (ha : Snd X ct Γ a A) : Snd X ct Γ (.Call (.Name "isinstance" apos) [a, .Name f p2] [] pos) (.isi A t) := by
  intro W ρ μ σ H M Q tk E R h
  unfold evalE at h
  obtain ⟨hb, hv⟩ := ty_boot hf
  have pt : PE X (.Name f p2) (tC (.ty (tyN t))) := pe_bltn (gl_of F hgt) (F.g.bi f hb) hv rfl (ok3 hd) (ok1 hd)
  refine we (pe_callB (id := "isinstance") pC (gl_of F hg) (F.g.bi _ (by decide)) (by decide +kernel) (pa_cons pE (pa_cons pt pa_nil) (star_cons hs)) (by decide) (by decide) (star_cons hs) rfl) ?_
  refine ha W ρ μ σ H M _ tk E R (h.step fun d μ1 v H1 M1 e1 R1 r1 h1 => ?_)
  exact isi_ok R1 r1 h1
theorem met_boot {f : Str} {m : Met} (h : metOf f = some m) : PlainAttrs (metT m) ∧ Slot (metT m) f (metI m) ∧ typeOf (.builtin (metI m)) = pure (.type "method_descriptor") := by
  unfold metOf at h
  split at h
  · rename_i q; subst q; cases h; exact ⟨F.plainAttrs_list, F.slot_list_append, F.type_list_append⟩
  split at h
  · rename_i q; subst q; cases h; exact ⟨F.plainAttrs_str, F.slot_str_join, F.type_str_join⟩
  split at h
  · rename_i q; subst q; cases h; exact ⟨F.plainAttrs_str, F.slot_str_find, F.type_str_find⟩
  split at h
  · rename_i q; subst q; cases h; exact ⟨F.plainAttrs_str, F.slot_str_isascii, F.type_str_isascii⟩
  split at h
  · rename_i q; subst q; cases h; exact ⟨F.plainAttrs_str, F.slot_str_isprintable, F.type_str_isprintable⟩
  split at h
  · rename_i q; subst q; cases h; exact ⟨F.plainAttrs_str, F.slot_str_split, F.type_str_split⟩
  split at h
  · rename_i q; subst q; cases h; exact ⟨F.plainAttrs_str, F.slot_str_isdigit, F.type_str_isdigit⟩
  split at h
  · rename_i q; subst q; cases h; exact ⟨F.plainAttrs_str, F.slot_str_isalpha, F.type_str_isalpha⟩
  split at h
  · rename_i q; subst q; cases h; exact ⟨F.plainAttrs_str, F.slot_str_islower, F.type_str_islower⟩
  split at h
  · rename_i q; subst q; cases h; exact ⟨F.plainAttrs_str, F.slot_str_startswith, F.type_str_startswith⟩
  split at h
  · rename_i q; subst q; cases h; exact ⟨F.plainAttrs_str, F.slot_str_endswith, F.type_str_endswith⟩
  cases h
theorem snd_met {f : Str} {m : Met} (ho : plainO o = true) (hl : (apos.endLine == pos.line) = true) (hn : args.length < 30) (hf : metOf f = some m) (hs : args.all (fun e => !star e) = true) (hnil : args = [] → As = .nil) (hO : Snd X ct Γ o A) (ha : SndA X ct Γ args As) : Snd X ct Γ (.Call (.Attribute o f apos) args [] pos) (.met m A As) := by
  intro W ρ μ σ H M Q tk E R h
  unfold evalE at h
  obtain ⟨b1, b2, b3⟩ := met_boot hf
  cases args with
  | nil =>
    refine we (pe_bm0 b1 b2 b3 pM pE (base_plain ho) hl) ?_
    refine hO W ρ μ σ H M _ tk E R (h.step fun d μ1 v H1 M1 e1 R1 r1 h1 => ?_)
    obtain ⟨ht, h1⟩ := h1.needs
    refine ⟨met_ty R1 r1 ht, ?_⟩
    rw [hnil rfl] at h1
    exact met_ok R1 r1 .nil (h1 : Ok X.K ct (RD X.K) M1 H1 (metD m d [] μ1) Q _)
  | cons e es =>
    simp only [List.all_cons, Bool.and_eq_true, Bool.not_eq_true'] at hs
    refine we (pe_bm b1 b2 b3 pM pE pA (base_plain ho) ?_ hl (star_cons hs.1) (star_all hs.2)) ?_
    · rw [star_all' (by simp only [List.all_cons, Bool.and_eq_true, Bool.not_eq_true']; exact hs)]
      simp only [Bool.true_and]
      show (([] : List (Option Str × Sem Value)).all _ && decide _) = true
      simp only [List.all_nil, Bool.true_and, decide_eq_true_eq]
      simpa using hn
    refine hO W ρ μ σ H M _ tk E R (h.step fun d μ1 v H1 M1 e1 R1 r1 h1 => ?_)
    obtain ⟨ht, h1⟩ := h1.needs
    refine ⟨met_ty R1 r1 ht, ?_⟩
    refine ha W ρ μ1 σ H1 M1 _ tk (E.evo e1) R1 (h1.step fun ds μ2 vs H2 M2 e2 R2 r2 h2 => ?_)
    exact met_ok R2 (r1.evo e2) r2 h2
theorem snd_tr37 {ks : List (Option Expr)} {vs : List Expr} {dpos : Pos} (F : Fr X ct tb Γ N sc) (ho : plainO o = true) (hl : (apos.endLine == pos.line) = true) (ht : litTab ks vs = true) (hO : Snd X ct Γ o A) : Snd X ct Γ (.Call (.Attribute o "translate" apos) [.Dict ks vs dpos] [] pos) (.tr37 A) := by
  intro W ρ μ σ H M Q tk E R h
  unfold evalE at h
  unfold litTab at ht
  split at ht
  · refine we (pe_bm PySem.F.plainAttrs_str PySem.F.slot_str_translate PySem.F.type_str_translate (mt_tr37 F.calm) pE (pa_cons (pe_disp (pps_cons pe_int pe_non pps_nil) rfl rfl (fun z => by cases z) (by show 1 ≤ 15; decide)) pa_nil) (base_plain ho) rfl hl rfl rfl) ?_
    refine hO W ρ μ σ H M _ tk E R (h.step fun d μ1 v H1 M1 e1 R1 r1 h1 => ?_)
    unfold tr37D at h1
    split at h1
    · cases r1
      obtain ⟨⟨hz, hf⟩, h1⟩ := h1.needs
      refine ⟨rfl, fun p hp => ?_⟩
      refine ⟨upd_same, [(.inl 37, .non)], rfl, by decide, ?_⟩
      have e2 : Evo M1 H1 M1 (upd (upd H1 p (.dK [])) p (.dK (mergeK [] [(.inl 37, .non)]))) := by rw [upd_upd]; exact Evo.new hp
      refine ⟨_, p, rfl, rfl, upd_same, hz, hf, ?_⟩
      exact h1 _ _ M1 e2 (by rw [upd_upd]; exact R1.new hp) (.str _)
    · exact h1.elim
  · cases ht
theorem snd_idx (hs : isSlc b = false) (ha : Snd X ct Γ a A) (hb : Snd X ct Γ b B) : Snd X ct Γ (.Subscript a b pos) (.idx A B) := by
  intro W ρ μ σ H M Q tk E R h
  unfold evalE at h
  refine we (pe_ix ix_seq pE pE (slc_plain hs)) ?_
  refine ha W ρ μ σ H M _ tk E R (h.step fun d μ1 v H1 M1 e1 R1 r1 h1 => ?_)
  refine hb W ρ μ1 σ H1 M1 _ tk (E.evo e1) R1 (h1.step fun d2 μ2 u H2 M2 e2 R2 r2 h2 => ?_)
  exact idx_ok R2 (r1.evo e2) r2 h2
theorem kd_in {g : Nat} {z : Str} {d : Addr} {es : Array DictEntry} {n : Nat} {neg : Bool} {l : List (Str × D)} {Q : VK} {H : Hp} (D1 : KDict X.K X.w d es n) (D2 : ∀ z, match l.lookup z with
    | none => PySem.W.nsIn X.K d z = some none
    | some dd => ∃ u v, PySem.W.nsIn X.K d z = some (some u) ∧ RelV v u ∧ ∀ H M, Rep X.K H M v dd) (q : Q (.bl (if neg then !(l.lookup z).isSome else (l.lookup z).isSome)) H) : wO X (compareOp (if neg then .NotIn else .In)) (.str z) (.ref d) H Q := by
  have h := D2 z
  cases hz : l.lookup z with
  | none =>
    rw [hz] at h q
    cases neg with
    | false => exact wo (op_in_kd D1) ⟨z, _, rfl, rfl, h, q⟩
    | true => exact wo (op_notIn_kd D1) ⟨z, _, rfl, rfl, h, q⟩
  | some dd =>
    rw [hz] at h q
    obtain ⟨u, v, h1, _, _⟩ := h
    cases neg with
    | false => exact wo (op_in_kd D1) ⟨z, _, rfl, rfl, h1, q⟩
    | true => exact wo (op_notIn_kd D1) ⟨z, _, rfl, rfl, h1, q⟩
theorem snd_gin {g : Nat} {neg : Bool} {x : Str} {p2 : Pos} (F : Fr X ct tb Γ N sc) (hd : okName x = true) (hg : glB sc x = true) (hi : tb.dics[g]? = some x) (ha : Snd X ct Γ a A) : Snd X ct Γ (.Compare a [if neg then .NotIn else .In] [.Name x p2] pos) (.gin neg g A) := by
  intro W ρ μ σ H M Q tk E R h
  unfold evalE at h
  obtain ⟨d, hm, es, n, D1, D2⟩ := F.g.dic g x hi
  refine we (pe_cmpR pO pE (pe_glob (v := .ref d) (gl_of F hg) hm rfl (ok1 hd)) (set_marks rfl)) ?_
  refine ha W ρ μ σ H M _ tk E R (h.step fun dd μ1 v H1 M1 e1 R1 r1 h1 => ?_)
  split at h1
  · cases r1
    exact kd_in (g := g) D1 D2 (h1.ret R1 (.bl _))
  · exact h1.elim
theorem sndT_gin {g : Nat} {neg : Bool} {x : Str} {p2 : Pos} (F : Fr X ct tb Γ N sc) (hd : okName x = true) (hg : glB sc x = true) (hi : tb.dics[g]? = some x) (ha : Snd X ct Γ a A) : SndT X ct Γ (.Compare a [if neg then .NotIn else .In] [.Name x p2] pos) (.val (.gin neg g A)) := by
  intro W ρ μ σ H M Q tk E R h
  simp only [evalT, evalE] at h
  obtain ⟨d, hm, es, n, D1, D2⟩ := F.g.dic g x hi
  refine wt (pt_cmpR pO pE (pe_glob (v := .ref d) (gl_of F hg) hm rfl (ok1 hd)) (set_marks rfl)) ?_
  have assoc : ∀ {α β γ : Type} (r : Res α) (f : α → Mu → Res β) (g : β → Mu → Res γ), (r.bind f).bind g = r.bind fun x μ => (f x μ).bind g := fun r f g => by cases r <;> rfl
  rw [assoc] at h
  refine ha W ρ μ σ H M _ tk E R (h.step fun dd μ1 v H1 M1 e1 R1 r1 h1 => ?_)
  cases r1 with
  | str z => exact kd_in (g := g) D1 D2 ⟨_, rfl, Ok.ret (μ := μ1) h1 R1 rfl⟩
  | _ => exact (h1 : False).elim
theorem snd_gdict {g : Nat} {x : Str} {p2 : Pos} (F : Fr X ct tb Γ N sc) (hs : isSlc a = false) (hd : okName x = true) (hg : glB sc x = true) (hi : tb.dics[g]? = some x) (ha : Snd X ct Γ a A) : Snd X ct Γ (.Subscript (.Name x p2) a pos) (.gdict g A) := by
  intro W ρ μ σ H M Q tk E R h
  unfold evalE at h
  obtain ⟨d, hm, es, n, D1, D2⟩ := F.g.dic g x hi
  refine we (pe_ix ix_kdict (pe_glob (v := .ref d) (gl_of F hg) hm rfl (ok1 hd)) pE (slc_plain hs)) ?_
  refine ha W ρ μ σ H M _ tk E R (h.step fun dd μ1 v H1 M1 e1 R1 r1 h1 => ?_)
  split at h1
  · next z =>
    cases r1
    split at h1
    · next d2 hz =>
      have q := D2 z
      rw [hz] at q
      obtain ⟨u, v, q1, q2, q3⟩ := q
      exact ⟨d, z, v, rfl, rfl, ⟨es, n, u, D1.at_, D1.lit, q1, q2⟩, h1.ret R1 (q3 _ _)⟩
    · exact h1.elim
  · exact h1.elim
theorem sndO_none : SndO X ct Γ none .none := ⟨_, po_none, fun W ρ μ σ H M Q tk E R h => Ok.ret (μ := μ) h R rfl⟩
theorem sndO_some (ha : Snd X ct Γ a A) : SndO X ct Γ (some a) (.some A) := ⟨_, po_some pE, fun W ρ μ σ H M Q tk E R h => by
  unfold evalO at h
  refine ha W ρ μ σ H M _ tk E R (h.step fun d μ1 v H1 M1 e1 R1 r1 h1 => ?_)
  split at h1
  · cases r1; exact ⟨_, rfl, h1.ret R1 rfl⟩
  · exact h1.elim⟩
theorem snd_slc {lo hi : Option Expr} {L U : O} {p2 : Pos} (ha : Snd X ct Γ a A) (hl : SndO X ct Γ lo L) (hh : SndO X ct Γ hi U) : Snd X ct Γ (.Subscript a (.Slice lo hi none p2) pos) (.slc A L U) := by
  intro W ρ μ σ H M Q tk E R h
  unfold evalE at h
  obtain ⟨tl, pl, sl⟩ := hl
  obtain ⟨th, ph, sh⟩ := hh
  refine we (pe_slice sl_any pE pl ph) ?_
  refine ha W ρ μ σ H M _ tk E R (h.step fun d μ1 v H1 M1 e1 R1 r1 h1 => ?_)
  refine sl W ρ μ1 σ H1 M1 _ tk (E.evo e1) R1 (h1.step fun l μ2 u H2 M2 e2 R2 r2 h2 => ?_)
  cases r2
  refine sh W ρ μ2 σ H2 M2 _ tk ((E.evo e1).evo e2) R2 (h2.step fun l μ3 u H3 M3 e3 R3 r3 h3 => ?_)
  cases r3
  exact slc_ok R3 ((r1.evo e2).evo e3) h3
theorem snd_tup {k : Nat} (ha : SndA X ct Γ es As) : Snd X ct Γ (.Tuple es k pos) (.tup As) := by
  intro W ρ μ σ H M Q tk E R h
  unfold evalE at h
  refine we (pe_tup pA) ?_
  refine ha W ρ μ σ H M _ tk E R (h.step fun ds μ1 vs H1 M1 e1 R1 r1 h1 => ?_)
  obtain ⟨hz, h1⟩ := h1.needs
  exact ⟨sl16 (by rw [r1.length]; exact hz), fun p hp => h1.newT R1 r1 hp⟩
theorem snd_lst (ha : SndA X ct Γ es As) : Snd X ct Γ (.List es pos) (.lst As) := by
  intro W ρ μ σ H M Q tk E R h
  unfold evalE at h
  refine we (pe_lst pA) ?_
  refine ha W ρ μ σ H M _ tk E R (h.step fun ds μ1 vs H1 M1 e1 R1 r1 h1 => ?_)
  obtain ⟨hz, h1⟩ := h1.needs
  exact ⟨sl16 (by rw [r1.length]; exact hz), fun p hp => h1.newL R1 r1 hp⟩
/-- each of the expressions -/
inductive SndL (X : Cx) (ct : CTab) (Γ : G) : List Expr → Es → Prop
  | nil : SndL X ct Γ [] .nil
  | cons {e : Expr} {A : E} {es : List Expr} {As : Es} : Snd X ct Γ e A → SndL X ct Γ es As → SndL X ct Γ (e :: es) (.cons A As)
theorem snd_fmt (ha : Snd X ct Γ a A) : Snd X ct Γ (.FormattedValue a (-1) none pos) (.fmt A) := by
  intro W ρ μ σ H M Q tk E R h
  unfold evalE at h
  refine we (pe_fmt pE) ?_
  refine ha W ρ μ σ H M _ tk E R (h.step fun d μ1 v H1 M1 e1 R1 r1 h1 => ?_)
  split at h1
  · cases r1
    exact .inl ⟨_, rfl, sl16 h1.needs.1, h1.needs.2.ret R1 (.str _)⟩
  · cases r1
    exact .inr ⟨_, rfl, h1.needs.1, h1.needs.2.ret R1 (.str _)⟩
  · exact h1.elim
theorem pj_all {X : Cx} : ∀ es : List Expr, PJ X es (es.map (wE X))
  | [] => .nil
  | _ :: es => .cons pE (pj_all es)
theorem tjs_ok {W : WX} {ρ : Rho} (tk : Takes X W) {Q : VK} {es : List Expr} {As : Es} (hs : SndL X ct Γ es As) : ∀ {acc : Str} {μ : Mu} {σ : St} {H : Hp} {M : AM}, RelE X.K H M σ ρ → RelH X.K ct H μ M →
    Ok X.K ct (RD X.K) M H (evalJ Γ As acc ρ μ) Q (fun c d H' => W c d σ H') → tJs (es.map (wE X)) acc σ H (fun out H1 => Q (.str out) H1) := by
  induction hs with
  | nil =>
    intro acc μ σ H M E R h
    exact Ok.ret (μ := μ) h R (.str _)
  | cons ha hr ih =>
    intro acc μ σ H M E R h
    unfold evalJ at h
    refine ha W ρ μ σ H M _ tk E R (h.step fun d μ1 v H1 M1 e1 R1 r1 h1 => ?_)
    split at h1
    · cases r1
      exact ⟨_, rfl, sl16 h1.needs.1, ih (E.evo e1) R1 h1.needs.2⟩
    · exact h1.elim
theorem snd_fs {rest : List Expr} (hs : SndL X ct Γ (a :: b :: rest) As) : Snd X ct Γ (.JoinedStr (a :: b :: rest) pos) (.fs As) := by
  intro W ρ μ σ H M Q tk E R h
  unfold evalE at h
  exact we (pe_joined (pj_all _)) (tjs_ok tk hs E R h)
theorem snd_fs1 (ha : Snd X ct Γ a A) : Snd X ct Γ (.JoinedStr [a] pos) A := by
  intro W ρ μ σ H M Q tk E R h
  exact we (pe_joined1 pE) (ha W ρ μ σ H M _ tk E R h)
theorem sndA_nil : SndA X ct Γ [] .nil := by
  intro W ρ μ σ H M Q tk E R h
  exact wa pa_nil (Ok.ret (μ := μ) h R .nil)
theorem sndA_cons (hs : star e = false) (ha : Snd X ct Γ e A) (hr : SndA X ct Γ es As) : SndA X ct Γ (e :: es) (.cons A As) := by
  intro W ρ μ σ H M Q tk E R h
  unfold evalEs at h
  refine wa (pa_cons pE pA (star_cons hs)) ?_
  refine ha W ρ μ σ H M _ tk E R (h.step fun d μ1 v H1 M1 e1 R1 r1 h1 => ?_)
  refine hr W ρ μ1 σ H1 M1 _ tk (E.evo e1) R1 (h1.step fun ds μ2 vs H2 M2 e2 R2 r2 h2 => ?_)
  exact h2.ret R2 (.cons (r1.evo e2) r2)
/-! tests -/
theorem sndT_val (hp : plainT e = true) (ha : Snd X ct Γ e A) : SndT X ct Γ e (.val A) := by
  intro W ρ μ σ H M Q tk E R h
  unfold evalT at h
  refine wt (pt_truth pE (true_plain hp)) ?_
  refine ha W ρ μ σ H M _ tk E R (h.step fun d μ1 v H1 M1 e1 R1 r1 h1 => ?_)
  obtain ⟨k, t, _, q⟩ := tru_ok (ν := μ1) R1 r1 h1
  exact ⟨k, t, q⟩
theorem bl_of {d : D} {μ1 : Mu} {v : V} {H1 : Hp} {M1 : AM} {k : Bool} {W' : XK} {Q : Bool → Hp → Prop} (R1 : RelH X.K ct H1 μ1 M1) (h1 : Ok X.K ct RB M1 H1 (truD μ1 (.bl k) μ1) Q W') : Q k H1 := h1.ret R1 rfl
theorem sndT_cmp {op : CmpOp} (F : Fr X ct tb Γ N sc) (hs : isSet b = false) (ha : Snd X ct Γ a A) (hb : Snd X ct Γ b B) : SndT X ct Γ (.Compare a [op] [b] pos) (.val (.cmp (copOf op) A B)) := by
  intro W ρ μ σ H M Q tk E R h
  simp only [evalT, evalE] at h
  refine wt (pt_cmpR pO pE pE (set_marks hs)) ?_
  have assoc : ∀ {α β γ : Type} (r : Res α) (f : α → Mu → Res β) (g : β → Mu → Res γ), (r.bind f).bind g = r.bind fun x μ => (f x μ).bind g := fun r f g => by cases r <;> rfl
  simp only [assoc] at h
  refine ha W ρ μ σ H M _ tk E R (h.step fun d μ1 v H1 M1 e1 R1 r1 h1 => ?_)
  refine hb W ρ μ1 σ H1 M1 _ tk (E.evo e1) R1 (h1.step fun d2 μ2 u H2 M2 e2 R2 r2 h2 => ?_)
  exact cmp_ok (B := fun k H' => ∃ k', V.bl k = .bl k' ∧ Q k' H') F.g.units R2 (r1.evo e2) r2 (h2.step fun k μ3 v3 H3 M3 e3 R3 r3 h3 => by cases r3; exact ⟨_, rfl, Ok.ret (μ := μ3) h3 R3 rfl⟩) fun _ _ q => q
theorem sndT_chn {op op' : CmpOp} (F : Fr X ct tb Γ N sc) (hs : isSet c = false) (ha : Snd X ct Γ a A) (hb : Snd X ct Γ b B) (hc : Snd X ct Γ c C') : SndT X ct Γ (.Compare a [op, op'] [b, c] pos) (.val (.chn (copOf op) (copOf op') A B C')) := by
  intro W ρ μ σ H M Q tk E R h
  unfold evalT at h
  refine wt (pt_chain pO pO pE pE pE (set_last hs)) ?_
  refine chn_tail F (Qv := fun x H' => ∃ k, x = .bl k ∧ Q k H') tk E R ha hb hc ?_
  -- the value is a bool
  have bl : ∀ d μ', evalE Γ (.chn (copOf op) (copOf op') A B C') ρ μ = .ok d μ' → ∃ k, d = .bl k := by
    intro d μ' q
    simp only [evalE] at q
    cases h1 : evalE Γ A ρ μ <;> rw [h1] at q <;> simp only [Res.bind, reduceCtorEq] at q
    rename_i x μ1
    cases h2 : evalE Γ B ρ μ1 <;> rw [h2] at q <;> simp only [reduceCtorEq] at q
    rename_i y μ2
    cases h3 : cmpD (copOf op) x y μ2 <;> rw [h3] at q <;> simp only [reduceCtorEq] at q
    rename_i k μ3
    cases k with
    | false => simp only [Bool.false_eq_true, if_false, Res.ok.injEq] at q; exact ⟨_, q.1.symm⟩
    | true =>
      simp only [if_true] at q
      cases h4 : evalE Γ C' ρ μ3 <;> rw [h4] at q <;> simp only [reduceCtorEq] at q
      rename_i z μ4
      cases h5 : cmpD (copOf op') y z μ4 <;> rw [h5] at q <;> simp only [reduceCtorEq, Res.ok.injEq] at q
      exact ⟨_, q.1.symm⟩
  cases hA : evalE Γ (.chn (copOf op) (copOf op') A B C') ρ μ with
  | stuck => rw [hA] at h; exact h.elim
  | err c fs μ' => rw [hA] at h; exact h
  | ok d μ' =>
    obtain ⟨k, rfl⟩ := bl d μ' hA
    rw [hA] at h
    intro v H' M' e' R' r'
    cases r'
    exact ⟨k, rfl, Ok.ret (μ := μ') (Ok.evo e' h) R' rfl⟩
theorem sndT_not {t : T} (ha : SndT X ct Γ a t) : SndT X ct Γ (.UnaryOp .Not a pos) (.not t) := by
  intro W ρ μ σ H M Q tk E R h
  unfold evalT at h
  refine wt (pt_not pT) ?_
  refine ha W ρ μ σ H M _ tk E R (h.step fun k μ1 v H1 M1 e1 R1 r1 h1 => ?_)
  cases r1
  exact h1.ret R1 rfl
theorem sndT_w {t : T} (ha : SndW X ct Γ e t) : SndT X ct Γ e t := by
  intro W ρ μ σ H M Q tk E R h
  exact wt (pW.pt) (ha W ρ μ σ H M Q tk E R h)
theorem sndW_and1 {t : T} (ha : SndT X ct Γ a t) : SndW X ct Γ (.BoolOp .And [a] pos) t := by
  intro W ρ μ σ H M Q tk E R h
  exact ww (pw_and1 pT) (ha W ρ μ σ H M Q tk E R h)
theorem sndW_or1 {t : T} (ha : SndT X ct Γ a t) : SndW X ct Γ (.BoolOp .Or [a] pos) t := by
  intro W ρ μ σ H M Q tk E R h
  exact ww (pw_or1 pT) (ha W ρ μ σ H M Q tk E R h)
theorem sndW_and {t u : T} {rest : List Expr} (ha : SndT X ct Γ a t) (hb : SndW X ct Γ (.BoolOp .And (b :: rest) pos) u) : SndW X ct Γ (.BoolOp .And (a :: b :: rest) pos) (.and t u) := by
  intro W ρ μ σ H M Q tk E R h
  unfold evalT at h
  refine ww (pw_and pT pW) ?_
  refine ha W ρ μ σ H M _ tk E R (h.step fun k μ1 v H1 M1 e1 R1 r1 h1 => ?_)
  cases r1
  cases k with
  | true => exact hb W ρ μ1 σ H1 M1 _ tk (E.evo e1) R1 h1
  | false => exact h1.ret R1 rfl
theorem sndW_or {t u : T} {rest : List Expr} (ha : SndT X ct Γ a t) (hb : SndW X ct Γ (.BoolOp .Or (b :: rest) pos) u) : SndW X ct Γ (.BoolOp .Or (a :: b :: rest) pos) (.or t u) := by
  intro W ρ μ σ H M Q tk E R h
  unfold evalT at h
  refine ww (pw_or pT pW) ?_
  refine ha W ρ μ σ H M _ tk E R (h.step fun k μ1 v H1 M1 e1 R1 r1 h1 => ?_)
  cases r1
  cases k with
  | true => exact h1.ret R1 rfl
  | false => exact hb W ρ μ1 σ H1 M1 _ tk (E.evo e1) R1 h1
end
end PyI
/-! AD: written dicts that are asked at once. -/
namespace PyI
open PySem L2
def vOf : D → V
  | .int i => .int i
  | .bl b => .bl b
  | .str s => .str s
  | _ => .non
section
variable {X : Cx} {ct : CTab} {Γ : G} {N : List Str} {sc : Scope} {tb : Tb} {k f : Expr} {A B : E} {pos p2 apos : Pos} {ks : List (Option Expr)} {vs : List Expr} {l : List (Str × D)}
abbrev LitD (d : D) : Prop := ∀ (K : PySem.W.Frag) (H : Hp) (M : AM), Rep K H M (vOf d) d
theorem litC_ok {e : Expr} {d : D} (h : litC e = some d) : PE X e (tC (vOf d)) ∧ LitD d := by
  unfold litC at h
  split at h
  · cases h; exact ⟨pe_int, fun _ _ _ => .int _⟩
  · cases h; exact ⟨pe_bl, fun _ _ _ => .bl _⟩
  · cases h; exact ⟨pe_non, fun _ _ _ => .non⟩
  · cases h; exact ⟨pe_str, fun _ _ _ => .str _⟩
  · cases h
abbrev prT (l : List (Str × D)) : List (TE × TE) := l.map fun p => (tC (.str p.1), tC (vOf p.2))
abbrev kvT (l : List (Str × D)) : List (Key × V) := l.map fun p => (.inr p.1, vOf p.2)
theorem litP_ok : ∀ {ks : List (Option Expr)} {vs : List Expr} {l : List (Str × D)}, litP ks vs = some l → PPs X pos ks vs (prT l) ∧ ks.all (·.isSome) = true ∧ ks.length = vs.length ∧ ks.length = l.length ∧ ∀ p ∈ l, LitD p.2
  | [], [], l, h => by cases h; exact ⟨pps_nil, rfl, rfl, rfl, fun p h => nomatch h⟩
  | some (.Constant (.str s) _ _) :: ks, v :: vs, l, h => by
    obtain ⟨d, hd, h2⟩ := Option.bind_eq_some_iff.mp (show ((litC v).bind fun d => (litP ks vs).map fun l => (s, d) :: l) = some l from h)
    obtain ⟨l', hl, rfl⟩ := Option.map_eq_some_iff.mp h2
    obtain ⟨q1, q2, q3, q4, q5⟩ := litP_ok hl
    obtain ⟨c1, c2⟩ := litC_ok (X := X) hd
    refine ⟨pps_cons pe_str c1 q1, by rw [List.all_cons, q2]; rfl, by rw [List.length_cons, List.length_cons, q3], by rw [List.length_cons, List.length_cons, q4], fun p hp => ?_⟩
    rcases List.mem_cons.mp hp with rfl | hp
    · exact c2
    · exact q5 p hp
theorem tpairs_ok {σ : St} {H : Hp} : ∀ {l : List (Str × D)} {Q : List (V × V) → Hp → Prop}, Q ((kvT l).map fun kv => (kV kv.1, kv.2)) H → tPairs (prT l) σ H Q
  | [], Q, q => q
  | (s, d) :: l, Q, q => tpairs_ok (l := l) (Q := fun ps H3 => Q ((.str s, vOf d) :: ps) H3) q
theorem merge_ok (s : Str) : ∀ (l : List (Str × D)) {acc : List (Key × V)} {r : Option D}, valV acc (.inr s) = r.map vOf → valV (mergeK acc (kvT l)) (.inr s) = (lkL l s r).map vOf
  | [], acc, r, h => h
  | (k, d) :: l, acc, r, h => by
    show valV (mergeK (putK acc (.inr k) (vOf d)) (kvT l)) (.inr s) = (lkL l s (if s = k then some d else r)).map vOf
    refine merge_ok s l ?_
    rw [valV_put]
    by_cases e : s = k
    · subst e; simp
    · rw [if_neg e, if_neg (fun z => e (Sum.inr.inj z)), h]
theorem lkL_lit (s : Str) : ∀ {l : List (Str × D)} {r : Option D}, (∀ p ∈ l, LitD p.2) → (∀ d, r = some d → LitD d) → ∀ d, lkL l s r = some d → LitD d
  | [], r, _, h, d, e => h d e
  | (k, d') :: l, r, hl, h, d, e => by
    refine lkL_lit s (l := l) (fun p hp => hl p (List.mem_cons_of_mem _ hp)) (fun d0 h0 => ?_) d e
    by_cases z : s = k
    · rw [if_pos z] at h0; cases h0; exact hl _ (List.mem_cons_self ..)
    · rw [if_neg z] at h0; exact h d0 h0
theorem disp_ok {σ : St} {H : Hp} {Q : VK} {l : List (Str × D)} (h15 : l.length ≤ 15) (q : ∀ p, H p = none → Q (.ref p) (upd H p (.dK (mergeK [] (kvT l))))) : tDisp (prT l) σ H Q := by
  intro p hp
  refine tpairs_ok ⟨upd_same, kvT l, rfl, by rw [List.length_map]; exact h15, ?_⟩
  have e : upd (upd H p (.dK [])) p (.dK (mergeK [] (kvT l))) = upd H p (.dK (mergeK [] (kvT l))) := by
    funext b
    by_cases hb : b = p
    · rw [hb, upd_same, upd_same]
    · rw [upd_ne hb, upd_ne hb, upd_ne hb]
  rw [e]
  exact q p hp
theorem snd_dgl (F : Fr X ct tb Γ N sc) (hs : isSlc k = false) (hl : litP ks vs = some l) (h0 : ks ≠ []) (h15 : l.length ≤ 15) (hk : Snd X ct Γ k A) : Snd X ct Γ (.Subscript (.Dict ks vs p2) k pos) (.dgl l A) := by
  intro W ρ μ σ H M Q tk E R h
  unfold evalE at h
  obtain ⟨q1, q2, q3, q4, q5⟩ := litP_ok (X := X) (pos := p2) hl
  refine we (pe_dget (by have := F.g.units; omega) (pe_disp q1 q2 q3 h0 (by rw [q4]; exact h15)) pE (slc_plain hs)) (disp_ok h15 fun p hp => ?_)
  have ev : Evo M H M (upd H p (.dK (mergeK [] (kvT l)))) := Evo.new hp
  refine hk W ρ μ σ _ M _ tk (E.evo ev) (R.new hp) ((Ok.evo ev h).step fun d μ1 v H1 M1 e1 R1 r1 h1 => ?_)
  have hd := (e1.keep p _ upd_same (R.fresh hp).1).1
  split at h1
  · rename_i s
    cases r1
    split at h1
    · rename_i d hd2
      exact ⟨p, vOf d, rfl, .inl ⟨_, .inr s, .inl hd, rfl, by rw [merge_ok s l (acc := []) (r := none) rfl, hd2]; rfl⟩, h1.ret R1 (lkL_lit s q5 (fun _ z => by cases z) d hd2 _ _ _)⟩
    · exact h1.elim
  · exact h1.elim
theorem snd_dgt {d : Expr} (hl1 : (apos.endLine == pos.line) = true) (hs1 : star k = false) (hs2 : star d = false) (F : Fr X ct tb Γ N sc) (hl : litP ks vs = some l) (h0 : ks ≠ []) (h15 : l.length ≤ 15) (hk : Snd X ct Γ k A) (hd : Snd X ct Γ d B) :
    Snd X ct Γ (.Call (.Attribute (.Dict ks vs p2) "get" apos) [k, d] [] pos) (.dgt l A B) := by
  intro W ρ μ σ H M Q tk E R h
  unfold evalE at h
  obtain ⟨q1, q2, q3, q4, q5⟩ := litP_ok (X := X) (pos := p2) hl
  have hst : starEach [k, d] X.env = [(false, eval k X.env), (false, eval d X.env)] := by rw [star_cons hs1, star_cons hs2]; rfl
  have m2 : M2 X (.Dict ks vs p2) "get" apos k d pos := ⟨base_plain rfl, by rw [hst]; rfl, hl1, by rw [hst]; rfl⟩
  refine we (pe_dget2 (by have := F.g.units; omega) (pe_disp q1 q2 q3 h0 (by rw [q4]; exact h15)) pE pE m2) (disp_ok h15 fun p hp => ?_)
  have ev : Evo M H M (upd H p (.dK (mergeK [] (kvT l)))) := Evo.new hp
  refine ⟨p, rfl, .inl ⟨_, .inl upd_same⟩, ?_⟩
  refine hk W ρ μ σ _ M _ tk (E.evo ev) (R.new hp) ((Ok.evo ev h).step fun x μ1 v H1 M1 e1 R1 r1 h1 => ?_)
  refine hd W ρ μ1 σ _ M1 _ tk ((E.evo ev).evo e1) R1 (h1.step fun z μ2 u H2 M2 e2 R2 r2 h2 => ?_)
  have e12 := e1.trans e2
  have hdk := (e12.keep p _ upd_same (R.fresh hp).1).1
  split at h2
  · rename_i s
    cases r1
    refine ⟨(lkL l s none).map vOf, .inl ⟨_, .inr s, .inl hdk, rfl, (merge_ok s l (acc := []) (r := none) rfl).symm⟩, ?_⟩
    cases hlk : lkL l s none with
    | none => rw [hlk] at h2; exact h2.ret R2 r2
    | some d0 => rw [hlk] at h2; exact h2.ret R2 (lkL_lit s q5 (fun _ z => by cases z) d0 hlk _ _ _)
  · exact h2.elim
end
end PyI
/-! A9: what is walked; comprehensions. -/
namespace PyI
open PySem L2

/-- the iterator J walks the items -/
structure ItOk (K : PySem.W.Frag) (ct : CTab) (M : AM) (H : Hp) (J : L2.It) (its : Its) : Prop where
  go : ∀ (M' : AM) (H' : Hp) (μ' : Mu) (i : Nat) (d : D), Stay M H M' H' → RelH K ct H' μ' M' → chkOf its.2 μ' = true → its.1[i]? = some d → J.go i H' ∧ ∀ x H'', J.yld i H' x H'' → H'' = H' ∧ Rep K H' M' x d
  stop : ∀ (M' : AM) (H' : Hp) (μ' : Mu), Stay M H M' H' → RelH K ct H' μ' M' → chkOf its.2 μ' = true → J.stop its.1.length H'
abbrev RJ (K : PySem.W.Frag) (ct : CTab) : Hp → AM → L2.It → Its → Prop := fun H M J its => ItOk K ct M H J its
def SndI (X : Cx) (ct : CTab) (Γ : G) (tg e : Expr) (A : IT) : Prop := ∀ (W : WX) (ρ : Rho) (μ : Mu) (σ : St) (H : Hp) (M : AM) (Q : L2.It → Hp → Prop), Takes X W → RelE X.K H M σ ρ → RelH X.K ct H μ M →
  Ok X.K ct (RJ X.K ct) M H (evalIt Γ A ρ μ) Q (fun c d H' => W c d σ H') → wI X tg e σ H Q
section
variable {K : PySem.W.Frag} {ct : CTab} {H : Hp} {M : AM} {a : Addr} {xs : List V} {ds : List D} {μ : Mu}
theorem rd_lst_eq {K : PySem.W.Frag} {H : Hp} {xs ys : List V} (h : Rd H a (.lst xs)) (h' : Rd H a (.lst ys)) : xs = ys := by
  rcases h with h | ⟨o, h⟩ <;> rcases h' with h' | ⟨o', h'⟩ <;> rw [h] at h' <;> cases h' <;> rfl
theorem itok_t (h : TA' K H M a xs) (r : Reps K H M xs ds) : ItOk K ct M H (Itt K a) (ds, none) where
  go := fun M' H' μ' i d e R _ hi => by
    obtain ⟨x, hx, rx⟩ := (r.stay e).get hi
    have sq := (h.stay e).sq
    refine ⟨⟨xs, x, sq, hx⟩, fun y H'' q => ⟨q.1, ?_⟩⟩
    have := q.2 xs sq
    rw [hx] at this; cases this
    exact rx
  stop := fun M' H' μ' e R _ => ⟨xs, (h.stay e).sq, by rw [r.length]; exact Nat.le_refl _⟩
theorem itok_l (h : LA' K H M a xs) (r : Reps K H M xs ds) : ItOk K ct M H (Itl K a) (ds, none) where
  go := fun M' H' μ' i d e R _ hi => by
    obtain ⟨x, hx, rx⟩ := (r.stay e).get hi
    have sq := (h.stay e).sq
    refine ⟨⟨xs, x, sq, hx⟩, fun y H'' q => ⟨q.1, ?_⟩⟩
    have := q.2 xs sq
    rw [hx] at this; cases this
    exact rx
  stop := fun M' H' μ' e R _ => ⟨xs, (h.stay e).sq, by rw [r.length]; exact Nat.le_refl _⟩
theorem itok_r {n : Nat} (ha : M.ix[n]? = some a) : ItOk K ct M H (Itl K a) (ds, some (n, ds)) where
  go := fun M' H' μ' i d e R hc hi => by
    simp only [chkOf] at hc
    split at hc
    · rename_i l' hl
      rw [beqs_eq _ _ hc] at hl
      obtain ⟨ys, h1, r1⟩ := R.lst hl (e.pre _ _ ha)
      obtain ⟨x, hx, rx⟩ := r1.get hi
      have sq : SqL K H' a ys := .inl (.inl h1)
      refine ⟨⟨ys, x, sq, hx⟩, fun y H'' q => ⟨q.1, ?_⟩⟩
      have := q.2 ys sq
      rw [hx] at this; cases this
      exact rx
    · cases hc
  stop := fun M' H' μ' e R hc => by
    simp only [chkOf] at hc
    split at hc
    · rename_i l' hl
      rw [beqs_eq _ _ hc] at hl
      obtain ⟨ys, h1, r1⟩ := R.lst hl (e.pre _ _ ha)
      exact ⟨ys, .inl (.inl h1), by rw [r1.length]; exact Nat.le_refl _⟩
    · cases hc
theorem itok_s (x : Str) : ItOk K ct M H (L2.Its x) (x.cps.toList.map fun c => D.str ⟨#[c]⟩, none) where
  go := fun M' H' μ' i d e R _ hi => by
    simp only [List.getElem?_map, Option.map_eq_some_iff] at hi
    obtain ⟨c, hc, rfl⟩ := hi
    have hc' : x.cps[i]? = some c := by rw [← Array.getElem?_toList]; exact hc
    refine ⟨?_, fun y H'' q => ?_⟩
    · show i < x.cps.size
      rcases Nat.lt_or_ge i x.cps.size with z | z
      · exact z
      · rw [Array.getElem?_eq_none z] at hc'; cases hc'
    · obtain ⟨q1, c', hc2, rfl⟩ := q
      rw [hc'] at hc2; cases hc2
      exact ⟨q1, .str _⟩
  stop := fun M' H' μ' e R _ => by
    show x.cps.size ≤ (x.cps.toList.map fun c => D.str ⟨#[c]⟩).length
    simp
theorem itok_n (lo : Int) (n : Nat) : ItOk K ct M H (Itr lo n) (rngD lo n, none) where
  go := fun M' H' μ' i d e R _ hi => by
    simp only [rngD, List.getElem?_map, Option.map_eq_some_iff] at hi
    obtain ⟨k, hk, rfl⟩ := hi
    have hin : i < n := by
      rcases Nat.lt_or_ge i n with z | z
      · exact z
      · rw [List.getElem?_eq_none (by simpa using z)] at hk; cases hk
    rw [List.getElem?_range hin] at hk; cases hk
    exact ⟨hin, fun y H'' q => ⟨q.1, by rw [q.2]; exact .int _⟩⟩
  stop := fun M' H' μ' e R _ => by
    show n ≤ (rngD lo n).length
    simp [rngD]
end
section
variable {X : Cx} {ct : CTab} {Γ : G} {N : List Str} {sc : Scope} {tb : Tb} {e a b tg : Expr} {A B : E} {pos apos : Pos}
theorem sndI_seq (ha : Snd X ct Γ e A) : SndI X ct Γ tg e (.seq A) := by
  intro W ρ μ σ H M Q tk E R h
  unfold evalIt at h
  cases hA : evalE Γ A ρ μ with
  | stuck => rw [hA] at h; exact h.elim
  | err c fs μ' =>
    refine wi (pi_list pE) (ha W ρ μ σ H M _ tk E R ?_)
    rw [hA] at h ⊢; exact h
  | ok d μ' =>
    have go : ∀ {Q' : VK}, (∀ v H' M', Evo M H M' H' → RelH X.K ct H' μ' M' → Rep X.K H' M' v d → Q' v H') → wE X e σ H Q' := fun k => ha W ρ μ σ H M _ tk E R (by rw [hA]; exact k)
    rw [hA] at h
    have h' : ∀ {H' M'}, Evo M H M' H' → Ok X.K ct (RJ X.K ct) M' H' (itD d μ') Q (fun c d H' => W c d σ H') := fun e' => Ok.evo e' h
    clear h
    cases d with
    | tup l =>
      refine wi (pi_tup pE) (go fun v H' M' e' R' r' => ?_)
      cases r' with
      | tup h1 r1 => exact ⟨_, rfl, ⟨_, h1.sq⟩, Ok.ret (μ := μ') (h' e') R' (itok_t h1 r1)⟩
    | lst l =>
      refine wi (pi_list pE) (go fun v H' M' e' R' r' => ?_)
      cases r' with
      | lst h1 r1 => exact ⟨_, rfl, ⟨_, h1.sq⟩, Ok.ret (μ := μ') (h' e') R' (itok_l h1 r1)⟩
    | ref n =>
      refine wi (pi_list pE) (go fun v H' M' e' R' r' => ?_)
      have h2 := h' e'
      unfold itD at h2
      simp only at h2
      split at h2
      · rename_i l hl
        cases r' with
        | ref hr =>
          obtain ⟨xs, h1, r1⟩ := R'.lst hl hr
          exact ⟨_, rfl, ⟨xs, .inl (.inl h1)⟩, Ok.ret (μ := μ') h2 R' (itok_r hr)⟩
      · exact h2.elim
    | str s =>
      refine wi (pi_str pE) (go fun v H' M' e' R' r' => ?_)
      cases r'
      exact ⟨_, rfl, Ok.ret (μ := μ') (h' e') R' (itok_s s)⟩
    | kl _ => exact (h' (Evo.refl _ _)).elim
    | non => exact (h' (Evo.refl _ _)).elim
    | bl _ => exact (h' (Evo.refl _ _)).elim
    | int _ => exact (h' (Evo.refl _ _)).elim
theorem sndI_rng1 (F : Fr X ct tb Γ N sc) (hg : glB sc "range" = true) (hs : star a = false) (ha : Snd X ct Γ a A) : SndI X ct Γ tg (.Call (.Name "range" apos) [a] [] pos) (.rng1 A) := by
  intro W ρ μ σ H M Q tk E R h
  unfold evalIt at h
  refine wi (pi_range1 (gl_of F hg) (F.g.bi _ (by decide)) (pa_cons pE pa_nil (star_cons hs)) (star_cons hs)) ?_
  refine ha W ρ μ σ H M _ tk E R (h.step fun d μ1 v H1 M1 e1 R1 r1 h1 => ?_)
  split at h1
  · rename_i j
    cases r1
    obtain ⟨hz, h1⟩ := h1.needs
    exact ⟨j, rfl, hz.1, hz.2, h1.ret R1 (itok_n 0 _)⟩
  · exact h1.elim
theorem sndI_rng2 (F : Fr X ct tb Γ N sc) (hg : glB sc "range" = true) (hs : star a = false) (hs2 : star b = false) (ha : Snd X ct Γ a A) (hb : Snd X ct Γ b B) : SndI X ct Γ tg (.Call (.Name "range" apos) [a, b] [] pos) (.rng2 A B) := by
  intro W ρ μ σ H M Q tk E R h
  unfold evalIt at h
  refine wi (pi_range2 (gl_of F hg) (F.g.bi _ (by decide)) (pa_cons pE (pa_cons pE pa_nil (star_cons hs2)) (star_cons hs)) (by rw [star_cons hs, star_cons hs2, star_nil]) (by rw [star_cons hs2, star_nil])) ?_
  refine ha W ρ μ σ H M _ tk E R (h.step fun d μ1 v H1 M1 e1 R1 r1 h1 => ?_)
  refine hb W ρ μ1 σ H1 M1 _ tk (E.evo e1) R1 (h1.step fun d2 μ2 u H2 M2 e2 R2 r2 h2 => ?_)
  split at h2
  · rename_i i j
    cases r1; cases r2
    obtain ⟨hz, h2⟩ := h2.needs
    exact ⟨i, j, rfl, ⟨hz.1.1, hz.1.2, hz.2.1, hz.2.2⟩, h2.ret R2 (itok_n i _)⟩
  · exact h2.elim

/-! ### targets -/
def gNames : List Nat → TGs
  | [] => gNil
  | i :: is => gCons (gName i) (gNames is)
def gOr (t u : TG) : TG := fun v σ H Q => t v σ H Q ∨ u v σ H Q
theorem pg_or {X : Cx} {e : Expr} {t u : TG} (h : PG X e t) (k : PG X e u) : PG X e (gOr t u) := ⟨fun pins s σ H v w Q I r q => q.elim (h.run pins s σ H v w Q I r) (k.run pins s σ H v w Q I r)⟩
def gOf (K : PySem.W.Frag) : Tg → TG
  | .nm i => gName i
  | .tp l => gOr (gTup K l.length (gNames l)) (gUnl K l.length (gNames l))
def FnLoc (X : Cx) (sc : Scope) (loc : List Str) : Prop := ∀ x ∈ loc, Loc sc x ∧ (X.fn x = true ∨ sc.names.lookup x = some .local)
theorem pg_nm {loc : List Str} {x : Str} {i : Nat} (F : Fr X ct tb Γ N sc) (L : FnLoc X sc loc) (hx : x ∈ loc) (hi : N[i]? = some x) : PG X (.Name x pos) (gName i) :=
  pg_name (by rw [F.hN]; exact F.nd) (by rw [F.hN]; exact hi) (by rw [F.hsc]; exact (L x hx).1) (by rw [F.hsc]; exact (L x hx).2)
theorem names_ok {loc : List Str} (F : Fr X ct tb Γ N sc) (L : FnLoc X sc loc) : ∀ {es : List Expr} {l : List Nat}, resNames N loc es = some l → PGs X es (gNames l) ∧ (assignEach es X.env).length = l.length ∧ (assignEach es X.env).findIdx? (·.1) = none
  | [], l, h => by cases h; exact ⟨pgs_nil, rfl, rfl⟩
  | e :: es, l, h => by
    unfold resNames at h
    split at h
    · rename_i q; cases q
    · rename_i x p es' he
      cases he
      obtain ⟨hx, h⟩ := guardO_some h
      obtain ⟨i, hi, h⟩ := Option.bind_eq_some_iff.mp h
      obtain ⟨l', hl, rfl⟩ := Option.map_eq_some_iff.mp h
      obtain ⟨p1, p2, p3⟩ := names_ok F L hl
      refine ⟨pgs_cons (pg_nm F L (of_decide_eq_true hx) (ixOf_get hi)) p1 rfl, ?_, ?_⟩
      · show (assignEach es X.env).length + 1 = l'.length + 1
        rw [p2]
      · show List.findIdx? (·.1) ((false, assign (.Name x p) X.env) :: assignEach es X.env) = none
        rw [List.findIdx?_cons, p3]; rfl
    · cases h
theorem tg_ok {loc : List Str} {t : Tg} (F : Fr X ct tb Γ N sc) (L : FnLoc X sc loc) (h : resTg N loc tg = some t) : PG X tg (gOf X.K t) := by
  unfold resTg at h
  split at h
  · obtain ⟨hx, h⟩ := guardO_some h
    obtain ⟨i, hi, rfl⟩ := Option.map_eq_some_iff.mp h
    exact pg_nm F L (of_decide_eq_true hx) (ixOf_get hi)
  · obtain ⟨l, hl, rfl⟩ := Option.map_eq_some_iff.mp h
    obtain ⟨p1, p2, p3⟩ := names_ok F L hl
    exact pg_or (pg_tup F.calm p1 p2 p3) (pg_unl F.calm p1 p2 p3)
  · cases h
end
section
variable {K : PySem.W.Frag} {H : Hp} {M : AM} {Q : St → Hp → Prop}
theorem gnames_ok : ∀ {l : List Nat} {vs : List V} {ds : List D} {σ : St} {ρ : Rho}, ds.length = l.length → Reps K H M vs ds → RelE K H M σ ρ →
    (∀ σ', RelE K H M σ' ((l.zip ds).foldl (fun ρ p => ρ.set p.1 (some p.2)) ρ) → (∀ own, (∀ i ∈ l, i ∈ own) → wipe σ' own = wipe σ own) → Q σ' H) → gNames l vs σ H Q
  | [], vs, ds, σ, ρ, hl, r, E, k => by
    cases r with
    | nil => exact ⟨rfl, k σ E fun _ _ => rfl⟩
    | cons => cases hl
  | i :: l, vs, ds, σ, ρ, hl, r, E, k => by
    cases r with
    | nil => cases hl
    | cons h r =>
      rename_i v vs d ds
      refine ⟨v, vs, rfl, ?_⟩
      refine gnames_ok (l := l) (ρ := ρ.set i (some d)) (Nat.succ.inj hl) r (E.set h i) fun σ' E' hw => k σ' E' fun own ho => ?_
      rw [hw own fun j hj => ho j (List.mem_cons_of_mem _ hj), wipe_set (ho i (List.mem_cons_self ..))]
theorem assign_ok {t : Tg} {v : V} {d : D} {σ : St} {ρ ρ' : Rho} (r : Rep K H M v d) (E : RelE K H M σ ρ) (h : assignT t d ρ = some ρ')
    (k : ∀ σ', RelE K H M σ' ρ' → (∀ own, (∀ i ∈ slotsOf t, i ∈ own) → wipe σ' own = wipe σ own) → Q σ' H) : gOf K t v σ H Q := by
  unfold assignT at h
  split at h
  · cases h
    exact k _ (E.set r _) fun own ho => wipe_set (ho _ (List.mem_singleton_self _))
  · split at h
    · split at h
      · rename_i hl
        cases h
        cases r with
        | tup h1 r1 => exact .inl ⟨_, _, rfl, h1.sq, by rw [r1.length]; exact hl, gnames_ok hl r1 E k⟩
      · cases h
    · split at h
      · rename_i hl
        cases h
        cases r with
        | lst h1 r1 => exact .inr ⟨_, _, rfl, h1.sq, by rw [r1.length]; exact hl, gnames_ok hl r1 E k⟩
      · cases h
    · cases h
end
end PyI
/-! A10: comprehensions; the resolver is sound for expressions. -/
namespace PyI
open PySem L2
section
variable {K : PySem.W.Frag} {ct : CTab} {H H1 H' : Hp} {M M1 M' : AM} {p : Addr} {o : HO}
theorem Evo.stayHide (e : Evo M H M' H') (hp : H p = none) : Stay M H (M'.hide p) H' := ⟨e.pre, fun a o h n => ⟨(e.keep a o h n.1).1, (e.keep a o h n.1).2, by
  show a ∉ p :: M'.ex
  rw [List.mem_cons, e.ex]
  rintro (q | q)
  · exact ne_of_none h hp q
  · exact n.2 q⟩⟩
theorem Evo.newEx (e : Evo M H M' H') (hp : H p = none) : Evo M H M' (upd H' p o) := ⟨e.pre, e.len, e.ex, fun a u h n => ⟨by rw [upd_ne (ne_of_none h hp)]; exact (e.keep a u h n).1, (e.keep a u h n).2⟩⟩
end
theorem wipe_at {τ : St} {k : Nat} : ∀ {vs : List Nat}, k ∈ vs → k < τ.length → (L2.wipe τ vs)[k]? = some none
  | [], h, _ => by cases h
  | j :: js, hk, hl => by
    unfold L2.wipe
    rw [List.getElem?_set]
    by_cases e : j = k
    · rw [if_pos e, if_pos (by rw [wipe_length, e]; exact hl)]
    · rw [if_neg e]
      rcases List.mem_cons.mp hk with z | z
      · exact absurd z.symm e
      · exact wipe_at z hl
theorem wipe_wipe {σ : St} {vs : List Nat} : L2.wipe (L2.wipe σ vs) vs = L2.wipe σ vs := by
  apply List.ext_getElem?
  intro k
  by_cases hk : k ∈ vs
  · rcases Nat.lt_or_ge k σ.length with z | z
    · rw [wipe_at hk z, wipe_at hk (by rw [wipe_length]; exact z)]
    · rw [List.getElem?_eq_none (by rw [wipe_length, wipe_length]; exact z), List.getElem?_eq_none (by rw [wipe_length]; exact z)]
  · rw [L2.wipe_out hk]
/-- the block of a comprehension, as a frame -/
theorem Fr.blk {X : Cx} {ct : CTab} {Γ : G} {N : List Str} {sc scope : Scope} {tb : Tb} {own : List (Str × Nat)} (F : Fr X ct tb Γ N sc) (ok : BlkOk N sc scope own) (s : Shared) (H : Hp) (C : Addr) (cl : List (Str × Addr)) (fp : List Addr) :
    Fr (X.blk s H scope (compEnvC scope cl C X.env) fp) ct tb Γ N (relS scope sc) where
  hN := F.hN
  hsc := by show relS scope X.env.scope = _; rw [F.hsc]
  nd := F.nd
  calm := F.calm
  kindF := ok.kind
  g := F.g
theorem lookup_mem {α : Type} : ∀ {l : List (Str × α)} {x : Str} {k : α}, (x, k) ∈ l → (∀ y ∈ l, l.lookup y.1 = some y.2) → l.lookup x = some k := fun h hu => hu _ h
theorem own_loc {X : Cx} {N : List Str} {sc scope : Scope} (ok : BlkOk N sc scope (ownOf N scope)) (s : Shared) (H : Hp) (C : Addr) (cl : List (Str × Addr)) (fp : List Addr) :
    FnLoc (X.blk s H scope (compEnvC scope cl C X.env) fp) (relS scope sc) ((ownOf N scope).map Prod.fst) := by
  intro x hx
  obtain ⟨⟨y, i⟩, hp, rfl⟩ := List.mem_map.mp hx
  unfold ownOf at hp
  obtain ⟨⟨z, k⟩, hz, e⟩ := List.mem_filterMap.mp hp
  have hu := ok.uniq _ hz
  cases k with
  | «local» =>
    obtain ⟨j, _, e'⟩ := Option.map_eq_some_iff.mp e
    cases e'
    have q : (relS scope sc).names.lookup z = some .local := lookup_relS_keep (by intro w; cases w) hu
    exact ⟨.inl q, .inr q⟩
  | cell =>
    obtain ⟨j, _, e'⟩ := Option.map_eq_some_iff.mp e
    cases e'
    have q : (relS scope sc).names.lookup z = some .cell := lookup_relS_keep (by intro w; cases w) hu
    refine ⟨.inr q, .inl ?_⟩
    show (scope.names.lookup z == some .cell) = true
    rw [hu]; rfl
  | free => cases e
  | globalExplicit => cases e
  | globalImplicit => cases e
section
variable {X : Cx} {ct : CTab} {Γ : G} {N : List Str} {sc scope : Scope} {tb : Tb} {elt tg iter : Expr} {ifs : List Expr} {A : E} {pos : Pos}
/-- for each block -/
def SndB (X : Cx) (ct : CTab) (Γ : G) (scope : Scope) (e : Expr) (A : E) : Prop := ∀ (s : Shared) (H : Hp) (C : Addr) (cl : List (Str × Addr)) (fp : List Addr), Snd (X.blk s H scope (compEnvC scope cl C X.env) fp) ct Γ e A
def SndTB (X : Cx) (ct : CTab) (Γ : G) (scope : Scope) (ifs : List Expr) (c : T) : Prop := (ifs = [] ∧ c = .yes) ∨ ∃ e, ifs = [e] ∧ ∀ (s : Shared) (H : Hp) (C : Addr) (cl : List (Str × Addr)) (fp : List Addr), SndT (X.blk s H scope (compEnvC scope cl C X.env) fp) ct Γ e c
def wEB (X : Cx) (scope : Scope) (e : Expr) : TE := fun σ H Q => ∀ s H0 C cl fp, wE (X.blk s H0 scope (compEnvC scope cl C X.env) fp) e σ H Q
def wTB (X : Cx) (scope : Scope) : List Expr → TT
  | [e] => fun σ H Q => ∀ s H0 C cl fp, wT (X.blk s H0 scope (compEnvC scope cl C X.env) fp) e σ H Q
  | _ => tYes
/-- a new list is handed on, kept out of the data so far -/
def OkN (K : PySem.W.Frag) (ct : CTab) (M : AM) (H : Hp) (r : Res PyI.D) (Q : VK) (W : XK) : Prop := match r with
  | .ok (.lst acc) μ2 => ∀ p H2 M2 accv, H p = none → Evo M H M2 H2 → RelH K ct H2 μ2 (M2.hide p) → H2 p = some (.lst accv) → Reps K H2 (M2.hide p) accv acc → Q (.ref p) H2
  | .ok _ _ => False
  | .err c fs μ' => ∀ cls d H' M', Evo M H M' H' → RelH K ct H' μ' M' → ErrRep K ct H' M' c fs cls d → W cls d H'
  | .stuck => False
theorem Evo.back {K : PySem.W.Frag} {ct : CTab} {H H' : Hp} {M M' : AM} {μ μ' : Mu} {p : Addr} (e : Evo M H M' H') (R : RelH K ct H μ M) (R' : RelH K ct H' μ' M') (h : H' p = none) : H p = none := by
  cases q : H p with
  | none => rfl
  | some o =>
    by_cases z : p ∈ M.ix
    · obtain ⟨n, hn, en⟩ := List.getElem_of_mem z
      have : M.ix[n]? = some p := by rw [List.getElem?_eq_getElem hn, en]
      exact absurd (List.mem_of_getElem? (e.pre n p this)) (R'.fresh h).1
    · rw [(e.keep p o q z).1] at h; cases h
theorem OkN.evo {K : PySem.W.Frag} {ct : CTab} {H H1 : Hp} {M M1 : AM} {μ μ1 : Mu} {r : Res PyI.D} {Q : VK} {W : XK} (e : Evo M H M1 H1) (R : RelH K ct H μ M) (R1 : RelH K ct H1 μ1 M1) (h : OkN K ct M H r Q W) : OkN K ct M1 H1 r Q W := by
  cases r with
  | stuck => exact h
  | err c fs μ' => exact fun cls d H' M' e' => h cls d H' M' (e.trans e')
  | ok d μ2 =>
    cases d with
    | lst acc => exact fun p H2 M2 accv hp e2 => h p H2 M2 accv (e.back R R1 hp) (e.trans e2)
    | _ => exact h
theorem Ok.toN {K : PySem.W.Frag} {ct : CTab} {H : Hp} {M : AM} {μ : Mu} {r : Res PyI.D} {Q : VK} {W : XK} (R : RelH K ct H μ M) (hl : ∀ d μ', r = .ok d μ' → ∃ l, d = .lst l) (h : Ok K ct (RD K) M H r Q W) : OkN K ct M H r Q W := by
  cases r with
  | stuck => exact h
  | err c fs μ' => exact h
  | ok d μ2 =>
    obtain ⟨l, rfl⟩ := hl d μ2 rfl
    intro p H2 M2 accv hp e2 R2 hp2 ra
    have hout : M2.out p := ⟨(R2.exs p (List.mem_cons_self ..)).2, by rw [e2.ex]; exact (R.fresh hp).2⟩
    exact h (.ref p) H2 M2 e2 R2.unhide (.lst ⟨.inl hp2, hout⟩ (ra.stay Stay.unhide))
theorem comp_noerr {f : D → Mu → Res (Option D)} {chk : Mu → Bool} : ∀ {ds acc : List D} {μ μ' : Mu} {c : Nat} {fs : List D}, compLoop f chk acc ds μ ≠ .err c fs μ'
  | [], acc, μ, μ', c, fs, h => by unfold compLoop at h; split at h <;> cases h
  | d :: ds, acc, μ, μ', c, fs, h => by
    unfold compLoop at h
    split at h
    · split at h
      · exact comp_noerr h
      · unfold needs at h
        split at h
        · exact comp_noerr h
        · cases h
      · cases h
    · cases h
theorem comp_core {W : WX} {ρ : Rho} {μ : Mu} {σ : St} {H : Hp} {M : AM} {Q : VK} {t : Tg} {it : IT} {c : T} (F : Fr X ct tb Γ N sc) (ok : BlkOk N sc scope (ownOf N scope)) (hset : isSet iter = false) (ht : resTg N ((ownOf N scope).map Prod.fst) tg = some t) (hsl : ∀ i ∈ slotsOf t, i ∈ (ownOf N scope).map Prod.snd)
    (hI : SndI X ct Γ tg iter it) (hc : SndTB X ct Γ scope ifs c) (he : SndB X ct Γ scope elt A) (tk : Takes X W) (E : RelE X.K H M σ ρ) (R : RelH X.K ct H μ M) (h : OkN X.K ct M H (evalE Γ (.comp ((ownOf N scope).map Prod.snd) t it c A) ρ μ) Q (fun c d H' => W c d σ H')) :
    tLc (wI X tg iter) (gOf X.K t) (wTB X scope ifs) (wEB X scope elt) ((ownOf N scope).map (·.2)) σ H Q := by
  unfold evalE at h
  have okI : Ok X.K ct (RJ X.K ct) M H (evalIt Γ it ρ μ) (fun J H1 => ∀ D, H1 D = none → ∃ W' : Nat → Nat → Hp → Prop, (∃ m, W' 0 m (upd H1 D (.lst []))) ∧ ∀ i m H, W' i m H →
  (J.stop i H ∧ Q (.ref D) H) ∨ (J.go i H ∧ ∃ Nx : Hp → Prop, (∀ H', Nx H' → ∃ m', m' < m ∧ W' (i + 1) m' H') ∧ ∀ x H', J.yld i H x H' → (gOf X.K t) x (wipe σ ((ownOf N scope).map (·.2))) H' fun σ2 H2 => wipe σ2 ((ownOf N scope).map (·.2)) = wipe σ ((ownOf N scope).map (·.2)) ∧ (wTB X scope ifs) σ2 H2 fun b H3 =>
    if b = true then (wEB X scope elt) σ2 H3 fun y H4 => ∃ acc, H4 D = some (.lst acc) ∧ acc.length < sizeLine ∧ Nx (upd H4 D (.lst (acc ++ [y]))) else Nx H3)) (fun c d H' => W c d σ H') := ?okI
  exact hI W ρ μ σ H M _ tk E R okI
  case okI =>
  cases hit : evalIt Γ it ρ μ with
  | stuck => rw [hit] at h; exact h.elim
  | err c fs μ' => rw [hit] at h; exact h
  | ok its μ1 =>
  rw [hit] at h
  intro J H1 M1 e1 R1 J1
  have h1 := OkN.evo e1 R R1 (show OkN X.K ct M H ((compLoop _ (chkOf its.2) [] its.1 μ1).bind fun l μ => .ok (.lst l) μ) Q _ from h)
  intro D hD
  have E1 := E.evo e1
  -- the loop's answer
  generalize hf : (fun (d : PyI.D) (μ : Mu) => match assignT t d (wipeR ρ ((ownOf N scope).map Prod.snd)) with
        | none => Res.stuck
        | some ρ' => (evalT Γ c ρ' μ).bind fun k μ => if k = true then (evalE Γ A ρ' μ).bind fun y μ => Res.ok (some y) μ else Res.ok none μ) = f at h1
  obtain ⟨ds, src⟩ := its
  generalize hr : compLoop f (chkOf src) [] ds μ1 = r at h1
  have hr0 : ∀ c fs μ', r ≠ .err c fs μ' := fun c fs μ' q => comp_noerr (hr.trans q)
  refine ⟨fun i m H2 => m = ds.length - i ∧ i ≤ ds.length ∧ ∃ (M2 : AM) (μ2 : Mu) (acc : List PyI.D) (accv : List V), Evo M1 H1 M2 H2 ∧ RelH X.K ct H2 μ2 (M2.hide D) ∧ H2 D = some (.lst accv) ∧ Reps X.K H2 (M2.hide D) accv acc ∧ compLoop f (chkOf src) acc (ds.drop i) μ2 = r, ⟨ds.length, rfl, Nat.zero_le _, M1, μ1, [], [], Evo.new hD, R1.hide hD, upd_same, .nil, by rw [List.drop_zero]; exact hr⟩, ?_⟩
  rintro i m H2 ⟨hm, hi, M2, μ2, acc, accv, e2, R2, hD2, ra, hloop⟩
  have st2 : Stay M1 H1 (M2.hide D) H2 := e2.stayHide hD
  rcases Nat.lt_or_ge i ds.length with hlt | hge
  · right
    have hdi : ds[i]? = some ds[i] := List.getElem?_eq_getElem hlt
    rw [List.drop_eq_getElem_cons hlt] at hloop
    unfold compLoop at hloop
    by_cases hck : chkOf src μ2 = true
    · rw [if_pos hck] at hloop
      obtain ⟨hgo, hy⟩ := J1.go (M2.hide D) H2 μ2 i ds[i] st2 R2 hck hdi
      refine ⟨hgo, fun H3 => ∃ m', m' < m ∧ (m' = ds.length - (i + 1) ∧ i + 1 ≤ ds.length ∧ ∃ (M2 : AM) (μ2 : Mu) (acc : List PyI.D) (accv : List V), Evo M1 H1 M2 H3 ∧ RelH X.K ct H3 μ2 (M2.hide D) ∧ H3 D = some (.lst accv) ∧ Reps X.K H3 (M2.hide D) accv acc ∧ compLoop f (chkOf src) acc (ds.drop (i + 1)) μ2 = r), fun H3 q => q, ?_⟩
      intro x H3 hx
      obtain ⟨rfl, rx⟩ := hy x H3 hx
      -- the target
      have Ew : RelE X.K H3 (M2.hide D) (wipe σ ((ownOf N scope).map Prod.snd)) (wipeR ρ ((ownOf N scope).map Prod.snd)) := (E1.stay st2).wipe _
      have hfd : f ds[i] μ2 = (match assignT t ds[i] (wipeR ρ ((ownOf N scope).map Prod.snd)) with
        | none => Res.stuck
        | some ρ' => (evalT Γ c ρ' μ2).bind fun k μ => if k = true then (evalE Γ A ρ' μ).bind fun y μ => Res.ok (some y) μ else Res.ok none μ) := by rw [← hf]
      rw [hfd] at hloop
      cases has : assignT t ds[i] (wipeR ρ ((ownOf N scope).map Prod.snd)) with
      | none => simp only [has] at hloop; rw [← hloop] at h1; exact (h1 : False).elim
      | some ρ' =>
        simp only [has] at hloop
        refine assign_ok rx Ew has fun σ2 E2 hw => ⟨?_, ?_⟩
        · rw [hw _ hsl]
          exact wipe_wipe
        -- the test
        have hT : ∀ (Q2 : Bool → Hp → Prop), (∀ k μ3, evalT Γ c ρ' μ2 = .ok k μ3 → ∀ H4 M4, Evo (M2.hide D) H3 M4 H4 → RelH X.K ct H4 μ3 M4 → Q2 k H4) → wTB X scope ifs σ2 H3 Q2 := by
          intro Q2 k2
          have okT : Ok X.K ct RB (M2.hide D) H3 (evalT Γ c ρ' μ2) Q2 (fun _ _ _ => False) := by
            cases hc2 : evalT Γ c ρ' μ2 with
            | stuck => rw [hc2] at hloop; simp only [Res.bind] at hloop; rw [← hloop] at h1; exact (h1 : False).elim
            | err _ _ _ => rw [hc2] at hloop; simp only [Res.bind] at hloop; rw [← hloop] at h1; exact (h1 : False).elim
            | ok k μ3 => exact fun v H4 M4 e4 R4 r4 => by cases r4; exact k2 _ μ3 hc2 H4 M4 e4 R4
          rcases hc with ⟨rfl, rfl⟩ | ⟨e, rfl, hcs⟩
          · exact Ok.ret (μ := μ2) okT R2 rfl
          · exact fun s H0 C cl fp => hcs s H0 C cl fp (fun _ _ _ _ => False) ρ' μ2 σ2 H3 (M2.hide D) Q2 takes0 E2 R2 okT
        refine hT _ fun k μ3 hk H4 M4 e4 R4 => ?_
        rw [hk] at hloop
        simp only [Res.bind] at hloop
        -- the block's addresses
        have split4 : ∃ M4', M4 = AM.hide M4' D := ⟨⟨M4.ix, M2.ex⟩, by cases M4; exact congrArg _ e4.ex⟩
        obtain ⟨M4', rfl⟩ := split4
        have e14 : Evo M1 H1 M4' H4 := e2.trans e4.unhide
        have hD4 : H4 D = some (.lst accv) := (e4.keep D _ hD2 (R2.exs D (List.mem_cons_self ..)).2).1
        cases k with
        | false =>
          simp only [Bool.false_eq_true, if_false] at hloop ⊢
          exact ⟨ds.length - (i + 1), by omega, rfl, hlt, M4', μ3, acc, accv, e14, R4, hD4, ra.evo e4, hloop⟩
        | true =>
          simp only [if_true] at hloop ⊢
          have okE : Ok X.K ct (RD X.K) (AM.hide M4' D) H4 (evalE Γ A ρ' μ3) (fun y H5 => ∃ acc, H5 D = some (.lst acc) ∧ acc.length < sizeLine ∧ ∃ m', m' < m ∧ (m' = ds.length - (i + 1) ∧ i + 1 ≤ ds.length ∧ ∃ (M2 : AM) (μ2 : Mu) (acc' : List PyI.D) (accv : List V), Evo M1 H1 M2 (upd H5 D (.lst (acc ++ [y]))) ∧ RelH X.K ct (upd H5 D (.lst (acc ++ [y]))) μ2 (M2.hide D) ∧ (upd H5 D (.lst (acc ++ [y]))) D = some (.lst accv) ∧ Reps X.K (upd H5 D (.lst (acc ++ [y]))) (M2.hide D) accv acc' ∧ compLoop f (chkOf src) acc' (ds.drop (i + 1)) μ2 = r)) (fun _ _ _ => False) := by
            cases hA : evalE Γ A ρ' μ3 with
            | stuck => rw [hA] at hloop; simp only [Res.bind] at hloop; rw [← hloop] at h1; exact (h1 : False).elim
            | err _ _ _ => rw [hA] at hloop; simp only [Res.bind] at hloop; rw [← hloop] at h1; exact (h1 : False).elim
            | ok y μ5 =>
              rw [hA] at hloop
              simp only [Res.bind] at hloop
              intro v H5 M5 e5 R5 r5
              have split5 : ∃ M5', M5 = AM.hide M5' D := ⟨⟨M5.ix, M4'.ex⟩, by cases M5; exact congrArg _ e5.ex⟩
              obtain ⟨M5', rfl⟩ := split5
              have hD5 : H5 D = some (.lst accv) := (e5.keep D _ hD4 (R4.exs D (List.mem_cons_self ..)).2).1
              have hacc : accv.length = acc.length := ra.length
              unfold needs at hloop
              by_cases hz : acc.length < 16777216
              · rw [if_pos hz] at hloop
                have hin : D ∈ (AM.hide M5' D).ex := List.mem_cons_self ..
                have sm : Stay (AM.hide M5' D) H5 (AM.hide M5' D) (upd H5 D (.lst (accv ++ [v]))) := Stay.mutEx hin
                exact ⟨accv, hD5, sl16' (by rw [hacc]; exact hz), ds.length - (i + 1), by omega, rfl, hlt, M5', μ5, acc ++ [y], accv ++ [v], (e14.trans e5.unhide).newEx hD, R5.mutEx hin, upd_same, ((((ra.evo e4).evo e5).append (Reps.one r5)).stay sm), hloop⟩
              · rw [if_neg hz] at hloop; rw [← hloop] at h1; exact (h1 : False).elim
          exact fun s H0 C cl fp => he s H0 C cl fp (fun _ _ _ _ => False) ρ' μ3 σ2 H4 (AM.hide M4' D) _ takes0 (E2.evo e4) R4 okE
    · rw [if_neg hck] at hloop; rw [← hloop] at h1; exact (h1 : False).elim
  · left
    have hie : i = ds.length := Nat.le_antisymm hi hge
    subst hie
    rw [List.drop_length] at hloop
    unfold compLoop at hloop
    by_cases hck : chkOf src μ2 = true
    · rw [if_pos hck] at hloop
      refine ⟨J1.stop (M2.hide D) H2 μ2 st2 R2 hck, ?_⟩
      rw [← hloop] at h1
      exact h1 D H2 M2 accv hD e2 R2 hD2 ra
    · rw [if_neg hck] at hloop; rw [← hloop] at h1; exact (h1 : False).elim
theorem comp_pts {c : T} (hc : SndTB X ct Γ scope ifs c) : ∀ (s : Shared) (H : Hp) (C : Addr) (cl : List (Str × Addr)) (fp : List Addr), PTs (X.blk s H scope (compEnvC scope cl C X.env) fp) ifs (wTB X scope ifs) := by
  intro s H C cl fp
  rcases hc with ⟨rfl, _⟩ | ⟨e, rfl, _⟩
  · exact pts_nil
  · refine pts_one ⟨fun pins s' σ H' Q' I q => q s H C cl fp pins s' I⟩
theorem comp_lst {own : List Nat} {t : Tg} {it : IT} {c : T} {ρ : Rho} {μ : Mu} {d : PyI.D} {μ' : Mu} (h : evalE Γ (.comp own t it c A) ρ μ = .ok d μ') : ∃ l, d = .lst l := by
  unfold evalE at h
  cases hit : evalIt Γ it ρ μ with
  | stuck => rw [hit] at h; cases h
  | err c fs μ' => rw [hit] at h; cases h
  | ok its μ1 =>
    rw [hit] at h
    simp only [Res.bind] at h
    split at h
    · cases h; exact ⟨_, rfl⟩
    · cases h
    · cases h
theorem snd_comp {t : Tg} {it : IT} {c : T} (F : Fr X ct tb Γ N sc) (ok : BlkOk N sc scope (ownOf N scope)) (hset : isSet iter = false) (ht : resTg N ((ownOf N scope).map Prod.fst) tg = some t) (hsl : ∀ i ∈ slotsOf t, i ∈ (ownOf N scope).map Prod.snd)
    (hI : SndI X ct Γ tg iter it) (hc : SndTB X ct Γ scope ifs c) (he : SndB X ct Γ scope elt A) : Snd X ct Γ (.ListComp elt [⟨tg, iter, ifs, 0⟩] scope pos) (.comp ((ownOf N scope).map Prod.snd) t it c A) := by
  intro W ρ μ σ H M Q tk E R h
  have okX : BlkOk X.N X.env.scope scope (ownOf N scope) := by rw [F.hN, F.hsc]; exact ok
  exact we (pe_lc (te := wEB X scope elt) (tt := wTB X scope ifs) (g := gOf X.K t) F.calm (by rw [F.hN]; exact F.nd) pI okX (fun s H C cl fp => tg_ok (F.blk ok s H C cl fp) (own_loc ok s H C cl fp) ht) (comp_pts hc) (fun s H C cl fp => ⟨fun pins s' σ H' Q' I q => q s H C cl fp pins s' I⟩) (set_iter hset))
    (comp_core F ok hset ht hsl hI hc he tk E R (h.toN R fun d μ' q => comp_lst q))
end
end PyI
/-! A11: the resolver is sound for expressions. -/
namespace PyI
open PySem L2
structure SndAt (ct : CTab) (Γ : G) (C : RC) (n : Nat) : Prop where
  e : ∀ (X : Cx) (sc : Scope) (e : Expr) (A : E), Fr X ct C.tb Γ C.N sc → resE n C sc e = some A → Snd X ct Γ e A
  and : ∀ (X : Cx) (sc : Scope) (es : List Expr) (pos : Pos) (A : E), Fr X ct C.tb Γ C.N sc → resAnd n C sc es = some A → Snd X ct Γ (.BoolOp .And es pos) A
  or : ∀ (X : Cx) (sc : Scope) (es : List Expr) (pos : Pos) (A : E), Fr X ct C.tb Γ C.N sc → resOr n C sc es = some A → Snd X ct Γ (.BoolOp .Or es pos) A
  es : ∀ (X : Cx) (sc : Scope) (es : List Expr) (A : Es), Fr X ct C.tb Γ C.N sc → resEs n C sc es = some A → SndA X ct Γ es A ∧ es.all (fun e => !star e) = true ∧ (es = [] → A = .nil)
  l : ∀ (X : Cx) (sc : Scope) (es : List Expr) (A : Es), Fr X ct C.tb Γ C.N sc → resEs n C sc es = some A → SndL X ct Γ es A
  o : ∀ (X : Cx) (sc : Scope) (o : Option Expr) (A : O), Fr X ct C.tb Γ C.N sc → resO n C sc o = some A → SndO X ct Γ o A
  t : ∀ (X : Cx) (sc : Scope) (e : Expr) (A : T), Fr X ct C.tb Γ C.N sc → resT n C sc e = some A → SndT X ct Γ e A
  tand : ∀ (X : Cx) (sc : Scope) (es : List Expr) (pos : Pos) (A : T), Fr X ct C.tb Γ C.N sc → resTAnd n C sc es = some A → SndW X ct Γ (.BoolOp .And es pos) A
  tor : ∀ (X : Cx) (sc : Scope) (es : List Expr) (pos : Pos) (A : T), Fr X ct C.tb Γ C.N sc → resTOr n C sc es = some A → SndW X ct Γ (.BoolOp .Or es pos) A
  i : ∀ (X : Cx) (sc : Scope) (tg e : Expr) (A : IT), Fr X ct C.tb Γ C.N sc → resI n C sc e = some A → SndI X ct Γ tg e A
theorem pe_or1 {X : Cx} {op : BoolOp} {a : Expr} {pos : Pos} {ct : CTab} {Γ : G} {A : E} (h : Snd X ct Γ a A) : Snd X ct Γ (.BoolOp op [a] pos) A := by
  intro W ρ μ σ H M Q tk E R k
  exact we (pe_one pE) (h W ρ μ σ H M Q tk E R k)
theorem sndAt (ct : CTab) (Γ : G) (C : RC) : ∀ n, SndAt ct Γ C n
  | 0 => by constructor <;> intros <;> rename_i h <;> first | (unfold resE at h; cases h) | (unfold resAnd at h; cases h) | (unfold resOr at h; cases h) | (unfold resEs at h; cases h) | (unfold resO at h; cases h) | (unfold resT at h; cases h) | (unfold resTAnd at h; cases h) | (unfold resTOr at h; cases h) | (unfold resI at h; cases h)
  | n + 1 => by
    have ih := sndAt ct Γ C n
    constructor
    case e =>
      intro X sc e A F h
      unfold resE at h
      split at h
      · cases h; exact snd_cst pe_int fun _ _ => .int _
      · cases h; exact snd_cst pe_bl fun _ _ => .bl _
      · cases h; exact snd_cst pe_non fun _ _ => .non
      · cases h; exact snd_cst pe_str fun _ _ => .str _
      · obtain ⟨hd, h⟩ := guardO_some h
        split at h
        · rename_i hv
          obtain ⟨i, hi, rfl⟩ := Option.map_eq_some_iff.mp h
          exact snd_var F (ixOf_get hi) hv hd
        · obtain ⟨hg, h⟩ := guardO_some h
          obtain ⟨i, hi, rfl⟩ := Option.map_eq_some_iff.mp h
          exact snd_glob F (ixOf_get hi) hg hd
      · obtain ⟨o, ho, h⟩ := Option.bind_eq_some_iff.mp h
        obtain ⟨A1, hA, h⟩ := Option.bind_eq_some_iff.mp h
        obtain ⟨B1, hB, rfl⟩ := Option.map_eq_some_iff.mp h
        exact snd_bin ho (ih.e X sc _ _ F hA) (ih.e X sc _ _ F hB)
      · obtain ⟨A1, hA, rfl⟩ := Option.map_eq_some_iff.mp h
        exact snd_neg (ih.e X sc _ _ F hA)
      · obtain ⟨A1, hA, rfl⟩ := Option.map_eq_some_iff.mp h
        exact snd_inv (ih.e X sc _ _ F hA)
      · obtain ⟨A1, hA, rfl⟩ := Option.map_eq_some_iff.mp h
        exact snd_notv (ih.e X sc _ _ F hA)
      · exact ih.and X sc _ _ _ F h
      · exact ih.or X sc _ _ _ F h
      · split at h
        · next g hg =>
          obtain ⟨x, p2, he, h1, h2, h3⟩ := dicOf_eq hg
          obtain ⟨neg, hn, h⟩ := Option.bind_eq_some_iff.mp h
          obtain ⟨A1, hA, rfl⟩ := Option.map_eq_some_iff.mp h
          rw [he, inOp_eq hn]
          exact snd_gin F h1 h2 h3 (ih.e X sc _ _ F hA)
        obtain ⟨hs, h⟩ := guardO_some h
        obtain ⟨A1, hA, h⟩ := Option.bind_eq_some_iff.mp h
        obtain ⟨B1, hB, rfl⟩ := Option.map_eq_some_iff.mp h
        exact snd_cmp F (by simpa using hs) (ih.e X sc _ _ F hA) (ih.e X sc _ _ F hB)
      · obtain ⟨hs, h⟩ := guardO_some h
        obtain ⟨A1, hA, h⟩ := Option.bind_eq_some_iff.mp h
        obtain ⟨B1, hB, h⟩ := Option.bind_eq_some_iff.mp h
        obtain ⟨C1, hC, rfl⟩ := Option.map_eq_some_iff.mp h
        exact snd_chn F (by simp at hs; exact hs.2) (ih.e X sc _ _ F hA) (ih.e X sc _ _ F hB) (ih.e X sc _ _ F hC)
      · obtain ⟨T1, hT, h⟩ := Option.bind_eq_some_iff.mp h
        obtain ⟨A1, hA, h⟩ := Option.bind_eq_some_iff.mp h
        obtain ⟨B1, hB, rfl⟩ := Option.map_eq_some_iff.mp h
        exact snd_ite (ih.t X sc _ _ F hT) (ih.e X sc _ _ F hA) (ih.e X sc _ _ F hB)
      · rename_i f p args pos
        obtain ⟨hg, h⟩ := guardO_some h
        simp only [Bool.and_eq_true] at hg
        split at h
        · rename_i i k hf
          obtain ⟨hl, h⟩ := guardO_some h
          obtain ⟨A1, hA, rfl⟩ := Option.map_eq_some_iff.mp h
          simp only [Bool.and_eq_true, beq_iff_eq, Bool.not_eq_true'] at hl
          obtain ⟨s1, s2, _⟩ := ih.es X sc _ _ F hA
          cases args with
          | nil => simp at hl
          | cons a as => exact snd_call F hg.1 hg.2 (fnOf_get hf) s2 s1
        · split at h
          · next hi =>
            obtain ⟨q, hq, h⟩ := Option.bind_eq_some_iff.mp h
            obtain ⟨p2, hp⟩ := isiArgs_eq hq
            obtain ⟨hg2, h⟩ := guardO_some h
            simp only [Bool.and_eq_true, Bool.not_eq_true'] at hg2
            obtain ⟨ty, ht, h⟩ := Option.bind_eq_some_iff.mp h
            obtain ⟨A1, hA, rfl⟩ := Option.map_eq_some_iff.mp h
            rw [hp, hi]
            exact snd_isi F (by rw [← hi]; exact hg.2) hg2.1.1 hg2.1.2 ht hg2.2 (ih.e X sc _ _ F hA)
          · obtain ⟨hl, h⟩ := guardO_some h
            obtain ⟨b, hb, h⟩ := Option.bind_eq_some_iff.mp h
            obtain ⟨A1, hA, rfl⟩ := Option.map_eq_some_iff.mp h
            obtain ⟨s1, s2, _⟩ := ih.es X sc _ _ F hA
            cases args with
            | nil => simp at hl
            | cons a as => exact snd_bif F hg.1 hg.2 hb s2 s1
      · obtain ⟨hg, h⟩ := guardO_some h
        simp only [Bool.and_eq_true, decide_eq_true_eq, Bool.not_eq_true', List.isEmpty_eq_false_iff] at hg
        obtain ⟨l, hl, h⟩ := Option.bind_eq_some_iff.mp h
        obtain ⟨h15, h⟩ := guardO_some h
        obtain ⟨A1, hA, h⟩ := Option.bind_eq_some_iff.mp h
        obtain ⟨B1, hB, rfl⟩ := Option.map_eq_some_iff.mp h
        obtain ⟨⟨⟨⟨rfl, g1⟩, g2⟩, g3⟩, g4⟩ := hg
        exact snd_dgt g1 g2 g3 F hl g4 (of_decide_eq_true h15) (ih.e X sc _ _ F hA) (ih.e X sc _ _ F hB)
      · obtain ⟨hg, h⟩ := guardO_some h
        simp only [Bool.and_eq_true] at hg
        split at h
        · next hm =>
          obtain ⟨A1, hA, rfl⟩ := Option.map_eq_some_iff.mp h
          rw [hm.1, List.isEmpty_iff.mp hm.2]
          exact snd_bits hg.1 hg.2 (ih.e X sc _ _ F hA)
        split at h
        · next hm =>
          obtain ⟨q, hq, h⟩ := Option.bind_eq_some_iff.mp h
          obtain ⟨p2, hp⟩ := trArgs_eq hq
          obtain ⟨ht, h⟩ := guardO_some h
          obtain ⟨A1, hA, rfl⟩ := Option.map_eq_some_iff.mp h
          rw [hp, hm]
          exact snd_tr37 F hg.1 hg.2 ht (ih.e X sc _ _ F hA)
        · obtain ⟨hn, h⟩ := guardO_some h
          obtain ⟨m, hm, h⟩ := Option.bind_eq_some_iff.mp h
          obtain ⟨A1, hA, h⟩ := Option.bind_eq_some_iff.mp h
          obtain ⟨As, hAs, rfl⟩ := Option.map_eq_some_iff.mp h
          obtain ⟨s1, s2, s3⟩ := ih.es X sc _ _ F hAs
          exact snd_met hg.1 hg.2 (of_decide_eq_true hn) hm s2 s3 (ih.e X sc _ _ F hA) s1
      · obtain ⟨hg, h⟩ := guardO_some h
        simp only [Bool.and_eq_true, Bool.not_eq_true', List.isEmpty_eq_false_iff] at hg
        obtain ⟨l, hl, h⟩ := Option.bind_eq_some_iff.mp h
        obtain ⟨h15, h⟩ := guardO_some h
        obtain ⟨A1, hA, rfl⟩ := Option.map_eq_some_iff.mp h
        exact snd_dgl F hg.1 hl hg.2 (of_decide_eq_true h15) (ih.e X sc _ _ F hA)
      · obtain ⟨A1, hA, h⟩ := Option.bind_eq_some_iff.mp h
        obtain ⟨L1, hL, h⟩ := Option.bind_eq_some_iff.mp h
        obtain ⟨U1, hU, rfl⟩ := Option.map_eq_some_iff.mp h
        exact snd_slc (ih.e X sc _ _ F hA) (ih.o X sc _ _ F hL) (ih.o X sc _ _ F hU)
      · obtain ⟨hs, h⟩ := guardO_some h
        split at h
        · next g hg =>
          obtain ⟨x, p2, he, h1, h2, h3⟩ := dicOf_eq hg
          obtain ⟨B1, hB, rfl⟩ := Option.map_eq_some_iff.mp h
          rw [he]
          exact snd_gdict F (by simpa using hs) h1 h2 h3 (ih.e X sc _ _ F hB)
        obtain ⟨A1, hA, h⟩ := Option.bind_eq_some_iff.mp h
        obtain ⟨B1, hB, rfl⟩ := Option.map_eq_some_iff.mp h
        exact snd_idx (by simpa using hs) (ih.e X sc _ _ F hA) (ih.e X sc _ _ F hB)
      · obtain ⟨A1, hA, rfl⟩ := Option.map_eq_some_iff.mp h
        exact snd_tup (ih.es X sc _ _ F hA).1
      · obtain ⟨A1, hA, rfl⟩ := Option.map_eq_some_iff.mp h
        exact snd_fmt (ih.e X sc _ _ F hA)
      · exact snd_fs1 (ih.e X sc _ _ F h)
      · obtain ⟨A1, hA, rfl⟩ := Option.map_eq_some_iff.mp h
        exact snd_fs (ih.l X sc _ _ F hA)
      · obtain ⟨A1, hA, rfl⟩ := Option.map_eq_some_iff.mp h
        exact snd_lst (ih.es X sc _ _ F hA).1
      · rename_i elt tg iter ifs scope pos
        obtain ⟨hb, h⟩ := guardO_some h
        simp only [Bool.and_eq_true, Bool.not_eq_true'] at hb
        obtain ⟨t, ht, h⟩ := Option.bind_eq_some_iff.mp h
        obtain ⟨hsl, h⟩ := guardO_some h
        obtain ⟨it, hit, h⟩ := Option.bind_eq_some_iff.mp h
        obtain ⟨c, hc, h⟩ := Option.bind_eq_some_iff.mp h
        obtain ⟨A1, hA, rfl⟩ := Option.map_eq_some_iff.mp h
        have ok := blkOk_by hb.1
        refine snd_comp F ok hb.2 ht (fun i hi => of_decide_eq_true (List.all_eq_true.mp hsl i hi)) (ih.i X sc _ _ _ F hit) ?_ fun s H C' cl fp => ih.e _ _ _ _ (F.blk ok s H C' cl fp) hA
        split at hc
        · cases hc; exact .inl ⟨rfl, rfl⟩
        · exact .inr ⟨_, rfl, fun s H C' cl fp => ih.t _ _ _ _ (F.blk ok s H C' cl fp) hc⟩
        · cases hc
      · cases h
    case and =>
      intro X sc es pos A F h
      unfold resAnd at h
      split at h
      · exact pe_or1 (ih.e X sc _ _ F h)
      · obtain ⟨A1, hA, h⟩ := Option.bind_eq_some_iff.mp h
        obtain ⟨B1, hB, rfl⟩ := Option.map_eq_some_iff.mp h
        exact snd_and (ih.e X sc _ _ F hA) (ih.and X sc _ _ _ F hB)
      · cases h
    case or =>
      intro X sc es pos A F h
      unfold resOr at h
      split at h
      · exact pe_or1 (ih.e X sc _ _ F h)
      · obtain ⟨A1, hA, h⟩ := Option.bind_eq_some_iff.mp h
        obtain ⟨B1, hB, rfl⟩ := Option.map_eq_some_iff.mp h
        exact snd_or (ih.e X sc _ _ F hA) (ih.or X sc _ _ _ F hB)
      · cases h
    case es =>
      intro X sc es A F h
      unfold resEs at h
      split at h
      · cases h; exact ⟨sndA_nil, rfl, fun _ => rfl⟩
      · obtain ⟨hs, h⟩ := guardO_some h
        obtain ⟨A1, hA, h⟩ := Option.bind_eq_some_iff.mp h
        obtain ⟨B1, hB, rfl⟩ := Option.map_eq_some_iff.mp h
        obtain ⟨s1, s2, _⟩ := ih.es X sc _ _ F hB
        refine ⟨sndA_cons (by simpa using hs) (ih.e X sc _ _ F hA) s1, ?_, fun z => by cases z⟩
        rw [List.all_cons, hs, s2]; rfl
    case l =>
      intro X sc es A F h
      unfold resEs at h
      split at h
      · cases h; exact .nil
      · obtain ⟨hs, h⟩ := guardO_some h
        obtain ⟨A1, hA, h⟩ := Option.bind_eq_some_iff.mp h
        obtain ⟨B1, hB, rfl⟩ := Option.map_eq_some_iff.mp h
        exact .cons (ih.e X sc _ _ F hA) (ih.l X sc _ _ F hB)
    case o =>
      intro X sc o A F h
      unfold resO at h
      split at h
      · cases h; exact sndO_none
      · obtain ⟨A1, hA, rfl⟩ := Option.map_eq_some_iff.mp h
        exact sndO_some (ih.e X sc _ _ F hA)
    case t =>
      intro X sc e A F h
      unfold resT at h
      split at h
      · obtain ⟨A1, hA, rfl⟩ := Option.map_eq_some_iff.mp h
        exact sndT_not (ih.t X sc _ _ F hA)
      · exact sndT_w (ih.tand X sc _ _ _ F h)
      · exact sndT_w (ih.tor X sc _ _ _ F h)
      · split at h
        · next g hg =>
          obtain ⟨x, p2, he, h1, h2, h3⟩ := dicOf_eq hg
          obtain ⟨neg, hn, h⟩ := Option.bind_eq_some_iff.mp h
          obtain ⟨A1, hA, rfl⟩ := Option.map_eq_some_iff.mp h
          rw [he, inOp_eq hn]
          exact sndT_gin F h1 h2 h3 (ih.e X sc _ _ F hA)
        obtain ⟨hs, h⟩ := guardO_some h
        obtain ⟨A1, hA, h⟩ := Option.bind_eq_some_iff.mp h
        obtain ⟨B1, hB, rfl⟩ := Option.map_eq_some_iff.mp h
        exact sndT_cmp F (by simpa using hs) (ih.e X sc _ _ F hA) (ih.e X sc _ _ F hB)
      · obtain ⟨hs, h⟩ := guardO_some h
        obtain ⟨A1, hA, h⟩ := Option.bind_eq_some_iff.mp h
        obtain ⟨B1, hB, h⟩ := Option.bind_eq_some_iff.mp h
        obtain ⟨C1, hC, rfl⟩ := Option.map_eq_some_iff.mp h
        exact sndT_chn F (by simp at hs; exact hs.2) (ih.e X sc _ _ F hA) (ih.e X sc _ _ F hB) (ih.e X sc _ _ F hC)
      · obtain ⟨hp, h⟩ := guardO_some h
        obtain ⟨A1, hA, rfl⟩ := Option.map_eq_some_iff.mp h
        exact sndT_val hp (ih.e X sc _ _ F hA)
    case tand =>
      intro X sc es pos A F h
      unfold resTAnd at h
      split at h
      · exact sndW_and1 (ih.t X sc _ _ F h)
      · obtain ⟨A1, hA, h⟩ := Option.bind_eq_some_iff.mp h
        obtain ⟨B1, hB, rfl⟩ := Option.map_eq_some_iff.mp h
        exact sndW_and (ih.t X sc _ _ F hA) (ih.tand X sc _ _ _ F hB)
      · cases h
    case tor =>
      intro X sc es pos A F h
      unfold resTOr at h
      split at h
      · exact sndW_or1 (ih.t X sc _ _ F h)
      · obtain ⟨A1, hA, h⟩ := Option.bind_eq_some_iff.mp h
        obtain ⟨B1, hB, rfl⟩ := Option.map_eq_some_iff.mp h
        exact sndW_or (ih.t X sc _ _ F hA) (ih.tor X sc _ _ _ F hB)
      · cases h
    case i =>
      intro X sc tg e A F h
      unfold resI at h
      split at h
      · split at h
        · rename_i hr
          subst hr
          obtain ⟨hg, h⟩ := guardO_some h
          split at h
          · obtain ⟨hs, h⟩ := guardO_some h
            obtain ⟨A1, hA, rfl⟩ := Option.map_eq_some_iff.mp h
            exact sndI_rng1 F hg (by simpa using hs) (ih.e X sc _ _ F hA)
          · obtain ⟨hs, h⟩ := guardO_some h
            obtain ⟨A1, hA, h⟩ := Option.bind_eq_some_iff.mp h
            obtain ⟨B1, hB, rfl⟩ := Option.map_eq_some_iff.mp h
            simp only [Bool.and_eq_true, Bool.not_eq_true'] at hs
            exact sndI_rng2 F hg hs.1 hs.2 (ih.e X sc _ _ F hA) (ih.e X sc _ _ F hB)
          · cases h
        · obtain ⟨A1, hA, rfl⟩ := Option.map_eq_some_iff.mp h
          exact sndI_seq (ih.e X sc _ _ F hA)
      · obtain ⟨hs, h⟩ := guardO_some h
        obtain ⟨A1, hA, rfl⟩ := Option.map_eq_some_iff.mp h
        exact sndI_seq (ih.e X sc _ _ F hA)
end PyI
/-! A12: statements. -/
namespace PyI
open PySem L2
def isComp : Expr → Bool
  | .ListComp _ _ _ _ => true
  | .SetComp _ _ _ _ => true
  | .DictComp _ _ _ _ _ => true
  | _ => false
def isTup : Expr → Bool
  | .Tuple _ _ _ => true
  | _ => false
theorem sw_plain {e : Expr} {t : Option Expr} {l : Nat} {env : Env} (h : isComp e = false) : swapsWith e t l env = pure false := by
  cases e <;> first | rfl | (simp [isComp] at h)
theorem sw_sole {e t : Expr} {l : Nat} {env : Env} (h : isComp e = false) : swapsWithSole [t] e l env = pure false := by
  unfold swapsWithSole
  exact sw_plain h
theorem sw_stores {ts : List Expr} {e : Expr} {env : Env} (h : isTup e = false) : swappedStores ts e env = pure none := by
  unfold swappedStores
  split
  · rename_i q
    exfalso
    revert q
    split
    · simp [isTup] at h
    · simp [isTup] at h
    · intro q; cases q
  · rfl
def swB (sc scope : Scope) (x : Str) (px pos : Pos) : Bool := (sc.names.lookup x == some .local) && (px.line == pos.line) && !(scope.names.any fun (n, k) => n == x && (k == .local || k == .cell))
theorem sw_comp {elt : Expr} {gs : List Comprehension} {scope sc : Scope} {x : Str} {px pos : Pos} {l : Nat} {env : Env} (hk : env.scope.kind = .function) (hsc : env.scope = sc) :
    swapsWith (.ListComp elt gs scope pos) (some (.Name x px)) l env = pure (swB sc scope x px pos) := by
  have hb : env.blockKind = .function := by unfold Env.blockKind; rw [hk]; rfl
  unfold swapsWith swB
  subst hsc
  simp only [hb, Expr.pos]
  rfl
/-- what follows of a block's end -/
def OkS (K : PySem.W.Frag) (ct : CTab) (M : AM) (H : Hp) (o : Out) (D : Ends) (W : WX) : Prop := match o with
  | .nx ρ μ => ∀ σ' H' M', Evo M H M' H' → RelH K ct H' μ M' → RelE K H' M' σ' ρ → D.nx σ' H'
  | .br ρ μ => ∀ σ' H' M', Evo M H M' H' → RelH K ct H' μ M' → RelE K H' M' σ' ρ → D.bk σ' H'
  | .ct ρ μ => ∀ σ' H' M', Evo M H M' H' → RelH K ct H' μ M' → RelE K H' M' σ' ρ → D.ct σ' H'
  | .rt d μ => ∀ v H' M', Evo M H M' H' → RelH K ct H' μ M' → Rep K H' M' v d → D.rt v H'
  | .er c fs ρ μ => ∀ cls d σ' H' M', Evo M H M' H' → RelH K ct H' μ M' → RelE K H' M' σ' ρ → ErrRep K ct H' M' c fs cls d → W cls d σ' H'
  | .stuck => False
section
variable {K : PySem.W.Frag} {ct : CTab} {M M1 : AM} {H H1 : Hp} {o : Out} {D D' : Ends} {W : WX} {μ : Mu} {ρ : Rho} {σ : St}
theorem OkS.evo (e : Evo M H M1 H1) (h : OkS K ct M H o D W) : OkS K ct M1 H1 o D W := by
  cases o with
  | nx ρ μ => exact fun σ' H' M' e' => h σ' H' M' (e.trans e')
  | br ρ μ => exact fun σ' H' M' e' => h σ' H' M' (e.trans e')
  | ct ρ μ => exact fun σ' H' M' e' => h σ' H' M' (e.trans e')
  | rt d μ => exact fun v H' M' e' => h v H' M' (e.trans e')
  | er c fs ρ μ => exact fun cls d σ' H' M' e' => h cls d σ' H' M' (e.trans e')
  | stuck => exact h
theorem OkS.step {α β : Type} {R : Hp → AM → β → α → Prop} {r : Res α} {f : α → Mu → Out} {Q : β → Hp → Prop} (h : OkS K ct M H (r.then ρ f) D W) (E : RelE K H M σ ρ)
    (k : ∀ a μ1 v H1 M1, Evo M H M1 H1 → RelH K ct H1 μ1 M1 → R H1 M1 v a → OkS K ct M1 H1 (f a μ1) D W → Q v H1) : Ok K ct R M H r Q (fun c d H' => W c d σ H') := by
  cases r with
  | ok a μ' => exact fun v H' M' e R1 r1 => k a μ' v H' M' e R1 r1 (OkS.evo e h)
  | err c fs μ' => exact fun cls d H' M' e R1 r1 => h cls d σ H' M' e R1 (E.evo e) r1
  | stuck => exact h
theorem OkS.nxt (h : OkS K ct M H (.nx ρ μ) D W) (R : RelH K ct H μ M) (E : RelE K H M σ ρ) : D.nx σ H := h σ H M (Evo.refl M H) R E
/-- another end -/
theorem OkS.seq {f : Rho → Mu → Out} (h : OkS K ct M H (o.next f) D W) (h1 : D'.rt = D.rt) (h2 : D'.bk = D.bk) (h3 : D'.ct = D.ct)
    (k : ∀ ρ μ σ' H' M', Evo M H M' H' → RelH K ct H' μ M' → RelE K H' M' σ' ρ → OkS K ct M' H' (f ρ μ) D W → D'.nx σ' H') : OkS K ct M H o D' W := by
  cases o with
  | nx ρ μ => exact fun σ' H' M' e R E => k ρ μ σ' H' M' e R E (OkS.evo e h)
  | br ρ μ => exact fun σ' H' M' e R E => by rw [h2]; exact h σ' H' M' e R E
  | ct ρ μ => exact fun σ' H' M' e R E => by rw [h3]; exact h σ' H' M' e R E
  | rt d μ => exact fun v H' M' e R r => by rw [h1]; exact h v H' M' e R r
  | er c fs ρ μ => exact h
  | stuck => exact h
end
def wS (τ : Bool) (X : Cx) (st : Stmt) : TS := fun D σ H => ∀ pins s, (τ = true → 1 ≤ s.toks) → Inv X pins σ H s → wpAny (model X.prog X.w) X.A (exec st X.env) (SP X pins D) X.xe s
def wB (τ : Bool) (X : Cx) (st : List Stmt) : TS := fun D σ H => ∀ pins s, (τ = true → 1 ≤ s.toks) → Inv X pins σ H s → wpAny (model X.prog X.w) X.A (execs st X.env) (SP X pins D) X.xe s
section
variable {τ : Bool} {X : Cx} {st : Stmt} {sts : List Stmt} {D : Ends} {σ : St} {H : Hp}
theorem ws {t : TS} (p : PS X st t) (h : t D σ H) : wS τ X st D σ H := fun pins s _ I => p.run pins s σ H D I h
end
structure FrS (X : Cx) (ct : CTab) (tb : Tb) (Γ : G) (N : List Str) (sc : Scope) (loc : List Str) : Prop where
  f : Fr X ct tb Γ N sc
  l : FnLoc X sc loc
  po : PassesOwn (model X.prog X.w) X.A X.env X.xe
  hs : X.stack = X.env :: X.outer
  hf : X.env.frame = some X.env.locals
def SndS (τ : Bool) (X : Cx) (ct : CTab) (Γ : G) (st : Stmt) (A : S) : Prop := ∀ (W : WX) (ρ : Rho) (μ : Mu) (σ : St) (H : Hp) (M : AM) (D : Ends), Takes X W → RelE X.K H M σ ρ → RelH X.K ct H μ M →
  OkS X.K ct M H (runS Γ A ρ μ) D W → wS τ X st D σ H
def SndBk (τ : Bool) (X : Cx) (ct : CTab) (Γ : G) (st : List Stmt) (A : B) : Prop := ∀ (W : WX) (ρ : Rho) (μ : Mu) (σ : St) (H : Hp) (M : AM) (D : Ends), Takes X W → RelE X.K H M σ ρ → RelH X.K ct H μ M →
  OkS X.K ct M H (runB Γ A ρ μ) D W → wB τ X st D σ H
section
variable {τ : Bool} {X : Cx} {ct : CTab} {Γ : G} {N loc : List Str} {sc : Scope} {tb : Tb} {e a b o i v tg : Expr} {A B' C' : E} {t : T} {pos px : Pos} {x : Str} {k : Nat} {st : Stmt} {sts body : List Stmt} {SA : S} {BA BB : B}
theorem sndS_bad : SndS τ X ct Γ st .bad := by
  intro W ρ μ σ H M D tk E R h
  unfold runS at h
  exact h.elim
/-- x = e -/
theorem sndS_set (F : FrS X ct tb Γ N sc loc) (hx : x ∈ loc) (hi : N[k]? = some x) (hc : isComp e = false) (he : Snd X ct Γ e A) : SndS τ X ct Γ (.Assign [.Name x px] e pos) (.set (.nm k) A) := by
  intro W ρ μ σ H M D tk E R h
  unfold runS at h
  refine ws (ps_set (by rw [F.f.hN]; exact F.f.nd) (by rw [F.f.hN]; exact hi) (by rw [F.f.hsc]; exact (F.l x hx).1) pE (sw_plain hc) (by rw [F.f.hsc]; exact (F.l x hx).2)) ?_
  refine he W ρ μ σ H M _ tk E R (h.step E fun d μ1 v H1 M1 e1 R1 r1 h1 => ?_)
  exact h1.nxt R1 ((E.evo e1).set r1 k)
/-- a, b = e -/
theorem sndS_tup {es : List Expr} {kk : Nat} {l : List Nat} (F : FrS X ct tb Γ N sc loc) (hl : resNames N loc es = some l) (hc : isComp e = false) (ht : isTup e = false) (he : Snd X ct Γ e A) : SndS τ X ct Γ (.Assign [.Tuple es kk px] e pos) (.set (.tp l) A) := by
  intro W ρ μ σ H M D tk E R h
  unfold runS at h
  have pg : PG X (.Tuple es kk px) (gOf X.K (.tp l)) := tg_ok F.f F.l (by show Option.map Tg.tp (resNames N loc es) = _; rw [hl]; rfl)
  refine ws (ps_asg pE pg (sw_sole hc) (sw_stores ht)) ?_
  refine he W ρ μ σ H M _ tk E R (h.step E fun d μ1 v H1 M1 e1 R1 r1 h1 => ?_)
  split at h1
  · rename_i ρ' ha
    exact assign_ok r1 (E.evo e1) ha fun σ' E' _ => h1.nxt R1 E'
  · exact h1.elim
/-- o[i] = v -/
theorem sndS_setIx (F : FrS X ct tb Γ N sc loc) (hs : isSlc i = false) (hc : isComp v = false) (hv : Snd X ct Γ v C') (ho : Snd X ct Γ o A) (hi : Snd X ct Γ i B') : SndS τ X ct Γ (.Assign [.Subscript o i px] v pos) (.setIx A B' C') := by
  intro W ρ μ σ H M D tk E R h
  unfold runS at h
  have pg : PG X (.Subscript o i px) (gSub (wE X o) (wE X i) rSetL) := pg_sub pE pE set_list (fun v => by cases i <;> first | rfl | skip; rename_i s _; cases s <;> first | rfl | (simp [isSlc] at hs))
  have hw : swappedStores [.Subscript o i px] v X.env = pure none := by
    unfold swappedStores
    split
    · rename_i q; simp at q
    · rfl
  refine ws (ps_asg pE pg (sw_sole hc) hw) ?_
  refine hv W ρ μ σ H M _ tk E R (h.step E fun d μ1 vv H1 M1 e1 R1 r1 h1 => ?_)
  have E1 := E.evo e1
  refine ho W ρ μ1 σ H1 M1 _ tk E1 R1 (h1.step E1 fun d2 μ2 ov H2 M2 e2 R2 r2 h2 => ?_)
  have E2 := E1.evo e2
  refine hi W ρ μ2 σ H2 M2 _ tk E2 R2 (h2.step E2 fun d3 μ3 iv H3 M3 e3 R3 r3 h3 => ?_)
  have E3 := E2.evo e3
  unfold setIxD at h3
  split at h3
  · rename_i n kk
    cases r3
    split at h3
    · rename_i l hl
      split at h3
      · rename_i j hj
        have r2' := r2.evo e3
        cases r2' with
        | ref ha =>
          obtain ⟨xs, hh, rx⟩ := R3.lst hl ha
          have em : Evo M3 H3 M3 (upd H3 _ (.lst (xs.set j vv))) := Evo.mut (List.mem_of_getElem? ha)
          refine ⟨_, xs, _, j, rfl, rfl, hh, by rw [rx.length]; exact hj, ?_⟩
          have r1' := (r1.evo e2).evo e3
          exact (h3 : OkS X.K ct M3 H3 (.nx ρ _) D W) σ _ M3 em (R3.mut ha ⟨_, upd_same, Reps.set (r1'.evo em) j (rx.evo em)⟩) (E3.evo em)
      · exact (h3 : False).elim
    · exact (h3 : False).elim
  · exact (h3 : False).elim
theorem sndS_expr (hc : isComp e = false) (he : Snd X ct Γ e A) : SndS τ X ct Γ (.Expr e pos) (.expr A) := by
  intro W ρ μ σ H M D tk E R h
  unfold runS at h
  refine ws (ps_expr pE (sw_plain hc)) ?_
  refine he W ρ μ σ H M _ tk E R (h.step E fun d μ1 v H1 M1 e1 R1 r1 h1 => ?_)
  exact h1.nxt R1 (E.evo e1)
theorem sndS_ret (he : Snd X ct Γ e A) : SndS τ X ct Γ (.Return (some e) pos) (.ret A) := by
  intro W ρ μ σ H M D tk E R h
  unfold runS at h
  refine ws (ps_ret pE) ?_
  refine he W ρ μ σ H M _ tk E R (h.step E fun d μ1 v H1 M1 e1 R1 r1 h1 => ?_)
  exact h1 v H1 M1 (Evo.refl _ _) R1 r1
theorem sndS_retN : SndS τ X ct Γ (.Return none pos) .retN := by
  intro W ρ μ σ H M D tk E R h
  unfold runS at h
  exact ws ps_retN (h .non H M (Evo.refl _ _) R .non)
theorem sndS_pass : SndS τ X ct Γ (.Pass pos) .pass := by
  intro W ρ μ σ H M D tk E R h
  unfold runS at h
  exact ws ps_pass (h.nxt R E)
theorem sndS_brk : SndS τ X ct Γ (.Break pos) .brk := by
  intro W ρ μ σ H M D tk E R h
  unfold runS at h
  exact ws ps_break (h σ H M (Evo.refl _ _) R E)
theorem sndS_cnt : SndS τ X ct Γ (.Continue pos) .cnt := by
  intro W ρ μ σ H M D tk E R h
  unfold runS at h
  exact ws ps_continue (h σ H M (Evo.refl _ _) R E)
/-- x += e -/
theorem sndS_aug {op : Operator} {bo : Bop} (F : FrS X ct tb Γ N sc loc) (hx : x ∈ loc) (hi : N[k]? = some x) (hb : (op = .Add ∧ bo = .add) ∨ (op = .Sub ∧ bo = .sub)) (he : Snd X ct Γ e A) : SndS τ X ct Γ (.AugAssign (.Name x px) op e pos) (.aug k bo A) := by
  intro W ρ μ σ H M En tk E R h
  unfold runS at h
  split at h
  · rename_i z hz
    obtain ⟨vz, h1, r⟩ := E.at_ k _ hz
    cases r
    rcases hb with ⟨rfl, rfl⟩ | ⟨rfl, rfl⟩
    · refine ws (ps_aug (by rw [F.f.hN]; exact F.f.nd) (by rw [F.f.hN]; exact hi) (by rw [F.f.hsc]; exact (F.l x hx).1) pE ip_add (by rw [F.f.hsc]; exact (F.l x hx).2)) ?_
      refine ⟨_, h1, ?_⟩
      refine he W ρ μ σ H M _ tk E R (h.step E fun d μ1 v H1 M1 e1 R1 r1 h1 => ?_)
      cases r1 with
      | int j => exact ⟨z, j, rfl, rfl, OkS.nxt (μ := μ1) h1 R1 ((E.evo e1).set (.int _) k)⟩
      | _ => exact (h1 : False).elim
    · refine ws (ps_aug (by rw [F.f.hN]; exact F.f.nd) (by rw [F.f.hN]; exact hi) (by rw [F.f.hsc]; exact (F.l x hx).1) pE ip_sub (by rw [F.f.hsc]; exact (F.l x hx).2)) ?_
      refine ⟨_, h1, ?_⟩
      refine he W ρ μ σ H M _ tk E R (h.step E fun d μ1 v H1 M1 e1 R1 r1 h1 => ?_)
      cases r1 with
      | int j => exact ⟨z, j, rfl, rfl, OkS.nxt (μ := μ1) h1 R1 ((E.evo e1).set (.int _) k)⟩
      | _ => exact (h1 : False).elim
  · exact h.elim
end
end PyI
/-! A13: statements: new lists, replace, blocks, loops. -/
namespace PyI
open PySem L2
section
variable {τ : Bool} {X : Cx} {ct : CTab} {Γ : G} {N loc : List Str} {sc scope : Scope} {tb : Tb} {e a b o i v tg elt iter c : Expr} {es ifs : List Expr} {A B' C' : E} {As : Es} {t : T} {pos px : Pos} {x : Str} {k : Nat} {st : Stmt} {sts body : List Stmt} {SA : S} {BA BB : B}
/-- x = [e for ..] -/
theorem sndS_setC {tt : Tg} {it : IT} {c : T} (F : FrS X ct tb Γ N sc loc) (hx : x ∈ loc) (hi : N[k]? = some x) (ok : BlkOk N sc scope (ownOf N scope)) (hset : isSet iter = false) (ht : resTg N ((ownOf N scope).map Prod.fst) tg = some tt) (hsl : ∀ i ∈ slotsOf tt, i ∈ (ownOf N scope).map Prod.snd)
    (hI : SndI X ct Γ tg iter it) (hc : SndTB X ct Γ scope ifs c) (he : SndB X ct Γ scope elt A) : SndS τ X ct Γ (.Assign [.Name x px] (.ListComp elt [⟨tg, iter, ifs, 0⟩] scope pos) pos') (.set (.nm k) (.comp ((ownOf N scope).map Prod.snd) tt it c A)) := by
  intro W ρ μ σ H M D tk E R h
  unfold runS at h
  have okX : BlkOk X.N X.env.scope scope (ownOf N scope) := by rw [F.f.hN, F.f.hsc]; exact ok
  have core : tLc (wI X tg iter) (gOf X.K tt) (wTB X scope ifs) (wEB X scope elt) ((ownOf N scope).map (·.2)) σ H (fun x H1 => D.nx (σ.set k (some x)) H1) := by
    refine comp_core F.f ok hset ht hsl hI hc he tk E R (Ok.toN R (fun d μ' q => comp_lst q) (h.step E fun d μ1 v H1 M1 e1 R1 r1 h1 => ?_))
    exact h1.nxt R1 ((E.evo e1).set r1 k)
  cases hsw : swB sc scope x px pos with
  | true =>
    have hl : sc.names.lookup x = some .local := by
      unfold swB at hsw
      simp only [Bool.and_eq_true, beq_iff_eq] at hsw
      exact hsw.1.1
    refine ws (ps_setLc (g := gOf X.K tt) (te := wEB X scope elt) (tt := wTB X scope ifs) (wi := wI X tg iter) F.f.calm (by rw [F.f.hN]; exact F.f.nd) (by rw [F.f.hN]; exact hi) (by rw [F.f.hsc]; exact hl) (by rw [sw_comp (by rw [F.f.hsc]; exact F.f.kindF) F.f.hsc, hsw]) pI okX (fun s H C cl fp => tg_ok (F.f.blk ok s H C cl fp) (own_loc ok s H C cl fp) ht) (comp_pts hc) (fun s H C cl fp => ⟨fun pins s' σ H' Q' I q => q s H C cl fp pins s' I⟩) (set_iter hset)) core
  | false =>
    refine ws (ps_set (by rw [F.f.hN]; exact F.f.nd) (by rw [F.f.hN]; exact hi) (by rw [F.f.hsc]; exact (F.l x hx).1)
      (pe_lc (te := wEB X scope elt) (tt := wTB X scope ifs) (g := gOf X.K tt) (wi := wI X tg iter) F.f.calm (by rw [F.f.hN]; exact F.f.nd) pI okX (fun s H C cl fp => tg_ok (F.f.blk ok s H C cl fp) (own_loc ok s H C cl fp) ht) (comp_pts hc) (fun s H C cl fp => ⟨fun pins s' σ H' Q' I q => q s H C cl fp pins s' I⟩) (set_iter hset))
      (by rw [sw_comp (by rw [F.f.hsc]; exact F.f.kindF) F.f.hsc, hsw]) (by rw [F.f.hsc]; exact (F.l x hx).2)) core
/-- what becomes ours -/
theorem takeNew {W : WX} {ρ : Rho} {μ : Mu} {σ : St} {H : Hp} {M : AM} {D : Ends} {r : Res PyI.D} (E : RelE X.K H M σ ρ) (R : RelH X.K ct H μ M)
    (h : OkS X.K ct M H (r.then ρ fun d μ => match d with
      | .lst l => .nx (ρ.set k (some (.ref μ.length))) (μ ++ [.lst l])
      | _ => .stuck) D W) : OkN X.K ct M H r (fun x H1 => D.nx (σ.set k (some x)) H1) (fun c d H' => W c d σ H') := by
  cases r with
  | stuck => exact h
  | err c fs μ' => exact fun cls d H' M' e R1 r1 => h cls d σ H' M' e R1 (E.evo e) r1
  | ok d μ2 =>
    cases d with
    | lst acc =>
      intro p H2 M2 accv hp e2 R2 hp2 ra
      have hpe : p ∉ M2.ex := by rw [e2.ex]; exact (R.fresh hp).2
      have rm : MRep X.K ct H2 (M2.add p) p (.lst acc) := ⟨accv, hp2, ra.stay Stay.take⟩
      have R3 := R2.takeIn hpe rm
      have ea : Evo M H (M2.add p) H2 := ⟨fun n a q => ix_add (e2.pre n a q), by show _ ≤ (M2.ix ++ [p]).length; rw [List.length_append]; exact Nat.le_add_right_of_le e2.len, e2.ex, fun a u hh n => ⟨(e2.keep a u hh n).1, by
        show a ∉ M2.ix ++ [p]
        rw [List.mem_append, List.mem_singleton]
        rintro (q | q)
        · exact (e2.keep a u hh n).2 q
        · exact ne_of_none hh hp q⟩⟩
      have hl : M2.ix.length = μ2.length := R2.len
      exact h _ H2 (M2.add p) ea R3 ((E.evo ea).set (.ref (by show (M2.ix ++ [p])[μ2.length]? = some p; rw [← hl, List.getElem?_append_right (Nat.le_refl _), Nat.sub_self]; rfl)) k)
    | _ => exact (h : False).elim
/-- x = [e, ..], to be ours -/
theorem sndS_newL (F : FrS X ct tb Γ N sc loc) (hx : x ∈ loc) (hi : N[k]? = some x) (ha : SndA X ct Γ es As) : SndS τ X ct Γ (.Assign [.Name x px] (.List es pos) pos') (.new k (.lst As)) := by
  intro W ρ μ σ H M D tk E R h
  unfold runS at h
  have hN := takeNew E R h
  refine ws (ps_set (by rw [F.f.hN]; exact F.f.nd) (by rw [F.f.hN]; exact hi) (by rw [F.f.hsc]; exact (F.l x hx).1) (pe_lst pA) (sw_plain rfl) (by rw [F.f.hsc]; exact (F.l x hx).2)) ?_
  unfold evalE at hN
  refine ha W ρ μ σ H M _ tk E R ?_
  cases hA : evalEs Γ As ρ μ with
  | stuck => rw [hA] at hN; exact hN.elim
  | err c fs μ' => rw [hA] at hN; exact hN
  | ok ds μ1 =>
    rw [hA] at hN
    intro vs H1 M1 e1 R1 r1
    have hn : OkN X.K ct M H (needs (ds.length ≤ 16777216) (.ok (.lst ds) μ1)) (fun x H1 => D.nx (σ.set k (some x)) H1) (fun c d H' => W c d σ H') := hN
    unfold needs at hn
    by_cases hz : ds.length ≤ 16777216
    · rw [if_pos hz] at hn
      refine ⟨sl16 (by rw [r1.length]; exact hz), fun p hp => ?_⟩
      exact hn p (upd H1 p (.lst vs)) M1 vs (e1.back R R1 hp) (e1.newEx (e1.back R R1 hp)) (R1.hide hp) upd_same (r1.stay ((Stay.hide hp).trans (Evo.new hp).stay))
    · rw [if_neg hz] at hn; exact (hn : False).elim
theorem sndS_newC {tt : Tg} {it : IT} {c : T} (F : FrS X ct tb Γ N sc loc) (hx : x ∈ loc) (hi : N[k]? = some x) (ok : BlkOk N sc scope (ownOf N scope)) (hset : isSet iter = false) (ht : resTg N ((ownOf N scope).map Prod.fst) tg = some tt) (hsl : ∀ i ∈ slotsOf tt, i ∈ (ownOf N scope).map Prod.snd)
    (hI : SndI X ct Γ tg iter it) (hc : SndTB X ct Γ scope ifs c) (he : SndB X ct Γ scope elt A) : SndS τ X ct Γ (.Assign [.Name x px] (.ListComp elt [⟨tg, iter, ifs, 0⟩] scope pos) pos') (.new k (.comp ((ownOf N scope).map Prod.snd) tt it c A)) := by
  intro W ρ μ σ H M D tk E R h
  unfold runS at h
  have okX : BlkOk X.N X.env.scope scope (ownOf N scope) := by rw [F.f.hN, F.f.hsc]; exact ok
  have core : tLc (wI X tg iter) (gOf X.K tt) (wTB X scope ifs) (wEB X scope elt) ((ownOf N scope).map (·.2)) σ H (fun x H1 => D.nx (σ.set k (some x)) H1) := comp_core F.f ok hset ht hsl hI hc he tk E R (takeNew E R h)
  cases hsw : swB sc scope x px pos with
  | true =>
    have hl : sc.names.lookup x = some .local := by
      unfold swB at hsw
      simp only [Bool.and_eq_true, beq_iff_eq] at hsw
      exact hsw.1.1
    refine ws (ps_setLc (g := gOf X.K tt) (te := wEB X scope elt) (tt := wTB X scope ifs) (wi := wI X tg iter) F.f.calm (by rw [F.f.hN]; exact F.f.nd) (by rw [F.f.hN]; exact hi) (by rw [F.f.hsc]; exact hl) (by rw [sw_comp (by rw [F.f.hsc]; exact F.f.kindF) F.f.hsc, hsw]) pI okX (fun s H C cl fp => tg_ok (F.f.blk ok s H C cl fp) (own_loc ok s H C cl fp) ht) (comp_pts hc) (fun s H C cl fp => ⟨fun pins s' σ H' Q' I q => q s H C cl fp pins s' I⟩) (set_iter hset)) core
  | false =>
    refine ws (ps_set (by rw [F.f.hN]; exact F.f.nd) (by rw [F.f.hN]; exact hi) (by rw [F.f.hsc]; exact (F.l x hx).1)
      (pe_lc (te := wEB X scope elt) (tt := wTB X scope ifs) (g := gOf X.K tt) (wi := wI X tg iter) F.f.calm (by rw [F.f.hN]; exact F.f.nd) pI okX (fun s H C cl fp => tg_ok (F.f.blk ok s H C cl fp) (own_loc ok s H C cl fp) ht) (comp_pts hc) (fun s H C cl fp => ⟨fun pins s' σ H' Q' I q => q s H C cl fp pins s' I⟩) (set_iter hset))
      (by rw [sw_comp (by rw [F.f.hsc]; exact F.f.kindF) F.f.hsc, hsw]) (by rw [F.f.hsc]; exact (F.l x hx).2)) core

/-- e makes a new list -/
def SndN (X : Cx) (ct : CTab) (Γ : G) (e : Expr) (A : E) : Prop := ∀ (W : WX) (ρ : Rho) (μ : Mu) (σ : St) (H : Hp) (M : AM) (Q : VK), Takes X W → RelE X.K H M σ ρ → RelH X.K ct H μ M →
  OkN X.K ct M H (evalE Γ A ρ μ) Q (fun c d H' => W c d σ H') → wE X e σ H Q
theorem OkN.step {α β : Type} {K : PySem.W.Frag} {R' : Hp → AM → β → α → Prop} {M : AM} {H : Hp} {μ : Mu} {r : Res α} {f : α → Mu → Res PyI.D} {Q : VK} {Q1 : β → Hp → Prop} {W : XK} (R : RelH K ct H μ M) (h : OkN K ct M H (r.bind f) Q W)
    (k : ∀ a μ1 v H1 M1, Evo M H M1 H1 → RelH K ct H1 μ1 M1 → R' H1 M1 v a → OkN K ct M1 H1 (f a μ1) Q W → Q1 v H1) : Ok K ct R' M H r Q1 W := by
  cases r with
  | ok a μ' => exact fun v H' M' e R1 r1 => k a μ' v H' M' e R1 r1 (OkN.evo e R R1 h)
  | err c fs μ' => exact h
  | stuck => exact h
theorem sndN_lst (ha : SndA X ct Γ es As) : SndN X ct Γ (.List es pos) (.lst As) := by
  intro W ρ μ σ H M Q tk E R h
  unfold evalE at h
  refine we (pe_lst pA) ?_
  refine ha W ρ μ σ H M _ tk E R (OkN.step R h fun ds μ1 vs H1 M1 e1 R1 r1 h1 => ?_)
  unfold needs at h1
  by_cases hz : ds.length ≤ 16777216
  · rw [if_pos hz] at h1
    exact ⟨sl16 (by rw [r1.length]; exact hz), fun p hp => h1 p (upd H1 p (.lst vs)) M1 vs hp (Evo.new hp) (R1.hide hp) upd_same (r1.stay ((Stay.hide hp).trans (Evo.new hp).stay))⟩
  · rw [if_neg hz] at h1; exact (h1 : False).elim
theorem sndN_ite {c a b : Expr} {t : T} {A B : E} (hc : SndT X ct Γ c t) (ha : SndN X ct Γ a A) (hb : SndN X ct Γ b B) : SndN X ct Γ (.IfExp c a b pos) (.ite t A B) := by
  intro W ρ μ σ H M Q tk E R h
  unfold evalE at h
  refine we (pe_ifExp pT pE pE) ?_
  refine hc W ρ μ σ H M _ tk E R (OkN.step R h fun k μ1 v H1 M1 e1 R1 r1 h1 => ?_)
  cases r1
  cases k with
  | true => exact ha W ρ μ1 σ H1 M1 _ tk (E.evo e1) R1 h1
  | false => exact hb W ρ μ1 σ H1 M1 _ tk (E.evo e1) R1 h1
theorem addN_ok {H : Hp} {M : AM} {μ : Mu} {x y : V} {d d' : PyI.D} {Q : VK} {W : XK} (R : RelH X.K ct H μ M) (rx : Rep X.K H M x d) (ry : Rep X.K H M y d') (h : OkN X.K ct M H (binD .add d d' μ) Q W) : wO X (binaryOp .Add) x y H Q := by
  have go : ∀ {i j : List PyI.D}, lstD μ d = some i → lstD μ d' = some j → OkN X.K ct M H (needs (i.length + j.length ≤ 16777216) (.ok (.lst (i ++ j)) μ)) Q W → wO X (binaryOp .Add) x y H Q := by
    intro i j e1 e2 h
    obtain ⟨a, xs, rfl, hs, rs⟩ := lst_of R rx e1
    obtain ⟨b, ys, rfl, ht, rt⟩ := lst_of R ry e2
    unfold needs at h
    by_cases hz : i.length + j.length ≤ 16777216
    · rw [if_pos hz] at h
      have rr := rs.append rt
      refine wo op_catL ⟨_, _, _, _, rfl, rfl, hs, ht, ?_, fun p hp => h p (upd H p (.lst (xs ++ ys))) M (xs ++ ys) hp (Evo.new hp) (R.hide hp) upd_same (rr.stay ((Stay.hide hp).trans (Evo.new hp).stay))⟩
      rw [rs.length, rt.length]; exact sl16 hz
    · rw [if_neg hz] at h; exact (h : False).elim
  unfold binD at h
  split at h <;> first
    | (rename_i q; cases q; done)
    | exact (h : False).elim
    | (unfold needs at h; split at h <;> exact (h : False).elim)
    | skip
  split at h
  · rename_i e1 e2; exact go e1 e2 h
  · exact (h : False).elim
theorem sndN_add {a b : Expr} {A B : E} (ha : Snd X ct Γ a A) (hb : Snd X ct Γ b B) : SndN X ct Γ (.BinOp a .Add b pos) (.bin .add A B) := by
  intro W ρ μ σ H M Q tk E R h
  unfold evalE at h
  refine we (pe_op pO pE pE) ?_
  refine ha W ρ μ σ H M _ tk E R (OkN.step R h fun d μ1 v H1 M1 e1 R1 r1 h1 => ?_)
  refine hb W ρ μ1 σ H1 M1 _ tk (E.evo e1) R1 (OkN.step R1 h1 fun d2 μ2 u H2 M2 e2 R2 r2 h2 => ?_)
  exact addN_ok R2 (r1.evo e2) r2 h2
/-- x = e, to be ours -/
theorem sndS_newN {e : Expr} {A : E} (F : FrS X ct tb Γ N sc loc) (hx : x ∈ loc) (hi : N[k]? = some x) (hc : isComp e = false) (ha : SndN X ct Γ e A) : SndS τ X ct Γ (.Assign [.Name x px] e pos') (.new k A) := by
  intro W ρ μ σ H M D tk E R h
  unfold runS at h
  have hN := takeNew E R h
  exact ws (ps_set (by rw [F.f.hN]; exact F.f.nd) (by rw [F.f.hN]; exact hi) (by rw [F.f.hsc]; exact (F.l x hx).1) pE (sw_plain hc) (by rw [F.f.hsc]; exact (F.l x hx).2)) (ha W ρ μ σ H M _ tk E R hN)

/-! ### replace -/
def SndR (X : Cx) (ct : CTab) (Γ : G) (e : Expr) (A : R) : Prop := ∀ (W : WX) (ρ : Rho) (μ : Mu) (σ : St) (H : Hp) (M : AM) (Q : VK), Takes X W → RelE X.K H M σ ρ → RelH X.K ct H μ M →
  Ok X.K ct (RD X.K) M H (evalR Γ A ρ μ) Q (fun c d H' => W c d σ H') → ∀ pins s, 1 ≤ s.toks → Inv X pins σ H s → wpAny (model X.prog X.w) X.A (eval e X.env) (EP X pins σ Q) X.xe s
theorem sndR_base (h : Snd X ct Γ e A) : SndR X ct Γ e (.base A) := fun W ρ μ σ H M Q tk E R k pins s _ I => h W ρ μ σ H M Q tk E R k pins s I
theorem sndR_repl {RA : PyI.R} {y z : Str} {j1 j2 : Nat} {c0 c1 apos : Pos} (h : SndR X ct Γ o RA) (hyz : (y == z) = false) (hp : plainO o = true) (hl : (apos.endLine == pos.line) = true) : SndR X ct Γ (.Call (.Attribute o "replace" apos) [.Constant (.str y) j1 c0, .Constant (.str z) j2 c1] [] pos) (.repl RA y z) := by
  intro W ρ μ σ H M Q tk E R k pins s h0 I
  let to : TE := fun σ H Q => ∀ pins s, 1 ≤ s.toks → Inv X pins σ H s → wpAny (model X.prog X.w) X.A (eval o X.env) (EP X pins σ Q) X.xe s
  have hto : PET X o to := fun pins s σ H Q h0 I q => q pins s h0 I
  refine CwR.pet_replT (to := to) hto hyz rfl (base_plain hp) hl pins s σ H Q h0 I ?_
  unfold evalR at k
  refine h W ρ μ σ H M _ tk E R (k.step fun d μ1 v H1 M1 e1 R1 r1 h1 => ?_)
  unfold replD at h1
  split at h1
  · cases r1
    obtain ⟨hz, h1⟩ := h1.needs
    exact ⟨_, rfl, hz, h1.ret R1 (.str _)⟩
  · exact h1.elim
theorem sndS_setR {RA : PyI.R} (F : FrS X ct tb Γ N sc loc) (hx : x ∈ loc) (hi : N[k]? = some x) (hc : isComp e = false) (he : SndR X ct Γ e RA) : SndS true X ct Γ (.Assign [.Name x px] e pos) (.setR k RA) := by
  intro W ρ μ σ H M D tk E R h
  unfold runS at h
  intro pins s h0 I
  refine wpAny_Assign_Name (thn (he W ρ μ σ H M (fun v H1 => D.nx (σ.set k (some v)) H1) tk E R (h.step E fun d μ1 v H1 M1 e1 R1 r1 h1 => h1.nxt R1 ((E.evo e1).set r1 k)) pins s (h0 rfl) I) fun v s1 ⟨y, H1, I1, r1, q1⟩ => ?_) (sw_plain hc)
  exact store_ok I1 (by rw [F.f.hN]; exact F.f.nd) (by rw [F.f.hN]; exact hi) (by rw [F.f.hsc]; exact (F.l x hx).1) r1 (fun s2 I2 => ⟨_, H1, I2, q1⟩) (by rw [F.f.hsc]; exact (F.l x hx).2)
/-- return 'pre' + e.replace(..).. + 'post' -/
theorem sndS_retR {RA : PyI.R} {pre post : Str} {j1 j2 : Nat} {p1 p2 p3 p4 : Pos} (he : SndR X ct Γ e RA) : SndS true X ct Γ (.Return (some (.BinOp (.BinOp (.Constant (.str pre) j1 p1) .Add e p2) .Add (.Constant (.str post) j2 p3) p4)) pos) (.retR pre RA post) := by
  intro W ρ μ σ H M D tk E R h
  unfold runS at h
  let to : TE := fun σ H Q => ∀ pins s, 1 ≤ s.toks → Inv X pins σ H s → wpAny (model X.prog X.w) X.A (eval e X.env) (EP X pins σ Q) X.xe s
  have hto : PET X e to := fun pins s σ H Q h0 I q => q pins s h0 I
  intro pins s h0 I
  refine CwR.pst_ret (CwR.pet_op op_add_str (CwR.pet_op op_add_str (CwR.PET.of pe_str) hto) (CwR.PET.of pe_str)) pins s σ H D (h0 rfl) I ?_
  show to σ H _
  refine he W ρ μ σ H M _ tk E R (h.step E fun d μ1 v H1 M1 e1 R1 r1 h1 => ?_)
  cases r1 with
  | str z =>
    unfold binD at h1
    simp only at h1
    have h2 : OkS X.K ct M1 H1 ((needs (pre.length + z.length ≤ 16777216) (Res.ok (PyI.D.str (pre ++ z)) μ1) |>.bind fun y μ => binD .add y (.str post) μ).then ρ fun d μ => .rt d μ) D W := h1
    unfold needs at h2
    by_cases hz : pre.length + z.length ≤ 16777216
    · rw [if_pos hz] at h2
      have h3 : OkS X.K ct M1 H1 ((needs ((pre ++ z).length + post.length ≤ 16777216) (Res.ok (PyI.D.str ((pre ++ z) ++ post)) μ1)).then ρ fun d μ => .rt d μ) D W := h2
      unfold needs at h3
      by_cases hz2 : (pre ++ z).length + post.length ≤ 16777216
      · rw [if_pos hz2] at h3
        refine ⟨pre, z, rfl, rfl, sl16 hz, pre ++ z, post, rfl, rfl, sl16 hz2, ?_⟩
        exact (h3 : OkS X.K ct M1 H1 (.rt _ μ1) D W) _ H1 M1 (Evo.refl _ _) R1 (.str _)
      · rw [if_neg hz2] at h3; exact (h3 : False).elim
    · rw [if_neg hz] at h2; exact (h2 : False).elim
  | _ => exact (h1 : False).elim
/-! ### blocks, loops -/
theorem sndB_nil : SndBk τ X ct Γ [] .nil := by
  intro W ρ μ σ H M D tk E R h
  unfold runB at h
  exact fun pins s _ I => pss_nil.run pins s σ H D I (h.nxt R E)
theorem sndB_cons (h1 : SndS τ X ct Γ st SA) (h2 : SndBk τ X ct Γ sts BA) : SndBk τ X ct Γ (st :: sts) (.cons SA BA) := by
  intro W ρ μ σ H M D tk E R h
  unfold runB at h
  intro pins s h0 I
  have key := h1 W ρ μ σ H M { D with nx := wB τ X sts D } tk E R (h.seq rfl rfl rfl fun ρ' μ' σ' H' M' e' R' E' k => h2 W ρ' μ' σ' H' M' D tk E' R' k) pins s h0 I
  refine wpAny_execs_cons (wpAny_mono (PySem.wpAny_toks key) (fun f s1 q => ?_) fun _ _ x => x.2)
  obtain ⟨hk, q⟩ := q
  cases f with
  | next =>
    obtain ⟨σ', H', I', q⟩ := q
    exact q pins s1 (fun t => Nat.le_trans (h0 t) hk) I'
  | ret v => exact q
  | brk => exact q
  | cont => exact q
theorem sndS_if (hc : SndT X ct Γ c t) (ha : SndBk τ X ct Γ sts BA) (hb : SndBk τ X ct Γ body BB) : SndS τ X ct Γ (.If c sts body pos) (.ifs t BA BB) := by
  intro W ρ μ σ H M D tk E R h
  unfold runS at h
  intro pins s h0 I
  have key := hc W ρ μ σ H M (fun k H1 => if k = true then wB τ X sts D σ H1 else wB τ X body D σ H1) tk E R (h.step E fun k μ1 v H1 M1 e1 R1 r1 h1 => by
    cases r1
    cases k with
    | true => exact ha W ρ μ1 σ H1 M1 D tk (E.evo e1) R1 h1
    | false => exact hb W ρ μ1 σ H1 M1 D tk (E.evo e1) R1 h1) pins s I
  refine wpAny_If (wpAny_mono (PySem.wpAny_toks key) (fun d s1 q => ?_) fun _ _ x => x.2)
  obtain ⟨hk, H1, I1, q⟩ := q
  cases d with
  | true => exact q pins s1 (fun t => Nat.le_trans (h0 t) hk) I1
  | false => exact q pins s1 (fun t => Nat.le_trans (h0 t) hk) I1
theorem sndS_while (F : FrS X ct tb Γ N sc loc) (hc : SndT X ct Γ c t) (hb : SndBk τ X ct Γ body BA) : SndS τ X ct Γ (.While c body [] pos) (.whl t BA) := by
  intro W ρ μ σ H M D tk E R h
  unfold runS at h
  intro pins s h0 I
  refine wpAny_While (codeAny_whileLoop (fun n s' => (τ = true → 1 ≤ s'.toks) ∧ ∃ (ρ' : Rho) (μ' : Mu) (σ' : St) (H' : Hp) (M' : AM), Inv X pins σ' H' s' ∧ RelE X.K H' M' σ' ρ' ∧ RelH X.K ct H' μ' M' ∧ OkS X.K ct M' H' (whileLoop (fun ρ μ => evalT Γ t ρ μ) (fun ρ μ => runB Γ BA ρ μ) n ρ' μ') D W) ?_ Γ.wf ⟨h0, ρ, μ, σ, H, M, I, E, R, h⟩)
  rintro n s1 ⟨h01, ρ1, μ1, σ1, H1, M1, I1, E1, R1, k1⟩
  cases n with
  | zero => exact (k1 : False).elim
  | succ n =>
    unfold whileLoop at k1
    have key := hc W ρ1 μ1 σ1 H1 M1 (fun k H2 => if k = true then wB τ X body { D with nx := fun σ' H' => ∃ ρ' μ' M', RelE X.K H' M' σ' ρ' ∧ RelH X.K ct H' μ' M' ∧ OkS X.K ct M' H' (whileLoop (fun ρ μ => evalT Γ t ρ μ) (fun ρ μ => runB Γ BA ρ μ) n ρ' μ') D W, ct := fun σ' H' => ∃ ρ' μ' M', RelE X.K H' M' σ' ρ' ∧ RelH X.K ct H' μ' M' ∧ OkS X.K ct M' H' (whileLoop (fun ρ μ => evalT Γ t ρ μ) (fun ρ μ => runB Γ BA ρ μ) n ρ' μ') D W, bk := D.nx } σ1 H2 else D.nx σ1 H2) tk E1 R1 (k1.step E1 fun k μ2 v H2 M2 e2 R2 r2 k2 => by
      cases r2
      cases k with
      | false => exact k2.nxt R2 (E1.evo e2)
      | true =>
        simp only [if_true] at k2 ⊢
        refine hb W ρ1 μ2 σ1 H2 M2 _ tk (E1.evo e2) R2 ?_
        cases hr : runB Γ BA ρ1 μ2 with
        | nx ρ' μ' => rw [hr] at k2; exact fun σ' H' M' e' R' E' => ⟨ρ', μ', M', E', R', OkS.evo e' k2⟩
        | ct ρ' μ' => rw [hr] at k2; exact fun σ' H' M' e' R' E' => ⟨ρ', μ', M', E', R', OkS.evo e' k2⟩
        | br ρ' μ' => rw [hr] at k2; exact k2
        | rt d μ' => rw [hr] at k2; exact k2
        | er c fs ρ' μ' => rw [hr] at k2; exact k2
        | stuck => rw [hr] at k2; exact k2) pins s1 I1
    refine wpAny_passesOwn F.po (wpAny_mono (PySem.wpAny_toks key) (fun b s2 q => ?_) fun _ _ x => x.2)
    obtain ⟨hk2, H2, I2, q2⟩ := q
    have h02 : τ = true → 1 ≤ s2.toks := fun t => Nat.le_trans (h01 t) hk2
    cases b with
    | true =>
      rw [if_pos rfl]
      simp only [if_true] at q2
      refine wpAny_passesOwn F.po (wpAny_mono (PySem.wpAny_toks (q2 pins s2 h02 I2)) (fun f s3 q3 => ?_) fun _ _ x => x.2)
      obtain ⟨hk3, q3⟩ := q3
      have h03 : τ = true → 1 ≤ s3.toks := fun t => Nat.le_trans (h02 t) hk3
      cases f with
      | next =>
        obtain ⟨σ3, H3, I3, ρ', μ', M', E', R', k'⟩ := q3
        exact ⟨n, Nat.lt_succ_self n, h03, ρ', μ', σ3, H3, M', I3, E', R', k'⟩
      | cont =>
        obtain ⟨σ3, H3, I3, ρ', μ', M', E', R', k'⟩ := q3
        exact ⟨n, Nat.lt_succ_self n, h03, ρ', μ', σ3, H3, M', I3, E', R', k'⟩
      | brk => exact q3
      | ret v => exact q3
    | false =>
      rw [if_neg Bool.false_ne_true]
      exact wpAny_execs_nil ⟨σ1, H2, I2, q2⟩
end
end PyI
/-! X1: super().__init__(..) of an own error. -/
namespace PyI
open PySem PySem.Spec PyProof.Rows L2
/-- what the written part says of super() in the method at f of the class at C -/
structure SupK (K : PySem.W.Frag) (P : Program) (C f cda cc : Addr) : Prop where
  fn : ∃ oc od fd osl ar, K.lookup f = some ⟨oc, od, .func fd, osl⟩ ∧ (fd.params.posonlyargs ++ fd.params.args).head? = some ar ∧ ar.arg = "self"
  code : ∃ ccl cdd vs ccs file tf, K.lookup cda = some ⟨ccl, cdd, .fields vs, ccs⟩ ∧ vs[2]? = some (.str file tf) ∧ ((P.main.file : Str) == file) = true
  cell : ∃ cl cld csl, K.lookup cc = some ⟨cl, cld, .cell (some (.ref C)), csl⟩
  cls : ∃ cd, PySem.W.clsIn K C = some cd
  sub : PySem.W.mroIn K C (.ref C) = some true
  opq : PySem.W.nsIn K cStatics "thirdparty.any" = some none
  along : PySem.W.ks_superIn K C C "__init__" = some (some (.builtin "ValueError.__init__"))
  subV : PySem.W.subIn K (.ref C) (.type "ValueError") = some true
  top : (P.main.scope.names.lookup ("super" : Str)).isSome = false
section
variable {X : Cx} {pins : List (Addr × Obj)} {σ : L2.St} {H : Hp} {s : Shared} {C f cda cc a : Addr} {i : Nat} {ta : TA} {e : Expr} {es : List Expr} {Q : VK} {p0 p1 apos pos : Pos} {pl : Sem Bool} {body : List Stmt}
theorem cls_at {K : PySem.W.Frag} {h : Heap} (k : K.In h) {C : Addr} {cd : ClassData} (e : PySem.W.clsIn K C = some cd) : ∃ oD, h.get? C = some oD ∧ oD.data = .cls cd := by
  unfold PySem.W.clsIn at e
  split at e
  · rename_i ho
    cases e
    exact ⟨_, k _ _ ho, rfl⟩
  · cases e
theorem sup_init (I : Inv X pins σ H s) (S : SupK X.K X.prog C f cda cc) (T : OexC X.K C) (hfu : X.env.func = some f) (hco : X.env.code = .ref cda) (hcl : X.env.cells.lookup ("__class__" : Str) = some cc) (hks : X.env.kindOf "super" = some .globalImplicit)
    (hkc : X.env.kindOf "__class__" = some .free) (hka : X.env.kindOf "self" = some .local) (hN : X.N[i]? = some "self") (hσ : σ[i]? = some (some (.ref a))) (ea : H a = some (exo a C none)) (hm : X.mg "super" = none) (ha : PA X (e :: es) ta)
    (h : ta σ H fun vs H1 => H1 a = some (exo a C none) ∧ vs.length ≤ 1000 ∧ Q .non H1)
    (hc : eval (.Call (.Attribute (.Call (.Name "super" p0) [] [] p1) "__init__" apos) (e :: es) [] pos) X.env = (do
      let ov ← attributeBase (.Call (.Name "super" p0) [] [] p1) "__init__" X.env (eval (.Call (.Name "super" p0) [] [] p1) X.env)
      standAt apos.atName
      let (f, first) ← holding [ov] (getMethod ov "__init__" pl)
      callWith pos f first (backTo pos (starEach (e :: es) X.env)) []))
    (he : starEach (e :: es) X.env = (false, eval e X.env) :: starEach es X.env) (hpl : (backTo pos (starEach es X.env)).any (·.1) = false) :
    _root_.PySem.wpAt (model X.prog X.w) X.A (.func body X.env) (eval (.Call (.Attribute (.Call (.Name "super" p0) [] [] p1) "__init__" apos) (e :: es) [] pos) X.env) (EP X pins σ Q) X.xe s := by
  obtain ⟨oc, od, fd, osl, ar, lf, hp, har⟩ := S.fn
  obtain ⟨ccl, cdd, vs, ccs, file, tf, lc, hvs, hfile⟩ := S.code
  obtain ⟨cl, cld, csl, lcell⟩ := S.cell
  obtain ⟨cd, hcd⟩ := S.cls
  have KI := I.kIn
  obtain ⟨oD, hD1, hD2⟩ := cls_at KI hcd
  refine ks_wpAt_MethodCall (pl := pl) ?_ hc
  refine ks_wpAt_super_base hks hkc (by decide) hfu (KI _ _ lf) rfl hp hco (KI _ _ lc) rfl hvs hfile S.top ?_
  obtain ⟨t1, hx⟩ := exo_at I.hok ea
  obtain ⟨mb, hb1, hb2⟩ := I.mod.blt
  refine PySem.W.ks_loadName_global I.ok.kind hks (Calls.loadGlobal_builtin (by rw [I.ok.glob]; exact I.mod.glob.keeps I.bk) hm (by rw [I.ok.blt]; exact hb1.keeps I.bk) ((hb2 _ (by decide)).trans (show bootBuiltins "super" = some (.type "super") by first | boot_by_name | rfl | kernel_rfl)) ⟨rfl, ?_⟩)
  refine wpAny_loadName_free I.ok.kind hkc hcl ⟨_, KI _ _ lcell, rfl⟩ ?_
  rw [har]
  obtain ⟨m, hn, hl⟩ := I.loc
  obtain ⟨u, r, l⟩ := hl i "self" (.ref a) hN hσ (.inl hka)
  obtain rfl : u = Value.ref a := r
  obtain ⟨_, hma⟩ : X.env.kindOf "self" = some .local ∧ m "self" = some (.ref a) := by
    rcases l with ⟨hk, hm⟩ | ⟨hk, _⟩
    · exact ⟨hk, hm⟩
    · rcases hk with hk | hk <;> (rw [hka] at hk; cases hk)
  refine wpAny_loadName_local I.ok.kind hka hn hma ?_
  obtain ⟨hh, g, d, t, os⟩ := s
  refine ks_wpAny_isType_cls hD1 hD2 ⟨rfl, ?_⟩
  refine ks_wpAny_call_super hD1 hD2 hx rfl (fun c z => by cases z) (PySem.W.looks_mroIn KI S.sub) (fun h1 e1 k1 => ?_)
  have I1 : Inv X pins σ H ⟨h1, g, d, t, os⟩ := I.kept (t' := t) k1
  have KI1 := I1.kIn
  have hx1 := k1 _ _ hx
  have inst : PySem.W.InstAt h1 a (PySem.W.excObj C t1 none .none) C none := ⟨hx1, rfl, rfl, trivial⟩
  have hal : PySem.W.alongIn X.K "__init__" ((cd.mro.dropWhile (· != .ref C)).drop 1) = some (some (.builtin "ValueError.__init__")) := by
    have := S.along
    unfold PySem.W.ks_superIn at this
    rw [hcd] at this
    exact this
  refine PySem.W.kxs_getMethod PySem.W.kxs_ValueError e1 (PySem.W.looks_opaque KI1 S.opq) (l₀ := cd.mro) (fun A Q E s k q => wpAny_bind ((PySem.W.looks_clsIn KI1 hcd) A _ E s k (wpAny_pure q))) rfl KI1 hal (inst.type.andThen (PySem.W.looks_subIn KI1 S.subV)) (PySem.W.ks_ne KI1 inst hcd) (by decide) ?_
  have k2 : ∀ b o, h1.get? b = some o → (h1.push (PySem.W.kxs_mw "ValueError.__init__" a)).get? b = some o := fun b o e => Heap.get?_push_of_some _ e
  have I2 : Inv X pins σ H ⟨h1.push (PySem.W.kxs_mw "ValueError.__init__" a), g, d, t + 1, os⟩ := I1.kept (t' := t + 1) k2
  have hu : (h1.push (PySem.W.kxs_mw "ValueError.__init__" a)).get? h1.objs.size = some (PySem.W.kxs_mw "ValueError.__init__" a) := by heap_get
  have hnu : H h1.objs.size = none := I1.hok.fresh (Nat.le_refl _)
  have I3 : Inv X ((h1.objs.size, PySem.W.kxs_mw "ValueError.__init__" a) :: pins) σ H ⟨h1.push (PySem.W.kxs_mw "ValueError.__init__" a), g, d, t + 1, os⟩ := by
    refine { I2 with pin := fun q hq => ?_ }
    rcases List.mem_append.mp hq with hq | hq
    · exact I2.pin q (List.mem_append_left _ hq)
    · rcases List.mem_cons.mp hq with rfl | hq
      · refine ⟨hu, hnu, fun z => ?_, fun z => ?_, fun v z => by cases z⟩
        · exact Nat.ne_of_gt I1.lt z
        · exact I1.nofs (Nat.le_refl _) z
      · exact I2.pin q (List.mem_append_right _ hq)
  show wpAny _ _ (callWith pos (.ref h1.objs.size) [] (backTo pos (starEach (e :: es) X.env)) []) _ _ _
  have hsp : wpAny (model X.prog X.w) X.A (spliced (backTo pos (starEach (e :: es) X.env))) (fun us s1 => PySem.W.KxsAt "ValueError.__init__" h1.objs.size a s1.heap ∧ wpAny (model X.prog X.w) X.A (call (.ref h1.objs.size) us) (EP X pins σ Q) X.xe s1) X.xe ⟨h1.push (PySem.W.kxs_mw "ValueError.__init__" a), g, d, t + 1, os⟩ := by
    refine thn (ha.run pos _ _ σ H _ I3 h) fun us s1 ⟨vs, H1, I4, r1, ea1, hl1, q⟩ => ?_
    have pn := I4.pin _ (List.mem_append_right _ (List.mem_cons_self ..))
    refine ⟨pn.1, ?_⟩
    have I5 : Inv X pins σ H1 s1 := { I4 with pin := fun q hq => I4.pin q (by
      rcases List.mem_append.mp hq with hq | hq
      · exact List.mem_append_left _ hq
      · exact List.mem_append_right _ (List.mem_cons_of_mem _ hq)) }
    obtain ⟨nm, qn, N, bs, bm, sn, sub, ab, col, dd, k0, k1, k2, k3, k5, hC, hbm⟩ := T.cls
    obtain ⟨t2, hx2⟩ := exo_at I5.hok ea1
    have hu2 := pn.1
    have KI5 := I5.kIn
    obtain ⟨h5, g5, d5, tk5, os5⟩ := s1
    refine wpAny_call (codeAny_of_tree ?_)
    show wpAny _ X.A.in1 (callAny (.ref h1.objs.size) ⟨us, []⟩) _ _ _
    simp only [callAny]
    refine wpAny_bind (wpAny_load hu2 ?_)
    simp only [PySem.W.kxs_mw, show (Value.type "method-wrapper" == Value.type "method" || Value.type "method-wrapper" == Value.type "builtin_function_or_method" || Value.type "method-wrapper" == Value.type "method-wrapper") = true by decide, if_true]
    refine PySem.W.KFB.if_so (by decide) ?_
    have FB := F.excBase_ValueError
    refine wpAny_bind (PySem.W.check_bound_init FB.toExcCallFacts (KI5 _ _ hC) hx2 rfl ?_)
    refine wpAny_bind (wpAny_pure (wpAny_pure ?_))
    refine ⟨plainId_quiet FB.init.plain _, codeAny_builtin FB.initEntry ?_⟩
    have hlen : us.length ≤ sizeLine := by
      rw [← Paired.length r1, sizeLine_eq]
      omega
    refine PySem.W.exc_init_tree (cls := .ref C) (t0 := t2) (dv := none) (c2 := .none) (c3 := .none) (b4 := .bool false) hx2 hlen fun h6 k6 hx6 ht6 => ?_
    have J := I5.write (t' := tk5) (x := a) (e := a) (o := exo a C none) (by rw [ea1]; exact True.intro) (.inl rfl) k6 ⟨_, hx6⟩ (exo_ok hx6)
    have eu : upd H1 a (exo a C none) = H1 := by
      funext b
      by_cases hb : b = a
      · rw [hb, upd_same, ea1]
      · rw [upd_ne hb]
    rw [eu] at J
    exact ⟨.non, H1, J, rfl, q⟩
  rw [he] at hsp ⊢
  exact PySem.W.kxs_callWith (i := "ValueError.__init__") (x := a) (by show (false || (backTo pos (starEach es X.env)).any (·.1)) = false; rw [hpl]; rfl) (PySem.Calls.evalArgs_plain hsp)
end
end PyI
/-! AE: errors raised and caught. -/
namespace PyI
open PySem PySem.Spec PyProof.Rows L2
section
variable {K : PySem.W.Frag} {H : Hp} {M : AM}
theorem fmt_of : ∀ {vs : List V} {ds : List PyI.D}, Reps K H M vs ds → ds.all okArg = true → ∀ y ∈ vs, FmtV y
  | _, _, .nil, _, y, hy => nomatch hy
  | v :: vs, d :: ds, .cons h r, q, y, hy => by
    rw [List.all_cons, Bool.and_eq_true] at q
    rcases List.mem_cons.mp hy with rfl | hy
    · cases h <;> simp only [okArg, Bool.and_eq_true, decide_eq_true_eq, Bool.false_eq_true, false_and] at q
      · exact .inl ⟨_, rfl, q.1.1, q.1.2⟩
      · exact .inr ⟨_, rfl, q.1⟩
    · exact fmt_of r q.2 y hy
end
section
variable {τ : Bool} {X : Cx} {ct : CTab} {Γ : G} {N loc : List Str} {sc : Scope} {tb : Tb} {e : Expr} {es : List Expr} {As : Es} {c n : Nat} {x : Str} {p pos rpos : Pos}
theorem sndS_rse (F : FrS X ct tb Γ N sc loc) (hd : okName x = true) (hg : glB sc x = true) {fl : List Str} (hcl : tb.clss[c]? = some (x, fl)) (hfl : fl.length = n) (hs : (e :: es).all (fun e => !star e) = true) (hn : n ≤ 10) (ha : SndA X ct Γ (e :: es) As) :
    SndS τ X ct Γ (.Raise (some (.Call (.Name x p) (e :: es) [] pos)) none rpos) (.rse c n As) := by
  intro W ρ μ σ H M D tk E R h
  unfold runS at h
  by_cases hm : Γ.mkr = true
  · rw [if_pos hm] at h
    obtain ⟨CK, hct, hnd⟩ := F.f.g.cls c x fl hcl
    subst hct
    have hnl : n = (ct.flds c).length := hfl.symm
    obtain ⟨fI, fd, ps, i1, i2, i3, i4⟩ := CK.ini
    have hse : star e = false := by
      have := List.all_eq_true.mp hs e (List.mem_cons_self ..)
      simpa using this
    have hse2 : es.all (fun e => !star e) = true := by rw [List.all_cons, Bool.and_eq_true] at hs; exact hs.2
    refine ws (ps_raise F.f.calm tk (pmk_oex (CX := L2.CX X.prog X.w) CK.T i1 i2 (i4 X.base) (F.f.g.room hm) i3 .nil (passes_call tk fun _ _ _ _ z => z.elim) (gl_of F.f hg) CK.mgx pA (ok1 hd) (star_cons hse) (star_all hse2))) ?_
    refine ha W ρ μ σ H M _ tk E R (h.step E fun ds μ1 vs H1 M1 e1 R1 r1 h1 => ?_)
    by_cases hz : ds.length = n ∧ ds.all okArg = true
    · rw [if_pos hz] at h1
      have hlen := r1.length
      refine ⟨by rw [hlen, hz.1]; omega, fun a hna => ⟨a, vs ++ [], rfl, ?_, ?_, upd_same, fun dx hdx hne => ⟨rfl, dx, (ct.flds c).zip (vs ++ []).reverse, upd_same, ?_, ?_, ?_⟩⟩⟩
      · rw [List.append_nil, hlen, hz.1, hnl]
      · rw [List.append_nil]; exact fmt_of r1 hz.2
      · rw [upd_ne hne, upd_same]
      · rw [upd_ne hne] at hdx; exact hdx
      · rw [upd_ne hne] at hdx
        have eH : upd (del (upd (upd (upd H1 a (exo a (ct.cls c) none)) dx (exd dx ((ct.flds c).zip (vs ++ []).reverse))) a (exo a (ct.cls c) (some dx))) a) dx (.xd ((ct.flds c).zip (vs ++ []).reverse)) = upd H1 dx (.xd ((ct.flds c).zip (vs ++ []).reverse)) := by
          funext b
          by_cases hb : b = dx
          · rw [hb, upd_same, upd_same]
          · rw [upd_ne hb, upd_ne hb]
            by_cases hb2 : b = a
            · rw [hb2, del_same, hna]
            · rw [del_ne hb2, upd_ne hb2, upd_ne hb, upd_ne hb2]
        rw [eH]
        have ev : Evo M1 H1 M1 (upd H1 dx (.xd ((ct.flds c).zip (vs ++ []).reverse))) := Evo.new hdx
        refine (h1 : OkS X.K ct M1 H1 (.er c ds.reverse ρ μ1) D W) (.ref (ct.cls c)) (some dx) σ _ M1 ev (R1.new hdx) ((E.evo e1).evo ev) ⟨rfl, dx, _, rfl, upd_same, ?_, ?_⟩
        · rw [List.map_fst_zip]
          rw [List.append_nil, List.length_reverse, hlen, hz.1, hnl]; exact Nat.le_refl _
        · rw [List.map_snd_zip]
          · exact (congrArg (fun l => Reps X.K _ M1 l ds.reverse) (show (vs ++ []).reverse = vs.reverse by rw [List.append_nil])).mpr ((r1.rev).evo ev)
          · rw [List.append_nil, List.length_reverse, hlen, hz.1, hnl]; exact Nat.le_refl _
    · rw [if_neg hz] at h1
      exact (h1 : False).elim
  · rw [if_neg hm] at h
    exact (h : False).elim
end
end PyI
/-! AF: isinstance of a caught error that has its dict. -/
namespace PyI
open PySem PySem.Spec PySem.Calls PyProof.Rows L2
/-- isinstance(e, c), e the caught error -/
def rIsD (K : PySem.W.Frag) (D a dd : Addr) : List V → Hp → VK → Prop := fun xs H Q => ∃ (c : V) (cv : Value) (b : Bool), xs = [.ref a, c] ∧ (∀ u, RelV c u → u = cv) ∧ PySem.W.kitOne K (.ref D) cv = some b ∧ (∃ vs, H dd = some (.xd vs)) ∧ Q (.bl b) H
theorem call_isD {X : Cx} {a D dd : Addr} {oe : Obj} {pn : List (Addr × Obj)} (C : ExcC X.K D) (hz : Zc (.ref D) (some dd) oe) (hf : ∃ vs, oe.data = .fields vs) : CallR (X.suite a ((a, oe) :: pn)) (.builtin "isinstance") (rIsD X.K D a dd) := by
  intro pins s σ H xs us Q I r h
  obtain ⟨c, cv, b, rfl, hcv, e, ⟨vs, hdd⟩, q⟩ := h
  obtain ⟨u1, u2, rfl⟩ : ∃ u1 u2, us = [u1, u2] := by
    cases r with
    | cons _ r => cases r with
      | cons _ r => cases r; exact ⟨_, _, rfl⟩
  cases r with
  | cons rx r => cases r with
    | cons rt _ =>
      obtain rfl : u1 = Value.ref a := rx
      obtain rfl := hcv _ rt
      have pin := (I.pin (a, oe) (List.mem_append.mpr (.inl List.mem_cons_self))).1
      obtain ⟨flds, hfl⟩ := hf
      obtain ⟨mA, hns, _⟩ : ∃ mA, s.heap.Ns1 dd mA ∧ ∀ f, RelO (vs.lookup f) (mA f) := I.hok dd _ hdd
      obtain ⟨odd, hod, _⟩ := lookIn_ns hns
      have J : PySem.W.InstAt s.heap a oe D (some odd) := ⟨pin, hz.1, by unfold PySem.W.notCls; rw [hfl] <;> rfl, by rw [hz.2]; exact hod⟩
      exact PySem.W.kia_one (PySem.W.kitx_exc (od := some odd) (by obtain ⟨cd, q, _⟩ := PySem.W.any_some C.hd; rw [q]; rfl) C.hg C.hk C.hs C.ha C.hn C.ht C.hm) I.kIn J e (fun z => nomatch z) fun tk => ⟨.bl b, H, I.kept (t' := tk) fun _ _ z => z, rfl, q⟩
end PyI
/-! AG: try: return e; except C as n: a suite that tests kinds and hands back fields. -/
namespace PyI
open PySem PySem.Spec PyProof.Rows L2
/-- a literal, or a field of the error -/
def resXA (n : Str) (fl : List Str) : Expr → Option XA
  | .Constant (.int i) _ _ => some (.cst (.int i))
  | .Constant (.bool b) _ _ => some (.cst (.bl b))
  | .Constant .none _ _ => some (.cst .non)
  | .Constant (.str s) _ _ => some (.cst (.str s))
  | .Attribute (.Name y _) f _ => guardO (decide (y = n)) ((ixOf f fl).map .fld)
  | _ => none
def resXAs (n : Str) (fl : List Str) : List Expr → Option (List XA)
  | [] => some []
  | e :: es => guardO (!star e) ((resXA n fl e).bind fun a => (resXAs n fl es).map fun l => a :: l)
def resXR (n : Str) (fl : List Str) : Expr → Option XR
  | .Tuple es _ _ => (resXAs n fl es).map .tup
  | e => (resXA n fl e).map .one
-- what a test of kinds says
mutual
def resXT (tb : Tb) (sc : Scope) (c : Nat) (n : Str) : Nat → Expr → Option Bool
  | 0, _ => none
  | k + 1, e => match e with
    | .Call (.Name f _) [.Name y _, .Name x _] [] _ => guardO (decide (f = "isinstance") && decide (y = n) && glB sc f && okName y && okName x && glB sc x) ((tb.isx.find? fun p => p.1 == c && p.2.1 == x).map fun p => p.2.2)
    | .UnaryOp .Not a _ => (resXT tb sc c n k a).map fun b => !b
    | .BoolOp .And vs _ => resXAnd tb sc c n k vs
    | .BoolOp .Or vs _ => resXOr tb sc c n k vs
    | _ => none
def resXAnd (tb : Tb) (sc : Scope) (c : Nat) (n : Str) : Nat → List Expr → Option Bool
  | 0, _ => none
  | k + 1, vs => match vs with
    | [a] => resXT tb sc c n k a
    | a :: b :: r => (resXT tb sc c n k a).bind fun x => (resXAnd tb sc c n k (b :: r)).map fun y => x && y
    | [] => none
def resXOr (tb : Tb) (sc : Scope) (c : Nat) (n : Str) : Nat → List Expr → Option Bool
  | 0, _ => none
  | k + 1, vs => match vs with
    | [a] => resXT tb sc c n k a
    | a :: b :: r => (resXT tb sc c n k a).bind fun x => (resXOr tb sc c n k (b :: r)).map fun y => x || y
    | [] => none
end
def resXS (tb : Tb) (sc : Scope) (c : Nat) (n : Str) (fl : List Str) : Nat → List Stmt → Option XR
  | 0, _ => none
  | k + 1, sts => match sts with
    | [.Return (some e) _] => resXR n fl e
    | .If t body [] _ :: rest => (resXT tb sc c n 40 t).bind fun b => if b then resXS tb sc c n fl k body else resXS tb sc c n fl k rest
    | _ => none
section
variable {X : Cx} {ct : CTab} {Γ : G} {N : List Str} {sc : Scope} {tb : Tb} {c i : Nat} {n x : Str} {a dd : Addr} {oe : Obj} {pn : List (Addr × Obj)} {vs : List (Str × V)}
/-- within the suite -/
structure InX (X : Cx) (ct : CTab) (Γ : G) (N : List Str) (sc : Scope) (tb : Tb) (c i : Nat) (n : Str) (a dd : Addr) (oe : Obj) : Prop where
  f : Fr X ct tb Γ N sc
  cls : ∃ x, ClsK X.prog X.w X.K X.mg (ct.cls c) x (ct.flds c)
  hi : N[i]? = some n
  vis : visB sc n = true
  okn : okName n = true
  hz : Zc (.ref (ct.cls c)) (some dd) oe
  hf : ∃ us, oe.data = .fields us
def Pre (i : Nat) (a dd : Addr) (vs : List (Str × V)) (σ : L2.St) (H : Hp) : Prop := σ[i]? = some (some (.ref a)) ∧ H dd = some (.xd vs)
theorem lookup_at : ∀ {vs : List (Str × V)} {fl : List Str} {j : Nat} {f : Str} {v : V}, vs.map (·.1) = fl → fl.Nodup → fl[j]? = some f → (vs.map (·.2))[j]? = some v → vs.lookup f = some v
  | [], _, _, _, _, e, _, h, _ => by subst e; cases h
  | (g, u) :: vs, _, 0, f, v, e, _, h, k => by
    subst e
    cases h
    cases k
    simp
  | (g, u) :: vs, _, j + 1, f, v, e, nd, h, k => by
    subst e
    rw [List.map_cons, List.nodup_cons] at nd
    have h2 : (vs.map (·.1))[j]? = some f := h
    have hne : (f == g) = false := beq_eq_false_iff_ne.mpr fun z => nd.1 (by rw [← z]; exact List.mem_of_getElem? h2)
    rw [List.lookup_cons, hne]
    exact lookup_at rfl nd.2 h2 k
theorem vis_of {X : Cx} (hsc : X.env.scope = sc) (hv : visB sc x = true) : Vis X.env.scope x := by
  rw [hsc]
  unfold visB at hv
  unfold Vis
  split at hv
  · rename_i q; exact .inl q
  · rename_i q; exact .inr (.inl q)
  · rename_i q; exact .inr (.inr q)
  · cases hv
theorem pe_err {p : Pos} (S : InX X ct Γ N sc tb c i n a dd oe) : PE (X.suite a ((a, oe) :: pn)) (.Name n p) (tVar i) :=
  pe_var (by show X.N[i]? = _; rw [S.f.hN]; exact S.hi) (vis_of (X := X.suite a ((a, oe) :: pn)) S.f.hsc S.vis) (ok1 S.okn) (by have := S.okn; simp [okName] at this ⊢; exact this.1.2)
theorem xa_ok {e : Expr} {A : XA} (S : InX X ct Γ N sc tb c i n a dd oe) (h : resXA n (ct.flds c) e = some A) {M : AM} {fs : List PyI.D} {d : PyI.D} (hd : A.val fs = some d) {σ : L2.St} {H : Hp} (pre : Pre i a dd vs σ H) (hn : vs.map (·.1) = ct.flds c) (hnd : (ct.flds c).Nodup) (r : Reps X.K H M (vs.map (·.2)) fs) {Q : VK}
    (q : ∀ v, Rep X.K H M v d → Q v H) : wE (X.suite a ((a, oe) :: pn)) e σ H Q := by
  unfold resXA at h
  split at h
  · cases h; cases hd; exact we pe_int (q _ (.int _))
  · cases h; cases hd; exact we pe_bl (q _ (.bl _))
  · cases h; cases hd; exact we pe_non (q _ .non)
  · cases h; cases hd; exact we pe_str (q _ (.str _))
  · rename_i y p f p2
    obtain ⟨hy, h2⟩ := guardO_some h
    obtain ⟨j, hj, rfl⟩ := Option.map_eq_some_iff.mp h2
    rw [of_decide_eq_true hy]
    have hj := ixOf_get hj
    obtain ⟨xc, C⟩ := S.cls
    obtain ⟨v, hv, rv⟩ := r.get hd
    have hlk : vs.lookup f = some v := lookup_at hn hnd hj hv
    refine we (pe_xf C.xf (C.nos f (List.mem_of_getElem? hj)) S.hz S.hf (pe_err S)) ?_
    exact ⟨.ref a, pre.1, rfl, rfl, dd, vs, v, rfl, pre.2, hlk, q _ rv⟩
  · cases h
theorem xas_ok (S : InX X ct Γ N sc tb c i n a dd oe) {M : AM} {fs : List PyI.D} {H : Hp} (hn : vs.map (·.1) = ct.flds c) (hnd : (ct.flds c).Nodup) (r : Reps X.K H M (vs.map (·.2)) fs) {σ : L2.St} (pre : Pre i a dd vs σ H) : ∀ {es : List Expr} {l : List XA} {ds : List PyI.D}, resXAs n (ct.flds c) es = some l → XA.vals fs l = some ds →
    ∀ {Q : List V → Hp → Prop}, (∀ us, Reps X.K H M us ds → Q us H) → wA (X.suite a ((a, oe) :: pn)) es σ H Q
  | [], l, ds, h, hv, Q, q => by
    cases h; cases hv
    exact wa pa_nil (q [] .nil)
  | e :: es, l, ds, h, hv, Q, q => by
    unfold resXAs at h
    obtain ⟨hs, h2⟩ := guardO_some h
    obtain ⟨A, hA, h3⟩ := Option.bind_eq_some_iff.mp h2
    obtain ⟨l', hl, rfl⟩ := Option.map_eq_some_iff.mp h3
    unfold XA.vals at hv
    split at hv
    · rename_i d ds' e1 e2
      cases hv
      refine wa (pa_cons pE pA (star_cons (by simpa using hs))) ?_
      exact xa_ok S hA e1 pre hn hnd r fun v rv => xas_ok S hn hnd r pre hl e2 fun us ru => q (v :: us) (.cons rv ru)
    · cases hv
theorem vals_len {fs : List PyI.D} : ∀ {l : List XA} {ds : List PyI.D}, XA.vals fs l = some ds → ds.length = l.length
  | [], ds, h => by cases h; rfl
  | a :: l, ds, h => by
    unfold XA.vals at h
    split at h
    · rename_i d ds' e1 e2
      cases h
      rw [List.length_cons, List.length_cons, vals_len e2]
    · cases h
structure SndX (X : Cx) (ct : CTab) (Γ : G) (N : List Str) (sc : Scope) (tb : Tb) (c i : Nat) (n : Str) (k : Nat) : Prop where
  t : ∀ (a dd : Addr) (oe : Obj) (pn : List (Addr × Obj)) (vs : List (Str × V)) (e : Expr) (b : Bool), InX X ct Γ N sc tb c i n a dd oe → resXT tb sc c n k e = some b → ∀ {σ : L2.St} {H : Hp} {Q : Bool → Hp → Prop}, Pre i a dd vs σ H → Q b H → wT (X.suite a ((a, oe) :: pn)) e σ H Q
  and : ∀ (a dd : Addr) (oe : Obj) (pn : List (Addr × Obj)) (vs : List (Str × V)) (es : List Expr) (p : Pos) (b : Bool), InX X ct Γ N sc tb c i n a dd oe → resXAnd tb sc c n k es = some b → ∀ {σ : L2.St} {H : Hp} {Q : Bool → Hp → Prop}, Pre i a dd vs σ H → Q b H → wW (X.suite a ((a, oe) :: pn)) (.BoolOp .And es p) σ H Q
  or : ∀ (a dd : Addr) (oe : Obj) (pn : List (Addr × Obj)) (vs : List (Str × V)) (es : List Expr) (p : Pos) (b : Bool), InX X ct Γ N sc tb c i n a dd oe → resXOr tb sc c n k es = some b → ∀ {σ : L2.St} {H : Hp} {Q : Bool → Hp → Prop}, Pre i a dd vs σ H → Q b H → wW (X.suite a ((a, oe) :: pn)) (.BoolOp .Or es p) σ H Q
theorem sndX : ∀ k, SndX X ct Γ N sc tb c i n k
  | 0 => ⟨fun _ _ _ _ _ _ _ _ h => (by unfold resXT at h; cases h), fun _ _ _ _ _ _ _ _ _ h => (by unfold resXAnd at h; cases h), fun _ _ _ _ _ _ _ _ _ h => (by unfold resXOr at h; cases h)⟩
  | k + 1 => by
    have ih := sndX k
    refine ⟨fun a dd oe pn vs e b S h => ?_, fun a dd oe pn vs es p b S h => ?_, fun a dd oe pn vs es p b S h => ?_⟩
    · intro σ H Q pre q
      unfold resXT at h
      split at h
      · rename_i f p1 y p2 x p3 p4
        obtain ⟨hg, h2⟩ := guardO_some h
        simp only [Bool.and_eq_true, decide_eq_true_eq] at hg
        obtain ⟨⟨⟨⟨⟨rfl, rfl⟩, g1⟩, g2⟩, g3⟩, g4⟩ := hg
        obtain ⟨⟨c', x', b'⟩, hm, hb⟩ := Option.map_eq_some_iff.mp h2
        have hp := List.find?_some hm
        simp only [Bool.and_eq_true, beq_iff_eq] at hp
        obtain ⟨rfl, rfl⟩ := hp
        subst hb
        obtain ⟨v, cv, m1, m2, m3, m4⟩ := S.f.g.isx _ _ _ (List.mem_of_find?_eq_some hm)
        obtain ⟨xc, C⟩ := S.cls
        have pc : PE (X.suite a ((a, oe) :: pn)) (.Name x' p3) (tC v) := by
          rcases m1 with m1 | ⟨m1, mb, mn⟩
          · exact pe_glob (gl_of (X := X) S.f g4) m1 m2 (ok1 g3)
          · exact pe_bltn (gl_of (X := X) S.f g4) m1 mb m2 mn (ok1 g3)
        have hbi : X.mg "isinstance" = none := S.f.g.bi _ (by decide +kernel)
        refine wt (pt_val (pe_callB (call_isD (dd := dd) C.ex S.hz S.hf) (gl_of (X := X) S.f g1) hbi (by first | boot_by_name | rfl | kernel_rfl) (pa_cons (pe_err S) (pa_cons pc pa_nil (star_cons rfl)) (star_cons rfl)) (by decide) (by decide) (star_cons rfl) rfl) (true_plain rfl)) ?_
        exact ⟨.ref a, pre.1, v, cv, _, rfl, m3, m4, ⟨vs, pre.2⟩, _, rfl, q⟩
      · obtain ⟨b', hb, rfl⟩ := Option.map_eq_some_iff.mp h
        refine wt (pt_not pT) ?_
        exact ih.t a dd oe pn vs _ _ S hb pre q
      · rename_i es p2
        exact fun pins s I => ih.and a dd oe pn vs es p2 b S h pre q _ pins s I
      · rename_i es p2
        exact fun pins s I => ih.or a dd oe pn vs es p2 b S h pre q _ pins s I
      · cases h
    · intro σ H Q pre q
      unfold resXAnd at h
      split at h
      · exact ww (pw_and1 pT) (ih.t a dd oe pn vs _ _ S h pre q)
      · obtain ⟨x1, h1, h2⟩ := Option.bind_eq_some_iff.mp h
        obtain ⟨y1, h3, rfl⟩ := Option.map_eq_some_iff.mp h2
        refine ww (pw_and pT pW) ?_
        refine ih.t a dd oe pn vs _ _ S h1 pre ?_
        cases x1
        · exact q
        · exact ih.and a dd oe pn vs _ p _ S h3 pre q
      · cases h
    · intro σ H Q pre q
      unfold resXOr at h
      split at h
      · exact ww (pw_or1 pT) (ih.t a dd oe pn vs _ _ S h pre q)
      · obtain ⟨x1, h1, h2⟩ := Option.bind_eq_some_iff.mp h
        obtain ⟨y1, h3, rfl⟩ := Option.map_eq_some_iff.mp h2
        refine ww (pw_or pT pW) ?_
        refine ih.t a dd oe pn vs _ _ S h1 pre ?_
        cases x1
        · exact ih.or a dd oe pn vs _ p _ S h3 pre q
        · exact q
      · cases h
theorem pss_w {X : Cx} {sts : List Stmt} : PSs X sts (wB false X sts) := ⟨fun pins s σ H D I q => q pins s (fun z => nomatch z) I⟩
theorem wbs {X : Cx} {sts : List Stmt} {t : TS} {D : Ends} {σ : L2.St} {H : Hp} (p : PSs X sts t) (h : t D σ H) : wB false X sts D σ H := fun pins s _ I => p.run pins s σ H D I h
theorem xs_ok {M : AM} {μ : Mu} {fs : List PyI.D} {H : Hp} (S : InX X ct Γ N sc tb c i n a dd oe) (hn : vs.map (·.1) = ct.flds c) (hnd : (ct.flds c).Nodup) (R : RelH X.K ct H μ M) (r : Reps X.K H M (vs.map (·.2)) fs) {σ : L2.St} (pre : Pre i a dd vs σ H) {d : PyI.D} : ∀ (k : Nat) {D : Ends} (q : ∀ v H' M', Evo M H M' H' → RelH X.K ct H' μ M' → Rep X.K H' M' v d → D.rt v H') {sts : List Stmt} {A : XR}, resXS tb sc c n (ct.flds c) k sts = some A → A.val fs = some d → wB false (X.suite a ((a, oe) :: pn)) sts D σ H
  | 0, D, q, sts, A, h, _ => by unfold resXS at h; cases h
  | k + 1, D, q, sts, A, h, hv => by
    unfold resXS at h
    split at h
    · rename_i e p
      refine wbs (pss_one (ps_ret pE)) ?_
      unfold resXR at h
      split at h
      · rename_i es kk p2
        obtain ⟨l, hl, rfl⟩ := Option.map_eq_some_iff.mp h
        have hv' : (if l.length ≤ 100 then (XA.vals fs l).map PyI.D.tup else none) = some d := hv
        by_cases hl100 : l.length ≤ 100
        · rw [if_pos hl100] at hv'
          obtain ⟨ds, hds, rfl⟩ := Option.map_eq_some_iff.mp hv'
          refine we (pe_tup pA) (xas_ok S hn hnd r pre hl hds fun us ru => ⟨?_, fun p hp => ?_⟩)
          · have h1 := ru.length
            have h2 := vals_len hds
            rw [sizeLine_eq]; omega
          · exact q _ _ M (Evo.new hp) (R.new hp) (.tup (.inl ⟨.inl upd_same, R.fresh hp⟩) (ru.evo (Evo.new hp)))
        · rw [if_neg hl100] at hv'; cases hv'
      · obtain ⟨A1, hA, rfl⟩ := Option.map_eq_some_iff.mp h
        exact xa_ok S hA hv pre hn hnd r fun v rv => q v H M (Evo.refl _ _) R rv
    · rename_i t body p rest
      obtain ⟨b, hb, h2⟩ := Option.bind_eq_some_iff.mp h
      refine wbs (pss_cons (ps_if pT pss_w pss_nil) pss_w) ?_
      refine (sndX 40).t a dd oe pn vs t b S hb pre ?_
      cases b
      · exact xs_ok S hn hnd R r pre k (D := D) q h2 hv
      · exact xs_ok S hn hnd R r pre k (D := { nx := wB false (X.suite a ((a, oe) :: pn)) rest D, rt := D.rt, bk := D.bk, ct := D.ct }) q h2 hv
    · cases h
end
section
variable {τ : Bool} {X : Cx} {ct : CTab} {Γ : G} {N loc : List Str} {sc : Scope} {tb : Tb} {r : Expr} {A : E} {c i k : Nat} {n x : Str} {np rp pos pos' : Pos} {b₀ : Stmt} {suite : List Stmt} {RX : XR} {fl : List Str}
theorem sndS_tryR (F : FrS X ct tb Γ N sc loc) (hd : okName x = true) (hg : glB sc x = true) (hcl : tb.clss[c]? = some (x, fl)) (hi : N[i]? = some n) (hnl : sc.names.lookup n = some .local) (hon : okName n = true) (he : ∀ X', Fr X' ct tb Γ N sc → Snd X' ct Γ r A)
    (hs : resXS tb sc c n fl k (b₀ :: suite) = some RX) : SndS τ X ct Γ (.Try [.Return (some r) rp] [.ExceptHandler (some (.Name x np)) (some n) (b₀ :: suite) pos'] [] [] pos) (.tryR A c i RX) := by
  intro W ρ μ σ H M D tk E R h
  unfold runS at h
  obtain ⟨CK, hct, hnd⟩ := F.f.g.cls c x fl hcl
  subst hct
  refine ws (ps_try_as (c := .ref (ct.cls c)) (tb := fun W' => fun D σ H => ∀ pn xe, Takes (X.tr pn xe) W' → wB false (X.tr pn xe) [.Return (some r) rp] D σ H) (ts := fun a cls d => fun D σ H => ∀ oe pn, Zc cls d oe → (∃ vs, oe.data = .fields vs) → wB false (X.suite a ((a, oe) :: pn)) (b₀ :: suite) D σ H)
    F.hs F.hf (by rw [F.f.hN]; exact F.f.nd) (by rw [F.f.hN]; exact hi) (by show X.env.scope.names.lookup n = _; rw [F.f.hsc]; exact hnl) ⟨gl_of F.f hg, ok1 hd, .inl CK.mgx⟩ tk
    (fun W' pn xe tk' _ => ⟨fun pins s σ H D I q => q pn xe tk' pins s (fun z => nomatch z) I⟩)
    (fun a oe cls d pn hz hf => ⟨fun pins s σ H D I q => q oe pn hz hf pins s (fun z => nomatch z) I⟩)) ?_
  intro pn xe tk'
  refine wbs (pss_one (ps_ret pE)) ?_
  have Ft : Fr (X.tr pn xe) ct tb Γ N sc := ⟨F.f.hN, F.f.hsc, F.f.nd, F.f.calm, F.f.kindF, F.f.g⟩
  refine he (X.tr pn xe) Ft _ ρ μ σ H M _ tk' E R ?_
  cases hA : evalE Γ A ρ μ with
  | stuck => rw [hA] at h; exact h
  | ok d μ' => rw [hA] at h; exact h
  | err c' fs μ' =>
    rw [hA] at h
    simp only at h
    by_cases hc : c' = c
    · rw [if_pos hc] at h
      subst hc
      cases hv : RX.val fs with
      | none => rw [hv] at h; exact (h : False).elim
      | some d =>
        rw [hv] at h
        intro cls dd' H' M' ev R' re
        obtain ⟨rfl, dx, vs, rfl, hx, hnm, rr⟩ := re
        refine ⟨true, CK.exm, fun _ a hna oe pn' hz hf pins s ht I => ?_, fun z => by cases z⟩
        have hlen := I.len
        have hi' : i < σ.length := by
          have h1 : i < N.length := (List.getElem?_eq_some_iff.mp hi).1
          have h2 : (σ.set i (some (.ref a))).length = X.N.length := hlen
          rw [List.length_set, F.f.hN] at h2
          omega
        have S : InX X ct Γ N sc tb c' i n a dx oe := ⟨F.f, ⟨x, CK⟩, hi, by unfold visB; rw [hnl], hon, hz, hf⟩
        exact xs_ok S hnm hnd R' rr ⟨by rw [List.getElem?_set_self hi'], hx⟩ k (D := { nx := fun σ' H' => D.nx (σ'.set i none) H', rt := D.rt, bk := fun σ' H' => D.bk (σ'.set i none) H', ct := fun σ' H' => D.ct (σ'.set i none) H' }) (fun v H2 M2 e2 R2 r2 => (h : OkS X.K ct M H (.rt d μ') D W) v H2 M2 (ev.trans e2) R2 r2) hs hv pins s ht I
    · rw [if_neg hc] at h
      exact (h : False).elim
end
end PyI
/-! A14: for; the resolver of statements; defs. -/
namespace PyI
open PySem L2
section
variable {τ : Bool} {X : Cx} {ct : CTab} {Γ : G} {N loc : List Str} {sc : Scope} {tb : Tb} {iter tg : Expr} {it : IT} {tt : Tg} {pos : Pos} {body : List Stmt} {BA : B}
theorem sndS_for (F : FrS X ct tb Γ N sc loc) (hset : isSet iter = false) (ht : resTg N loc tg = some tt) (hI : SndI X ct Γ tg iter it) (hb : SndBk τ X ct Γ body BA) : SndS τ X ct Γ (.For tg iter body [] pos) (.for_ tt it BA) := by
  intro W ρ μ σ H M D tk E R h
  unfold runS at h
  intro pins s h0 I
  have hg : PG X tg (gOf X.K tt) := tg_ok F.f F.l ht
  have hc := F.f.calm
  have hp := F.po
  generalize hf : (fun (d : PyI.D) (ρ : Rho) (μ : Mu) => match assignT tt d ρ with
      | some ρ' => runB Γ BA ρ' μ
      | none => Out.stuck) = f at h
  have key := hI W ρ μ σ H M (fun J H1 => ∃ (ds : List PyI.D) (src : Option (Nat × List PyI.D)) (μ1 : Mu) (M1 : AM), ItOk X.K ct M1 H1 J (ds, src) ∧ RelE X.K H1 M1 σ ρ ∧ RelH X.K ct H1 μ1 M1 ∧ OkS X.K ct M1 H1 (forLoop f (chkOf src) ds ρ μ1) D W) tk E R (h.step E fun its μ1 J H1 M1 e1 R1 J1 h1 => ⟨its.1, its.2, μ1, M1, J1, E.evo e1, R1, h1⟩) pins s I
  refine wpAny_For (wpAny_mono (PySem.wpAny_toks key) (fun v s1 h1 => wpAny_mono (PySem.wpAny_toks h1.2) (fun itv s2 h2 => ?_) fun _ _ x => x.2) fun _ _ x => x.2) (set_iter hset)
  obtain ⟨hk2, it, fp, tn, J, H2, e, I2, T, st2, f2, ds, src, μ2, M2, J2, E2, R2, k2⟩ := h2
  subst e
  have h02 : τ = true → 1 ≤ s2.toks := fun t => Nat.le_trans (Nat.le_trans (h0 t) h1.1) hk2
  have stat : ∀ {H' : Hp}, (∀ b ∈ fp, H' b = none) → ∀ b ∈ fp, FpOk X pins H' b := fun hn b hb => ⟨hn b hb, (f2 b hb).2⟩
  refine codeAny_forLoop_any (fun n s' => (τ = true → 1 ≤ s'.toks) ∧ ∃ (i : Nat) (ρ' : Rho) (μ' : Mu) (σ' : St) (H' : Hp) (M' : AM), Inv X pins σ' H' s' ∧ tn i s'.heap ∧ (∀ b ∈ fp, H' b = none) ∧ n = ds.length - i ∧ i ≤ ds.length ∧ RelE X.K H' M' σ' ρ' ∧ RelH X.K ct H' μ' M' ∧ Stay M2 H2 M' H' ∧ OkS X.K ct M' H' (forLoop f (chkOf src) (ds.drop i) ρ' μ') D W) ?_ ds.length ⟨h02, 0, ρ, μ2, σ, H2, M2, I2, st2, fun b hb => (f2 b hb).1, rfl, Nat.zero_le _, E2, R2, (Evo.refl _ _).stay, k2⟩
  rintro n s3 ⟨h03, i, ρ3, μ3, σ3, H3, M3, I3, st3, fr3, hn, hi, E3, R3, sty3, k3⟩
  rcases Nat.lt_or_ge i ds.length with hlt | hge
  · -- one more turn
    have hdi : ds[i]? = some ds[i] := List.getElem?_eq_getElem hlt
    rw [List.drop_eq_getElem_cons hlt] at k3
    unfold forLoop at k3
    by_cases hck : chkOf src μ3 = true
    · rw [if_pos hck] at k3
      obtain ⟨go, hy⟩ := J2.go M3 H3 μ3 i ds[i] sty3 R3 hck hdi
      refine wpAny_passesOwn hp (wpAny_mono (PySem.wpAny_toks (T.item X rfl rfl rfl hc i pins s3 σ3 H3 X.xe I3 (stat fr3) st3 go)) (fun r s4 z4 => ?_) fun _ _ x => x.2)
      obtain ⟨hk4, u, hr, h4⟩ := z4
      subst hr
      refine wpAny_passesOwn hp (wpAny_mono (PySem.wpAny_toks h4) (fun _ s5 z5 => ?_) fun _ _ x => x.2)
      obtain ⟨hk5, x, H5, I5, r5, y5, st5, fr5⟩ := z5
      obtain ⟨hH5, rx⟩ := hy x H5 y5
      subst hH5
      have I5' := I5.pinned (stat fr5) (T.obj _ _ st5)
      have hfd : f ds[i] ρ3 μ3 = (match assignT tt ds[i] ρ3 with
        | some ρ' => runB Γ BA ρ' μ3
        | none => Out.stuck) := by rw [← hf]
      rw [hfd] at k3
      cases has : assignT tt ds[i] ρ3 with
      | none => simp only [has] at k3; exact (k3 : False).elim
      | some ρ5 =>
        simp only [has] at k3
        have gq : gOf X.K tt x σ3 H5 (fun σ6 H6 => H6 = H5 ∧ RelE X.K H5 M3 σ6 ρ5) := assign_ok rx E3 has fun σ' E' _ => ⟨rfl, E'⟩
        refine wpAny_passesOwn hp (wpAny_mono (PySem.wpAny_toks (hg.run _ s5 σ3 H5 x u _ I5' r5 gq)) (fun _ s6 z6 => ?_) fun _ _ x => x.2)
        obtain ⟨hk6, σ6, H6, I6, rfl, E6⟩ := z6
        have h06 : τ = true → 1 ≤ s6.toks := fun t => Nat.le_trans (Nat.le_trans (Nat.le_trans (h03 t) hk4) hk5) hk6
        let Nx : St → Hp → Prop := fun σ' H' => ∃ (ρ' : Rho) (μ' : Mu) (M' : AM), RelE X.K H' M' σ' ρ' ∧ RelH X.K ct H' μ' M' ∧ Stay M2 H2 M' H' ∧ OkS X.K ct M' H' (forLoop f (chkOf src) (ds.drop (i + 1)) ρ' μ') D W
        have bodyOk : OkS X.K ct M3 H6 (runB Γ BA ρ5 μ3) { D with nx := Nx, ct := Nx, bk := D.nx } W := by
          cases hr : runB Γ BA ρ5 μ3 with
          | nx ρ' μ' => rw [hr] at k3; exact fun σ' H' M' e' R' E' => ⟨ρ', μ', M', E', R', sty3.trans e'.stay, OkS.evo e' k3⟩
          | ct ρ' μ' => rw [hr] at k3; exact fun σ' H' M' e' R' E' => ⟨ρ', μ', M', E', R', sty3.trans e'.stay, OkS.evo e' k3⟩
          | br ρ' μ' => rw [hr] at k3; exact k3
          | rt d μ' => rw [hr] at k3; exact k3
          | er c fs ρ' μ' => rw [hr] at k3; exact k3
          | stuck => rw [hr] at k3; exact k3
        refine wpAny_passesOwn hp (wpAny_mono (PySem.wpAny_toks (hb W ρ5 μ3 σ6 H6 M3 _ tk E6 R3 bodyOk _ s6 h06 I6)) (fun f' s7 z7 => ?_) fun _ _ x => x.2)
        obtain ⟨hk7, q7⟩ := z7
        have h07 : τ = true → 1 ≤ s7.toks := fun t => Nat.le_trans (h06 t) hk7
        have again : ∀ {σ7 : St} {H7 : Hp}, Inv X (pins ++ pinsAt fp s5.heap) σ7 H7 s7 → Nx σ7 H7 → ∃ m, m < n ∧ (τ = true → 1 ≤ s7.toks) ∧ ∃ (i : Nat) (ρ' : Rho) (μ' : Mu) (σ' : St) (H' : Hp) (M' : AM), Inv X pins σ' H' s7 ∧ tn i s7.heap ∧ (∀ b ∈ fp, H' b = none) ∧ m = ds.length - i ∧ i ≤ ds.length ∧ RelE X.K H' M' σ' ρ' ∧ RelH X.K ct H' μ' M' ∧ Stay M2 H2 M' H' ∧ OkS X.K ct M' H' (forLoop f (chkOf src) (ds.drop i) ρ' μ') D W := fun {σ7 H7} I7 ⟨ρ', μ', M', E', R', sty', k'⟩ => by
          refine ⟨ds.length - (i + 1), by omega, h07, i + 1, ρ', μ', σ7, H7, M', I7.unpinned, T.keep _ _ _ st5 fun b hb o e => (I7.pin (b, o) (List.mem_append_right _ (List.mem_append_right _ (mem_pinsAt hb e)))).1, fun b hb => ?_, rfl, hlt, E', R', sty', k'⟩
          obtain ⟨o, e, d⟩ := T.obj _ _ st5 b hb
          exact (I7.pin (b, o) (List.mem_append_right _ (List.mem_append_right _ (mem_pinsAt hb e)))).2.1
        cases f' with
        | next => obtain ⟨σ7, H7, I7, n7⟩ := q7; exact again I7 n7
        | cont => obtain ⟨σ7, H7, I7, n7⟩ := q7; exact again I7 n7
        | brk => obtain ⟨σ7, H7, I7, q7⟩ := q7; exact ⟨σ7, H7, I7.unpinned, q7⟩
        | ret v => obtain ⟨x7, σ7, H7, I7, r7, q7⟩ := q7; exact ⟨x7, σ7, H7, I7.unpinned, r7, q7⟩
    · rw [if_neg hck] at k3; exact (k3 : False).elim
  · have hie : i = ds.length := Nat.le_antisymm hi hge
    subst hie
    rw [List.drop_length] at k3
    unfold forLoop at k3
    by_cases hck : chkOf src μ3 = true
    · rw [if_pos hck] at k3
      refine wpAny_passesOwn hp (thn (T.done X rfl rfl rfl hc _ pins s3 σ3 H3 X.xe I3 (stat fr3) st3 (J2.stop M3 H3 μ3 sty3 R3 hck)) fun r s4 ⟨hr, I4⟩ => ?_)
      subst hr
      exact wpAny_execs_nil ⟨σ3, H3, I4, k3.nxt R3 E3⟩
    · rw [if_neg hck] at k3; exact (k3 : False).elim
end


/-! ### the resolver of statements -/
structure RS where
  C : RC
  sc : Scope
  loc : List Str
  muts : List Str
  τ : Bool
structure ReplOf where
  o : Expr
  y : Str
  z : Str
  apos : Pos
  pos : Pos
def replOf : Expr → Option ReplOf
  | .Call (.Attribute o m apos) [.Constant (.str y) _ _, .Constant (.str z) _ _] [] pos => if m = "replace" then some ⟨o, y, z, apos, pos⟩ else none
  | _ => none
theorem replOf_eq {e : Expr} {r : ReplOf} (h : replOf e = some r) : ∃ j1 c0 j2 c1, e = .Call (.Attribute r.o "replace" r.apos) [.Constant (.str r.y) j1 c0, .Constant (.str r.z) j2 c1] [] r.pos := by
  unfold replOf at h
  split at h
  · split at h
    · next hm => cases h; rw [hm]; exact ⟨_, _, _, _, rfl⟩
    · cases h
  · cases h
def resR : Nat → RC → Scope → Expr → Option R
  | 0, _, _, _ => none
  | n + 1, C, sc, e => match replOf e with
    | some r => guardO (!(r.y == r.z) && plainO r.o && r.apos.endLine == r.pos.line) ((resR n C sc r.o).map fun q => .repl q r.y r.z)
    | none => (resE n C sc e).map .base
/-- return 'a' + e.replace(..) + 'b' -/
structure RetOf where
  pre : Str
  e : Expr
  post : Str
def retOf : Expr → Option RetOf
  | .BinOp (.BinOp (.Constant (.str a) _ _) .Add e _) .Add (.Constant (.str b) _ _) _ => (replOf e).map fun _ => ⟨a, e, b⟩
  | _ => none
theorem retOf_eq {e : Expr} {r : RetOf} (h : retOf e = some r) : ∃ j1 p1 p2 j2 p3 p4, e = .BinOp (.BinOp (.Constant (.str r.pre) j1 p1) .Add r.e p2) .Add (.Constant (.str r.post) j2 p3) p4 := by
  unfold retOf at h
  split at h
  · obtain ⟨_, _, rfl⟩ := Option.map_eq_some_iff.mp h; exact ⟨_, _, _, _, _, _, rfl⟩
  · cases h
structure CompOf where
  elt : Expr
  tg : Expr
  iter : Expr
  ifs : List Expr
  scope : Scope
  pos : Pos
def compOf : Expr → Option CompOf
  | .ListComp elt [⟨tg, iter, ifs, 0⟩] scope pos => some ⟨elt, tg, iter, ifs, scope, pos⟩
  | _ => none
theorem compOf_eq {e : Expr} {r : CompOf} (h : compOf e = some r) : e = .ListComp r.elt [⟨r.tg, r.iter, r.ifs, 0⟩] r.scope r.pos := by
  unfold compOf at h
  split at h
  · cases h; rfl
  · cases h
def resComp (n : Nat) (C : RC) (sc : Scope) (r : CompOf) : Option (Tg × IT × T × E) :=
  guardO (blkC C.N sc r.scope (ownOf C.N r.scope) && !isSet r.iter) ((resTg C.N ((ownOf C.N r.scope).map Prod.fst) r.tg).bind fun t => guardO ((slotsOf t).all fun i => decide (i ∈ (ownOf C.N r.scope).map Prod.snd)) ((resI n C sc r.iter).bind fun it =>
    (match r.ifs with
      | [] => some T.yes
      | [c] => resT n C (relS r.scope sc) c
      | _ => none).bind fun c => (resE n C (relS r.scope sc) r.elt).map fun e => (t, it, c, e)))
def isLst : Expr → Option (List Expr)
  | .List es _ => some es
  | _ => none
theorem isLst_eq {e : Expr} {es : List Expr} (h : isLst e = some es) : ∃ p, e = .List es p := by
  unfold isLst at h
  split at h
  · cases h; exact ⟨_, rfl⟩
  · cases h
/-- what makes a new list, beside displays and comprehensions -/
def freshOf (n : Nat) (C : RC) (sc : Scope) : Expr → Option E
  | .IfExp c (.List es _) (.List es' _) _ => (resT n C sc c).bind fun T => (resEs n C sc es).bind fun A => (resEs n C sc es').map fun B => .ite T (.lst A) (.lst B)
  | .BinOp a .Add b _ => (resE n C sc a).bind fun A => (resE n C sc b).map fun B => .bin .add A B
  | _ => none
theorem freshOf_ok {X : Cx} {ct : CTab} {Γ : G} {C : RC} {sc : Scope} {n : Nat} {e : Expr} {A : E} (ie : SndAt ct Γ C n) (F : Fr X ct C.tb Γ C.N sc) (h : freshOf n C sc e = some A) : SndN X ct Γ e A ∧ isComp e = false := by
  unfold freshOf at h
  split at h
  · obtain ⟨T1, hT, h⟩ := Option.bind_eq_some_iff.mp h
    obtain ⟨A1, hA, h⟩ := Option.bind_eq_some_iff.mp h
    obtain ⟨B1, hB, rfl⟩ := Option.map_eq_some_iff.mp h
    exact ⟨sndN_ite (ie.t X sc _ _ F hT) (sndN_lst (ie.es X sc _ _ F hA).1) (sndN_lst (ie.es X sc _ _ F hB).1), rfl⟩
  · obtain ⟨A1, hA, h⟩ := Option.bind_eq_some_iff.mp h
    obtain ⟨B1, hB, rfl⟩ := Option.map_eq_some_iff.mp h
    exact ⟨sndN_add (ie.e X sc _ _ F hA) (ie.e X sc _ _ F hB), rfl⟩
  · cases h
def resAug : Operator → Option Bop
  | .Add => some .add
  | .Sub => some .sub
  | _ => none
def clsOf (x : Str) : List (Str × List Str) → Option (Nat × List Str)
  | [] => none
  | (y, fl) :: ys => if x = y then some (0, fl) else (clsOf x ys).map fun p => (p.1 + 1, p.2)
theorem clsOf_get {x : Str} : ∀ {l : List (Str × List Str)} {i : Nat} {fl : List Str}, clsOf x l = some (i, fl) → l[i]? = some (x, fl)
  | [], _, _, h => by cases h
  | (y, gl) :: ys, i, fl, h => by
    unfold clsOf at h
    by_cases e : x = y
    · rw [if_pos e] at h
      cases h
      subst e
      rfl
    · rw [if_neg e] at h
      obtain ⟨⟨j, m⟩, hj, q⟩ := Option.map_eq_some_iff.mp h
      cases q
      simpa using clsOf_get hj
mutual
def resS : Nat → RS → Stmt → Option S
  | 0, _, _ => none
  | n + 1, c, st => match st with
    | .Assign [.Name x _] e _ => guardO (decide (x ∈ c.loc)) ((ixOf x c.C.N).bind fun k =>
        match replOf e with
        | some _ => guardO c.τ ((resR n c.C c.sc e).map (.setR k))
        | none => match compOf e with
          | some r => (resComp n c.C c.sc r).map fun q => if decide (x ∈ c.muts) then .new k (.comp ((ownOf c.C.N r.scope).map Prod.snd) q.1 q.2.1 q.2.2.1 q.2.2.2) else .set (.nm k) (.comp ((ownOf c.C.N r.scope).map Prod.snd) q.1 q.2.1 q.2.2.1 q.2.2.2)
          | none => if decide (x ∈ c.muts) then (match isLst e with
              | some es => (resEs n c.C c.sc es).map fun As => .new k (.lst As)
              | none => match freshOf n c.C c.sc e with
                | some A => some (.new k A)
                | none => guardO (!isComp e) ((resE n c.C c.sc e).map (.set (.nm k)))) else guardO (!isComp e) ((resE n c.C c.sc e).map (.set (.nm k))))
    | .Assign [.Tuple es _ _] e _ => guardO (!isComp e && !isTup e) ((resNames c.C.N c.loc es).bind fun l => (resE n c.C c.sc e).map (.set (.tp l)))
    | .Assign [.Subscript o i _] v _ => guardO (!isSlc i && !isComp v) ((resE n c.C c.sc o).bind fun A => (resE n c.C c.sc i).bind fun B => (resE n c.C c.sc v).map fun C => .setIx A B C)
    | .AugAssign (.Name x _) op e _ => guardO (decide (x ∈ c.loc)) ((ixOf x c.C.N).bind fun k => (resAug op).bind fun b => (resE n c.C c.sc e).map (.aug k b))
    | .Expr e _ => guardO (!isComp e) ((resE n c.C c.sc e).map .expr)
    | .If t a b _ => (resT n c.C c.sc t).bind fun T => (resB n c a).bind fun A => (resB n c b).map fun B => .ifs T A B
    | .For tg iter body [] _ => guardO (!isSet iter) ((resTg c.C.N c.loc tg).bind fun t => (resI n c.C c.sc iter).bind fun it => (resB n c body).map fun b => .for_ t it b)
    | .While t body [] _ => (resT n c.C c.sc t).bind fun T => (resB n c body).map fun b => .whl T b
    | .Return (some e) _ => (match retOf e with
        | some r => guardO c.τ ((resR n c.C c.sc r.e).map fun q => .retR r.pre q r.post)
        | none => (resE n c.C c.sc e).map .ret)
    | .Return none _ => some .retN
    | .Pass _ => some .pass
    | .Break _ => some .brk
    | .Continue _ => some .cnt
    | .Raise (some (.Call (.Name x _) (e :: es) [] _)) none _ => some (match clsOf x c.C.tb.clss with
        | some (k, fl) => if (okName x && glB c.sc x && decide (fl.length ≤ 10)) = true then (match resEs n c.C c.sc (e :: es) with
            | some A => .rse k fl.length A
            | none => .bad) else .bad
        | none => .bad)
    | .Raise _ _ _ => some .bad
    | .Try [.Return (some r) _] [.ExceptHandler (some (.Name x _)) (some nm) (b₀ :: suite) _] [] [] _ => guardO (okName x && glB c.sc x && okName nm && decide (c.sc.names.lookup nm = some .local)) ((clsOf x c.C.tb.clss).bind fun p => (ixOf nm c.C.N).bind fun i => (resE n c.C c.sc r).bind fun A => (resXS c.C.tb c.sc p.1 nm p.2 20 (b₀ :: suite)).map fun R => .tryR A p.1 i R)
    | _ => none
def resB : Nat → RS → List Stmt → Option B
  | 0, _, _ => none
  | n + 1, c, sts => match sts with
    | [] => some .nil
    | st :: r => (resS n c st).bind fun A => (resB n c r).map fun B => .cons A B
end
section
variable {ct : CTab} {Γ : G} {X : Cx} {c : RS}
theorem resR_ok : ∀ (n : Nat) {X : Cx} {C : RC} {sc : Scope} {e : Expr} {A : R}, Fr X ct C.tb Γ C.N sc → resR n C sc e = some A → SndR X ct Γ e A
  | 0, _, _, _, _, _, _, h => by unfold resR at h; cases h
  | n + 1, X, C, sc, e, A, F, h => by
    unfold resR at h
    split at h
    · next r hr =>
      obtain ⟨j1, c0, j2, c1, rfl⟩ := replOf_eq hr
      obtain ⟨hg, h⟩ := guardO_some h
      simp only [Bool.and_eq_true, Bool.not_eq_true'] at hg
      obtain ⟨q, hq, rfl⟩ := Option.map_eq_some_iff.mp h
      exact sndR_repl (resR_ok n F hq) hg.1.1 hg.1.2 hg.2
    · obtain ⟨q, hq, rfl⟩ := Option.map_eq_some_iff.mp h
      exact sndR_base ((sndAt ct Γ C n).e X sc e q F hq)
theorem comp_parts {n : Nat} {C : RC} {sc : Scope} {r : CompOf} {q : Tg × IT × T × E} (F : Fr X ct C.tb Γ C.N sc) (h : resComp n C sc r = some q) :
    BlkOk C.N sc r.scope (ownOf C.N r.scope) ∧ isSet r.iter = false ∧ resTg C.N ((ownOf C.N r.scope).map Prod.fst) r.tg = some q.1 ∧ (∀ i ∈ slotsOf q.1, i ∈ (ownOf C.N r.scope).map Prod.snd) ∧
      SndI X ct Γ r.tg r.iter q.2.1 ∧ SndTB X ct Γ r.scope r.ifs q.2.2.1 ∧ SndB X ct Γ r.scope r.elt q.2.2.2 := by
  unfold resComp at h
  obtain ⟨hb, h⟩ := guardO_some h
  simp only [Bool.and_eq_true, Bool.not_eq_true'] at hb
  obtain ⟨t, ht, h⟩ := Option.bind_eq_some_iff.mp h
  obtain ⟨hsl, h⟩ := guardO_some h
  obtain ⟨it, hit, h⟩ := Option.bind_eq_some_iff.mp h
  obtain ⟨c, hc, h⟩ := Option.bind_eq_some_iff.mp h
  obtain ⟨A1, hA, rfl⟩ := Option.map_eq_some_iff.mp h
  have ok := blkOk_by hb.1
  have ih := sndAt ct Γ C n
  refine ⟨ok, hb.2, ht, fun i hi => of_decide_eq_true (List.all_eq_true.mp hsl i hi), ih.i X sc _ _ _ F hit, ?_, fun s H C' cl fp => ih.e _ _ _ _ (F.blk ok s H C' cl fp) hA⟩
  split at hc
  · next hq => cases hc; exact .inl ⟨hq, rfl⟩
  · next e hq => exact .inr ⟨_, hq, fun s H C' cl fp => ih.t _ _ _ _ (F.blk ok s H C' cl fp) hc⟩
  · cases hc
theorem resS_ok : ∀ (n : Nat), (∀ {X : Cx} {st : Stmt} {A : S}, FrS X ct c.C.tb Γ c.C.N c.sc c.loc → resS n c st = some A → SndS c.τ X ct Γ st A) ∧ (∀ {X : Cx} {sts : List Stmt} {A : B}, FrS X ct c.C.tb Γ c.C.N c.sc c.loc → resB n c sts = some A → SndBk c.τ X ct Γ sts A)
  | 0 => ⟨fun _ h => by (unfold resS at h; cases h), fun _ h => by (unfold resB at h; cases h)⟩
  | n + 1 => by
    have ih := resS_ok n
    have ie := sndAt ct Γ c.C n
    refine ⟨fun {X st A} F h => ?_, fun {X sts A} F h => ?_⟩
    · unfold resS at h
      split at h
      · -- x = e
        next x px e pos =>
        obtain ⟨hx, h⟩ := guardO_some h
        have hx := of_decide_eq_true hx
        obtain ⟨k, hk, h⟩ := Option.bind_eq_some_iff.mp h
        have hk := ixOf_get hk
        split at h
        · next r hr =>
          obtain ⟨ht, h⟩ := guardO_some h
          obtain ⟨q, hq, rfl⟩ := Option.map_eq_some_iff.mp h
          obtain ⟨j1, c0, j2, c1, he⟩ := replOf_eq hr
          rw [ht]
          exact sndS_setR F hx hk (by rw [he]; rfl) (resR_ok n F.f hq)
        · split at h
          · next r hr =>
            obtain ⟨q, hq, rfl⟩ := Option.map_eq_some_iff.mp h
            obtain ⟨p1, p2, p3, p4, p5, p6, p7⟩ := comp_parts F.f hq
            rw [compOf_eq hr]
            split
            · exact sndS_newC F hx hk p1 p2 p3 p4 p5 p6 p7
            · exact sndS_setC F hx hk p1 p2 p3 p4 p5 p6 p7
          · have plain : ∀ {A : S}, guardO (!isComp e) ((resE n c.C c.sc e).map (S.set (.nm k))) = some A → SndS c.τ X ct Γ (.Assign [.Name x px] e pos) A := fun h => by
              obtain ⟨hc, h⟩ := guardO_some h
              obtain ⟨q, hq, rfl⟩ := Option.map_eq_some_iff.mp h
              exact sndS_set F hx hk (by simpa using hc) (ie.e X c.sc _ _ F.f hq)
            split at h
            · split at h
              · next es hes =>
                obtain ⟨q, hq, rfl⟩ := Option.map_eq_some_iff.mp h
                obtain ⟨p, he⟩ := isLst_eq hes
                rw [he]
                exact sndS_newL F hx hk (ie.es X c.sc _ _ F.f hq).1
              · split at h
                · next A' hA' =>
                  cases h
                  obtain ⟨p1, p2⟩ := freshOf_ok ie F.f hA'
                  exact sndS_newN F hx hk p2 p1
                · exact plain h
            · exact plain h
      · obtain ⟨hc, h⟩ := guardO_some h
        simp only [Bool.and_eq_true, Bool.not_eq_true'] at hc
        obtain ⟨l, hl, h⟩ := Option.bind_eq_some_iff.mp h
        obtain ⟨q, hq, rfl⟩ := Option.map_eq_some_iff.mp h
        exact sndS_tup F hl hc.1 hc.2 (ie.e X c.sc _ _ F.f hq)
      · obtain ⟨hc, h⟩ := guardO_some h
        simp only [Bool.and_eq_true, Bool.not_eq_true'] at hc
        obtain ⟨q1, hq1, h⟩ := Option.bind_eq_some_iff.mp h
        obtain ⟨q2, hq2, h⟩ := Option.bind_eq_some_iff.mp h
        obtain ⟨q3, hq3, rfl⟩ := Option.map_eq_some_iff.mp h
        exact sndS_setIx F hc.1 hc.2 (ie.e X c.sc _ _ F.f hq3) (ie.e X c.sc _ _ F.f hq1) (ie.e X c.sc _ _ F.f hq2)
      · obtain ⟨hx, h⟩ := guardO_some h
        obtain ⟨k, hk, h⟩ := Option.bind_eq_some_iff.mp h
        obtain ⟨b, hb, h⟩ := Option.bind_eq_some_iff.mp h
        obtain ⟨q, hq, rfl⟩ := Option.map_eq_some_iff.mp h
        refine sndS_aug F (of_decide_eq_true hx) (ixOf_get hk) ?_ (ie.e X c.sc _ _ F.f hq)
        unfold resAug at hb
        split at hb
        · cases hb; exact .inl ⟨rfl, rfl⟩
        · cases hb; exact .inr ⟨rfl, rfl⟩
        · cases hb
      · obtain ⟨hc, h⟩ := guardO_some h
        obtain ⟨q, hq, rfl⟩ := Option.map_eq_some_iff.mp h
        exact sndS_expr (by simpa using hc) (ie.e X c.sc _ _ F.f hq)
      · obtain ⟨q1, hq1, h⟩ := Option.bind_eq_some_iff.mp h
        obtain ⟨q2, hq2, h⟩ := Option.bind_eq_some_iff.mp h
        obtain ⟨q3, hq3, rfl⟩ := Option.map_eq_some_iff.mp h
        exact sndS_if (ie.t X c.sc _ _ F.f hq1) (ih.2 F hq2) (ih.2 F hq3)
      · obtain ⟨hs, h⟩ := guardO_some h
        obtain ⟨q1, hq1, h⟩ := Option.bind_eq_some_iff.mp h
        obtain ⟨q2, hq2, h⟩ := Option.bind_eq_some_iff.mp h
        obtain ⟨q3, hq3, rfl⟩ := Option.map_eq_some_iff.mp h
        exact sndS_for F (by simpa using hs) hq1 (ie.i X c.sc _ _ _ F.f hq2) (ih.2 F hq3)
      · obtain ⟨q1, hq1, h⟩ := Option.bind_eq_some_iff.mp h
        obtain ⟨q2, hq2, rfl⟩ := Option.map_eq_some_iff.mp h
        exact sndS_while F (ie.t X c.sc _ _ F.f hq1) (ih.2 F hq2)
      · split at h
        · next r hr =>
          obtain ⟨ht, h⟩ := guardO_some h
          obtain ⟨q, hq, rfl⟩ := Option.map_eq_some_iff.mp h
          obtain ⟨j1, p1, p2, j2, p3, p4, he⟩ := retOf_eq hr
          rw [ht, he]
          exact sndS_retR (resR_ok n F.f hq)
        · obtain ⟨q, hq, rfl⟩ := Option.map_eq_some_iff.mp h
          exact sndS_ret (ie.e X c.sc _ _ F.f hq)
      · cases h; exact sndS_retN
      · cases h; exact sndS_pass
      · cases h; exact sndS_brk
      · cases h; exact sndS_cnt
      · cases h
        split
        · rename_i k fl hk
          split
          · rename_i hg
            simp only [Bool.and_eq_true, decide_eq_true_eq] at hg
            split
            · rename_i A hA
              obtain ⟨s1, s2, _⟩ := ie.es X c.sc _ _ F.f hA
              exact sndS_rse F hg.1.1 hg.1.2 (clsOf_get hk) rfl s2 hg.2 s1
            · exact sndS_bad
          · exact sndS_bad
        · exact sndS_bad
      · cases h; exact sndS_bad
      · obtain ⟨hg, h⟩ := guardO_some h
        simp only [Bool.and_eq_true, decide_eq_true_eq] at hg
        obtain ⟨p, hp, h⟩ := Option.bind_eq_some_iff.mp h
        obtain ⟨i, hi, h⟩ := Option.bind_eq_some_iff.mp h
        obtain ⟨A, hA, h⟩ := Option.bind_eq_some_iff.mp h
        obtain ⟨R, hR, rfl⟩ := Option.map_eq_some_iff.mp h
        exact sndS_tryR F hg.1.1.1 hg.1.1.2 (clsOf_get hp) (ixOf_get hi) hg.2 hg.1.2 (fun X' F' => ie.e X' c.sc _ _ F' hA) hR
      · cases h
    · unfold resB at h
      split at h
      · cases h; exact sndB_nil
      · obtain ⟨q1, hq1, h⟩ := Option.bind_eq_some_iff.mp h
        obtain ⟨q2, hq2, rfl⟩ := Option.map_eq_some_iff.mp h
        exact sndB_cons (ih.1 F hq1) (ih.2 F hq2)
end
end PyI
/-! A15: defs keep what the interpreter says. -/
namespace PyI
open PySem L2 PyProof.Rows
structure FnD where
  name : Str
  ps : List Str
  N : List Str
  st : Stmt
  muts : List Str
  τ : Bool
  body : B
def locB (sc : Scope) (x : Str) : Bool := match sc.names.lookup x with
  | some .local => true
  | some .cell => true
  | _ => false
def locOf (sc : Scope) : List Str := (sc.names.map Prod.fst).filter (locB sc)
structure FnD.Ok (tb : Tb) (d : FnD) : Prop where
  res : resB 80 ⟨⟨d.N, tb⟩, defScope d.st, locOf (defScope d.st), d.muts, d.τ⟩ (defBody d.st) = some d.body
  sc : FnScope d.N d.ps (defScope d.st)
  tk : d.τ = true → (∀ y ∈ (defScope d.st).names, y.2 ≠ .cell) ∧ 1 ≤ d.ps.length
def FnD.fn (d : FnD) : Fn := ⟨d.ps.length, d.N.length, d.body⟩
/-- what a law's program gives -/
structure Prg where
  fds : List FnD
  tb : Tb
  con : Nat → Option D
  dic : Nat → List (Str × D)
  wf : Nat
def Prg.tab (p : Prg) : List Fn := p.fds.map FnD.fn
def Prg.G (p : Prg) (k : Nat) : G := ⟨callD p.tab p.con p.dic p.wf k, p.con, p.dic, p.wf, decide (2 ≤ k)⟩
structure Prg.Ok (p : Prg) : Prop where
  fns : p.tb.fns = p.fds.map fun d => (d.name, d.ps.length)
  ok : ∀ d ∈ p.fds, d.Ok p.tb
structure Prg.At (p : Prg) (P : Program) (w : World) (K : PySem.W.Frag) (mg : Str → Option Value) (ct : CTab) : Prop where
  bi : ∀ x ∈ bins, mg x = none
  con : ∀ g x d, p.tb.cons[g]? = some x → p.con g = some d → ∃ u v, mg x = some u ∧ RelV v u ∧ ∀ H M, Rep K H M v d
  dic : ∀ g x, p.tb.dics[g]? = some x → ∃ d, mg x = some (.ref d) ∧ DicAt K w d (p.dic g)
  cls : ∀ (c : Nat) (x : Str) (fl : List Str), p.tb.clss[c]? = some (x, fl) → ClsK P w K mg (ct.cls c) x fl ∧ ct.flds c = fl ∧ fl.Nodup
  isx : ∀ c x b, (c, x, b) ∈ p.tb.isx → ∃ (v : V) (cv : Value), ((mg x = some cv) ∨ (mg x = none ∧ bootBuiltins x = some cv ∧ x ≠ "__name__")) ∧ RelV v cv ∧ (∀ u, RelV v u → u = cv) ∧ PySem.W.kitOne K (.ref (ct.cls c)) cv = some b
  fn : ∀ d ∈ p.fds, ∃ a fd qual, Fun K d.name qual d.st a fd ∧ mg d.name = some (.ref a) ∧ ∀ us : List Value, us.length = d.ps.length → bindArgs fd ⟨us, []⟩ = pure (d.ps.zip us)
section
variable {K : PySem.W.Frag} {ct : CTab} {H H' : Hp} {M M' : AM} {μ μ' : Mu} {Q : VK} {W : XK} {v : V} {d : D} {n : Nat}
theorem fin_ok (hn : M.ix.length = n) (h : PyI.Ok K ct (RD K) M H (fin n d μ') Q W) (e : Evo M H M' H') (R : RelH K ct H' μ' M') (r : Rep K H' M' v d) : Q v H' := by
  unfold fin at h
  by_cases h1 : μ'.length = n
  · rw [if_pos h1] at h; exact h v H' M' e R r
  · rw [if_neg h1] at h
    simp only at h
    -- the value, as it is handed back
    have key : ∀ d', (below n d' = true → Rep K H' (M'.cut n) v d') → PyI.Ok K ct (RD K) M H (if below n d' = true ∧ (μ'.take n).all (belowMO n) = true ∧ n ≤ μ'.length then Res.ok d' (μ'.take n) else .ok d μ') Q W → Q v H' := by
      intro d' hr hk
      by_cases h2 : below n d' = true ∧ (μ'.take n).all (belowMO n) = true ∧ n ≤ μ'.length
      · rw [if_pos h2] at hk
        exact hk v H' (M'.cut n) (by rw [← hn]; exact e.cut) (R.cut n h2.2.1) (hr h2.1)
      · rw [if_neg h2] at hk
        exact hk v H' M' e R r
    cases d with
    | ref k =>
      simp only at h
      by_cases h3 : n ≤ k
      · rw [if_pos h3] at h
        cases hk : μ'[k]? with
        | none => simp only [hk] at h; exact key _ (fun q => r.cut n q) h
        | some mo =>
          cases mo with
          | lst l =>
            simp only [hk] at h
            refine key _ (fun q => ?_) h
            cases r with
            | ref ha =>
              obtain ⟨xs, hx, rx⟩ := R.lst hk ha
              refine .lst ⟨.inl hx, fun z => ?_, fun z => (R.exs _ z).2 (List.mem_of_getElem? ha)⟩ (rx.cut n (by simpa only [below] using q))
              -- the place k is cut off
              have z : _ ∈ M'.ix.take n := z
              obtain ⟨j, hj, ej⟩ := List.getElem_of_mem z
              have hjn : j < n := by rw [List.length_take] at hj; omega
              have hjl : j < M'.ix.length := by rw [List.length_take] at hj; omega
              rw [List.getElem_take] at ej
              have e1 : M'.ix[j]? = M'.ix[k]? := by rw [ha, List.getElem?_eq_getElem hjl, ej]
              have := (List.getElem?_inj hjl R.nd).mp e1
              omega
          | dead => simp only [hk] at h; exact key _ (fun q => r.cut n q) h
          | ins _ _ => simp only [hk] at h; exact key _ (fun q => r.cut n q) h
          | dk _ => simp only [hk] at h; exact key _ (fun q => r.cut n q) h
      · rw [if_neg h3] at h; exact key _ (fun q => r.cut n q) h
    | non => exact key _ (fun q => r.cut n q) h
    | bl _ => exact key _ (fun q => r.cut n q) h
    | int _ => exact key _ (fun q => r.cut n q) h
    | str _ => exact key _ (fun q => r.cut n q) h
    | tup _ => exact key _ (fun q => r.cut n q) h
    | lst _ => exact key _ (fun q => r.cut n q) h
    | kl _ => exact key _ (fun q => r.cut n q) h
theorem finO_ok {o : Out} (hn : M.ix.length = n) (h : PyI.Ok K ct (RD K) M H (finO n o) Q W) : OkS K ct M H o { nx := fun _ H' => Q .non H', rt := Q } (fun cls d _ H' => W cls d H') := by
  cases o with
  | nx ρ μ => exact fun σ' H' M' e R E => fin_ok hn h e R .non
  | rt d μ => exact fun v H' M' e R r => fin_ok hn h e R r
  | br ρ μ => exact (h : False).elim
  | ct ρ μ => exact (h : False).elim
  | stuck => exact h
  | er c fs ρ μ =>
    intro cls d σ' H' M' e R E r
    have h : PyI.Ok K ct (RD K) M H (if μ.length = n then .err c fs μ else if belows n fs = true ∧ (μ.take n).all (belowMO n) = true ∧ n ≤ μ.length then .err c fs (μ.take n) else .err c fs μ) Q W := h
    by_cases h1 : μ.length = n
    · rw [if_pos h1] at h; exact h cls d H' M' e R r
    · rw [if_neg h1] at h
      by_cases h2 : belows n fs = true ∧ (μ.take n).all (belowMO n) = true ∧ n ≤ μ.length
      · rw [if_pos h2] at h
        obtain ⟨q1, dx, vs, q2, q3, q5, q4⟩ := r
        exact h cls d H' (M'.cut n) (by rw [← hn]; exact e.cut) (R.cut n h2.2.1) ⟨q1, dx, vs, q2, q3, q5, q4.cut n h2.1⟩
      · rw [if_neg h2] at h; exact h cls d H' M' e R r
theorem start_rel {N : List Str} {vs : List V} {ds : List D} (r : Reps K H M vs ds) : RelE K H M (L2.start N vs) (startR N.length ds) := by
  refine ⟨?_, fun i d h => ?_⟩
  · unfold L2.start startR
    rw [List.length_append, List.length_append, List.length_map, List.length_map, List.length_replicate, List.length_replicate, r.length]
  · unfold startR at h
    unfold L2.start
    rcases Nat.lt_or_ge i ds.length with z | z
    · rw [List.getElem?_append_left (by rw [List.length_map]; exact z), List.getElem?_map] at h
      obtain ⟨d', hd, e⟩ := Option.map_eq_some_iff.mp h
      cases e
      obtain ⟨v, hv, rv⟩ := r.get hd
      rw [List.getElem?_append_left (by rw [List.length_map, r.length]; exact z), List.getElem?_map, hv]
      exact ⟨v, rfl, rv⟩
    · rw [List.getElem?_append_right (by rw [List.length_map]; exact z)] at h
      rw [List.getElem?_replicate] at h
      split at h <;> cases h
end
section
variable {p : Prg} {P : Program} {w : World} {K : PySem.W.Frag} {mg : Str → Option Value} {base : Heap}
theorem call_stuck {f : Nat} {ds : List D} {μ : Mu} {k : Nat} {d : FnD} (hd : p.fds[f]? = some d) (h : ds.length ≠ d.ps.length) : callD p.tab p.con p.dic p.wf k f ds μ = .stuck := by
  cases k with
  | zero => rfl
  | succ k =>
    unfold callD
    have : p.tab[f]? = some d.fn := by unfold Prg.tab; rw [List.getElem?_map, hd]; rfl
    rw [this]
    exact if_neg h
theorem fns_get (ok : p.Ok) {f n : Nat} {x : Str} (h : p.tb.fns[f]? = some (x, n)) : ∃ d, p.fds[f]? = some d ∧ d.name = x ∧ d.ps.length = n := by
  rw [ok.fns, List.getElem?_map] at h
  obtain ⟨d, hd, e⟩ := Option.map_eq_some_iff.mp h
  cases e
  exact ⟨d, hd, rfl, rfl⟩
theorem all_ok (ok : p.Ok) (ct : CTab) (A0 : p.At P w K mg ct) : ∀ (k f : Nat) (d : FnD) (a : Addr) (fd : FuncData) (qual : Str), p.fds[f]? = some d → Fun K d.name qual d.st a fd → FnOk P w K mg base (L2.CX P w) k a fd d.ps (spF K ct (p.G k) f d.ps.length)
  | 0, f, d, a, fd, qual, hd, F => by
    have no : ∀ vs H Q E, ¬ spF K ct (p.G 0) f d.ps.length vs H Q E := fun vs H Q E h => by
      obtain ⟨ds, μ, M, _, _, _, h⟩ := h
      exact h
    exact ⟨fun vs H Q E h => absurd h (no vs H Q E), fun A outer s H args us vs Q E _ _ _ _ h => absurd h (no vs H Q E)⟩
  | k + 1, f, d, a, fd, qual, hd, F => by
    have ih := all_ok ok ct A0 k
    have dok := ok.ok d (List.mem_of_getElem? hd)
    have hlen : ∀ vs H Q E, spF K ct (p.G (k + 1)) f d.ps.length vs H Q E → vs.length = d.ps.length := fun vs H Q E h => h.choose_spec.choose_spec.choose_spec.1
    have body : ∀ (cdv : Value) (A : Around) (outer : List Env) (s : Shared) (H : Hp) (vs : List V) (Q : VK) (E : XK), Room k (A.deeper (envOfC qual (defScope d.st) s.heap.objs.size a cdv)) → spF K ct (p.G (k + 1)) f d.ps.length vs H Q E →
        wB d.τ (cxOf (L2.CX P w) P w K mg base d.N qual (defScope d.st) a cdv A outer s H E) (defBody d.st) { nx := fun _ H' => Q .non H', rt := Q } (L2.start d.N vs) H := by
      intro cdv A outer s H vs Q E hr h
      obtain ⟨ds, μ, M, hl, R, r, h⟩ := h
      have ht : p.tab[f]? = some d.fn := by unfold Prg.tab; rw [List.getElem?_map, hd]; rfl
      have hdl : ds.length = d.ps.length := by rw [← r.length, hl]
      have h2 : PyI.Ok K ct (RD K) M H (finO μ.length (runB (p.G k) d.body (startR d.N.length ds) μ)) Q E := by
        have e : (p.G (k + 1)).call f ds μ = finO μ.length (runB (p.G k) d.body (startR d.N.length ds) μ) := by
          show callD p.tab p.con p.dic p.wf (k + 1) f ds μ = _
          unfold callD
          rw [ht]
          exact if_pos hdl
        rw [e] at h
        exact h
      let X := cxOf (L2.CX P w) P w K mg base d.N qual (defScope d.st) a cdv A outer s H E
      have fr : FrS X ct p.tb (p.G k) d.N (defScope d.st) (locOf (defScope d.st)) := by
        refine ⟨⟨rfl, rfl, dok.sc.nd, rfl, dok.sc.kind, ⟨hr.units, A0.bi, fun f' x n hf => ?_, fun f' x n ds μ hf hne => ?_, A0.con, A0.dic, A0.cls, fun hm => hr.mono (of_decide_eq_true hm), A0.isx⟩⟩, fun x hx => ?_, passes_of rfl, rfl, rfl⟩
        · obtain ⟨d', hd', rfl, rfl⟩ := fns_get ok hf
          obtain ⟨a', fd', q', F', hm, hb⟩ := A0.fn d' (List.mem_of_getElem? hd')
          exact ⟨k, a', fd', d'.ps, ih f' d' a' fd' q' hd' F', hr, hm, F'.kp, .all hb⟩
        · obtain ⟨d', hd', rfl, rfl⟩ := fns_get ok hf
          exact call_stuck hd' hne
        · have hb := (List.mem_filter.mp hx).2
          unfold locB at hb
          refine ⟨?_, .inl rfl⟩
          split at hb
          · next q => exact .inl q
          · next q => exact .inr q
          · cases hb
      exact (resS_ok (c := ⟨⟨d.N, p.tb⟩, defScope d.st, locOf (defScope d.st), d.muts, d.τ⟩) (ct := ct) (Γ := p.G k) 80).2 (X := X) fr dok.res (fun cls d _ H => E cls d H) (startR d.N.length ds) μ (L2.start d.N vs) H M _ (takes_of rfl rfl rfl rfl) (start_rel r) R (finO_ok R.len h2)
    cases ht : d.τ with
    | false =>
      refine F.okX dok.sc hlen (fun cdv A outer s H vs Q E hr h => ?_)
      have b := body cdv A outer s H vs Q E hr h
      rw [ht] at b
      exact ⟨wB false _ _, ⟨fun pins s σ H D I q => q pins s (fun z => by cases z) I⟩, b⟩
    | true =>
      obtain ⟨oc, od, kV, doc, pm, an, cdv, ct', osl, rfl, lk, hcd⟩ := F.ex
      obtain ⟨hnc, hps⟩ := dok.tk ht
      refine fn_ofT lk hcd dok.sc hnc hps hlen fun A outer s H vs Q E hr h => ?_
      have b := body cdv A outer s H vs Q E hr h
      rw [ht] at b
      exact ⟨wB true _ _, fun pins s σ H D h0 I q => q pins s (fun _ => h0) I, b⟩
end
end PyI
/-! A16: a law's end. -/
namespace PyI
open PySem L2
section
variable {K : PySem.W.Frag} {h : Heap} {mg : Str → Option Value} {w : World}
theorem defAt {name qual : Str} {st : Stmt} {ps : List Str} (X : K.In h) (G : h.Ns mainGlobals mg) {f : Addr} {od an : Option Addr} {sl : Array (Option Value)} {oc kV dc pm cd ct : Value}
    (hb : ∀ (kV doc pm : Value) (an : Option Addr) (cdv ct : Value) (us : List Value), us.length = ps.length → bindArgs (PySem.W.fnOf name qual (defArgs st) (defBody st) (defScope st) .none kV doc pm an cdv ct) ⟨us, []⟩ = pure (ps.zip us))
    (a : PySem.W.nsIn K mainGlobals name = some (some (.ref f)))
    (l : K.lookup f = some ⟨oc, od, .func (PySem.W.fnOf name qual (defArgs st) (defBody st) (defScope st) .none kV dc pm an cd ct), sl⟩) (c : PySem.W.codeIn K cd qual = true) (k : PySem.W.keepIn K (.ref f) = true) :
    ∃ a fd q, Fun K name q st a fd ∧ mg name = some (.ref a) ∧ ∀ us : List Value, us.length = ps.length → bindArgs fd ⟨us, []⟩ = pure (ps.zip us) :=
  ⟨f, _, qual, fun_mk l c k, PySem.W.mg_of X G a, hb _ _ _ _ _ _⟩
theorem biAll (X : K.In h) (G : h.Ns mainGlobals mg)
    (z0 : PySem.W.nsIn K mainGlobals "len" = some none)
    (z1 : PySem.W.nsIn K mainGlobals "int" = some none)
    (z2 : PySem.W.nsIn K mainGlobals "str" = some none)
    (z3 : PySem.W.nsIn K mainGlobals "tuple" = some none)
    (z4 : PySem.W.nsIn K mainGlobals "list" = some none)
    (z5 : PySem.W.nsIn K mainGlobals "sorted" = some none)
    (z6 : PySem.W.nsIn K mainGlobals "min" = some none)
    (z7 : PySem.W.nsIn K mainGlobals "max" = some none)
    (z8 : PySem.W.nsIn K mainGlobals "sum" = some none)
    (z9 : PySem.W.nsIn K mainGlobals "any" = some none)
    (z10 : PySem.W.nsIn K mainGlobals "all" = some none)
    (z11 : PySem.W.nsIn K mainGlobals "abs" = some none)
    (z12 : PySem.W.nsIn K mainGlobals "ord" = some none)
    (z13 : PySem.W.nsIn K mainGlobals "bool" = some none)
    (z14 : PySem.W.nsIn K mainGlobals "isinstance" = some none)
    (z15 : PySem.W.nsIn K mainGlobals "range" = some none)
    (z16 : PySem.W.nsIn K mainGlobals "enumerate" = some none)
    (z17 : PySem.W.nsIn K mainGlobals "zip" = some none)
    (z18 : PySem.W.nsIn K mainGlobals "set" = some none)
    (z19 : PySem.W.nsIn K mainGlobals "type" = some none)
    (z20 : PySem.W.nsIn K mainGlobals "reversed" = some none) :
    ∀ x ∈ bins, mg x = none := by
  intro x hx
  simp only [bins, List.mem_cons, List.not_mem_nil, or_false] at hx
  rcases hx with rfl | rfl | rfl | rfl | rfl | rfl | rfl | rfl | rfl | rfl | rfl | rfl | rfl | rfl | rfl | rfl | rfl | rfl | rfl | rfl | rfl
  · exact PySem.W.mg_none_of X G z0
  · exact PySem.W.mg_none_of X G z1
  · exact PySem.W.mg_none_of X G z2
  · exact PySem.W.mg_none_of X G z3
  · exact PySem.W.mg_none_of X G z4
  · exact PySem.W.mg_none_of X G z5
  · exact PySem.W.mg_none_of X G z6
  · exact PySem.W.mg_none_of X G z7
  · exact PySem.W.mg_none_of X G z8
  · exact PySem.W.mg_none_of X G z9
  · exact PySem.W.mg_none_of X G z10
  · exact PySem.W.mg_none_of X G z11
  · exact PySem.W.mg_none_of X G z12
  · exact PySem.W.mg_none_of X G z13
  · exact PySem.W.mg_none_of X G z14
  · exact PySem.W.mg_none_of X G z15
  · exact PySem.W.mg_none_of X G z16
  · exact PySem.W.mg_none_of X G z17
  · exact PySem.W.mg_none_of X G z18
  · exact PySem.W.mg_none_of X G z19
  · exact PySem.W.mg_none_of X G z20
theorem conInt {x : Str} {i : Int} {t : Tok} (X : K.In h) (G : h.Ns mainGlobals mg) (a : PySem.W.nsIn K mainGlobals x = some (some (.int i t))) : ∃ u v, mg x = some u ∧ RelV v u ∧ ∀ H M, Rep K H M v (.int i) := ⟨_, .int i, PySem.W.mg_of X G a, ⟨t, rfl⟩, fun _ _ => .int i⟩
theorem conStr {x : Str} {i : Str} {t : Tok} (X : K.In h) (G : h.Ns mainGlobals mg) (a : PySem.W.nsIn K mainGlobals x = some (some (.str i t))) : ∃ u v, mg x = some u ∧ RelV v u ∧ ∀ H M, Rep K H M v (.str i) := ⟨_, .str i, PySem.W.mg_of X G a, ⟨t, rfl⟩, fun _ _ => .str i⟩
/-- a tuple of ints of the module -/
theorem conTupI {x : Str} {l : List Int} {p : Addr} {o : Obj} {its : Array Value} {n : Nat} (X : K.In h) (G : h.Ns mainGlobals mg) (a : PySem.W.nsIn K mainGlobals x = some (some (.ref p))) (hl : K.lookup p = some o)
    (hc : o.cls = .type "tuple") (hd : o.data = .seq its n) (hz : its.size ≤ sizeLine) (hv : Vals (l.map V.int) its.toList) : ∃ u v, mg x = some u ∧ RelV v u ∧ ∀ H M, Rep K H M v (.tup (l.map D.int)) :=
  ⟨_, .ref p, PySem.W.mg_of X G a, rfl, fun _ _ => .tup (.inr (.inr ⟨o, its, n, hl, hc, hd, hz, hv⟩)) (reps_ints l)⟩
/-- a written dict and its pairs -/
def EntRel (K : PySem.W.Frag) : List DictEntry → List (Str × D) → Prop := Paired fun e p => (∃ t, e.key = .str p.1 t) ∧ ∃ v, RelV v e.val ∧ ∀ H M, Rep K H M v p.2
theorem ent_find {d : Addr} : ∀ {es : List DictEntry} {l : List (Str × D)}, EntRel K es l → ∀ z, match l.lookup z with
    | none => es.find? (·.key.isStr z) = none ∧ es.any (·.refKey) = false
    | some dd => ∃ e v, es.find? (·.key.isStr z) = some e ∧ RelV v e.val ∧ ∀ H M, Rep K H M v dd
  | _, _, .nil, z => ⟨rfl, rfl⟩
  | _, _, .cons (a := e) (b := p) h r, z => by
    obtain ⟨⟨t, ht⟩, v, hv, hr⟩ := h
    have ih := ent_find (d := d) r z
    obtain ⟨x, dd⟩ := p
    by_cases e1 : z = x
    · subst e1
      simp only [List.lookup, beq_self_eq_true]
      refine ⟨e, v, ?_, hv, hr⟩
      rw [List.find?_cons, ht]
      have : (Value.str z t).isStr z = true := by simp [Value.isStr]
      rw [this]
    · have e2 : (z == x) = false := beq_eq_false_iff_ne.mpr e1
      simp only [List.lookup, e2]
      have e3 : e.key.isStr z = false := by rw [ht]; simp [Value.isStr]; exact fun q => e1 q.symm
      have e4 : e.refKey = false := by unfold DictEntry.refKey; rw [ht]
      rw [List.find?_cons, e3, List.any_cons, e4]
      simpa using ih
theorem dicAt {d : Addr} {es : Array DictEntry} {n : Nat} {l : List (Str × D)} {x : Str} (X : K.In h) (G : h.Ns mainGlobals mg) (a : PySem.W.nsIn K mainGlobals x = some (some (.ref d))) (lk : K.lookup d = some ⟨.type "dict", none, .dict es n, #[]⟩)
    (lit : PySem.W.KeysLit w.params es.toList) (low : (d == sysModules) = false) (er : EntRel K es.toList l) : ∃ d, mg x = some (.ref d) ∧ DicAt K w d l := by
  refine ⟨d, PySem.W.mg_of X G a, es, n, ⟨lk, lit, low⟩, fun z => ?_⟩
  have q := ent_find (d := d) er z
  cases hz : l.lookup z with
  | none =>
    rw [hz] at q
    show PySem.W.nsIn K d z = some none
    unfold PySem.W.nsIn
    rw [lk]
    simp only [q.1, q.2, Bool.false_eq_true, if_false]
  | some dd =>
    rw [hz] at q
    obtain ⟨e, v, q1, q2, q3⟩ := q
    refine ⟨e.val, v, ?_, q2, q3⟩
    unfold PySem.W.nsIn
    rw [lk]
    simp only [q1]
end
/-- a def called law, of one argument -/
theorem law_fn {p : Prg} {P : Program} {w : World} {K : PySem.W.Frag} {mg : Str → Option Value} (ok : p.Ok) (ct : CTab) (A0 : p.At P w K mg ct) {fa : Addr} {f : Nat} {d : FnD} (hfa : mg "law" = some (.ref fa)) (hd : p.fds[f]? = some d) (hn : d.name = "law") (hps : d.ps = [("script" : Str)]) (k : Nat) :
    ∃ fd : FuncData, (∀ (s : Shared) (v : Value), BindsTo s fd ⟨[v], []⟩ [("script", v)]) ∧ ∀ base : Heap, FnOk P w K mg base (L2.CX P w) k fa fd ["script"] (spF K ct (p.G k) f 1) := by
  obtain ⟨a, fd, q, F, hm, hb⟩ := A0.fn d (List.mem_of_getElem? hd)
  rw [hn, hfa] at hm
  cases hm
  refine ⟨fd, fun s v => .of_eq (by have := hb [v] (by rw [hps]; rfl); rw [hps] at this; exact this), fun base => ?_⟩
  have := all_ok (base := base) ok ct A0 k f d fa fd q hd F
  rw [hps] at this
  exact this
theorem law_walk {p : Prg} {ct : CTab} {f kk : Nat} {l : PySem.W.OpenLaw} {q : Program} {loose : List Str} {XP : (Str → Option Value) → Heap → Prop} {YP : World → Heap → Prop} {d : DefRec} {K : Params → PySem.W.Frag} (hn : l.most = some 63) (hdf : d.params.defaults = []) (hr : Room kk callerA)
    (hY : ∀ (w : World) (h : Heap), YP w h → (K w.params).In h)
    (main : ∀ ns : List Int, ns.length ≤ 63 → ∃ μ', callD p.tab p.con p.dic p.wf kk f [.kl (ns.map D.int)] [] = .ok (.bl true) μ')
    (F : ∀ (w : World) (mg : Str → Option Value) (fa : Addr) (h : Heap), (K w.params).In h → h.Ns mainGlobals mg → mg d.name = some (.ref fa) →
      ∃ fd : FuncData, (∀ (s : Shared) (u : Value), BindsTo s fd ⟨[u], []⟩ [("script", u)]) ∧ ∀ base : Heap, FnOk l.prog w (K w.params) mg base (L2.CX l.prog w) kk fa fd ["script"] (spF (K w.params) ct (p.G kk) f 1)) :
    PySem.W.WalkO q loose XP YP l.row.toRowW d [] (fun f vs => PySem.call f vs) := by
  refine L2.walk_of (n := 63) (k := kk) (x := "script") (CX := fun w => L2.CX l.prog w) (sp := fun w => spF (K w.params) ct (p.G kk) f 1) hn (by decide) hdf hr hY (fun w mg fa h a b c => ?_) (fun w H a ns hl _ hS => ?_) fun w H s e s' z => ?_
  · obtain ⟨fd, h1, h2⟩ := F w mg fa h a b c
    exact ⟨fd, h1, fun base _ _ => h2 base⟩
  · obtain ⟨μ', hm⟩ := main ns hl
    refine ⟨[.kl (ns.map D.int)], [], ⟨[], []⟩, rfl, ⟨rfl, by show ([] : List Addr).Nodup; simp, fun n mo q => (by simp at q), fun a q => (by cases q)⟩, ?_, ?_⟩
    · refine .cons (.kl (xs := ns.map V.int) ?_ ?_) .nil
      · rcases hS with z | z
        · exact .inl ⟨z, ⟨fun q => (by cases q), fun q => (by cases q)⟩⟩
        · exact .inr (.inr z)
      · clear hl hS hm
        induction ns with
        | nil => exact .nil
        | cons n ns ih => exact .cons (.int n) ih
    · have e : (p.G kk).call f [.kl (ns.map D.int)] [] = .ok (.bl true) μ' := hm
      rw [e]
      intro v H' M' _ _ r
      cases r
      rfl
  · obtain ⟨_, _, _, _, _, _, _, _, _, _, _, _, x⟩ := z
    exact x
end PyI
/-! A17: texts as lists of codes; small facts of the interpreter. -/
namespace PyI
open PySem L2
def tx (l : List Nat) : Str := ⟨l.toArray⟩
theorem tx_l (l : List Nat) : (tx l).cps.toList = l := rfl
theorem tx_len (l : List Nat) : (tx l).length = l.length := by simp [tx, Str.length]
theorem tx_ext {x : Str} {l : List Nat} (h : x.cps.toList = l) : x = tx l := TL.ext_tl h
theorem tx_self (x : Str) : x = tx x.cps.toList := TL.ext_tl rfl
theorem tx_inj {a b : List Nat} : (tx a = tx b) ↔ a = b := ⟨fun h => congrArg (fun x : Str => x.cps.toList) h, fun h => by rw [h]⟩
theorem tx_add (a b : List Nat) : tx a ++ tx b = tx (a ++ b) := TL.ext_tl (by rw [TL.tl_append]; rfl)
theorem tx_beq (a b : List Nat) : (tx a == tx b) = (a == b) := by
  by_cases h : a = b
  · subst h; simp
  · rw [beq_eq_false_iff_ne.mpr h, beq_eq_false_iff_ne.mpr (fun e => h (tx_inj.mp e))]
theorem tx_all (l : List Nat) (p : Nat → Bool) : (tx l).cps.all p = l.all p := by simp [tx]
/-- a cut at numbers -/
theorem tx_cut (l : List Nat) {i j : Int} (a b : Nat) (hi : i = a) (hj : j = b) : cutS (tx l) (some i) (some j) = tx ((l.drop a).take (b - a)) := by
  subst hi hj
  refine tx_ext ?_
  show (l.drop _).take _ = _
  rw [HT.sIx_nat, HT.sIx_nat, tx_len]
  by_cases ha : a ≤ l.length
  · rw [Nat.min_eq_left ha]
    by_cases hb : b ≤ l.length
    · rw [Nat.min_eq_left hb]
    · rw [Nat.min_eq_right (by omega), List.take_of_length_le (by simp), List.take_of_length_le (by simp; omega)]
  · rw [List.drop_eq_nil_of_le (by omega), List.drop_eq_nil_of_le (by omega), List.take_nil, List.take_nil]
/-- text[at:at+1] -/
theorem cut_at (p : List Nat) (c : Nat) (r : List Nat) {i j : Int} (hi : i = p.length) (hj : j = p.length + 1) : cutS (tx (p ++ c :: r)) (some i) (some j) = tx [c] := by
  rw [tx_cut _ p.length (p.length + 1) hi (by omega)]
  simp
theorem cut_mid (p q r : List Nat) {i j : Int} (hi : i = p.length) (hj : j = p.length + q.length) : cutS (tx (p ++ (q ++ r))) (some i) (some j) = tx q := by
  rw [tx_cut _ p.length (p.length + q.length) hi (by omega)]
  simp
theorem cut_end (p : List Nat) {i j : Int} (hi : i = p.length) (hj : j = p.length + 1) : cutS (tx p) (some i) (some j) = tx [] := by
  rw [tx_cut _ p.length (p.length + 1) hi (by omega)]
  simp
theorem tx_in (c : Nat) (l : List Nat) : (!(Builtin.Str.occurrences (tx l) (tx [c]) 0 (tx l).length 1).isEmpty) = decide (c ∈ l) := PySem.StrLaws.found_one (tx l) c
theorem tx_repl (l y z : List Nat) (hy : y ≠ []) : Txt.replace (tx l) (tx y) (tx z) = tx (StrLaws.replL y z l) := tx_ext (StrLaws.replace_list (by
  rw [tx_len]
  cases y with
  | nil => exact absurd rfl hy
  | cons => simp))
theorem tx_join (y : List Nat) (ps : List (List Nat)) : Txt.join (tx y) (ps.map tx) = tx (TL.joinL y ps) := by
  refine tx_ext ?_
  rw [TL.join_eq]
  refine (TL.tl_join (tx y) (ps.map tx)).trans ?_
  rw [List.map_map]
  show TL.joinL y (ps.map (TL.tl ∘ tx)) = _
  congr 1
  exact List.map_id _
theorem tx_split (l y : List Nat) (hy : y ≠ []) (hk : y.all (· < 256) = true) : Txt.split (tx l) (tx y) = (TL.spl y 0 [] l).map tx := by
  refine TL.map_tl_inj ?_
  rw [TL.split_spl _ _ hy (TL.kind_ok (by rw [tx_all]; exact hk)), List.map_map]
  exact (List.map_id _).symm
theorem tx_find (a b r : List Nat) (c : Nat) {i : Int} (hi : i = a.length) (h : c ∉ b) : Txt.find3 (tx (a ++ (b ++ c :: r))) (tx [c]) i = ((a.length + b.length : Nat) : Int) := by
  have fi : fromIndex (tx (a ++ (b ++ c :: r))).length i = a.length := by
    subst hi
    unfold fromIndex
    rw [if_neg (by omega)]
    omega
  have g : ∀ v, (tx (a ++ (b ++ c :: r))).cps.getD v 0 = (a ++ (b ++ c :: r)).getD v 0 := fun v => by simp [tx]
  have hit : (a ++ (b ++ c :: r)).getD (a.length + b.length) 0 = c := by
    rw [← List.append_assoc]
    simp [List.getD]
  have low : ∀ v, a.length ≤ v → v < a.length + b.length → (a ++ (b ++ c :: r)).getD v 0 ≠ c := fun v h1 h2 e => by
    rw [List.getD, List.getElem?_append_right h1, List.getElem?_append_left (by omega), List.getElem?_eq_getElem (by omega)] at e
    exact h (e ▸ List.getElem_mem _)
  rcases StrLaws.find3_spec (tx (a ++ (b ++ c :: r))) c i with ⟨h1, hn⟩ | ⟨k, h1, hlo, hlt, hk, hn⟩
  · refine absurd ((g _).trans hit) (hn _ (by rw [fi]; omega) (by rw [tx_len]; simp))
  · rw [fi] at hlo hn
    have e : k = a.length + b.length := by
      rcases Nat.lt_trichotomy k (a.length + b.length) with q | q | q
      · exact absurd ((g k).symm.trans hk) (low k hlo q)
      · exact q
      · exact absurd ((g _).trans hit) (hn _ (by omega) q)
    rw [← e]
    exact h1

/-! ### the numbers' texts -/
/-- the codes of a number -/
def intL : Int → List Nat
  | .ofNat n => TL.numL n
  | .negSucc n => 45 :: TL.numL (n + 1)
theorem tx_int (i : Int) : (Str.ofString (toString i) : Str) = tx (intL i) := by
  cases i with
  | ofNat n => exact tx_ext (TL.tl_num n)
  | negSucc n =>
    refine tx_ext ?_
    have e : toString (Int.negSucc n) = "-" ++ toString ((n + 1 : Nat) : Int) := rfl
    rw [e]
    show TL.tl (Str.ofString ("-" ++ _)) = _
    rw [TL.tl_ofString, String.toList_append, List.map_append, ← TL.tl_ofString (toString ((n + 1 : Nat) : Int)), TL.tl_num]
    rfl
theorem int_back (i : Int) (h : (intL i).length ≤ 640) : intText? (tx (intL i)) = some i := by
  cases i with
  | ofNat n =>
    rw [← tx_int]
    exact TL.int_num (show (intL (Int.ofNat n)).length ≤ 4300 by omega)
  | negSucc n =>
    rw [intText_neg (cs := TL.numL (n + 1)) rfl (TL.numL_digits _) (TL.numL_ne _) (by rw [tx_len]; omega), TL.numL_val]
    rfl

/-! ### heaps -/
theorem fin_same {d : D} {μ : Mu} {n : Nat} (h : μ.length = n) : fin n d μ = .ok d μ := if_pos h
mutual
/-- no references -/
def pureD : D → Bool
  | .ref _ => false
  | .tup l => pureDs l
  | .lst l => pureDs l
  | .kl l => pureDs l
  | _ => true
def pureDs : List D → Bool
  | [] => true
  | d :: ds => pureD d && pureDs ds
end
mutual
theorem pureD.below (n : Nat) : ∀ {d : D}, pureD d = true → below n d = true
  | .non, _ | .bl _, _ | .int _, _ | .str _, _ => rfl
  | .ref _, h => by cases h
  | .tup l, h => pureDs.belows n (l := l) h
  | .lst l, h => pureDs.belows n (l := l) h
  | .kl l, h => pureDs.belows n (l := l) h
theorem pureDs.belows (n : Nat) : ∀ {l : List D}, pureDs l = true → belows n l = true
  | [], _ => rfl
  | d :: l, h => by
    simp only [pureDs, Bool.and_eq_true] at h
    simp only [PyI.belows, Bool.and_eq_true]
    exact ⟨pureD.below n h.1, pureDs.belows n h.2⟩
end
theorem pureDs_append : ∀ {l m : List D}, pureDs (l ++ m) = (pureDs l && pureDs m)
  | [], m => by simp [pureDs]
  | d :: l, m => by simp [pureDs, pureDs_append, Bool.and_assoc]
theorem pureDs_map {α : Type} {f : α → D} (h : ∀ a, pureD (f a) = true) : ∀ l : List α, pureDs (l.map f) = true
  | [] => rfl
  | a :: l => by simp [pureDs, h a, pureDs_map h l]
/-- a heap of lists without references -/
def PureM (μ : Mu) : Prop := ∀ m ∈ μ, ∃ l, m = .lst l ∧ pureDs l = true
theorem PureM.all {μ : Mu} (h : PureM μ) (n : Nat) : μ.all (belowMO n) = true := List.all_eq_true.mpr fun m hm => by
  obtain ⟨l, rfl, hl⟩ := h m hm
  exact pureDs.belows n hl
theorem PureM.snoc {μ : Mu} (h : PureM μ) {l : List D} (hl : pureDs l = true) : PureM (μ ++ [.lst l]) := fun m hm => by
  rcases List.mem_append.mp hm with q | q
  · exact h m q
  · exact ⟨l, List.mem_singleton.mp q, hl⟩
/-- one list of its own was made, and is forgotten -/
theorem fin_one {d : D} {μ : Mu} {l : MO} (h : PureM μ) (hd : pureD d = true) : fin μ.length d (μ ++ [l]) = .ok d μ := by
  have hb := pureD.below μ.length hd
  have hm : ((μ ++ [l]).take μ.length).all (belowMO μ.length) = true := by rw [List.take_left']; exact h.all _; rfl
  have ht : (μ ++ [l]).take μ.length = μ := List.take_left' rfl
  unfold fin
  rw [if_neg (by simp)]
  cases d with
  | ref k => cases hd
  | _ =>
    simp only []
    rw [if_pos ⟨hb, hm, by simp⟩, ht]
/-- one list of its own was made, and is handed back -/
theorem fin_ret {μ : Mu} {l : List D} (h : PureM μ) (hd : pureDs l = true) : fin μ.length (.ref μ.length) (μ ++ [.lst l]) = .ok (.lst l) μ := by
  unfold fin
  rw [if_neg (by simp)]
  have e : (μ ++ [MO.lst l])[μ.length]? = some (.lst l) := by simp
  simp only [e, Nat.le_refl, if_true]
  rw [if_pos ⟨pureDs.belows _ hd, by rw [List.take_left']; exact h.all _; rfl, by simp⟩, List.take_left']
  rfl
theorem snoc_get {μ : Mu} {m : MO} : (μ ++ [m])[μ.length]? = some m := by simp
theorem snoc_set {μ : Mu} {m m' : MO} : (μ ++ [m]).set μ.length m' = μ ++ [m'] := by simp

/-! ### stepping: only what stands first is looked at -/
theorem bind_ok {α β : Type} {a : α} {μ : Mu} {f : α → Mu → Res β} : (Res.ok a μ).bind f = f a μ := rfl
theorem then_ok {α : Type} {a : α} {μ : Mu} {ρ : Rho} {f : α → Mu → Out} : (Res.ok a μ).then ρ f = f a μ := rfl
theorem next_nx {ρ : Rho} {μ : Mu} {f : Rho → Mu → Out} : (Out.nx ρ μ).next f = f ρ μ := rfl
theorem next_rt {d : D} {μ : Mu} {f : Rho → Mu → Out} : (Out.rt d μ).next f = .rt d μ := rfl
theorem next_br {ρ : Rho} {μ : Mu} {f : Rho → Mu → Out} : (Out.br ρ μ).next f = .br ρ μ := rfl
theorem next_ct {ρ : Rho} {μ : Mu} {f : Rho → Mu → Out} : (Out.ct ρ μ).next f = .ct ρ μ := rfl
theorem finO_rt {n : Nat} {d : D} {μ : Mu} : finO n (.rt d μ) = fin n d μ := rfl
theorem finO_nx {n : Nat} {ρ : Rho} {μ : Mu} : finO n (.nx ρ μ) = fin n .non μ := rfl

theorem run_nx {Γ : G} {s : PyI.S} {b : B} {ρ ρ' : Rho} {μ μ' : Mu} {o : Out} (h : runS Γ s ρ μ = .nx ρ' μ') (h2 : runB Γ b ρ' μ' = o) : runB Γ (.cons s b) ρ μ = o := by
  rw [runB, h]
  exact h2
theorem run_rt {Γ : G} {s : PyI.S} {b : B} {ρ : Rho} {μ μ' : Mu} {d : D} (h : runS Γ s ρ μ = .rt d μ') : runB Γ (.cons s b) ρ μ = .rt d μ' := by
  rw [runB, h]
  rfl
theorem for_rng {f : D → Rho → Mu → Out} {lo : Int} (I : Nat → Rho → Mu → Prop) : ∀ (m n : Nat) {ρ : Rho} {μ : Mu}, I n ρ μ →
    (∀ i, n ≤ i → i < n + m → ∀ ρ μ, I i ρ μ → (∃ ρ' μ', f (.int (lo + (i : Int))) ρ μ = .nx ρ' μ' ∧ I (i + 1) ρ' μ') ∨ (∃ ρ' μ', f (.int (lo + (i : Int))) ρ μ = .br ρ' μ' ∧ I (n + m) ρ' μ')) →
    ∃ ρ' μ', forLoop f (chkOf none) ((List.range' n m).map fun (i : Nat) => D.int (lo + (i : Int))) ρ μ = .nx ρ' μ' ∧ I (n + m) ρ' μ'
  | 0, n, ρ, μ, h0, _ => ⟨ρ, μ, rfl, h0⟩
  | m + 1, n, ρ, μ, h0, hs => by
    rw [List.range'_succ, List.map_cons]
    unfold forLoop
    rw [if_pos (show chkOf none μ = true from rfl)]
    rcases hs n (Nat.le_refl _) (by omega) ρ μ h0 with ⟨ρ', μ', e, h1⟩ | ⟨ρ', μ', e, h1⟩
    · rw [e]
      have r := for_rng I m (n + 1) h1 fun i h2 h3 ρ μ hi => by
        have z := hs i (by omega) (by omega) ρ μ hi
        rw [show n + (m + 1) = n + 1 + m by omega] at z
        exact z
      rw [show n + (m + 1) = n + 1 + m by omega]
      exact r
    · rw [e]
      exact ⟨ρ', μ', rfl, h1⟩
/-- for k in range(lo, lo + n) -/
theorem for_range {f : D → Rho → Mu → Out} {lo : Int} {n : Nat} {ρ : Rho} {μ : Mu} (I : Nat → Rho → Mu → Prop) (h0 : I 0 ρ μ)
    (hs : ∀ i, i < n → ∀ ρ μ, I i ρ μ → (∃ ρ' μ', f (.int (lo + (i : Int))) ρ μ = .nx ρ' μ' ∧ I (i + 1) ρ' μ') ∨ (∃ ρ' μ', f (.int (lo + (i : Int))) ρ μ = .br ρ' μ' ∧ I n ρ' μ')) :
    ∃ ρ' μ', forLoop f (chkOf none) (rngD lo n) ρ μ = .nx ρ' μ' ∧ I n ρ' μ' := by
  have r := for_rng (f := f) (lo := lo) I n 0 h0 (fun i _ h3 ρ μ hi => by
    have z := hs i (by omega) ρ μ hi
    rw [Nat.zero_add]
    exact z)
  rw [Nat.zero_add] at r
  unfold rngD
  rw [List.range_eq_range']
  exact r
/-- a comprehension whose items change nothing -/
theorem comp_map {f : D → Mu → Res (Option D)} {g : D → D} {μ : Mu} : ∀ {ds acc : List D}, (∀ d ∈ ds, f d μ = .ok (some (g d)) μ) → acc.length + ds.length ≤ 16777216 → compLoop f (chkOf none) acc ds μ = .ok (acc ++ ds.map g) μ
  | [], acc, _, _ => by
    unfold compLoop
    rw [if_pos (show chkOf none μ = true from rfl), List.map_nil, List.append_nil]
  | d :: ds, acc, h, hl => by
    rw [List.length_cons] at hl
    unfold compLoop
    rw [if_pos (show chkOf none μ = true from rfl), h d (List.mem_cons_self ..)]
    simp only []
    rw [needs_pos (by omega), comp_map (fun e he => h e (List.mem_cons_of_mem _ he)) (by simp; omega)]
    simp
theorem comp_inv {f : D → Mu → Res (Option D)} (I : Mu → Prop) (P : D → Prop) : ∀ {ds acc : List D} {μ : Mu}, (∀ d ∈ ds, ∀ μ, I μ → ∃ y μ', f d μ = .ok (some y) μ' ∧ P y ∧ I μ') → acc.length + ds.length ≤ 16777216 →
    (∀ y ∈ acc, P y) → I μ → ∃ l μ', compLoop f (chkOf none) acc ds μ = .ok l μ' ∧ (∀ y ∈ l, P y) ∧ l.length = acc.length + ds.length ∧ I μ'
  | [], acc, μ, _, _, ha, hi => by
    unfold compLoop
    rw [if_pos (show chkOf none μ = true from rfl)]
    exact ⟨acc, μ, rfl, ha, rfl, hi⟩
  | d :: ds, acc, μ, h, hl, ha, hi => by
    rw [List.length_cons] at hl
    obtain ⟨y, μ', e, hy, hi'⟩ := h d (List.mem_cons_self ..) μ hi
    unfold compLoop
    rw [if_pos (show chkOf none μ = true from rfl), e]
    simp only []
    rw [needs_pos (by omega)]
    obtain ⟨l, μ2, r1, r2, r3, r4⟩ := comp_inv I P (ds := ds) (acc := acc ++ [y]) (μ := μ') (fun e he => h e (List.mem_cons_of_mem _ he)) (by simp; omega) (fun z hz => by
      rcases List.mem_append.mp hz with q | q
      · exact ha z q
      · rw [List.mem_singleton.mp q]; exact hy) hi'
    refine ⟨l, μ2, r1, r2, ?_, r4⟩
    rw [r3]
    simp
    omega
theorem strs_map (l : List Str) : strsOf (l.map D.str) = some l := by
  induction l with
  | nil => rfl
  | cons a l ih => simp only [List.map_cons, strsOf, ih]; rfl
theorem for_inv {f : D → Rho → Mu → Out} (I : List D → Rho → Mu → Prop) : ∀ {ds : List D} {ρ : Rho} {μ : Mu}, I ds ρ μ →
    (∀ d ds ρ μ, I (d :: ds) ρ μ → ∃ ρ' μ', f d ρ μ = .nx ρ' μ' ∧ I ds ρ' μ') → ∃ ρ' μ', forLoop f (chkOf none) ds ρ μ = .nx ρ' μ' ∧ I [] ρ' μ'
  | [], ρ, μ, h, _ => ⟨ρ, μ, by unfold forLoop; rw [if_pos (show chkOf none μ = true from rfl)], h⟩
  | d :: ds, ρ, μ, h, hs => by
    obtain ⟨ρ', μ', e, h1⟩ := hs d ds ρ μ h
    unfold forLoop
    rw [if_pos (show chkOf none μ = true from rfl), e]
    exact for_inv I h1 hs
/-- m more rounds -/
theorem whl_inv {c : Rho → Mu → Res Bool} {f : Rho → Mu → Out} (I : Nat → Rho → Mu → Prop) (hs : ∀ m ρ μ, I (m + 1) ρ μ → c ρ μ = .ok true μ ∧ ∃ ρ' μ', f ρ μ = .nx ρ' μ' ∧ I m ρ' μ') (h0 : ∀ ρ μ, I 0 ρ μ → c ρ μ = .ok false μ) :
    ∀ {m n : Nat} {ρ : Rho} {μ : Mu}, m < n → I m ρ μ → ∃ ρ' μ', whileLoop c f n ρ μ = .nx ρ' μ' ∧ I 0 ρ' μ'
  | m, 0, _, _, h, _ => absurd h (Nat.not_lt_zero _)
  | 0, n + 1, ρ, μ, _, hi => ⟨ρ, μ, by
    unfold whileLoop
    rw [h0 _ _ hi]
    rfl, hi⟩
  | m + 1, n + 1, ρ, μ, h, hi => by
    obtain ⟨e, ρ', μ', e2, h1⟩ := hs m ρ μ hi
    unfold whileLoop
    rw [e]
    show ∃ a b, (match f ρ μ with
      | .nx ρ' μ' => whileLoop c f n ρ' μ'
      | .ct ρ' μ' => whileLoop c f n ρ' μ'
      | .br ρ' μ' => .nx ρ' μ'
      | o => o) = .nx a b ∧ _
    rw [e2]
    exact whl_inv I hs h0 (Nat.lt_of_succ_lt_succ h) h1
theorem lt_one (a b : Nat) : ltS (tx [a]) (tx [b]) = decide (a < b) := by
  unfold ltS
  rw [tx_l, tx_l]
  refine decide_eq_decide.mpr ?_
  rw [List.cons_lt_cons_iff]
  constructor
  · rintro (h | ⟨_, h⟩)
    · exact h
    · exact absurd h (List.not_lt_nil _)
  · exact Or.inl
theorem lt_none (b : Nat) : ltS (tx []) (tx [b]) = true := by
  unfold ltS
  rw [tx_l, tx_l]
  exact decide_eq_true (List.nil_lt_cons _ _)
theorem tyf : (Ty.str == Ty.str) = true ∧ (Ty.str == Ty.int) = false ∧ (Ty.str == Ty.bool) = false ∧ (Ty.str == Ty.tuple) = false ∧ (Ty.str == Ty.list) = false ∧ (Ty.int == Ty.str) = false ∧ (Ty.int == Ty.int) = true ∧ (Ty.int == Ty.bool) = false ∧ (Ty.int == Ty.tuple) = false ∧ (Ty.int == Ty.list) = false ∧ (Ty.bool == Ty.str) = false ∧ (Ty.bool == Ty.int) = false ∧ (Ty.bool == Ty.bool) = true ∧ (Ty.bool == Ty.tuple) = false ∧ (Ty.bool == Ty.list) = false ∧ (Ty.tuple == Ty.str) = false ∧ (Ty.tuple == Ty.int) = false ∧ (Ty.tuple == Ty.bool) = false ∧ (Ty.tuple == Ty.tuple) = true ∧ (Ty.tuple == Ty.list) = false ∧ (Ty.list == Ty.str) = false ∧ (Ty.list == Ty.int) = false ∧ (Ty.list == Ty.bool) = false ∧ (Ty.list == Ty.tuple) = false ∧ (Ty.list == Ty.list) = true := by decide
theorem lim_nat {n : Nat} (h : n ≤ 1000000) : lim62 (n : Int) :=
  ⟨Int.le_trans (by decide +kernel : -(2 ^ 62) ≤ (0 : Int)) (Int.natCast_nonneg n), Int.lt_of_le_of_lt (Int.ofNat_le.mpr h) (by decide +kernel : ((1000000 : Nat) : Int) < 2 ^ 62)⟩
theorem it_rng1 {Γ : G} {a : E} {ρ : Rho} {μ μ' : Mu} {i : Int} {n : Nat} (h : evalE Γ a ρ μ = .ok (.int i) μ') (hi : i = n) (hn : n ≤ 1000000) : evalIt Γ (.rng1 a) ρ μ = .ok (rngD 0 n, none) μ' := by
  subst hi
  rw [evalIt, h, bind_ok]
  show needs (lim62 (n : Int)) _ = _
  rw [needs_pos (lim_nat hn)]
  rfl
theorem it_rng2 {Γ : G} {a b : E} {ρ : Rho} {μ μ1 μ2 : Mu} {i j : Int} {n m : Nat} (h : evalE Γ a ρ μ = .ok (.int i) μ1) (h2 : evalE Γ b ρ μ1 = .ok (.int j) μ2) (hi : i = n) (hj : j = (n + m : Nat)) (hn : n + m ≤ 1000000) : evalIt Γ (.rng2 a b) ρ μ = .ok (rngD i m, none) μ2 := by
  subst hi hj
  rw [evalIt, h, bind_ok, h2, bind_ok]
  show needs (lim62 (n : Int) ∧ lim62 ((n + m : Nat) : Int)) _ = _
  rw [needs_pos ⟨lim_nat (by omega), lim_nat hn⟩]
  have : (((n + m : Nat) : Int) - (n : Int)).toNat = m := by omega
  rw [this]
theorem for_run {Γ : G} {tg : Tg} {it : IT} {b : B} {ρ : Rho} {μ μ' : Mu} {ds : List D} {o : Out} (h : evalIt Γ it ρ μ = .ok (ds, none) μ')
    (h2 : forLoop (fun d ρ μ => match assignT tg d ρ with
      | some ρ' => runB Γ b ρ' μ
      | none => .stuck) (chkOf none) ds ρ μ' = o) : runS Γ (.for_ tg it b) ρ μ = o := by
  rw [runS, h, then_ok]
  exact h2
/-- one round of a loop -/
def fbody (Γ : G) (tg : Tg) (b : B) (d : D) (ρ : Rho) (μ : Mu) : Out := match assignT tg d ρ with
  | some ρ' => runB Γ b ρ' μ
  | none => .stuck
theorem for_run' {Γ : G} {tg : Tg} {it : IT} {b : B} {ρ : Rho} {μ μ' : Mu} {ds : List D} {o : Out} (h : evalIt Γ it ρ μ = .ok (ds, none) μ') (h2 : forLoop (fbody Γ tg b) (chkOf none) ds ρ μ' = o) : runS Γ (.for_ tg it b) ρ μ = o := for_run h h2
theorem fbody_nm {Γ : G} {i : Nat} {b : B} {d : D} {ρ : Rho} {μ : Mu} : fbody Γ (.nm i) b d ρ μ = runB Γ b (ρ.set i (some d)) μ := rfl
/-- one item of a comprehension -/
def cbody (Γ : G) (own : List Nat) (tg : Tg) (c : T) (e : E) (ρ : Rho) (d : D) (μ : Mu) : Res (Option D) := match assignT tg d (wipeR ρ own) with
  | none => .stuck
  | some ρ' => (evalT Γ c ρ' μ).bind fun k μ => if k then (evalE Γ e ρ' μ).bind fun y μ => .ok (some y) μ else .ok none μ
theorem comp_run {Γ : G} {own : List Nat} {tg : Tg} {it : IT} {c : T} {e : E} {ρ : Rho} {μ μ1 μ2 : Mu} {ds l : List D} (h : evalIt Γ it ρ μ = .ok (ds, none) μ1) (h2 : compLoop (cbody Γ own tg c e ρ) (chkOf none) [] ds μ1 = .ok l μ2) :
    evalE Γ (.comp own tg it c e) ρ μ = .ok (.lst l) μ2 := by
  rw [evalE, h, bind_ok]
  exact congrArg (fun r : Res (List D) => r.bind fun (l : List D) (μ : Mu) => Res.ok (D.lst l) μ) h2
theorem cbody_nm {Γ : G} {own : List Nat} {i : Nat} {e : E} {ρ : Rho} {d y : D} {μ μ' : Mu} (h : evalE Γ e ((wipeR ρ own).set i (some d)) μ = .ok y μ') : cbody Γ own (.nm i) .yes e ρ d μ = .ok (some y) μ' := by
  unfold cbody
  simp only [assignT, evalT, bind_ok, if_true, h]
end PyI
/-! X2: the __init__ of an own error keeps its promise. -/
namespace PyI
open PySem PySem.Spec PyProof.Rows L2 NdefX
section
variable {CX : CXT} {P : Program} {w : World} {K : PySem.W.Frag} {mg : Str → Option Value} {base : Heap} {N ps : List Str} {k : Nat} {sp : Sp} {name qual : Str} {params : Arguments} {scope : Scope} {doc pm ct oc : Value} {od : Option Addr} {osl : Array (Option Value)} {C fI cda cc : Addr} {e : Expr} {rest : List Stmt} {p0 p1 apos pos epos : Pos}
abbrev iNF (name qual : Str) (params : Arguments) (body : List Stmt) (scope : Scope) (cc cda : Addr) : NF := ⟨name, qual, params, body, scope, [("__class__", cc)], cda⟩
theorem init_ok {F : NF} (hF : F = iNF name qual params (.Expr (.Call (.Attribute (.Call (.Name "super" p0) [] [] p1) "__init__" apos) [e] [] pos) epos :: rest) scope cc cda)
    (lk : K.lookup fI = some ⟨oc, od, .func (F.fd doc pm ct), osl⟩) (hcd : PySem.W.codeIn K (.ref cda) qual = true) (S : NScope N ps ["__class__"] scope) (SK : SupK K P C fI cda cc) (T : OexC K C) (hm : mg "super" = none)
    (hs0 : ps.head? = some "self") (hks : scope.names.lookup ("super" : Str) = some .globalImplicit) (he : ∀ env, starEach [e] env = [(false, eval e env)])
    (hc : ∀ env : Env, ∃ pl : Sem Bool, eval (.Call (.Attribute (.Call (.Name "super" p0) [] [] p1) "__init__" apos) [e] [] pos) env = (do
      let ov ← attributeBase (.Call (.Name "super" p0) [] [] p1) "__init__" env (eval (.Call (.Name "super" p0) [] [] p1) env)
      standAt apos.atName
      let (f, first) ← holding [ov] (getMethod ov "__init__" pl)
      callWith pos f first (backTo pos (starEach [e] env)) []))
    (hsw : ∀ env : Env, swapsWith (.Call (.Attribute (.Call (.Name "super" p0) [] [] p1) "__init__" apos) [e] [] pos) none epos.line env = pure false)
    (len : ∀ vs H Q E, sp vs H Q E → vs.length = ps.length)
    (hbody : ∀ (A : Around) (outer : List Env) (s : Shared) (H : Hp) (vs : List V) (Q : VK) (E : XK), Room k (A.deeper (envF F fI s.heap.objs.size)) → sp vs H Q E →
      ∃ (a : Addr) (vs' : List V) (ta : TA) (t : TS), vs = .ref a :: vs' ∧ H a = some (exo a C none) ∧ PA (ncx CX P w K mg base N F fI A outer s H E) [e] ta ∧ PSs (ncx CX P w K mg base N F fI A outer s H E) rest t ∧
        ta (startF N vs [none]) H (fun us H1 => H1 a = some (exo a C none) ∧ us.length ≤ 1000 ∧ t { nx := fun _ H' => Q .non H', rt := Q } (startF N vs [none]) H1)) :
    FnOk P w K mg base CX (k + 1) fI (F.fd doc pm ct) ps sp := by
  refine ⟨len, fun A outer s H args us vs Q E hr e0 hb r hsp => ?_⟩
  subst hF
  have hl := len _ _ _ _ hsp
  have KX : K.In s.heap := e0.mod.kin.keeps fun b o e => (e0.bs b o e).1
  have lim : s.heap.NoLimit := e0.mod.nolimit.keeps fun b o e => (e0.bs b o e).1
  obtain ⟨cl, cld, csl, lcell⟩ := SK.cell
  have hcc : H cc = none := (e0.bs cc _ (e0.mod.kin _ _ lcell)).2
  have hcell : s.heap.IsCell cc (some (.ref C)) := ⟨_, KX _ _ lcell, rfl⟩
  have lkc : ∀ (y : Str) (c : Addr), [(("__class__" : Str), cc)].lookup y = some c → y = "__class__" ∧ c = cc := fun y c h => by
    rw [List.lookup_cons] at h
    cases hy : (y == ("__class__" : Str)) with
    | true => rw [hy] at h; exact ⟨beq_iff_eq.mp hy, (Option.some.inj h).symm⟩
    | false => rw [hy] at h; cases h
  have CA : CellsAt [("__class__", cc)] ["__class__"] [none] s.heap H := by
    refine ⟨rfl, fun y c h => ?_, fun x y c h1 h2 => by rw [(lkc x c h1).1, (lkc y c h2).1], fun i y h => ?_⟩
    · rw [(lkc y c h).2]; exact ⟨hcc, _, hcell⟩
    · rcases i with _ | i
      · cases h; exact ⟨cc, rfl, fun v z => by cases z⟩
      · cases h
  obtain ⟨a, vs', ta, t, rfl, ea, pa, pss, hq⟩ := hbody A outer s H vs Q E (hr.deeper _) hsp
  refine codeAny_call_function hr.depth (KX _ _ lk) rfl S.co S.gen rfl (PySem.W.codeRec_of KX hcd) (hb _ _ _ _ ?_)
  refine wpAny_newFunctionEnv S.nocell (fun ⟨n, _⟩ hy => S.par n (List.of_mem_zip hy).1) (fun h₁ hns hsb => ⟨lim.fresh _ hsb, ?_⟩) S.kind
  show codeAny _ _ (.func (iNF name qual params (.Expr (.Call (.Attribute (.Call (.Name "super" p0) [] [] p1) "__init__" apos) [e] [] pos) epos :: rest) scope cc cda).body (envF (iNF name qual params (.Expr (.Call (.Attribute (.Call (.Name "super" p0) [] [] p1) "__init__" apos) [e] [] pos) epos :: rest) scope cc cda) fI s.heap.objs.size)) _ _
  refine ks_codeAny_funcAt ?_
  have kp : ∀ b o, s.heap.get? b = some o → h₁.get? b = some o := fun b o e => hsb.extBut b o (Nat.ne_of_lt (Heap.lt_size e)) (Heap.get?_push_of_some _ e)
  let F : NF := iNF name qual params (.Expr (.Call (.Attribute (.Call (.Name "super" p0) [] [] p1) "__init__" apos) [e] [] pos) epos :: rest) scope cc cda
  have I : Inv (ncx CX P w K mg base N F fI A outer s H E) [] (startF N (.ref a :: vs') [none]) H { s with heap := h₁, toks := s.toks + (ps.zip us).length } := inv_startN S hr.hd e0 hl r CA hns kp
  have hN0 : N[0]? = some ("self" : Str) := by
    have h1 := S.pre
    cases ps with
    | nil => cases hs0
    | cons x ps =>
      cases hs0
      cases N with
      | nil => simp at h1
      | cons y N => simp at h1; rw [h1.1]; rfl
  have hself : ("self" : Str) ∈ ps := by
    cases ps with
    | nil => cases hs0
    | cons x ps => cases hs0; exact List.mem_cons_self ..
  obtain ⟨pl, hpl⟩ := hc (envF F fI s.heap.objs.size)
  have si := sup_init (body := F.body) (pos := pos) (apos := apos) (p0 := p0) (p1 := p1) (i := 0) I SK T rfl rfl rfl hks (S.frk _ (List.mem_cons_self ..)) (S.par _ hself) hN0 rfl ea hm pa (Q := fun _ H1 => t { nx := fun _ H' => Q .non H', rt := Q } (startF N (.ref a :: vs') [none]) H1) hq hpl (he _) rfl
  refine ks_wpAt_execs_cons (ks_wpAt_Expr_any (ks_wpAt_mono si (fun u s' h => ?_) fun _ _ h => h) (by unfold interactive; simp [S.kind]) (hsw _))
  obtain ⟨v, H1, J, rv, q⟩ := h
  refine wpAt_of_wpAny (wpAny_mono (pss.run [] s' _ H1 _ J q) (fun fl s'' hs => ?_) fun _ _ h => h)
  have fin : ∀ {σ' : L2.St} {H' : Hp} {v : V} {u : Value}, Inv (ncx CX P w K mg base N F fI A outer s H E) [] σ' H' s'' → L2.RelV v u → Q v H' → CE outer P w H s Q u s'' :=
    fun {σ' H' v u} J rv q => ⟨v, H', J.os, J.bare, J.base, J.hok, rv, q⟩
  cases fl with
  | ret u =>
    obtain ⟨v, σ', H', J, rv, q⟩ := hs
    exact fin J rv q
  | next =>
    obtain ⟨σ', H', J, q⟩ := hs
    exact fin (v := V.non) (u := Value.none) J rfl q
  | brk =>
    obtain ⟨_, _, _, q⟩ := hs
    exact False.elim q
  | cont =>
    obtain ⟨_, _, _, q⟩ := hs
    exact False.elim q
end
end PyI
/-! X3: an error of one field, told as f"..{field}". -/
namespace PyI
open PySem PySem.Spec PyProof.Rows L2 NdefX
section
variable {P : Program} {w : World} {K : PySem.W.Frag} {mg : Str → Option Value} {base : Heap} {name qual x c0 : Str} {params : Arguments} {scope : Scope} {doc pm ct oc : Value} {od : Option Addr} {osl : Array (Option Value)} {C fI cda cc : Addr} {p0 p1 apos pos epos q3 q4 q5 q6 r0 r1 r2 r3 : Pos} {j : Nat}
theorem fmt_len {i : Int} (h0 : 0 ≤ i) (h : i < 1000000000000000000) : (Str.ofString (toString i)).length ≤ 18 := by
  have := PyProof.Rows.toString_length_le (v := i) (k := 18) h0 (by decide) (by simpa using h)
  simpa using this
theorem ini1_ok {F : NF} (hF : F = iNF name qual params (.Expr (.Call (.Attribute (.Call (.Name "super" p0) [] [] p1) "__init__" apos) [.JoinedStr [.Constant (.str c0) j q3, .FormattedValue (.Name x q4) (-1) none q5] q6] [] pos) epos :: [.Assign [.Attribute (.Name "self" r0) x r1] (.Name x r2) r3]) scope cc cda)
    (lk : K.lookup fI = some ⟨oc, od, .func (F.fd doc pm ct), osl⟩) (hcd : PySem.W.codeIn K (.ref cda) qual = true) (S : NScope ["self", x, "__class__"] ["self", x] ["__class__"] scope) (SK : SupK K P C fI cda cc) (T : OexC K C) (hm : mg "super" = none)
    (hks : scope.names.lookup ("super" : Str) = some .globalImplicit) (hno : PySem.W.findIn K (.ref C) x = some none) (hx1 : (x == ("__debug__" : Str)) = false) (hx2 : (x == ("__classdict__" : Str)) = false) (hz : c0.length ≤ 1000)
    (hc : ∀ env : Env, ∃ pl : Sem Bool, eval (.Call (.Attribute (.Call (.Name "super" p0) [] [] p1) "__init__" apos) [.JoinedStr [.Constant (.str c0) j q3, .FormattedValue (.Name x q4) (-1) none q5] q6] [] pos) env = (do
      let ov ← attributeBase (.Call (.Name "super" p0) [] [] p1) "__init__" env (eval (.Call (.Name "super" p0) [] [] p1) env)
      standAt apos.atName
      let (f, first) ← holding [ov] (getMethod ov "__init__" pl)
      callWith pos f first (backTo pos (starEach [.JoinedStr [.Constant (.str c0) j q3, .FormattedValue (.Name x q4) (-1) none q5] q6] env)) []))
    (hsw : ∀ env : Env, swapsWith (.Call (.Attribute (.Call (.Name "super" p0) [] [] p1) "__init__" apos) [.JoinedStr [.Constant (.str c0) j q3, .FormattedValue (.Name x q4) (-1) none q5] q6] [] pos) none epos.line env = pure false) :
    FnOk P w K mg base (L2.CX P w) 1 fI (F.fd doc pm ct) ["self", x] (iniS C [x]) := by
  refine init_ok (k := 0) hF lk hcd S SK T hm rfl hks (fun _ => rfl) hc hsw (fun vs H Q E h => ?_) (fun A outer s H vs Q E hr h => ?_)
  · obtain ⟨a, ws, rfl, hl, _⟩ := h
    rw [List.length_cons, hl]; rfl
  · obtain ⟨a, ws, rfl, hl, hf, ea, q⟩ := h
    obtain ⟨y, rfl⟩ : ∃ y, ws = [y] := by
      match ws, hl with
      | [y], _ => exact ⟨y, rfl⟩
    let X := ncx (L2.CX P w) P w K mg base ["self", x, "__class__"] F fI A outer s H E
    have hsc : X.env.scope = scope := by show F.scope = scope; rw [hF]
    have vx : Vis X.env.scope x := .inl (by rw [hsc]; exact S.par _ (List.mem_cons_of_mem _ (List.mem_cons_self ..)))
    have vs : Vis X.env.scope "self" := .inl (by rw [hsc]; exact S.par _ (List.mem_cons_self ..))
    have px : ∀ {p : Pos}, PE X (.Name x p) (tVar 1) := fun {p} => pe_var rfl vx hx1 hx2
    have ps : ∀ {p : Pos}, PE X (.Name "self" p) (tVar 0) := fun {p} => pe_var rfl vs
    refine ⟨a, [y], _, _, rfl, ea, pa_cons (pe_joined (.cons pe_str (.cons (pe_fmt px) .nil))) pa_nil (star_cons rfl), pss_one (ps_ost ps px (sw_plain rfl)), ?_⟩
    have fin : tOst K x (tVar 0) (tVar 1) { nx := fun _ H' => Q .non H', rt := Q } (startF ["self", x, "__class__"] [.ref a, y] [none]) H :=
      ⟨y, rfl, .ref a, rfl, a, C, rfl, T, hno, .inl ⟨ea, fun dx h1 h2 => q dx h1 h2⟩⟩
    have hz0 : (Str.empty ++ c0).length ≤ sizeLine := by
      have : (Str.empty ++ c0).length = 0 + c0.length := by
        show (Array.append _ _).size = _
        simp [Str.empty, Str.length]
      rw [this, sizeLine_eq]; omega
    have happ : ∀ z : Str, z.length ≤ 1000000 → ((Str.empty ++ c0) ++ z).length ≤ sizeLine := fun z hzl => by
      have : ((Str.empty ++ c0) ++ z).length = 0 + c0.length + z.length := by
        show (Array.append (Array.append _ _) _).size = _
        simp [Str.empty, Str.length]
      rw [this, sizeLine_eq]; omega
    rcases hf y (List.mem_singleton_self _) with ⟨i, rfl, h0, h1⟩ | ⟨z, rfl, h1⟩
    · have h2 := fmt_len h0 h1
      have hlog : i.natAbs.log2 < 1920 := by
        rcases Nat.eq_zero_or_pos i.natAbs with e | e
        · rw [e]; decide
        · exact Nat.lt_trans ((Nat.log2_lt (by omega)).mpr (show i.natAbs < 2 ^ 60 by
            have : (2 : Nat) ^ 60 = 1152921504606846976 := by decide
            omega)) (by decide)
      exact ⟨c0, rfl, hz0, .int i, rfl, .inr ⟨i, rfl, hlog, _, rfl, happ _ (by omega), ea, (by show (1 : Nat) ≤ 1000; decide), fin⟩⟩
    · exact ⟨c0, rfl, hz0, .str z, rfl, .inl ⟨z, rfl, by rw [sizeLine_eq]; omega, _, rfl, happ _ h1, ea, (by show (1 : Nat) ≤ 1000; decide), fin⟩⟩
end
end PyI
/-! X4: the facts of an own error, of one field, from the written part. -/
namespace PyI
open PySem PySem.Spec PyProof.Rows L2 NdefX
/-- the body of an __init__ of one field -/
abbrev ini1B (x c0 : Str) (j : Nat) (p0 p1 apos pos epos q3 q4 q5 q6 r0 r1 r2 r3 : Pos) : List Stmt := .Expr (.Call (.Attribute (.Call (.Name "super" p0) [] [] p1) "__init__" apos) [.JoinedStr [.Constant (.str c0) j q3, .FormattedValue (.Name x q4) (-1) none q5] q6] [] pos) epos :: [.Assign [.Attribute (.Name "self" r0) x r1] (.Name x r2) r3]
section
variable {P : Program} {w : World} {K : PySem.W.Frag} {mg : Str → Option Value} {h : Heap} {C N fI cda cc : Addr} {nm q : Str} {bs bm : List Value} {sn : List Str} {sub : List Value} {ab : Bool} {col : Option Bool} {dd : Option Addr} {k0 k1 k2 k3 k5 : Option Value}
theorem oexC_by (lC : K.lookup C = some (excClassObj nm q C N bs bm true sn sub ab col dd k0 k1 k2 k3 k5 "ValueError.__new__")) (hbm : PySem.HandSPX.refsVE bm = true) (sa : PySem.W.findIn K (.ref C) "__setattr__" = some (some (.builtin "object.__setattr__"))) (exC : PySem.W.subIn K (.ref C) (.type "BaseException") = some true)
    (tyC : PySem.W.typeIn K (.ref C) = some (.type "type")) (kC : PySem.W.keepIn K (.ref C) = true) : OexC K C := ⟨⟨_, _, _, _, _, _, _, _, _, _, _, _, _, _, _, lC, hbm⟩, sa, exC, tyC, kC⟩
theorem excC_by (exC : PySem.W.subIn K (.ref C) (.type "BaseException") = some true) (ga : PySem.W.findIn K (.ref C) "__getattribute__" = some (some (.builtin "BaseException.__getattribute__"))) (gg : PySem.W.findIn K (.ref C) "__getattr__" = some none) (hd : PySem.W.hasDictIn K C = true)
    (ha : PySem.W.findIn K (.ref C) "__class__" = some (some (.builtin "object.__class__"))) (hn : PySem.W.specialIn K (.builtin "object.__class__") "__get__" = some (some (.builtin "getset_descriptor.__get__"))) (ht : PySem.W.takesIn K (.builtin "object.__class__") = some true) (hm : PySem.W.mroIn K C (.type "object") = some true) : ExcC K C := ⟨ga, gg, exC, hd, ha, hn, ht, hm⟩
theorem supK_by {cd : ClassData} {oc ccl cl : Value} {od cdd cld : Option Addr} {fd : FuncData} {osl ccs csl : Array (Option Value)} {ar : Arg} {vs : Array Value} {file : Str} {tf : Tok}
    (lI : K.lookup fI = some ⟨oc, od, .func fd, osl⟩) (hp : (fd.params.posonlyargs ++ fd.params.args).head? = some ar) (har : ar.arg = "self") (lD : K.lookup cda = some ⟨ccl, cdd, .fields vs, ccs⟩) (hf : vs[2]? = some (.str file tf)) (hpf : ((P.main.file : Str) == file) = true)
    (lc : K.lookup cc = some ⟨cl, cld, .cell (some (.ref C)), csl⟩) (hc : PySem.W.clsIn K C = some cd) (hs : PySem.W.mroIn K C (.ref C) = some true) (ho : PySem.W.nsIn K cStatics "thirdparty.any" = some none) (hal : PySem.W.ks_superIn K C C "__init__" = some (some (.builtin "ValueError.__init__")))
    (hv : PySem.W.subIn K (.ref C) (.type "ValueError") = some true) (ht : (P.main.scope.names.lookup ("super" : Str)).isSome = false) : SupK K P C fI cda cc :=
  ⟨⟨_, _, _, _, _, lI, hp, har⟩, ⟨_, _, _, _, _, _, lD, hf, hpf⟩, ⟨_, _, _, lc⟩, ⟨_, hc⟩, hs, ho, hal, hv, ht⟩
theorem clsK_by {x : Str} {fl ps : List Str} {fd : FuncData} (KX : K.In h) (G : h.Ns mainGlobals mg) (a : PySem.W.nsIn K mainGlobals x = some (some (.ref C))) (T : OexC K C) (E : ExcC K C) (ifi : PySem.W.findIn K (.ref C) "__init__" = some (some (.ref fI))) (ity : PySem.W.typeIn K (.ref fI) = some (.type "function"))
    (hb : ∀ us : List Value, us.length = ps.length → bindArgs fd ⟨us, []⟩ = pure (ps.zip us)) (hi : ∀ base, FnOk P w K mg base (L2.CX P w) 1 fI fd ps (iniS C fl)) (hno : ∀ f ∈ fl, PySem.W.findIn K (.ref C) f = some none) (hs : PySem.W.subIn K (.ref C) (.ref C) = some true) : ClsK P w K mg C x fl :=
  ⟨T, ⟨E.hg, E.hk, E.hs, E.hd⟩, E, ⟨fI, fd, ps, ifi, ity, Binds.all hb, hi⟩, PySem.W.mg_of KX G a, hno, PySem.W.exm_ref T.exC E.hd T.tyC hs⟩
/-- an error of one field, told as f"text{field}" -/
theorem cls1_all {x f c0 qual name nm q : Str} {params : Arguments} {scope : Scope} {j : Nat} {p0 p1 apos pos epos q3 q4 q5 q6 r0 r1 r2 r3 : Pos} {cd : ClassData} {oc ccl cl doc pm ctv : Value} {od cdd cld : Option Addr} {osl ccs csl : Array (Option Value)} {ar : Arg} {vs : Array Value} {file : Str} {tf : Tok}
    (KX : K.In h) (G : h.Ns mainGlobals mg) (a : PySem.W.nsIn K mainGlobals x = some (some (.ref C)))
    (lC : K.lookup C = some (excClassObj nm q C N bs bm true sn sub ab col dd k0 k1 k2 k3 k5 "ValueError.__new__")) (hbm : PySem.HandSPX.refsVE bm = true) (sa : PySem.W.findIn K (.ref C) "__setattr__" = some (some (.builtin "object.__setattr__"))) (exC : PySem.W.subIn K (.ref C) (.type "BaseException") = some true)
    (tyC : PySem.W.typeIn K (.ref C) = some (.type "type")) (kC : PySem.W.keepIn K (.ref C) = true)
    (ga : PySem.W.findIn K (.ref C) "__getattribute__" = some (some (.builtin "BaseException.__getattribute__"))) (gg : PySem.W.findIn K (.ref C) "__getattr__" = some none) (hd : PySem.W.hasDictIn K C = true)
    (ha : PySem.W.findIn K (.ref C) "__class__" = some (some (.builtin "object.__class__"))) (hn : PySem.W.specialIn K (.builtin "object.__class__") "__get__" = some (some (.builtin "getset_descriptor.__get__"))) (ht : PySem.W.takesIn K (.builtin "object.__class__") = some true) (hm : PySem.W.mroIn K C (.type "object") = some true)
    (ifi : PySem.W.findIn K (.ref C) "__init__" = some (some (.ref fI))) (ity : PySem.W.typeIn K (.ref fI) = some (.type "function"))
    (lI : K.lookup fI = some ⟨oc, od, .func (PySem.W.fnX name qual params (ini1B f c0 j p0 p1 apos pos epos q3 q4 q5 q6 r0 r1 r2 r3) scope [("__class__", cc)] .none .none doc pm none (.ref cda) ctv), osl⟩)
    (hcd : PySem.W.codeIn K (.ref cda) qual = true) (lD : K.lookup cda = some ⟨ccl, cdd, .fields vs, ccs⟩) (lc : K.lookup cc = some ⟨cl, cld, .cell (some (.ref C)), csl⟩) (hc : PySem.W.clsIn K C = some cd) (hs : PySem.W.mroIn K C (.ref C) = some true) (ho : PySem.W.nsIn K cStatics "thirdparty.any" = some none)
    (hal : PySem.W.ks_superIn K C C "__init__" = some (some (.builtin "ValueError.__init__"))) (hv : PySem.W.subIn K (.ref C) (.type "ValueError") = some true) (sup : PySem.W.nsIn K mainGlobals "super" = some none) (hno : PySem.W.findIn K (.ref C) f = some none) (hss : PySem.W.subIn K (.ref C) (.ref C) = some true)
    (hp : (params.posonlyargs ++ params.args).head? = some ar) (har : ar.arg = "self") (hf : vs[2]? = some (.str file tf)) (hpf : ((P.main.file : Str) == file) = true) (htp : (P.main.scope.names.lookup ("super" : Str)).isSome = false)
    (hb : ∀ us : List Value, us.length = 2 → bindArgs (PySem.W.fnX name qual params (ini1B f c0 j p0 p1 apos pos epos q3 q4 q5 q6 r0 r1 r2 r3) scope [("__class__", cc)] .none .none doc pm none (.ref cda) ctv) ⟨us, []⟩ = pure ((["self", f] : List Str).zip us))
    (S : nscB ["self", f, "__class__"] ["self", f] ["__class__"] scope = true) (hks : scope.names.lookup ("super" : Str) = some .globalImplicit) (hx1 : (f == ("__debug__" : Str)) = false) (hx2 : (f == ("__classdict__" : Str)) = false) (hz : c0.length ≤ 1000)
    (hce : ∀ env : Env, ∃ pl : Sem Bool, eval (.Call (.Attribute (.Call (.Name "super" p0) [] [] p1) "__init__" apos) [.JoinedStr [.Constant (.str c0) j q3, .FormattedValue (.Name f q4) (-1) none q5] q6] [] pos) env = (do
      let ov ← attributeBase (.Call (.Name "super" p0) [] [] p1) "__init__" env (eval (.Call (.Name "super" p0) [] [] p1) env)
      standAt apos.atName
      let (fn, first) ← holding [ov] (getMethod ov "__init__" pl)
      callWith pos fn first (backTo pos (starEach [.JoinedStr [.Constant (.str c0) j q3, .FormattedValue (.Name f q4) (-1) none q5] q6] env)) []))
    (hsw : ∀ env : Env, swapsWith (.Call (.Attribute (.Call (.Name "super" p0) [] [] p1) "__init__" apos) [.JoinedStr [.Constant (.str c0) j q3, .FormattedValue (.Name f q4) (-1) none q5] q6] [] pos) none epos.line env = pure false) : ClsK P w K mg C x [f] := by
  have T := oexC_by lC hbm sa exC tyC kC
  exact clsK_by (ps := ["self", f]) KX G a T (excC_by exC ga gg hd ha hn ht hm) ifi ity hb (fun base => ini1_ok (F := iNF name qual params (ini1B f c0 j p0 p1 apos pos epos q3 q4 q5 q6 r0 r1 r2 r3) scope cc cda) rfl lI hcd (nscope_by S) (supK_by lI hp har lD hf hpf lc hc hs ho hal hv htp) T (PySem.W.mg_none_of KX G sup) hks hno hx1 hx2 hz hce hsw) (fun g hg => by rw [List.mem_singleton.mp hg]; exact hno) hss
theorem isxR (KX : K.In h) (G : h.Ns mainGlobals mg) {x : Str} {c D : Addr} {b : Bool} {cd : ClassData} (a : PySem.W.nsIn K mainGlobals x = some (some (.ref D))) (hc : PySem.W.clsIn K D = some cd) (ht : PySem.W.typeIn K (.ref D) = some (.type "type")) (hs : PySem.W.subIn K (.ref c) (.ref D) = some b) (hne : (Value.ref c == Value.ref D) = false) :
    ∃ (v : V) (cv : Value), ((mg x = some cv) ∨ (mg x = none ∧ bootBuiltins x = some cv ∧ x ≠ "__name__")) ∧ RelV v cv ∧ (∀ u, RelV v u → u = cv) ∧ PySem.W.kitOne K (.ref c) cv = some b := by
  refine ⟨.ref D, .ref D, .inl (PySem.W.mg_of KX G a), rfl, fun u h => h, ?_⟩
  have e2 : ((PySem.W.clsIn K D).isSome && PySem.W.typeIn K (.ref D) == some (.type "type")) = true := by rw [hc, ht]; rfl
  unfold PySem.W.kitOne PySem.W.kitCls
  rw [if_neg (by rw [hne]; decide)]
  simp only
  rw [if_pos e2, hs]
theorem isxB (KX : K.In h) (G : h.Ns mainGlobals mg) {x : Str} {c : Addr} {T : String} {b : Bool} (a : PySem.W.nsIn K mainGlobals x = some none) (hb : bootBuiltins x = some (.type T)) (hx : x ≠ "__name__") (hm : PySem.W.kitMeta T = true) (hs : PySem.W.subIn K (.ref c) (.type T) = some b) :
    ∃ (v : V) (cv : Value), ((mg x = some cv) ∨ (mg x = none ∧ bootBuiltins x = some cv ∧ x ≠ "__name__")) ∧ RelV v cv ∧ (∀ u, RelV v u → u = cv) ∧ PySem.W.kitOne K (.ref c) cv = some b := by
  refine ⟨.ty T, .type T, .inr ⟨PySem.W.mg_none_of KX G a, hb, hx⟩, rfl, fun u h => h, ?_⟩
  unfold PySem.W.kitOne PySem.W.kitCls
  rw [if_neg (fun z => by have := eq_of_beq z; cases this)]
  simp only
  rw [if_pos hm, hs]
end
end PyI
/-! the defs of sensekept_k31_plain_wrong_texts; printed by gen.py -/
namespace PyI.K31
open PySem L2
def top (i : Nat) : Stmt := PySem.Challenge.pw_sensekept_k31_plain_wrong_texts.main.body.getD i (.Pass ⟨0, 0, 0, 0⟩)
def tb : Tb := ⟨("read_plain", 1) :: ("read_value", 4) :: ("read_members", 4) :: ("read_number", 2) :: ("read_quoted", 3) :: ("can_be_quoted", 1) :: ("unescaped", 1) :: ("wrong_place", 2) :: ("_law_cell", 2) :: ("_law_digits", 3) :: ("_law_draw", 2) :: ("_law_same", 2) :: ("_law_plain", 1) :: ("_law_text_at", 2) :: ("_law_digits_at", 2) :: ("_law_value_at", 3) :: ("_law_read", 1) :: ("_law_told", 1) :: ("_law_value", 2) :: ("law", 1) :: [], ["MOST_DIGITS", "MOST_DEEP"], ["WORDS"], [("BadPlain", ["place"])], [(0, "SenseError", true), (0, "ValueError", true), (0, "BadText", false)]⟩
def con : Nat → Option D
  | 0 => some (.int 20)
  | 1 => some (.int 60)
  | _ => none
def dic : Nat → List (Str × D)
  | 0 => [("T", (.bl true)), ("F", (.bl false)), ("N", .non)]
  | _ => []
def b_read_plain : B := (.cons (.setR 1 (.repl (.repl (.base (.var 0)) "\\\\" "..") "\\\"" ".."))
    (.cons (.set (.tp [2, 3]) (.call 1 (.cons (.var 0) (.cons (.var 1) (.cons (.cst (.int 0)) (.cons (.cst (.int 0)) .nil))))))
    (.cons (.ifs (.val (.cmp .lt (.var 3) (.bif .len (.cons (.var 0) .nil)))) (.cons (.rse 0 1 (.cons (.var 3) .nil))
    .nil) .nil)
    (.cons (.ret (.var 2))
    .nil))))
def f_read_plain : FnD := ⟨"read_plain", ["text"], ["text", "masked", "value", "at"], top 8, [], true, b_read_plain⟩
theorem r_read_plain : resB 80 ⟨⟨f_read_plain.N, tb⟩, defScope f_read_plain.st, locOf (defScope f_read_plain.st), f_read_plain.muts, f_read_plain.τ⟩ (defBody f_read_plain.st) = some b_read_plain := by kernel_rfl
theorem o_read_plain : f_read_plain.Ok tb := ⟨r_read_plain, ⟨rfl, rfl, rfl, by decide +kernel, rfl, by decide +kernel, by decide +kernel⟩, fun _ => ⟨by decide +kernel, by decide⟩⟩
def b_read_value : B := (.cons (.set (.nm 4) (.slc (.var 0) (.some (.var 2)) (.some (.bin .add (.var 2) (.cst (.int 1))))))
    (.cons (.ifs (.val (.cmp .eq (.var 4) (.cst (.str "\"")))) (.cons (.ret (.call 4 (.cons (.var 0) (.cons (.var 1) (.cons (.bin .add (.var 2) (.cst (.int 1))) .nil)))))
    .nil) .nil)
    (.cons (.ifs (.val (.cmp .eq (.var 4) (.cst (.str "(")))) (.cons (.ret (.call 2 (.cons (.var 0) (.cons (.var 1) (.cons (.var 2) (.cons (.var 3) .nil))))))
    .nil) .nil)
    (.cons (.ifs (.val (.gin false 0 (.var 4))) (.cons (.ret (.tup (.cons (.gdict 0 (.var 4)) (.cons (.bin .add (.var 2) (.cst (.int 1))) .nil))))
    .nil) .nil)
    (.cons (.ret (.call 3 (.cons (.var 0) (.cons (.var 2) .nil))))
    .nil)))))
def f_read_value : FnD := ⟨"read_value", ["text", "masked", "at", "depth"], ["text", "masked", "at", "depth", "sign"], top 9, [], false, b_read_value⟩
theorem r_read_value : resB 80 ⟨⟨f_read_value.N, tb⟩, defScope f_read_value.st, locOf (defScope f_read_value.st), f_read_value.muts, f_read_value.τ⟩ (defBody f_read_value.st) = some b_read_value := by kernel_rfl
theorem o_read_value : f_read_value.Ok tb := ⟨r_read_value, ⟨rfl, rfl, rfl, by decide +kernel, rfl, by decide +kernel, by decide +kernel⟩, fun h => nomatch h⟩
def b_read_members : B := (.cons (.ifs (.val (.cmp .eq (.var 3) (.glob 1))) (.cons (.rse 0 1 (.cons (.var 2) .nil))
    .nil) .nil)
    (.cons (.aug 2 .add (.cst (.int 1)))
    (.cons (.ifs (.val (.cmp .eq (.slc (.var 0) (.some (.var 2)) (.some (.bin .add (.var 2) (.cst (.int 1))))) (.cst (.str ")")))) (.cons (.ret (.tup (.cons (.tup .nil) (.cons (.bin .add (.var 2) (.cst (.int 1))) .nil))))
    .nil) .nil)
    (.cons (.new 4 (.lst .nil))
    (.cons (.whl (.val (.cst (.bl true))) (.cons (.set (.tp [5, 2]) (.call 1 (.cons (.var 0) (.cons (.var 1) (.cons (.var 2) (.cons (.bin .add (.var 3) (.cst (.int 1))) .nil))))))
    (.cons (.expr (.met .append (.var 4) (.cons (.var 5) .nil)))
    (.cons (.set (.nm 6) (.slc (.var 0) (.some (.var 2)) (.some (.bin .add (.var 2) (.cst (.int 1))))))
    (.cons (.ifs (.val (.cmp .eq (.var 6) (.cst (.str ")")))) (.cons (.ret (.tup (.cons (.bif .tuple (.cons (.var 4) .nil)) (.cons (.bin .add (.var 2) (.cst (.int 1))) .nil))))
    .nil) .nil)
    (.cons (.ifs (.val (.cmp .ne (.var 6) (.cst (.str " ")))) (.cons (.rse 0 1 (.cons (.var 2) .nil))
    .nil) .nil)
    (.cons (.aug 2 .add (.cst (.int 1)))
    .nil)))))))
    .nil)))))
def f_read_members : FnD := ⟨"read_members", ["text", "masked", "at", "depth"], ["text", "masked", "at", "depth", "members", "value", "sign"], top 10, ["members"], false, b_read_members⟩
theorem r_read_members : resB 80 ⟨⟨f_read_members.N, tb⟩, defScope f_read_members.st, locOf (defScope f_read_members.st), f_read_members.muts, f_read_members.τ⟩ (defBody f_read_members.st) = some b_read_members := by kernel_rfl
theorem o_read_members : f_read_members.Ok tb := ⟨r_read_members, ⟨rfl, rfl, rfl, by decide +kernel, rfl, by decide +kernel, by decide +kernel⟩, fun h => nomatch h⟩
def b_read_number : B := (.cons (.set (.nm 2) (.ite (.val (.cmp .eq (.slc (.var 0) (.some (.var 1)) (.some (.bin .add (.var 1) (.cst (.int 1))))) (.cst (.str "-")))) (.bin .add (.var 1) (.cst (.int 1))) (.var 1)))
    (.cons (.set (.nm 3) (.slc (.var 0) (.some (.var 2)) (.some (.bin .add (.var 2) (.cst (.int 1))))))
    (.cons (.ifs (.and (.val (.cmp .eq (.var 3) (.cst (.str "0")))) (.val (.cmp .eq (.var 2) (.var 1)))) (.cons (.ret (.tup (.cons (.cst (.int 0)) (.cons (.bin .add (.var 1) (.cst (.int 1))) .nil))))
    .nil) .nil)
    (.cons (.ifs (.not (.val (.chn .le .le (.cst (.str "1")) (.var 3) (.cst (.str "9"))))) (.cons (.rse 0 1 (.cons (.var 2) .nil))
    .nil) .nil)
    (.cons (.set (.nm 4) (.bin .add (.var 2) (.cst (.int 1))))
    (.cons (.whl (.and (.val (.cmp .lt (.var 4) (.bin .add (.var 2) (.glob 0)))) (.val (.chn .le .le (.cst (.str "0")) (.slc (.var 0) (.some (.var 4)) (.some (.bin .add (.var 4) (.cst (.int 1))))) (.cst (.str "9"))))) (.cons (.aug 4 .add (.cst (.int 1)))
    .nil))
    (.cons (.ret (.tup (.cons (.bif .int (.cons (.slc (.var 0) (.some (.var 1)) (.some (.var 4))) .nil)) (.cons (.var 4) .nil))))
    .nil)))))))
def f_read_number : FnD := ⟨"read_number", ["text", "at"], ["text", "at", "start", "first", "end"], top 11, [], false, b_read_number⟩
theorem r_read_number : resB 80 ⟨⟨f_read_number.N, tb⟩, defScope f_read_number.st, locOf (defScope f_read_number.st), f_read_number.muts, f_read_number.τ⟩ (defBody f_read_number.st) = some b_read_number := by kernel_rfl
theorem o_read_number : f_read_number.Ok tb := ⟨r_read_number, ⟨rfl, rfl, rfl, by decide +kernel, rfl, by decide +kernel, by decide +kernel⟩, fun h => nomatch h⟩
def b_read_quoted : B := (.cons (.set (.nm 3) (.met .find (.var 1) (.cons (.cst (.str "\"")) (.cons (.var 2) .nil))))
    (.cons (.ifs (.val (.cmp .lt (.var 3) (.cst (.int 0)))) (.cons (.rse 0 1 (.cons (.call 7 (.cons (.var 0) (.cons (.var 2) .nil))) .nil))
    .nil) .nil)
    (.cons (.set (.nm 4) (.slc (.var 0) (.some (.var 2)) (.some (.var 3))))
    (.cons (.ifs (.not (.val (.call 5 (.cons (.var 4) .nil)))) (.cons (.rse 0 1 (.cons (.call 7 (.cons (.var 0) (.cons (.var 2) .nil))) .nil))
    .nil) .nil)
    (.cons (.ifs (.val (.cmp .notin (.cst (.str "\\")) (.var 4))) (.cons (.ret (.tup (.cons (.var 4) (.cons (.bin .add (.var 3) (.cst (.int 1))) .nil))))
    .nil) .nil)
    (.cons (.set (.nm 5) (.call 6 (.cons (.var 4) .nil)))
    (.cons (.ifs (.val (.cmp .is_ (.var 5) (.cst .non))) (.cons (.rse 0 1 (.cons (.call 7 (.cons (.var 0) (.cons (.var 2) .nil))) .nil))
    .nil) .nil)
    (.cons (.ret (.tup (.cons (.var 5) (.cons (.bin .add (.var 3) (.cst (.int 1))) .nil))))
    .nil))))))))
def f_read_quoted : FnD := ⟨"read_quoted", ["text", "masked", "at"], ["text", "masked", "at", "end", "inner", "told"], top 12, [], false, b_read_quoted⟩
theorem r_read_quoted : resB 80 ⟨⟨f_read_quoted.N, tb⟩, defScope f_read_quoted.st, locOf (defScope f_read_quoted.st), f_read_quoted.muts, f_read_quoted.τ⟩ (defBody f_read_quoted.st) = some b_read_quoted := by kernel_rfl
theorem o_read_quoted : f_read_quoted.Ok tb := ⟨r_read_quoted, ⟨rfl, rfl, rfl, by decide +kernel, rfl, by decide +kernel, by decide +kernel⟩, fun h => nomatch h⟩
def b_can_be_quoted : B := (.cons (.ret (.and (.met .isascii (.var 0) .nil) (.and (.met .isprintable (.var 0) .nil) (.cmp .eq (.bif .len (.cons (.tr37 (.var 0)) .nil)) (.bif .len (.cons (.var 0) .nil))))))
    .nil)
def f_can_be_quoted : FnD := ⟨"can_be_quoted", ["text"], ["text"], top 13, [], false, b_can_be_quoted⟩
theorem r_can_be_quoted : resB 80 ⟨⟨f_can_be_quoted.N, tb⟩, defScope f_can_be_quoted.st, locOf (defScope f_can_be_quoted.st), f_can_be_quoted.muts, f_can_be_quoted.τ⟩ (defBody f_can_be_quoted.st) = some b_can_be_quoted := by kernel_rfl
theorem o_can_be_quoted : f_can_be_quoted.Ok tb := ⟨r_can_be_quoted, ⟨rfl, rfl, rfl, by decide +kernel, rfl, by decide +kernel, by decide +kernel⟩, fun h => nomatch h⟩
def b_unescaped : B := (.cons (.new 1 (.lst .nil))
    (.cons (.for_ (.nm 2) (.seq (.met .split (.var 0) (.cons (.cst (.str "\\\\")) .nil))) (.cons (.setR 3 (.repl (.repl (.base (.var 2)) "\\\"" "\"") "\\n" "\n"))
    (.cons (.ifs (.val (.cmp .in_ (.cst (.str "\\")) (.var 3))) (.cons (.ret (.cst .non))
    .nil) .nil)
    (.cons (.expr (.met .append (.var 1) (.cons (.var 3) .nil)))
    .nil))))
    (.cons (.ret (.met .join (.cst (.str "\\")) (.cons (.var 1) .nil)))
    .nil)))
def f_unescaped : FnD := ⟨"unescaped", ["inner"], ["inner", "pieces", "piece", "told"], top 14, ["pieces"], true, b_unescaped⟩
theorem r_unescaped : resB 80 ⟨⟨f_unescaped.N, tb⟩, defScope f_unescaped.st, locOf (defScope f_unescaped.st), f_unescaped.muts, f_unescaped.τ⟩ (defBody f_unescaped.st) = some b_unescaped := by kernel_rfl
theorem o_unescaped : f_unescaped.Ok tb := ⟨r_unescaped, ⟨rfl, rfl, rfl, by decide +kernel, rfl, by decide +kernel, by decide +kernel⟩, fun _ => ⟨by decide +kernel, by decide⟩⟩
def b_wrong_place : B := (.cons (.whl (.val (.cmp .lt (.var 1) (.bif .len (.cons (.var 0) .nil)))) (.cons (.ifs (.val (.cmp .eq (.idx (.var 0) (.var 1)) (.cst (.str "\\")))) (.cons (.ifs (.val (.cmp .notin (.slc (.var 0) (.some (.bin .add (.var 1) (.cst (.int 1)))) (.some (.bin .add (.var 1) (.cst (.int 2))))) (.tup (.cons (.cst (.str "\\")) (.cons (.cst (.str "\"")) (.cons (.cst (.str "n")) .nil)))))) (.cons (.ret (.bin .add (.var 1) (.cst (.int 1))))
    .nil) .nil)
    (.cons (.aug 1 .add (.cst (.int 2)))
    .nil)) (.cons (.ifs (.val (.call 5 (.cons (.idx (.var 0) (.var 1)) .nil))) (.cons (.aug 1 .add (.cst (.int 1)))
    .nil) (.cons (.ret (.var 1))
    .nil))
    .nil))
    .nil))
    (.cons (.ret (.var 1))
    .nil))
def f_wrong_place : FnD := ⟨"wrong_place", ["text", "at"], ["text", "at"], top 15, [], false, b_wrong_place⟩
theorem r_wrong_place : resB 80 ⟨⟨f_wrong_place.N, tb⟩, defScope f_wrong_place.st, locOf (defScope f_wrong_place.st), f_wrong_place.muts, f_wrong_place.τ⟩ (defBody f_wrong_place.st) = some b_wrong_place := by kernel_rfl
theorem o_wrong_place : f_wrong_place.Ok tb := ⟨r_wrong_place, ⟨rfl, rfl, rfl, by decide +kernel, rfl, by decide +kernel, by decide +kernel⟩, fun h => nomatch h⟩
def b_law_cell : B := (.cons (.ifs (.val (.cmp .lt (.var 1) (.bif .len (.cons (.var 0) .nil)))) (.cons (.ret (.idx (.var 0) (.var 1)))
    .nil) .nil)
    (.cons (.ret (.cst (.int 0)))
    .nil))
def f_law_cell : FnD := ⟨"_law_cell", ["script", "k"], ["script", "k"], top 17, [], false, b_law_cell⟩
theorem r_law_cell : resB 80 ⟨⟨f_law_cell.N, tb⟩, defScope f_law_cell.st, locOf (defScope f_law_cell.st), f_law_cell.muts, f_law_cell.τ⟩ (defBody f_law_cell.st) = some b_law_cell := by kernel_rfl
theorem o_law_cell : f_law_cell.Ok tb := ⟨r_law_cell, ⟨rfl, rfl, rfl, by decide +kernel, rfl, by decide +kernel, by decide +kernel⟩, fun h => nomatch h⟩
def b_law_digits : B := (.cons (.new 3 (.lst .nil))
    (.cons (.for_ (.nm 4) (.rng2 (.var 1) (.var 2)) (.cons (.ifs (.val (.cmp .gt (.bif .len (.cons (.var 3) .nil)) (.cst (.int 1500)))) (.cons .brk
    .nil) .nil)
    (.cons (.set (.nm 5) (.call 8 (.cons (.var 0) (.cons (.var 4) .nil))))
    (.cons (.ifs (.val (.cmp .lt (.var 5) (.cst (.int 0)))) (.cons (.set (.nm 5) (.bin .sub (.cst (.int 1)) (.bin .mul (.cst (.int 2)) (.var 5))))
    .nil) .nil)
    (.cons (.ifs (.val (.cmp .ge (.var 5) (.bin .pow (.cst (.int 10)) (.cst (.int 18))))) (.cons (.for_ (.nm 6) (.rng1 (.cst (.int 60))) (.cons (.ifs (.val (.cmp .gt (.var 5) (.cst (.int 0)))) (.cons (.expr (.met .append (.var 3) (.cons (.bin .mod (.bif .int (.cons (.var 5) .nil)) (.cst (.int 1000))) .nil)))
    (.cons (.set (.nm 5) (.bin .fdiv (.var 5) (.cst (.int 1000))))
    .nil)) .nil)
    .nil))
    .nil) (.cons (.set (.nm 7) (.bin .mod (.bif .int (.cons (.bin .add (.bin .add (.bin .mul (.var 5) (.cst (.int 48271))) (.bin .mul (.var 4) (.cst (.int 69621)))) (.cst (.int 11))) .nil)) (.cst (.int 2147483647))))
    (.cons (.for_ (.nm 6) (.rng1 (.cst (.int 12))) (.cons (.set (.nm 7) (.bin .mod (.bif .int (.cons (.bin .add (.bin .add (.bin .mul (.var 7) (.cst (.int 16807))) (.bin .mul (.cst (.int 7)) (.var 6))) (.cst (.int 1))) .nil)) (.cst (.int 2147483647))))
    (.cons (.expr (.met .append (.var 3) (.cons (.bin .mod (.bif .int (.cons (.bin .fdiv (.var 7) (.cst (.int 997))) .nil)) (.cst (.int 1000))) .nil)))
    .nil)))
    .nil)))
    .nil)))))
    (.cons (.ret (.var 3))
    .nil)))
def f_law_digits : FnD := ⟨"_law_digits", ["script", "first", "last"], ["script", "first", "last", "digits", "k", "cell", "turn", "seed"], top 18, ["digits"], false, b_law_digits⟩
theorem r_law_digits : resB 80 ⟨⟨f_law_digits.N, tb⟩, defScope f_law_digits.st, locOf (defScope f_law_digits.st), f_law_digits.muts, f_law_digits.τ⟩ (defBody f_law_digits.st) = some b_law_digits := by kernel_rfl
theorem o_law_digits : f_law_digits.Ok tb := ⟨r_law_digits, ⟨rfl, rfl, rfl, by decide +kernel, rfl, by decide +kernel, by decide +kernel⟩, fun h => nomatch h⟩
def b_law_draw : B := (.cons (.set (.nm 2) (.idx (.var 0) (.cst (.int 1))))
    (.cons (.setIx (.var 0) (.cst (.int 1)) (.bin .add (.var 2) (.cst (.int 1))))
    (.cons (.ifs (.val (.cmp .lt (.var 2) (.bif .len (.cons (.idx (.var 0) (.cst (.int 0))) .nil)))) (.cons (.ret (.bin .mod (.bif .int (.cons (.idx (.idx (.var 0) (.cst (.int 0))) (.var 2)) .nil)) (.var 1)))
    .nil) .nil)
    (.cons (.ret (.bin .mod (.bif .int (.cons (.bin .mul (.var 2) (.cst (.int 7))) .nil)) (.var 1)))
    .nil))))
def f_law_draw : FnD := ⟨"_law_draw", ["box", "many"], ["box", "many", "at"], top 19, ["box"], false, b_law_draw⟩
theorem r_law_draw : resB 80 ⟨⟨f_law_draw.N, tb⟩, defScope f_law_draw.st, locOf (defScope f_law_draw.st), f_law_draw.muts, f_law_draw.τ⟩ (defBody f_law_draw.st) = some b_law_draw := by kernel_rfl
theorem o_law_draw : f_law_draw.Ok tb := ⟨r_law_draw, ⟨rfl, rfl, rfl, by decide +kernel, rfl, by decide +kernel, by decide +kernel⟩, fun h => nomatch h⟩
def b_law_same : B := (.cons (.ifs (.val (.isi (.var 1) .tuple)) (.cons (.ifs (.or (.not (.val (.isi (.var 0) .tuple))) (.val (.cmp .ne (.bif .len (.cons (.var 0) .nil)) (.bif .len (.cons (.var 1) .nil))))) (.cons (.ret (.cst (.bl false)))
    .nil) .nil)
    (.cons (.for_ (.nm 2) (.rng1 (.bif .len (.cons (.var 1) .nil))) (.cons (.ifs (.not (.val (.call 11 (.cons (.idx (.var 0) (.var 2)) (.cons (.idx (.var 1) (.var 2)) .nil))))) (.cons (.ret (.cst (.bl false)))
    .nil) .nil)
    .nil))
    (.cons (.ret (.cst (.bl true)))
    .nil))) .nil)
    (.cons (.ifs (.val (.cmp .is_ (.var 1) (.cst .non))) (.cons (.ret (.cmp .is_ (.var 0) (.cst .non)))
    .nil) .nil)
    (.cons (.ifs (.val (.cmp .is_ (.var 1) (.cst (.bl true)))) (.cons (.ret (.cmp .is_ (.var 0) (.cst (.bl true))))
    .nil) .nil)
    (.cons (.ifs (.val (.cmp .is_ (.var 1) (.cst (.bl false)))) (.cons (.ret (.cmp .is_ (.var 0) (.cst (.bl false))))
    .nil) .nil)
    (.cons (.ifs (.val (.isi (.var 1) .int)) (.cons (.ret (.and (.isi (.var 0) .int) (.and (.notv (.val (.isi (.var 0) .bool))) (.cmp .eq (.var 0) (.var 1)))))
    .nil) .nil)
    (.cons (.ret (.and (.isi (.var 0) .str) (.cmp .eq (.var 0) (.var 1))))
    .nil))))))
def f_law_same : FnD := ⟨"_law_same", ["actual", "due"], ["actual", "due", "k"], top 20, [], false, b_law_same⟩
theorem r_law_same : resB 80 ⟨⟨f_law_same.N, tb⟩, defScope f_law_same.st, locOf (defScope f_law_same.st), f_law_same.muts, f_law_same.τ⟩ (defBody f_law_same.st) = some b_law_same := by kernel_rfl
theorem o_law_same : f_law_same.Ok tb := ⟨r_law_same, ⟨rfl, rfl, rfl, by decide +kernel, rfl, by decide +kernel, by decide +kernel⟩, fun h => nomatch h⟩
def b_law_plain : B := (.cons (.ifs (.val (.cmp .is_ (.var 0) (.cst .non))) (.cons (.ret (.cst (.str "N")))
    .nil) .nil)
    (.cons (.ifs (.val (.cmp .is_ (.var 0) (.cst (.bl true)))) (.cons (.ret (.cst (.str "T")))
    .nil) .nil)
    (.cons (.ifs (.val (.cmp .is_ (.var 0) (.cst (.bl false)))) (.cons (.ret (.cst (.str "F")))
    .nil) .nil)
    (.cons (.ifs (.val (.isi (.var 0) .int)) (.cons (.ret (.bif .str (.cons (.var 0) .nil)))
    .nil) .nil)
    (.cons (.ifs (.val (.isi (.var 0) .tuple)) (.cons (.ret (.bin .add (.bin .add (.cst (.str "(")) (.met .join (.cst (.str " ")) (.cons (.comp [1] (.nm 1) (.seq (.var 0)) .yes (.call 12 (.cons (.var 1) .nil))) .nil))) (.cst (.str ")"))))
    .nil) .nil)
    (.cons (.retR "\"" (.repl (.repl (.repl (.base (.var 0)) "\\" "\\\\") "\"" "\\\"") "\n" "\\n") "\"")
    .nil))))))
def f_law_plain : FnD := ⟨"_law_plain", ["value"], ["value", "one"], top 21, [], true, b_law_plain⟩
theorem r_law_plain : resB 80 ⟨⟨f_law_plain.N, tb⟩, defScope f_law_plain.st, locOf (defScope f_law_plain.st), f_law_plain.muts, f_law_plain.τ⟩ (defBody f_law_plain.st) = some b_law_plain := by kernel_rfl
theorem o_law_plain : f_law_plain.Ok tb := ⟨r_law_plain, ⟨rfl, rfl, rfl, by decide +kernel, rfl, by decide +kernel, by decide +kernel⟩, fun _ => ⟨by decide +kernel, by decide⟩⟩
def b_law_text_at : B := (.cons (.set (.nm 2) (.cst (.str "")))
    (.cons (.for_ (.nm 3) (.rng1 (.bin .add (.bif .len (.cons (.var 0) .nil)) (.cst (.int 1)))) (.cons (.ifs (.val (.cmp .ge (.var 1) (.bif .len (.cons (.var 0) .nil)))) (.cons (.ret (.lst (.cons (.bif .len (.cons (.var 0) .nil)) (.cons (.neg (.cst (.int 1))) .nil))))
    .nil) .nil)
    (.cons (.set (.nm 4) (.idx (.var 0) (.var 1)))
    (.cons (.ifs (.val (.cmp .eq (.var 4) (.cst (.str "\"")))) (.cons (.ret (.lst (.cons (.var 2) (.cons (.bin .add (.var 1) (.cst (.int 1))) .nil))))
    .nil) .nil)
    (.cons (.ifs (.val (.cmp .eq (.var 4) (.cst (.str "\\")))) (.cons (.ifs (.val (.cmp .ge (.bin .add (.var 1) (.cst (.int 1))) (.bif .len (.cons (.var 0) .nil)))) (.cons (.ret (.lst (.cons (.bif .len (.cons (.var 0) .nil)) (.cons (.neg (.cst (.int 1))) .nil))))
    .nil) .nil)
    (.cons (.ifs (.val (.cmp .notin (.idx (.var 0) (.bin .add (.var 1) (.cst (.int 1)))) (.cst (.str "\\\"n")))) (.cons (.ret (.lst (.cons (.bin .add (.var 1) (.cst (.int 1))) (.cons (.neg (.cst (.int 1))) .nil))))
    .nil) .nil)
    (.cons (.set (.nm 2) (.bin .add (.var 2) (.dgt [("n", (.str "\n"))] (.idx (.var 0) (.bin .add (.var 1) (.cst (.int 1)))) (.idx (.var 0) (.bin .add (.var 1) (.cst (.int 1)))))))
    (.cons (.set (.nm 1) (.bin .add (.var 1) (.cst (.int 2))))
    .nil)))) (.cons (.ifs (.or (.val (.cmp .lt (.var 4) (.cst (.str " ")))) (.or (.val (.cmp .gt (.var 4) (.cst (.str "~")))) (.val (.cmp .eq (.bif .ord (.cons (.var 4) .nil)) (.cst (.int 37)))))) (.cons (.ret (.lst (.cons (.var 1) (.cons (.neg (.cst (.int 1))) .nil))))
    .nil) (.cons (.set (.nm 2) (.bin .add (.var 2) (.var 4)))
    (.cons (.set (.nm 1) (.bin .add (.var 1) (.cst (.int 1))))
    .nil)))
    .nil))
    .nil)))))
    (.cons (.ret (.lst (.cons (.bif .len (.cons (.var 0) .nil)) (.cons (.neg (.cst (.int 1))) .nil))))
    .nil)))
def f_law_text_at : FnD := ⟨"_law_text_at", ["text", "at"], ["text", "at", "found", "turn", "sign"], top 22, [], false, b_law_text_at⟩
theorem r_law_text_at : resB 80 ⟨⟨f_law_text_at.N, tb⟩, defScope f_law_text_at.st, locOf (defScope f_law_text_at.st), f_law_text_at.muts, f_law_text_at.τ⟩ (defBody f_law_text_at.st) = some b_law_text_at := by kernel_rfl
theorem o_law_text_at : f_law_text_at.Ok tb := ⟨r_law_text_at, ⟨rfl, rfl, rfl, by decide +kernel, rfl, by decide +kernel, by decide +kernel⟩, fun h => nomatch h⟩
def b_law_digits_at : B := (.cons (.set (.nm 2) (.bin .add (.var 1) (.bif .int (.cons (.cmp .eq (.idx (.var 0) (.var 1)) (.cst (.str "-"))) .nil))))
    (.cons (.ifs (.val (.cmp .ge (.var 2) (.bif .len (.cons (.var 0) .nil)))) (.cons (.ret (.lst (.cons (.bif .len (.cons (.var 0) .nil)) (.cons (.neg (.cst (.int 1))) .nil))))
    .nil) .nil)
    (.cons (.ifs (.val (.cmp .notin (.idx (.var 0) (.var 2)) (.cst (.str "0123456789")))) (.cons (.ret (.lst (.cons (.var 2) (.cons (.neg (.cst (.int 1))) .nil))))
    .nil) .nil)
    (.cons (.ifs (.val (.cmp .eq (.idx (.var 0) (.var 2)) (.cst (.str "0")))) (.cons (.ret (.ite (.val (.cmp .gt (.var 2) (.var 1))) (.lst (.cons (.var 2) (.cons (.neg (.cst (.int 1))) .nil))) (.lst (.cons (.cst (.int 0)) (.cons (.bin .add (.var 2) (.cst (.int 1))) .nil)))))
    .nil) .nil)
    (.cons (.set (.nm 3) (.var 2))
    (.cons (.for_ (.nm 4) (.rng1 (.bif .len (.cons (.var 0) .nil))) (.cons (.ifs (.and (.val (.cmp .lt (.var 3) (.bif .len (.cons (.var 0) .nil)))) (.val (.cmp .in_ (.idx (.var 0) (.var 3)) (.cst (.str "0123456789"))))) (.cons (.ifs (.val (.cmp .eq (.bin .sub (.var 3) (.var 2)) (.cst (.int 20)))) (.cons (.ret (.lst (.cons (.var 3) (.cons (.neg (.cst (.int 1))) .nil))))
    .nil) .nil)
    (.cons (.set (.nm 3) (.bin .add (.var 3) (.cst (.int 1))))
    .nil)) .nil)
    .nil))
    (.cons (.ret (.lst (.cons (.bif .int (.cons (.slc (.var 0) (.some (.var 1)) (.some (.var 3))) .nil)) (.cons (.var 3) .nil))))
    .nil)))))))
def f_law_digits_at : FnD := ⟨"_law_digits_at", ["text", "at"], ["text", "at", "start", "end", "turn"], top 23, [], false, b_law_digits_at⟩
theorem r_law_digits_at : resB 80 ⟨⟨f_law_digits_at.N, tb⟩, defScope f_law_digits_at.st, locOf (defScope f_law_digits_at.st), f_law_digits_at.muts, f_law_digits_at.τ⟩ (defBody f_law_digits_at.st) = some b_law_digits_at := by kernel_rfl
theorem o_law_digits_at : f_law_digits_at.Ok tb := ⟨r_law_digits_at, ⟨rfl, rfl, rfl, by decide +kernel, rfl, by decide +kernel, by decide +kernel⟩, fun h => nomatch h⟩
def b_law_value_at : B := (.cons (.ifs (.val (.cmp .ge (.var 1) (.bif .len (.cons (.var 0) .nil)))) (.cons (.ret (.lst (.cons (.bif .len (.cons (.var 0) .nil)) (.cons (.neg (.cst (.int 1))) .nil))))
    .nil) .nil)
    (.cons (.set (.nm 3) (.idx (.var 0) (.var 1)))
    (.cons (.ifs (.val (.cmp .in_ (.var 3) (.cst (.str "TFN")))) (.cons (.ret (.lst (.cons (.dgl [("T", (.bl true)), ("F", (.bl false)), ("N", .non)] (.var 3)) (.cons (.bin .add (.var 1) (.cst (.int 1))) .nil))))
    .nil) .nil)
    (.cons (.ifs (.val (.cmp .eq (.var 3) (.cst (.str "\"")))) (.cons (.ret (.call 13 (.cons (.var 0) (.cons (.bin .add (.var 1) (.cst (.int 1))) .nil))))
    .nil) .nil)
    (.cons (.ifs (.val (.cmp .in_ (.var 3) (.cst (.str "-0123456789")))) (.cons (.ret (.call 14 (.cons (.var 0) (.cons (.var 1) .nil))))
    .nil) .nil)
    (.cons (.ifs (.or (.val (.cmp .ne (.var 3) (.cst (.str "(")))) (.val (.cmp .eq (.var 2) (.cst (.int 60))))) (.cons (.ret (.lst (.cons (.var 1) (.cons (.neg (.cst (.int 1))) .nil))))
    .nil) .nil)
    (.cons (.set (.nm 4) (.tup .nil))
    (.cons (.set (.nm 1) (.bin .add (.var 1) (.cst (.int 1))))
    (.cons (.ifs (.and (.val (.cmp .lt (.var 1) (.bif .len (.cons (.var 0) .nil)))) (.val (.cmp .eq (.idx (.var 0) (.var 1)) (.cst (.str ")"))))) (.cons (.ret (.lst (.cons (.tup .nil) (.cons (.bin .add (.var 1) (.cst (.int 1))) .nil))))
    .nil) .nil)
    (.cons (.for_ (.nm 5) (.rng1 (.bin .add (.bif .len (.cons (.var 0) .nil)) (.cst (.int 1)))) (.cons (.set (.tp [6, 7]) (.call 15 (.cons (.var 0) (.cons (.var 1) (.cons (.bin .add (.var 2) (.cst (.int 1))) .nil)))))
    (.cons (.ifs (.val (.cmp .eq (.var 7) (.neg (.cst (.int 1))))) (.cons (.ret (.lst (.cons (.var 6) (.cons (.neg (.cst (.int 1))) .nil))))
    .nil) .nil)
    (.cons (.set (.nm 4) (.bin .add (.var 4) (.tup (.cons (.var 6) .nil))))
    (.cons (.ifs (.val (.cmp .ge (.var 7) (.bif .len (.cons (.var 0) .nil)))) (.cons (.ret (.lst (.cons (.bif .len (.cons (.var 0) .nil)) (.cons (.neg (.cst (.int 1))) .nil))))
    .nil) .nil)
    (.cons (.ifs (.val (.cmp .eq (.idx (.var 0) (.var 7)) (.cst (.str ")")))) (.cons (.ret (.lst (.cons (.var 4) (.cons (.bin .add (.var 7) (.cst (.int 1))) .nil))))
    .nil) .nil)
    (.cons (.ifs (.val (.cmp .ne (.idx (.var 0) (.var 7)) (.cst (.str " ")))) (.cons (.ret (.lst (.cons (.var 7) (.cons (.neg (.cst (.int 1))) .nil))))
    .nil) .nil)
    (.cons (.set (.nm 1) (.bin .add (.var 7) (.cst (.int 1))))
    .nil))))))))
    (.cons (.ret (.lst (.cons (.bif .len (.cons (.var 0) .nil)) (.cons (.neg (.cst (.int 1))) .nil))))
    .nil)))))))))))
def f_law_value_at : FnD := ⟨"_law_value_at", ["text", "at", "deep"], ["text", "at", "deep", "sign", "found", "turn", "value", "end"], top 24, [], false, b_law_value_at⟩
theorem r_law_value_at : resB 80 ⟨⟨f_law_value_at.N, tb⟩, defScope f_law_value_at.st, locOf (defScope f_law_value_at.st), f_law_value_at.muts, f_law_value_at.τ⟩ (defBody f_law_value_at.st) = some b_law_value_at := by kernel_rfl
theorem o_law_value_at : f_law_value_at.Ok tb := ⟨r_law_value_at, ⟨rfl, rfl, rfl, by decide +kernel, rfl, by decide +kernel, by decide +kernel⟩, fun h => nomatch h⟩
def b_law_read : B := (.cons (.set (.tp [1, 2]) (.call 15 (.cons (.var 0) (.cons (.cst (.int 0)) (.cons (.cst (.int 0)) .nil)))))
    (.cons (.ifs (.val (.cmp .eq (.var 2) (.neg (.cst (.int 1))))) (.cons (.ret (.tup (.cons (.cst (.str "bad")) (.cons (.var 1) .nil))))
    .nil) .nil)
    (.cons (.ret (.ite (.val (.cmp .eq (.var 2) (.bif .len (.cons (.var 0) .nil)))) (.tup (.cons (.cst (.str "good")) (.cons (.var 1) .nil))) (.tup (.cons (.cst (.str "bad")) (.cons (.var 2) .nil)))))
    .nil)))
def f_law_read : FnD := ⟨"_law_read", ["text"], ["text", "value", "end"], top 25, [], false, b_law_read⟩
theorem r_law_read : resB 80 ⟨⟨f_law_read.N, tb⟩, defScope f_law_read.st, locOf (defScope f_law_read.st), f_law_read.muts, f_law_read.τ⟩ (defBody f_law_read.st) = some b_law_read := by kernel_rfl
theorem o_law_read : f_law_read.Ok tb := ⟨r_law_read, ⟨rfl, rfl, rfl, by decide +kernel, rfl, by decide +kernel, by decide +kernel⟩, fun h => nomatch h⟩
def b_law_told : B := (.cons (.tryR (.tup (.cons (.cst (.str "good")) (.cons (.call 0 (.cons (.var 0) .nil)) .nil))) 0 1 (.tup [(.cst (.str "bad")), (.fld 0)]))
    .nil)
def f_law_told : FnD := ⟨"_law_told", ["text"], ["text", "e"], top 26, [], false, b_law_told⟩
theorem r_law_told : resB 80 ⟨⟨f_law_told.N, tb⟩, defScope f_law_told.st, locOf (defScope f_law_told.st), f_law_told.muts, f_law_told.τ⟩ (defBody f_law_told.st) = some b_law_told := by kernel_rfl
theorem o_law_told : f_law_told.Ok tb := ⟨r_law_told, ⟨rfl, rfl, rfl, by decide +kernel, rfl, by decide +kernel, by decide +kernel⟩, fun h => nomatch h⟩
def b_law_value : B := (.cons (.set (.nm 2) (.call 10 (.cons (.var 0) (.cons (.cst (.int 6)) .nil))))
    (.cons (.ifs (.and (.val (.cmp .lt (.var 2) (.cst (.int 3)))) (.val (.cmp .gt (.var 1) (.cst (.int 0))))) (.cons (.ret (.bif .tuple (.cons (.comp [3] (.nm 3) (.rng1 (.call 10 (.cons (.var 0) (.cons (.cst (.int 4)) .nil)))) .yes (.call 18 (.cons (.var 0) (.cons (.bin .sub (.var 1) (.cst (.int 1))) .nil)))) .nil)))
    .nil) .nil)
    (.cons (.ret (.idx (.lst (.cons (.cst .non) (.cons (.cst (.bl true)) (.cons (.cst (.bl false)) (.cons (.cst (.int 0)) (.cons (.neg (.cst (.int 7))) (.cons (.cst (.int 120)) (.cons (.cst (.str "")) (.cons (.cst (.str "a\"b")) (.cons (.cst (.str "x\ny")) (.cons (.cst (.str "\\")) (.cons (.cst (.str " (")) .nil)))))))))))) (.bin .mod (.bif .int (.cons (.call 10 (.cons (.var 0) (.cons (.cst (.int 900)) .nil))) .nil)) (.cst (.int 11)))))
    .nil)))
def f_law_value : FnD := ⟨"_law_value", ["box", "deep"], ["box", "deep", "kind", "k"], top 27, [], false, b_law_value⟩
theorem r_law_value : resB 80 ⟨⟨f_law_value.N, tb⟩, defScope f_law_value.st, locOf (defScope f_law_value.st), f_law_value.muts, f_law_value.τ⟩ (defBody f_law_value.st) = some b_law_value := by kernel_rfl
theorem o_law_value : f_law_value.Ok tb := ⟨r_law_value, ⟨rfl, rfl, rfl, by decide +kernel, rfl, by decide +kernel, by decide +kernel⟩, fun h => nomatch h⟩
def b_law : B := (.cons (.new 1 (.lst (.cons (.call 9 (.cons (.var 0) (.cons (.cst (.int 0)) (.cons (.cst (.int 63)) .nil)))) (.cons (.cst (.int 0)) .nil))))
    (.cons (.for_ (.nm 2) (.rng1 (.cst (.int 6))) (.cons (.set (.nm 3) (.call 12 (.cons (.call 18 (.cons (.var 1) (.cons (.cst (.int 3)) .nil))) .nil)))
    (.cons (.set (.nm 4) (.bin .mod (.bif .int (.cons (.call 10 (.cons (.var 1) (.cons (.cst (.int 900)) .nil))) .nil)) (.bin .add (.bif .len (.cons (.var 3) .nil)) (.cst (.int 1)))))
    (.cons (.set (.nm 5) (.idx (.cst (.str "()\" TFN-0195\\n\nx~")) (.bin .mod (.bif .int (.cons (.call 10 (.cons (.var 1) (.cons (.cst (.int 900)) .nil))) .nil)) (.cst (.int 17)))))
    (.cons (.new 6 (.lst (.cons (.slc (.var 3) .none (.some (.var 4))) (.cons (.bin .add (.slc (.var 3) .none (.some (.var 4))) (.slc (.var 3) (.some (.bin .add (.var 4) (.cst (.int 1)))) .none)) (.cons (.bin .add (.bin .add (.slc (.var 3) .none (.some (.var 4))) (.var 5)) (.slc (.var 3) (.some (.var 4)) .none)) (.cons (.bin .add (.bin .add (.slc (.var 3) .none (.some (.var 4))) (.var 5)) (.slc (.var 3) (.some (.bin .add (.var 4) (.cst (.int 1)))) .none)) (.cons (.bin .add (.var 3) (.var 5)) .nil)))))))
    (.cons (.set (.nm 7) (.lst (.cons (.bin .mul (.cst (.str "1")) (.cst (.int 21))) (.cons (.bin .add (.cst (.str "-")) (.bin .mul (.cst (.str "9")) (.cst (.int 21)))) (.cons (.bin .add (.bin .mul (.cst (.str "(")) (.cst (.int 61))) (.bin .mul (.cst (.str ")")) (.cst (.int 61)))) (.cons (.bin .add (.bin .mul (.cst (.str "(")) (.cst (.int 60))) (.bin .mul (.cst (.str ")")) (.cst (.int 60)))) (.cons (.cst (.str "(1  2)")) (.cons (.cst (.str "(1 )")) (.cons (.cst (.str "( 1)")) (.cons (.cst (.str "01")) (.cons (.cst (.str "-0")) (.cons (.cst (.str "--1")) (.cons (.cst (.str "T T")) (.cons (.cst (.str "\"a")) (.cons (.bin .mul (.cst (.str "1")) (.cst (.int 20))) (.cons (.bin .add (.cst (.str "-")) (.bin .mul (.cst (.str "9")) (.cst (.int 20)))) .nil))))))))))))))))
    (.cons (.new 6 (.bin .add (.var 6) (.lst (.cons (.idx (.var 7) (.bin .add (.cst (.int 4)) (.bin .mod (.bif .int (.cons (.call 10 (.cons (.var 1) (.cons (.cst (.int 900)) .nil))) .nil)) (.cst (.int 8))))) .nil))))
    (.cons (.ifs (.val (.cmp .eq (.var 2) (.cst (.int 0)))) (.cons (.setIx (.var 6) (.cst (.int 5)) (.idx (.var 7) (.bin .mod (.bif .int (.cons (.call 10 (.cons (.var 1) (.cons (.cst (.int 900)) .nil))) .nil)) (.cst (.int 14)))))
    .nil) .nil)
    (.cons (.set (.nm 3) (.idx (.var 6) (.call 10 (.cons (.var 1) (.cons (.cst (.int 6)) .nil)))))
    (.cons (.set (.nm 8) (.call 16 (.cons (.var 3) .nil)))
    (.cons (.ifs (.not (.val (.call 11 (.cons (.call 17 (.cons (.var 3) .nil)) (.cons (.var 8) .nil))))) (.cons (.ret (.cst (.bl false)))
    .nil) .nil)
    .nil)))))))))))
    (.cons (.ret (.cst (.bl true)))
    .nil)))
def f_law : FnD := ⟨"law", ["script"], ["script", "box", "turn", "text", "at", "sign", "changed", "great", "due"], top 28, ["box", "changed"], false, b_law⟩
theorem r_law : resB 80 ⟨⟨f_law.N, tb⟩, defScope f_law.st, locOf (defScope f_law.st), f_law.muts, f_law.τ⟩ (defBody f_law.st) = some b_law := by kernel_rfl
theorem o_law : f_law.Ok tb := ⟨r_law, ⟨rfl, rfl, rfl, by decide +kernel, rfl, by decide +kernel, by decide +kernel⟩, fun h => nomatch h⟩
def prg : Prg := ⟨f_read_plain :: f_read_value :: f_read_members :: f_read_number :: f_read_quoted :: f_can_be_quoted :: f_unescaped :: f_wrong_place :: f_law_cell :: f_law_digits :: f_law_draw :: f_law_same :: f_law_plain :: f_law_text_at :: f_law_digits_at :: f_law_value_at :: f_law_read :: f_law_told :: f_law_value :: f_law :: [], tb, con, dic, 100000⟩
theorem prg_ok : prg.Ok := ⟨rfl, fun d h => by
  simp only [prg, List.mem_cons, List.not_mem_nil, or_false] at h
  rcases h with rfl | rfl | rfl | rfl | rfl | rfl | rfl | rfl | rfl | rfl | rfl | rfl | rfl | rfl | rfl | rfl | rfl | rfl | rfl | rfl
  · exact o_read_plain
  · exact o_read_value
  · exact o_read_members
  · exact o_read_number
  · exact o_read_quoted
  · exact o_can_be_quoted
  · exact o_unescaped
  · exact o_wrong_place
  · exact o_law_cell
  · exact o_law_digits
  · exact o_law_draw
  · exact o_law_same
  · exact o_law_plain
  · exact o_law_text_at
  · exact o_law_digits_at
  · exact o_law_value_at
  · exact o_law_read
  · exact o_law_told
  · exact o_law_value
  · exact o_law⟩
abbrev n_read_plain : Nat := 0
abbrev n_read_value : Nat := 1
abbrev n_read_members : Nat := 2
abbrev n_read_number : Nat := 3
abbrev n_read_quoted : Nat := 4
abbrev n_can_be_quoted : Nat := 5
abbrev n_unescaped : Nat := 6
abbrev n_wrong_place : Nat := 7
abbrev n_law_cell : Nat := 8
abbrev n_law_digits : Nat := 9
abbrev n_law_draw : Nat := 10
abbrev n_law_same : Nat := 11
abbrev n_law_plain : Nat := 12
abbrev n_law_text_at : Nat := 13
abbrev n_law_digits_at : Nat := 14
abbrev n_law_value_at : Nat := 15
abbrev n_law_read : Nat := 16
abbrev n_law_told : Nat := 17
abbrev n_law_value : Nat := 18
abbrev n_law : Nat := 19
abbrev cl (k f : Nat) (ds : List D) (μ : Mu) : Res D := callD prg.tab prg.con prg.dic prg.wf k f ds μ
abbrev gg (k : Nat) : G := ⟨callD prg.tab prg.con prg.dic prg.wf k, con, dic, 100000, decide (2 ≤ k)⟩
theorem c_read_plain {k : Nat} {x0 : D} {μ : Mu} : callD prg.tab prg.con prg.dic prg.wf (k + 1) n_read_plain [x0] μ = finO μ.length (runB (gg k) b_read_plain (startR f_read_plain.N.length [x0]) μ) := rfl
theorem c_read_value {k : Nat} {x0 x1 x2 x3 : D} {μ : Mu} : callD prg.tab prg.con prg.dic prg.wf (k + 1) n_read_value [x0, x1, x2, x3] μ = finO μ.length (runB (gg k) b_read_value (startR f_read_value.N.length [x0, x1, x2, x3]) μ) := rfl
theorem c_read_members {k : Nat} {x0 x1 x2 x3 : D} {μ : Mu} : callD prg.tab prg.con prg.dic prg.wf (k + 1) n_read_members [x0, x1, x2, x3] μ = finO μ.length (runB (gg k) b_read_members (startR f_read_members.N.length [x0, x1, x2, x3]) μ) := rfl
theorem c_read_number {k : Nat} {x0 x1 : D} {μ : Mu} : callD prg.tab prg.con prg.dic prg.wf (k + 1) n_read_number [x0, x1] μ = finO μ.length (runB (gg k) b_read_number (startR f_read_number.N.length [x0, x1]) μ) := rfl
theorem c_read_quoted {k : Nat} {x0 x1 x2 : D} {μ : Mu} : callD prg.tab prg.con prg.dic prg.wf (k + 1) n_read_quoted [x0, x1, x2] μ = finO μ.length (runB (gg k) b_read_quoted (startR f_read_quoted.N.length [x0, x1, x2]) μ) := rfl
theorem c_can_be_quoted {k : Nat} {x0 : D} {μ : Mu} : callD prg.tab prg.con prg.dic prg.wf (k + 1) n_can_be_quoted [x0] μ = finO μ.length (runB (gg k) b_can_be_quoted (startR f_can_be_quoted.N.length [x0]) μ) := rfl
theorem c_unescaped {k : Nat} {x0 : D} {μ : Mu} : callD prg.tab prg.con prg.dic prg.wf (k + 1) n_unescaped [x0] μ = finO μ.length (runB (gg k) b_unescaped (startR f_unescaped.N.length [x0]) μ) := rfl
theorem c_wrong_place {k : Nat} {x0 x1 : D} {μ : Mu} : callD prg.tab prg.con prg.dic prg.wf (k + 1) n_wrong_place [x0, x1] μ = finO μ.length (runB (gg k) b_wrong_place (startR f_wrong_place.N.length [x0, x1]) μ) := rfl
theorem c_law_cell {k : Nat} {x0 x1 : D} {μ : Mu} : callD prg.tab prg.con prg.dic prg.wf (k + 1) n_law_cell [x0, x1] μ = finO μ.length (runB (gg k) b_law_cell (startR f_law_cell.N.length [x0, x1]) μ) := rfl
theorem c_law_digits {k : Nat} {x0 x1 x2 : D} {μ : Mu} : callD prg.tab prg.con prg.dic prg.wf (k + 1) n_law_digits [x0, x1, x2] μ = finO μ.length (runB (gg k) b_law_digits (startR f_law_digits.N.length [x0, x1, x2]) μ) := rfl
theorem c_law_draw {k : Nat} {x0 x1 : D} {μ : Mu} : callD prg.tab prg.con prg.dic prg.wf (k + 1) n_law_draw [x0, x1] μ = finO μ.length (runB (gg k) b_law_draw (startR f_law_draw.N.length [x0, x1]) μ) := rfl
theorem c_law_same {k : Nat} {x0 x1 : D} {μ : Mu} : callD prg.tab prg.con prg.dic prg.wf (k + 1) n_law_same [x0, x1] μ = finO μ.length (runB (gg k) b_law_same (startR f_law_same.N.length [x0, x1]) μ) := rfl
theorem c_law_plain {k : Nat} {x0 : D} {μ : Mu} : callD prg.tab prg.con prg.dic prg.wf (k + 1) n_law_plain [x0] μ = finO μ.length (runB (gg k) b_law_plain (startR f_law_plain.N.length [x0]) μ) := rfl
theorem c_law_text_at {k : Nat} {x0 x1 : D} {μ : Mu} : callD prg.tab prg.con prg.dic prg.wf (k + 1) n_law_text_at [x0, x1] μ = finO μ.length (runB (gg k) b_law_text_at (startR f_law_text_at.N.length [x0, x1]) μ) := rfl
theorem c_law_digits_at {k : Nat} {x0 x1 : D} {μ : Mu} : callD prg.tab prg.con prg.dic prg.wf (k + 1) n_law_digits_at [x0, x1] μ = finO μ.length (runB (gg k) b_law_digits_at (startR f_law_digits_at.N.length [x0, x1]) μ) := rfl
theorem c_law_value_at {k : Nat} {x0 x1 x2 : D} {μ : Mu} : callD prg.tab prg.con prg.dic prg.wf (k + 1) n_law_value_at [x0, x1, x2] μ = finO μ.length (runB (gg k) b_law_value_at (startR f_law_value_at.N.length [x0, x1, x2]) μ) := rfl
theorem c_law_read {k : Nat} {x0 : D} {μ : Mu} : callD prg.tab prg.con prg.dic prg.wf (k + 1) n_law_read [x0] μ = finO μ.length (runB (gg k) b_law_read (startR f_law_read.N.length [x0]) μ) := rfl
theorem c_law_told {k : Nat} {x0 : D} {μ : Mu} : callD prg.tab prg.con prg.dic prg.wf (k + 1) n_law_told [x0] μ = finO μ.length (runB (gg k) b_law_told (startR f_law_told.N.length [x0]) μ) := rfl
theorem c_law_value {k : Nat} {x0 x1 : D} {μ : Mu} : callD prg.tab prg.con prg.dic prg.wf (k + 1) n_law_value [x0, x1] μ = finO μ.length (runB (gg k) b_law_value (startR f_law_value.N.length [x0, x1]) μ) := rfl
theorem c_law {k : Nat} {x0 : D} {μ : Mu} : callD prg.tab prg.con prg.dic prg.wf (k + 1) n_law [x0] μ = finO μ.length (runB (gg k) b_law (startR f_law.N.length [x0]) μ) := rfl
theorem t_0 : ("good" : Str) = tx [103, 111, 111, 100] := by decide +kernel
theorem t_1 : ("bad" : Str) = tx [98, 97, 100] := by decide +kernel
theorem t_2 : ("\\\\" : Str) = tx [92, 92] := by decide +kernel
theorem t_3 : (".." : Str) = tx [46, 46] := by decide +kernel
theorem t_4 : ("\\\"" : Str) = tx [92, 34] := by decide +kernel
theorem t_5 : ("\"" : Str) = tx [34] := by decide +kernel
theorem t_6 : ("(" : Str) = tx [40] := by decide +kernel
theorem t_7 : (")" : Str) = tx [41] := by decide +kernel
theorem t_8 : (" " : Str) = tx [32] := by decide +kernel
theorem t_9 : ("-" : Str) = tx [45] := by decide +kernel
theorem t_10 : ("0" : Str) = tx [48] := by decide +kernel
theorem t_11 : ("1" : Str) = tx [49] := by decide +kernel
theorem t_12 : ("9" : Str) = tx [57] := by decide +kernel
theorem t_13 : ("\\" : Str) = tx [92] := by decide +kernel
theorem t_14 : ("\\n" : Str) = tx [92, 110] := by decide +kernel
theorem t_15 : ("\n" : Str) = tx [10] := by decide +kernel
theorem t_16 : ("n" : Str) = tx [110] := by decide +kernel
theorem t_17 : ("N" : Str) = tx [78] := by decide +kernel
theorem t_18 : ("T" : Str) = tx [84] := by decide +kernel
theorem t_19 : ("F" : Str) = tx [70] := by decide +kernel
theorem t_20 : ("" : Str) = tx [] := by decide +kernel
theorem t_21 : ("\\\"n" : Str) = tx [92, 34, 110] := by decide +kernel
theorem t_22 : ("~" : Str) = tx [126] := by decide +kernel
theorem t_23 : ("0123456789" : Str) = tx [48, 49, 50, 51, 52, 53, 54, 55, 56, 57] := by decide +kernel
theorem t_24 : ("TFN" : Str) = tx [84, 70, 78] := by decide +kernel
theorem t_25 : ("-0123456789" : Str) = tx [45, 48, 49, 50, 51, 52, 53, 54, 55, 56, 57] := by decide +kernel
theorem t_26 : ("a\"b" : Str) = tx [97, 34, 98] := by decide +kernel
theorem t_27 : ("x\ny" : Str) = tx [120, 10, 121] := by decide +kernel
theorem t_28 : (" (" : Str) = tx [32, 40] := by decide +kernel
theorem t_29 : ("()\" TFN-0195\\n\nx~" : Str) = tx [40, 41, 34, 32, 84, 70, 78, 45, 48, 49, 57, 53, 92, 110, 10, 120, 126] := by decide +kernel
theorem t_30 : ("(1  2)" : Str) = tx [40, 49, 32, 32, 50, 41] := by decide +kernel
theorem t_31 : ("(1 )" : Str) = tx [40, 49, 32, 41] := by decide +kernel
theorem t_32 : ("( 1)" : Str) = tx [40, 32, 49, 41] := by decide +kernel
theorem t_33 : ("01" : Str) = tx [48, 49] := by decide +kernel
theorem t_34 : ("-0" : Str) = tx [45, 48] := by decide +kernel
theorem t_35 : ("--1" : Str) = tx [45, 45, 49] := by decide +kernel
theorem t_36 : ("T T" : Str) = tx [84, 32, 84] := by decide +kernel
theorem t_37 : ("\"a" : Str) = tx [34, 97] := by decide +kernel
theorem bn_read_plain : ∀ (kV doc pm : Value) (an : Option Addr) (cdv ct : Value) (us : List Value), us.length = (["text"] : List Str).length → bindArgs (PySem.W.fnOf "read_plain" "read_plain" (defArgs (top 8)) (defBody (top 8)) (defScope (top 8)) .none kV doc pm an cdv ct) ⟨us, []⟩ = pure ((["text"] : List Str).zip us) := fun _ _ _ _ _ _ us hl => match us, hl with | [_], _ => rfl
theorem bn_read_value : ∀ (kV doc pm : Value) (an : Option Addr) (cdv ct : Value) (us : List Value), us.length = (["text", "masked", "at", "depth"] : List Str).length → bindArgs (PySem.W.fnOf "read_value" "read_value" (defArgs (top 9)) (defBody (top 9)) (defScope (top 9)) .none kV doc pm an cdv ct) ⟨us, []⟩ = pure ((["text", "masked", "at", "depth"] : List Str).zip us) := fun _ _ _ _ _ _ us hl => match us, hl with | [_, _, _, _], _ => rfl
theorem bn_read_members : ∀ (kV doc pm : Value) (an : Option Addr) (cdv ct : Value) (us : List Value), us.length = (["text", "masked", "at", "depth"] : List Str).length → bindArgs (PySem.W.fnOf "read_members" "read_members" (defArgs (top 10)) (defBody (top 10)) (defScope (top 10)) .none kV doc pm an cdv ct) ⟨us, []⟩ = pure ((["text", "masked", "at", "depth"] : List Str).zip us) := fun _ _ _ _ _ _ us hl => match us, hl with | [_, _, _, _], _ => rfl
theorem bn_read_number : ∀ (kV doc pm : Value) (an : Option Addr) (cdv ct : Value) (us : List Value), us.length = (["text", "at"] : List Str).length → bindArgs (PySem.W.fnOf "read_number" "read_number" (defArgs (top 11)) (defBody (top 11)) (defScope (top 11)) .none kV doc pm an cdv ct) ⟨us, []⟩ = pure ((["text", "at"] : List Str).zip us) := fun _ _ _ _ _ _ us hl => match us, hl with | [_, _], _ => rfl
theorem bn_read_quoted : ∀ (kV doc pm : Value) (an : Option Addr) (cdv ct : Value) (us : List Value), us.length = (["text", "masked", "at"] : List Str).length → bindArgs (PySem.W.fnOf "read_quoted" "read_quoted" (defArgs (top 12)) (defBody (top 12)) (defScope (top 12)) .none kV doc pm an cdv ct) ⟨us, []⟩ = pure ((["text", "masked", "at"] : List Str).zip us) := fun _ _ _ _ _ _ us hl => match us, hl with | [_, _, _], _ => rfl
theorem bn_can_be_quoted : ∀ (kV doc pm : Value) (an : Option Addr) (cdv ct : Value) (us : List Value), us.length = (["text"] : List Str).length → bindArgs (PySem.W.fnOf "can_be_quoted" "can_be_quoted" (defArgs (top 13)) (defBody (top 13)) (defScope (top 13)) .none kV doc pm an cdv ct) ⟨us, []⟩ = pure ((["text"] : List Str).zip us) := fun _ _ _ _ _ _ us hl => match us, hl with | [_], _ => rfl
theorem bn_unescaped : ∀ (kV doc pm : Value) (an : Option Addr) (cdv ct : Value) (us : List Value), us.length = (["inner"] : List Str).length → bindArgs (PySem.W.fnOf "unescaped" "unescaped" (defArgs (top 14)) (defBody (top 14)) (defScope (top 14)) .none kV doc pm an cdv ct) ⟨us, []⟩ = pure ((["inner"] : List Str).zip us) := fun _ _ _ _ _ _ us hl => match us, hl with | [_], _ => rfl
theorem bn_wrong_place : ∀ (kV doc pm : Value) (an : Option Addr) (cdv ct : Value) (us : List Value), us.length = (["text", "at"] : List Str).length → bindArgs (PySem.W.fnOf "wrong_place" "wrong_place" (defArgs (top 15)) (defBody (top 15)) (defScope (top 15)) .none kV doc pm an cdv ct) ⟨us, []⟩ = pure ((["text", "at"] : List Str).zip us) := fun _ _ _ _ _ _ us hl => match us, hl with | [_, _], _ => rfl
theorem bn_law_cell : ∀ (kV doc pm : Value) (an : Option Addr) (cdv ct : Value) (us : List Value), us.length = (["script", "k"] : List Str).length → bindArgs (PySem.W.fnOf "_law_cell" "_law_cell" (defArgs (top 17)) (defBody (top 17)) (defScope (top 17)) .none kV doc pm an cdv ct) ⟨us, []⟩ = pure ((["script", "k"] : List Str).zip us) := fun _ _ _ _ _ _ us hl => match us, hl with | [_, _], _ => rfl
theorem bn_law_digits : ∀ (kV doc pm : Value) (an : Option Addr) (cdv ct : Value) (us : List Value), us.length = (["script", "first", "last"] : List Str).length → bindArgs (PySem.W.fnOf "_law_digits" "_law_digits" (defArgs (top 18)) (defBody (top 18)) (defScope (top 18)) .none kV doc pm an cdv ct) ⟨us, []⟩ = pure ((["script", "first", "last"] : List Str).zip us) := fun _ _ _ _ _ _ us hl => match us, hl with | [_, _, _], _ => rfl
theorem bn_law_draw : ∀ (kV doc pm : Value) (an : Option Addr) (cdv ct : Value) (us : List Value), us.length = (["box", "many"] : List Str).length → bindArgs (PySem.W.fnOf "_law_draw" "_law_draw" (defArgs (top 19)) (defBody (top 19)) (defScope (top 19)) .none kV doc pm an cdv ct) ⟨us, []⟩ = pure ((["box", "many"] : List Str).zip us) := fun _ _ _ _ _ _ us hl => match us, hl with | [_, _], _ => rfl
theorem bn_law_same : ∀ (kV doc pm : Value) (an : Option Addr) (cdv ct : Value) (us : List Value), us.length = (["actual", "due"] : List Str).length → bindArgs (PySem.W.fnOf "_law_same" "_law_same" (defArgs (top 20)) (defBody (top 20)) (defScope (top 20)) .none kV doc pm an cdv ct) ⟨us, []⟩ = pure ((["actual", "due"] : List Str).zip us) := fun _ _ _ _ _ _ us hl => match us, hl with | [_, _], _ => rfl
theorem bn_law_plain : ∀ (kV doc pm : Value) (an : Option Addr) (cdv ct : Value) (us : List Value), us.length = (["value"] : List Str).length → bindArgs (PySem.W.fnOf "_law_plain" "_law_plain" (defArgs (top 21)) (defBody (top 21)) (defScope (top 21)) .none kV doc pm an cdv ct) ⟨us, []⟩ = pure ((["value"] : List Str).zip us) := fun _ _ _ _ _ _ us hl => match us, hl with | [_], _ => rfl
theorem bn_law_text_at : ∀ (kV doc pm : Value) (an : Option Addr) (cdv ct : Value) (us : List Value), us.length = (["text", "at"] : List Str).length → bindArgs (PySem.W.fnOf "_law_text_at" "_law_text_at" (defArgs (top 22)) (defBody (top 22)) (defScope (top 22)) .none kV doc pm an cdv ct) ⟨us, []⟩ = pure ((["text", "at"] : List Str).zip us) := fun _ _ _ _ _ _ us hl => match us, hl with | [_, _], _ => rfl
theorem bn_law_digits_at : ∀ (kV doc pm : Value) (an : Option Addr) (cdv ct : Value) (us : List Value), us.length = (["text", "at"] : List Str).length → bindArgs (PySem.W.fnOf "_law_digits_at" "_law_digits_at" (defArgs (top 23)) (defBody (top 23)) (defScope (top 23)) .none kV doc pm an cdv ct) ⟨us, []⟩ = pure ((["text", "at"] : List Str).zip us) := fun _ _ _ _ _ _ us hl => match us, hl with | [_, _], _ => rfl
theorem bn_law_value_at : ∀ (kV doc pm : Value) (an : Option Addr) (cdv ct : Value) (us : List Value), us.length = (["text", "at", "deep"] : List Str).length → bindArgs (PySem.W.fnOf "_law_value_at" "_law_value_at" (defArgs (top 24)) (defBody (top 24)) (defScope (top 24)) .none kV doc pm an cdv ct) ⟨us, []⟩ = pure ((["text", "at", "deep"] : List Str).zip us) := fun _ _ _ _ _ _ us hl => match us, hl with | [_, _, _], _ => rfl
theorem bn_law_read : ∀ (kV doc pm : Value) (an : Option Addr) (cdv ct : Value) (us : List Value), us.length = (["text"] : List Str).length → bindArgs (PySem.W.fnOf "_law_read" "_law_read" (defArgs (top 25)) (defBody (top 25)) (defScope (top 25)) .none kV doc pm an cdv ct) ⟨us, []⟩ = pure ((["text"] : List Str).zip us) := fun _ _ _ _ _ _ us hl => match us, hl with | [_], _ => rfl
theorem bn_law_told : ∀ (kV doc pm : Value) (an : Option Addr) (cdv ct : Value) (us : List Value), us.length = (["text"] : List Str).length → bindArgs (PySem.W.fnOf "_law_told" "_law_told" (defArgs (top 26)) (defBody (top 26)) (defScope (top 26)) .none kV doc pm an cdv ct) ⟨us, []⟩ = pure ((["text"] : List Str).zip us) := fun _ _ _ _ _ _ us hl => match us, hl with | [_], _ => rfl
theorem bn_law_value : ∀ (kV doc pm : Value) (an : Option Addr) (cdv ct : Value) (us : List Value), us.length = (["box", "deep"] : List Str).length → bindArgs (PySem.W.fnOf "_law_value" "_law_value" (defArgs (top 27)) (defBody (top 27)) (defScope (top 27)) .none kV doc pm an cdv ct) ⟨us, []⟩ = pure ((["box", "deep"] : List Str).zip us) := fun _ _ _ _ _ _ us hl => match us, hl with | [_, _], _ => rfl
theorem bn_law : ∀ (kV doc pm : Value) (an : Option Addr) (cdv ct : Value) (us : List Value), us.length = (["script"] : List Str).length → bindArgs (PySem.W.fnOf "law" "law" (defArgs (top 28)) (defBody (top 28)) (defScope (top 28)) .none kV doc pm an cdv ct) ⟨us, []⟩ = pure ((["script"] : List Str).zip us) := fun _ _ _ _ _ _ us hl => match us, hl with | [_], _ => rfl
end PyI.K31
/-! R1: steps of the interpreter. -/
namespace PyI
open PySem L2 PyProof.Rows
abbrev nD (n : Nat) : D := .int (n : Int)
/-! ### expressions, step by step -/
section
variable {Γ : G} {ρ : Rho} {μ μ1 μ2 μ3 : Mu} {a b c e : E} {x y z d : D}
theorem ev_var {i : Nat} (h : ρ[i]? = some (some d)) : evalE Γ (.var i) ρ μ = .ok d μ := by
  rw [evalE, h]
theorem ev_cst : evalE Γ (.cst d) ρ μ = .ok d μ := by rw [evalE]
theorem ev_glob {g : Nat} (h : Γ.con g = some d) : evalE Γ (.glob g) ρ μ = .ok d μ := by rw [evalE, h]
theorem ev_bin {o : Bop} {r : Res D} (ha : evalE Γ a ρ μ = .ok x μ1) (hb : evalE Γ b ρ μ1 = .ok y μ2) (h : binD o x y μ2 = r) : evalE Γ (.bin o a b) ρ μ = r := by
  rw [evalE, ha, bind_ok, hb, bind_ok, h]
theorem ev_idx {r : Res D} (ha : evalE Γ a ρ μ = .ok x μ1) (hb : evalE Γ b ρ μ1 = .ok y μ2) (h : idxD x y μ2 = r) : evalE Γ (.idx a b) ρ μ = r := by
  rw [evalE, ha, bind_ok, hb, bind_ok, h]
theorem ev_call1 {f : Nat} {r : Res D} (ha : evalE Γ a ρ μ = .ok x μ1) (h : Γ.call f [x] μ1 = r) : evalE Γ (.call f (.cons a .nil)) ρ μ = r := by
  rw [evalE, evalEs, ha, bind_ok, evalEs, bind_ok, bind_ok, h]
theorem ev_call2 {f : Nat} {r : Res D} (ha : evalE Γ a ρ μ = .ok x μ1) (hb : evalE Γ b ρ μ1 = .ok y μ2) (h : Γ.call f [x, y] μ2 = r) : evalE Γ (.call f (.cons a (.cons b .nil))) ρ μ = r := by
  rw [evalE, evalEs, ha, bind_ok, evalEs, hb, bind_ok, evalEs, bind_ok, bind_ok, bind_ok, h]
theorem ev_call3 {f : Nat} {r : Res D} (ha : evalE Γ a ρ μ = .ok x μ1) (hb : evalE Γ b ρ μ1 = .ok y μ2) (hc : evalE Γ c ρ μ2 = .ok z μ3) (h : Γ.call f [x, y, z] μ3 = r) : evalE Γ (.call f (.cons a (.cons b (.cons c .nil)))) ρ μ = r := by
  rw [evalE, evalEs, ha, bind_ok, evalEs, hb, bind_ok, evalEs, hc, bind_ok, evalEs, bind_ok, bind_ok, bind_ok, bind_ok, h]
theorem ev_bif1 {f : Bif} {r : Res D} (ha : evalE Γ a ρ μ = .ok x μ1) (h : bifD f [x] μ1 = r) : evalE Γ (.bif f (.cons a .nil)) ρ μ = r := by
  rw [evalE, evalEs, ha, bind_ok, evalEs, bind_ok, bind_ok, h]
theorem ev_bif2 {f : Bif} {r : Res D} (ha : evalE Γ a ρ μ = .ok x μ1) (hb : evalE Γ b ρ μ1 = .ok y μ2) (h : bifD f [x, y] μ2 = r) : evalE Γ (.bif f (.cons a (.cons b .nil))) ρ μ = r := by
  rw [evalE, evalEs, ha, bind_ok, evalEs, hb, bind_ok, evalEs, bind_ok, bind_ok, bind_ok, h]
theorem ev_cmp {o : Cop} {k : Bool} (ha : evalE Γ a ρ μ = .ok x μ1) (hb : evalE Γ b ρ μ1 = .ok y μ2) (h : cmpD o x y μ2 = .ok k μ2) : evalE Γ (.cmp o a b) ρ μ = .ok (.bl k) μ2 := by
  rw [evalE, ha, bind_ok, hb, bind_ok, h, bind_ok]
theorem ev_bits {i : Int} (ha : evalE Γ a ρ μ = .ok (.int i) μ1) : evalE Γ (.bits a) ρ μ = .ok (.int (Builtin.Int.intBits i : Nat)) μ1 := by
  rw [evalE, ha, bind_ok]
theorem ev_tup2 (ha : evalE Γ a ρ μ = .ok x μ1) (hb : evalE Γ b ρ μ1 = .ok y μ2) : evalE Γ (.tup (.cons a (.cons b .nil))) ρ μ = .ok (.tup [x, y]) μ2 := by
  rw [evalE, evalEs, ha, bind_ok, evalEs, hb, bind_ok, evalEs, bind_ok, bind_ok, bind_ok, needs_pos (by simp)]
theorem ev_tup4 {μ4 : Mu} {x4 : D} {d4 : E} (ha : evalE Γ a ρ μ = .ok x μ1) (hb : evalE Γ b ρ μ1 = .ok y μ2) (hc : evalE Γ c ρ μ2 = .ok z μ3) (hd : evalE Γ d4 ρ μ3 = .ok x4 μ4) : evalE Γ (.tup (.cons a (.cons b (.cons c (.cons d4 .nil))))) ρ μ = .ok (.tup [x, y, z, x4]) μ4 := by
  rw [evalE, evalEs, ha, bind_ok, evalEs, hb, bind_ok, evalEs, hc, bind_ok, evalEs, hd, bind_ok, evalEs, bind_ok, bind_ok, bind_ok, bind_ok, bind_ok, needs_pos (by simp)]
theorem st_set {i : Nat} (h : evalE Γ e ρ μ = .ok d μ1) : runS Γ (.set (.nm i) e) ρ μ = .nx (ρ.set i (some d)) μ1 := by
  rw [runS, h, then_ok, assignT]
theorem st_ret (h : evalE Γ e ρ μ = .ok d μ1) : runS Γ (.ret e) ρ μ = .rt d μ1 := by
  rw [runS, h, then_ok]
theorem tv_bl {k : Bool} (h : evalE Γ e ρ μ = .ok (.bl k) μ1) : evalT Γ (.val e) ρ μ = .ok k μ1 := by
  rw [evalT, h, bind_ok, truD]
theorem tv_not {t : T} {k : Bool} (h : evalT Γ t ρ μ = .ok k μ1) : evalT Γ (.not t) ρ μ = .ok (!k) μ1 := by
  rw [evalT, h, bind_ok]
end
theorem st_append {Γ : G} {ρ : Rho} {μ μ1 μ2 μ3 : Mu} {o a : E} {d : D} {n : Nat} {l : List D} (ho : evalE Γ o ρ μ = .ok (.ref n) μ1) (ha : evalE Γ a ρ μ1 = .ok d μ2) (hl : μ2[n]? = some (.lst l)) (hz : l.length < 16777216) (he : μ2.set n (.lst (l ++ [d])) = μ3) (hl1 : μ1[n]? = some (.lst l) := by assumption) : runS Γ (.expr (.met .append o (.cons a .nil))) ρ μ = .nx ρ μ3 := by
  rw [runS, evalE, ho, bind_ok]
  have ht : tyD .append (.ref n) μ1 = true := by unfold tyD; simp only [hl1]
  rw [needs_pos ht, evalEs, ha, bind_ok, evalEs, bind_ok, bind_ok]
  have : metD .append (.ref n) [d] μ2 = .ok .non (μ2.set n (.lst (l ++ [d]))) := by
    unfold metD
    simp only [hl]
    exact needs_pos hz
  rw [this, then_ok, he]
theorem ev_ite_true {Γ : G} {ρ : Rho} {μ μ1 : Mu} {t : T} {a b : E} {r : Res D} (h : evalT Γ t ρ μ = .ok true μ1) (ha : evalE Γ a ρ μ1 = r) : evalE Γ (.ite t a b) ρ μ = r := by
  rw [evalE, h, bind_ok, if_pos rfl, ha]
theorem ev_ite_false {Γ : G} {ρ : Rho} {μ μ1 : Mu} {t : T} {a b : E} {r : Res D} (h : evalT Γ t ρ μ = .ok false μ1) (hb : evalE Γ b ρ μ1 = r) : evalE Γ (.ite t a b) ρ μ = r := by
  rw [evalE, h, bind_ok, if_neg (by decide), hb]
theorem run_nx_rt {Γ : G} {s : PyI.S} {b : B} {ρ : Rho} {μ μ' : Mu} {d : D} (h : runS Γ s ρ μ = .rt d μ') : runB Γ (.cons s b) ρ μ = .rt d μ' := run_rt h
theorem ifs_true {Γ : G} {t : T} {a b : B} {ρ : Rho} {μ μ' : Mu} {o : Out} (h : evalT Γ t ρ μ = .ok true μ') (h2 : runB Γ a ρ μ' = o) : runS Γ (.ifs t a b) ρ μ = o := by
  rw [runS, h, then_ok, if_pos rfl]
  exact h2
theorem ifs_false {Γ : G} {t : T} {a b : B} {ρ : Rho} {μ μ' : Mu} {o : Out} (h : evalT Γ t ρ μ = .ok false μ') (h2 : runB Γ b ρ μ' = o) : runS Γ (.ifs t a b) ρ μ = o := by
  rw [runS, h, then_ok, if_neg (by decide)]
  exact h2
theorem run_nil {Γ : G} {ρ : Rho} {μ : Mu} : runB Γ .nil ρ μ = .nx ρ μ := by rw [runB]
theorem run_br {Γ : G} {s : PyI.S} {b : B} {ρ ρ' : Rho} {μ μ' : Mu} (h : runS Γ s ρ μ = .br ρ' μ') : runB Γ (.cons s b) ρ μ = .br ρ' μ' := by
  rw [runB, h]
  rfl
theorem atI_nat (l : List D) (n : Nat) : atI l (n : Int) = l[n]? := by
  unfold atI ixN
  rw [if_pos (Int.natCast_nonneg n)]
  by_cases h : (n : Int) < (l.length : Int)
  · rw [if_pos h]; rfl
  · rw [if_neg h, List.getElem?_eq_none (by omega)]; rfl
theorem atI_natG {α : Type} (l : List α) (n : Nat) : atI l (n : Int) = l[n]? := by
  unfold atI ixN
  rw [if_pos (Int.natCast_nonneg n)]
  by_cases h : (n : Int) < (l.length : Int)
  · rw [if_pos h]; rfl
  · rw [if_neg h, List.getElem?_eq_none (by omega)]; rfl
theorem ix_tup {l : List D} {n : Nat} {d : D} {μ : Mu} (h : l[n]? = some d) : idxD (.tup l) (.int (n : Int)) μ = .ok d μ := by
  show (match seqD μ (.tup l) with
    | some l => match atI l (n : Int) with
      | some d => Res.ok d μ
      | none => .stuck
    | none => .stuck) = _
  simp only [seqD, atI_nat, h]
theorem ix_lst {l : List D} {n : Nat} {d : D} {μ : Mu} (h : l[n]? = some d) : idxD (.lst l) (.int (n : Int)) μ = .ok d μ := by
  show (match seqD μ (.lst l) with
    | some l => match atI l (n : Int) with
      | some d => Res.ok d μ
      | none => .stuck
    | none => .stuck) = _
  simp only [seqD, atI_nat, h]
theorem ix0 {a : D} {l : List D} {μ : Mu} : idxD (.tup (a :: l)) (.int 0) μ = .ok a μ := ix_tup (n := 0) rfl
theorem ix1 {a b : D} {l : List D} {μ : Mu} : idxD (.tup (a :: b :: l)) (.int 1) μ = .ok b μ := ix_tup (n := 1) rfl
theorem ix2 {a b c : D} {l : List D} {μ : Mu} : idxD (.tup (a :: b :: c :: l)) (.int 2) μ = .ok c μ := ix_tup (n := 2) rfl
theorem ix3 {a b c d : D} {l : List D} {μ : Mu} : idxD (.tup (a :: b :: c :: d :: l)) (.int 3) μ = .ok d μ := ix_tup (n := 3) rfl
theorem il0 {a : D} {l : List D} {μ : Mu} : idxD (.lst (a :: l)) (.int 0) μ = .ok a μ := ix_lst (n := 0) rfl
theorem il1 {a b : D} {l : List D} {μ : Mu} : idxD (.lst (a :: b :: l)) (.int 1) μ = .ok b μ := ix_lst (n := 1) rfl
theorem tv_str {Γ : G} {ρ : Rho} {μ μ1 : Mu} {e : E} {l : List Nat} (hz : l.length ≤ 16777216) (h : evalE Γ e ρ μ = .ok (.str (tx l)) μ1) : evalT Γ (.val e) ρ μ = .ok (l.length != 0) μ1 := by
  rw [evalT, h, bind_ok, truD, needs_pos (by rw [tx_len]; exact hz), tx_len]
theorem tv_ref {Γ : G} {ρ : Rho} {μ μ1 : Mu} {e : E} {n : Nat} {l : List D} (h : evalE Γ e ρ μ = .ok (.ref n) μ1) (hl : μ1[n]? = some (.lst l)) : evalT Γ (.val e) ρ μ = .ok (!l.isEmpty) μ1 := by
  rw [evalT, h, bind_ok]
  unfold truD
  simp only [hl]
theorem ev_lst1 {Γ : G} {ρ : Rho} {μ μ1 : Mu} {e : E} {d : D} (h : evalE Γ e ρ μ = .ok d μ1) : evalE Γ (.lst (.cons e .nil)) ρ μ = .ok (.lst [d]) μ1 := by
  rw [evalE, evalEs, h, bind_ok, evalEs, bind_ok, bind_ok, needs_pos (by simp)]
theorem ev_or_t {Γ : G} {ρ : Rho} {μ μ1 : Mu} {a b : E} {x : D} (ha : evalE Γ a ρ μ = .ok x μ1) (ht : truD μ1 x μ1 = .ok true μ1) : evalE Γ (.or a b) ρ μ = .ok x μ1 := by
  rw [evalE, ha, bind_ok, ht, bind_ok, if_pos rfl]
theorem ev_or_f {Γ : G} {ρ : Rho} {μ μ1 : Mu} {a b : E} {x : D} {r : Res D} (ha : evalE Γ a ρ μ = .ok x μ1) (ht : truD μ1 x μ1 = .ok false μ1) (hb : evalE Γ b ρ μ1 = r) : evalE Γ (.or a b) ρ μ = r := by
  rw [evalE, ha, bind_ok, ht, bind_ok, if_neg (by decide), hb]
theorem ev_and_t {Γ : G} {ρ : Rho} {μ μ1 : Mu} {a b : E} {x : D} {r : Res D} (ha : evalE Γ a ρ μ = .ok x μ1) (ht : truD μ1 x μ1 = .ok true μ1) (hb : evalE Γ b ρ μ1 = r) : evalE Γ (.and a b) ρ μ = r := by
  rw [evalE, ha, bind_ok, ht, bind_ok, if_pos rfl, hb]
theorem ev_and_f {Γ : G} {ρ : Rho} {μ μ1 : Mu} {a b : E} {x : D} (ha : evalE Γ a ρ μ = .ok x μ1) (ht : truD μ1 x μ1 = .ok false μ1) : evalE Γ (.and a b) ρ μ = .ok x μ1 := by
  rw [evalE, ha, bind_ok, ht, bind_ok, if_neg (by decide)]
theorem add_tx {x y : List Nat} {μ : Mu} (hz : x.length + y.length ≤ 16777216) : binD .add (.str (tx x)) (.str (tx y)) μ = .ok (.str (tx (x ++ y))) μ := by
  show needs ((tx x).length + (tx y).length ≤ 16777216) _ = _
  rw [needs_pos (by rw [tx_len, tx_len]; exact hz), tx_add]
theorem ev_add {Γ : G} {ρ : Rho} {μ μ1 μ2 : Mu} {a b : E} {x y : List Nat} (ha : evalE Γ a ρ μ = .ok (.str (tx x)) μ1) (hb : evalE Γ b ρ μ1 = .ok (.str (tx y)) μ2) (hz : x.length + y.length ≤ 16777216) : evalE Γ (.bin .add a b) ρ μ = .ok (.str (tx (x ++ y))) μ2 :=
  ev_bin ha hb (add_tx hz)
theorem isi_eq {Γ : G} {ρ : Rho} {μ : Mu} {a : E} {d : D} {t : Ty} {v : Bool} (ha : evalE Γ a ρ μ = .ok d μ) (h : isiD d t μ = .ok (.bl v) μ) : evalE Γ (.isi a t) ρ μ = .ok (.bl v) μ := by
  rw [evalE, ha, bind_ok, h]
theorem cbody_no {Γ : G} {own : List Nat} {i : Nat} {t : T} {e : E} {ρ : Rho} {d : D} {μ : Mu} (ht : evalT Γ t ((wipeR ρ own).set i (some d)) μ = .ok false μ) : cbody Γ own (.nm i) t e ρ d μ = .ok none μ := by
  unfold cbody
  simp only [assignT, ht, bind_ok]
  rfl
theorem ev_notv {Γ : G} {ρ : Rho} {μ μ1 : Mu} {a : E} {v : Bool} (h : evalE Γ a ρ μ = .ok (.bl v) μ1) : evalE Γ (.notv (.val a)) ρ μ = .ok (.bl (!v)) μ1 := by
  rw [evalE, tv_bl h, bind_ok]
theorem ev_lst2 {Γ : G} {ρ : Rho} {μ μ1 μ2 : Mu} {a b : E} {x y : D} (h : evalE Γ a ρ μ = .ok x μ1) (h2 : evalE Γ b ρ μ1 = .ok y μ2) : evalE Γ (.lst (.cons a (.cons b .nil))) ρ μ = .ok (.lst [x, y]) μ2 := by
  rw [evalE, evalEs, h, bind_ok, evalEs, h2, bind_ok, evalEs, bind_ok, bind_ok, bind_ok, needs_pos (by simp)]
theorem ev_m1 {Γ : G} {ρ : Rho} {μ : Mu} : evalE Γ (.neg (.cst (.int 1))) ρ μ = .ok (.int (-1)) μ := by
  rw [evalE, ev_cst, bind_ok]
theorem ev_lst3 {Γ : G} {ρ : Rho} {μ μ1 μ2 μ3 : Mu} {a b c : E} {x y z : D} (h : evalE Γ a ρ μ = .ok x μ1) (h2 : evalE Γ b ρ μ1 = .ok y μ2) (h3 : evalE Γ c ρ μ2 = .ok z μ3) : evalE Γ (.lst (.cons a (.cons b (.cons c .nil)))) ρ μ = .ok (.lst [x, y, z]) μ3 := by
  rw [evalE, evalEs, h, bind_ok, evalEs, h2, bind_ok, evalEs, h3, bind_ok, evalEs, bind_ok, bind_ok, bind_ok, bind_ok, needs_pos (by simp)]
theorem ev_tup3 {Γ : G} {ρ : Rho} {μ μ1 μ2 μ3 : Mu} {a b c : E} {x y z : D} (h : evalE Γ a ρ μ = .ok x μ1) (h2 : evalE Γ b ρ μ1 = .ok y μ2) (h3 : evalE Γ c ρ μ2 = .ok z μ3) : evalE Γ (.tup (.cons a (.cons b (.cons c .nil)))) ρ μ = .ok (.tup [x, y, z]) μ3 := by
  rw [evalE, evalEs, h, bind_ok, evalEs, h2, bind_ok, evalEs, h3, bind_ok, evalEs, bind_ok, bind_ok, bind_ok, bind_ok, needs_pos (by simp)]
theorem tv_or_ff {Γ : G} {ρ : Rho} {μ μ1 μ2 : Mu} {t u : T} (ht : evalT Γ t ρ μ = .ok false μ1) (hu : evalT Γ u ρ μ1 = .ok false μ2) : evalT Γ (.or t u) ρ μ = .ok false μ2 := by
  rw [evalT, ht, bind_ok, if_neg (by decide), hu]
theorem ev_lst4 {Γ : G} {ρ : Rho} {μ μ1 μ2 μ3 μ4 : Mu} {a b c d : E} {x y z w : D} (h : evalE Γ a ρ μ = .ok x μ1) (h2 : evalE Γ b ρ μ1 = .ok y μ2) (h3 : evalE Γ c ρ μ2 = .ok z μ3) (h4 : evalE Γ d ρ μ3 = .ok w μ4) : evalE Γ (.lst (.cons a (.cons b (.cons c (.cons d .nil))))) ρ μ = .ok (.lst [x, y, z, w]) μ4 := by
  rw [evalE, evalEs, h, bind_ok, evalEs, h2, bind_ok, evalEs, h3, bind_ok, evalEs, h4, bind_ok, evalEs, bind_ok, bind_ok, bind_ok, bind_ok, bind_ok, needs_pos (by simp)]
theorem st_tp2l {Γ : G} {ρ : Rho} {μ μ1 : Mu} {i j : Nat} {e : E} {a b : D} (h : evalE Γ e ρ μ = .ok (.lst [a, b]) μ1) : runS Γ (.set (.tp [i, j]) e) ρ μ = .nx ((ρ.set i (some a)).set j (some b)) μ1 := by
  rw [runS, h, then_ok, assignT]
  rfl
theorem it_tup {Γ : G} {e : E} {ρ : Rho} {μ μ' : Mu} {l : List D} (h : evalE Γ e ρ μ = .ok (.tup l) μ') : evalIt Γ (.seq e) ρ μ = .ok (l, none) μ' := by
  rw [evalIt, h, bind_ok, itD]
theorem it_lst {Γ : G} {e : E} {ρ : Rho} {μ μ' : Mu} {l : List D} (h : evalE Γ e ρ μ = .ok (.lst l) μ') : evalIt Γ (.seq e) ρ μ = .ok (l, none) μ' := by
  rw [evalIt, h, bind_ok, itD]
theorem st_new {Γ : G} {ρ : Rho} {μ μ1 : Mu} {i : Nat} {e : E} {l : List D} (h : evalE Γ e ρ μ = .ok (.lst l) μ1) : runS Γ (.new i e) ρ μ = .nx (ρ.set i (some (.ref μ1.length))) (μ1 ++ [.lst l]) := by
  rw [runS, h, then_ok]
theorem ev_lst0 {Γ : G} {ρ : Rho} {μ : Mu} : evalE Γ (.lst .nil) ρ μ = .ok (.lst []) μ := by
  rw [evalE, evalEs, bind_ok, needs_pos (by simp)]
theorem st_whl {Γ : G} {t : T} {b : B} {ρ : Rho} {μ : Mu} {o : Out} (h : whileLoop (fun ρ μ => evalT Γ t ρ μ) (fun ρ μ => runB Γ b ρ μ) Γ.wf ρ μ = o) : runS Γ (.whl t b) ρ μ = o := by
  rw [runS]; exact h
theorem tv_int {Γ : G} {ρ : Rho} {μ μ1 : Mu} {e : E} {i : Int} (h : evalE Γ e ρ μ = .ok (.int i) μ1) : evalT Γ (.val e) ρ μ = .ok (i != 0) μ1 := by
  rw [evalT, h, bind_ok, truD]
theorem tuple_ref {μ : Mu} {n : Nat} {l : List D} (h : μ[n]? = some (.lst l)) : bifD .tuple [.ref n] μ = .ok (.tup l) μ := by
  show (match seqD μ (.ref n) with
    | some l => Res.ok (D.tup l) μ
    | none => .stuck) = _
  have : seqD μ (.ref n) = some l := by unfold seqD; simp only [h]
  rw [this]
theorem tuple_lst {μ : Mu} {l : List D} : bifD .tuple [.lst l] μ = .ok (.tup l) μ := rfl
theorem cbody_if {Γ : G} {own : List Nat} {i : Nat} {t : T} {e : E} {ρ : Rho} {d y : D} {μ : Mu} {v : Bool} (ht : evalT Γ t ((wipeR ρ own).set i (some d)) μ = .ok v μ) (h : evalE Γ e ((wipeR ρ own).set i (some d)) μ = .ok y μ) : cbody Γ own (.nm i) t e ρ d μ = .ok (if v then some y else none) μ := by
  unfold cbody
  simp only [assignT, ht, bind_ok]
  cases v
  · rfl
  · rw [if_pos rfl, h, bind_ok]; rfl
theorem rng0 (n : Nat) : rngD 0 n = (List.range n).map nD := by
  unfold rngD nD
  exact List.map_congr_left fun i _ => by rw [Int.zero_add]
theorem rngN (lo n : Nat) : rngD (lo : Int) n = (List.range' lo n).map nD := by
  unfold rngD nD
  rw [List.range'_eq_map_range, List.map_map]
  exact List.map_congr_left fun i _ => by
    show D.int ((lo : Int) + (i : Int)) = D.int ((lo + i : Nat) : Int)
    rw [Int.natCast_add]
theorem st_tp2 {Γ : G} {ρ : Rho} {μ μ1 : Mu} {i j : Nat} {e : E} {a b : D} (h : evalE Γ e ρ μ = .ok (.tup [a, b]) μ1) : runS Γ (.set (.tp [i, j]) e) ρ μ = .nx ((ρ.set i (some a)).set j (some b)) μ1 := by
  rw [runS, h, then_ok, assignT]
  rfl
theorem fbody_tp2 {Γ : G} {i j : Nat} {b : B} {x y : D} {ρ : Rho} {μ : Mu} : fbody Γ (.tp [i, j]) b (.tup [x, y]) ρ μ = runB Γ b ((ρ.set i (some x)).set j (some y)) μ := rfl
theorem cbody_tp2 {Γ : G} {own : List Nat} {i j : Nat} {e : E} {ρ : Rho} {x y z : D} {μ : Mu} (h : evalE Γ e (((wipeR ρ own).set i (some x)).set j (some y)) μ = .ok z μ) : cbody Γ own (.tp [i, j]) .yes e ρ (.tup [x, y]) μ = .ok (some z) μ := by
  have : assignT (.tp [i, j]) (.tup [x, y]) (wipeR ρ own) = some (((wipeR ρ own).set i (some x)).set j (some y)) := rfl
  unfold cbody
  simp only [this, evalT, bind_ok, if_true, h]
theorem ev_chn_le {Γ : G} {ρ : Rho} {μ μ1 μ2 : Mu} {a b c : E} {i j l : Int} (ha : evalE Γ a ρ μ = .ok (.int i) μ1) (hb : evalE Γ b ρ μ1 = .ok (.int j) μ2) (hc : evalE Γ c ρ μ2 = .ok (.int l) μ2) : evalE Γ (.chn .le .le a b c) ρ μ = .ok (.bl (decide (i ≤ j) && decide (j ≤ l))) μ2 := by
  have e : ∀ {i j : Int} {μ : Mu}, cmpD .le (.int i) (.int j) μ = .ok (decide (i ≤ j)) μ := rfl
  rw [evalE, ha, bind_ok, hb, bind_ok, e, bind_ok]
  cases decide (i ≤ j) with
  | false => rfl
  | true => rw [if_pos rfl, hc, bind_ok, e, bind_ok]; rfl
theorem for_cons_rt {f : D → Rho → Mu → Out} {d x : D} {ds : List D} {ρ : Rho} {μ μ' : Mu} (h : f d ρ μ = .rt x μ') : forLoop f (chkOf none) (d :: ds) ρ μ = .rt x μ' := by
  unfold forLoop
  rw [if_pos (show chkOf none μ = true from rfl), h]
theorem for_cons_nx {f : D → Rho → Mu → Out} {d : D} {ds : List D} {ρ ρ' : Rho} {μ μ' : Mu} {o : Out} (h : f d ρ μ = .nx ρ' μ') (h2 : forLoop f (chkOf none) ds ρ' μ' = o) : forLoop f (chkOf none) (d :: ds) ρ μ = o := by
  unfold forLoop
  rw [if_pos (show chkOf none μ = true from rfl), h]
  exact h2
theorem for_nil {f : D → Rho → Mu → Out} {ρ : Rho} {μ : Mu} : forLoop f (chkOf none) [] ρ μ = .nx ρ μ := by
  unfold forLoop
  rw [if_pos (show chkOf none μ = true from rfl)]
theorem eq_int {i j : Int} {μ : Mu} : cmpD .eq (.int i) (.int j) μ = .ok (i == j) μ := by
  show needs _ _ = _
  rw [needs_pos ⟨rfl, rfl⟩]
  rfl
theorem whl_dec {c : Rho → Mu → Res Bool} {f : Rho → Mu → Out} (I : Nat → Rho → Mu → Prop) (P : Rho → Mu → Prop)
    (hs : ∀ m ρ μ, I m ρ μ → (c ρ μ = .ok false μ ∧ P ρ μ) ∨ (c ρ μ = .ok true μ ∧ ∃ ρ' μ' m', f ρ μ = .nx ρ' μ' ∧ m' < m ∧ I m' ρ' μ')) :
    ∀ (n m : Nat) {ρ : Rho} {μ : Mu}, m < n → I m ρ μ → ∃ ρ' μ', whileLoop c f n ρ μ = .nx ρ' μ' ∧ P ρ' μ'
  | 0, m, _, _, h, _ => absurd h (Nat.not_lt_zero _)
  | n + 1, m, ρ, μ, h, hi => by
    rcases hs m ρ μ hi with ⟨e, hp⟩ | ⟨e, ρ', μ', m', e2, hm, hi'⟩
    · refine ⟨ρ, μ, ?_, hp⟩
      unfold whileLoop
      rw [e]
      rfl
    · obtain ⟨ρ2, μ2, e3, hp⟩ := whl_dec I P hs n m' (by omega) hi'
      refine ⟨ρ2, μ2, ?_, hp⟩
      unfold whileLoop
      rw [e, then_ok, if_pos rfl, e2]
      exact e3
theorem tv_lst {Γ : G} {ρ : Rho} {μ μ1 : Mu} {e : E} {l : List D} (h : evalE Γ e ρ μ = .ok (.lst l) μ1) : evalT Γ (.val e) ρ μ = .ok (!l.isEmpty) μ1 := by
  rw [evalT, h, bind_ok, truD]
theorem tv_tup {Γ : G} {ρ : Rho} {μ μ1 : Mu} {e : E} {l : List D} (h : evalE Γ e ρ μ = .ok (.tup l) μ1) : evalT Γ (.val e) ρ μ = .ok (!l.isEmpty) μ1 := by
  rw [evalT, h, bind_ok, truD]
theorem eq_str {x y : Str} {μ : Mu} (hx : x.cps.all (· < 0x110000) = true) (hy : y.cps.all (· < 0x110000) = true) : cmpD .eq (.str x) (.str y) μ = .ok (x == y) μ := by
  show needs _ _ = _
  rw [needs_pos ⟨hx, hy⟩]
  rfl
theorem ne_str {x y : Str} {μ : Mu} (hx : x.cps.all (· < 0x110000) = true) (hy : y.cps.all (· < 0x110000) = true) : cmpD .ne (.str x) (.str y) μ = .ok (!(x == y)) μ := by
  show needs _ _ = _
  rw [needs_pos ⟨hx, hy⟩]
  rfl
theorem ev_orb {Γ : G} {ρ : Rho} {μ : Mu} {a b : E} {u v : Bool} (ha : evalE Γ a ρ μ = .ok (.bl u) μ) (hb : evalE Γ b ρ μ = .ok (.bl v) μ) : evalE Γ (.or a b) ρ μ = .ok (.bl (u || v)) μ := by
  cases u with
  | true => exact ev_or_t ha rfl
  | false => exact ev_or_f ha rfl hb
theorem ev_andb {Γ : G} {ρ : Rho} {μ : Mu} {a b : E} {u v : Bool} (ha : evalE Γ a ρ μ = .ok (.bl u) μ) (hb : evalE Γ b ρ μ = .ok (.bl v) μ) : evalE Γ (.and a b) ρ μ = .ok (.bl (u && v)) μ := by
  cases u with
  | true => exact ev_and_t ha rfl hb
  | false => exact ev_and_f ha rfl
theorem comp_filter {f : D → Mu → Res (Option D)} {α : Type} {a : α → D} {c : α → Bool} {g : α → D} {μ : Mu} : ∀ {ds : List α} {acc : List D}, (∀ d ∈ ds, f (a d) μ = .ok (if c d then some (g d) else none) μ) → acc.length + ds.length ≤ 16777216 →
    compLoop f (chkOf none) acc (ds.map a) μ = .ok (acc ++ (ds.filter c).map g) μ
  | [], acc, _, _ => by
    unfold compLoop
    rw [List.map_nil]
    simp only
    rw [if_pos (show chkOf none μ = true from rfl), List.filter_nil, List.map_nil, List.append_nil]
  | d :: ds, acc, h, hl => by
    rw [List.length_cons] at hl
    rw [List.map_cons]
    unfold compLoop
    rw [if_pos (show chkOf none μ = true from rfl), h d (List.mem_cons_self ..), List.filter_cons]
    cases hc : c d with
    | false =>
      simp only [Bool.false_eq_true, if_false]
      exact comp_filter (fun e he => h e (List.mem_cons_of_mem _ he)) (by omega)
    | true =>
      simp only [if_true]
      rw [needs_pos (by omega), comp_filter (fun e he => h e (List.mem_cons_of_mem _ he)) (by simp; omega)]
      simp
theorem ev_comp {Γ : G} {own : List Nat} {tg : Tg} {it : IT} {c : T} {e : E} {ρ : Rho} {μ μ1 μ2 : Mu} {ds l : List D} (h : evalIt Γ it ρ μ = .ok (ds, none) μ1) (h2 : compLoop (cbody Γ own tg c e ρ) (chkOf none) [] ds μ1 = .ok l μ2) : evalE Γ (.comp own tg it c e) ρ μ = .ok (.lst l) μ2 := comp_run h h2
theorem comp_all {f : D → Mu → Res (Option D)} {α : Type} {a : α → D} {g : α → D} {μ : Mu} {ds : List α} (h : ∀ d ∈ ds, f (a d) μ = .ok (some (g d)) μ) (hl : ds.length ≤ 16777216) : compLoop f (chkOf none) [] (ds.map a) μ = .ok (ds.map g) μ := by
  have := comp_filter (f := f) (a := a) (c := fun _ => true) (g := g) (μ := μ) (ds := ds) (acc := []) (fun d hd => by rw [h d hd]; rfl) (by simpa using hl)
  rw [this, List.nil_append, List.filter_eq_self.mpr fun _ _ => rfl]
theorem comp_empty {Γ : G} {own : List Nat} {tg : Tg} {it : IT} {c : T} {e : E} {ρ : Rho} {μ : Mu} {α : Type} {a : α → D} {ds : List α} (h : evalIt Γ it ρ μ = .ok (ds.map a, none) μ) (h2 : ∀ d ∈ ds, cbody Γ own tg c e ρ (a d) μ = .ok none μ) (hl : ds.length ≤ 16777216) : evalE Γ (.comp own tg it c e) ρ μ = .ok (.lst []) μ := by
  refine ev_comp h ?_
  have := comp_filter (f := cbody Γ own tg c e ρ) (a := a) (c := fun _ => false) (g := a) (μ := μ) (ds := ds) (acc := []) (fun d hd => (h2 d hd).trans rfl) (by simpa using hl)
  rw [this]
  simp
/-! ### errors -/
section
variable {Γ : G} {ρ ρ' : Rho} {μ μ1 μ2 μ3 μ4 : Mu} {a b c d e : E} {x y z w v : D} {t u : T} {s : PyI.S} {fs : List D} {n : Nat}
theorem bind_err {α β : Type} {f : α → Mu → Res β} : (Res.err n fs μ : Res α).bind f = .err n fs μ := rfl
theorem then_err {α : Type} {f : α → Mu → Out} : (Res.err n fs μ : Res α).then ρ f = .er n fs ρ μ := rfl
theorem run_er {bb : B} (h : runS Γ s ρ μ = .er n fs ρ' μ1) : runB Γ (.cons s bb) ρ μ = .er n fs ρ' μ1 := by
  rw [runB, h]
  rfl
theorem st_rse {i : Nat} (hm : Γ.mkr = true) (h : evalE Γ e ρ μ = .ok (nD i) μ1) (hi : i < 1000000000000000000) : runS Γ (.rse n 1 (.cons e .nil)) ρ μ = .er n [nD i] ρ μ1 := by
  have hk : ([nD i] : List D).length = 1 ∧ ([nD i] : List D).all okArg = true := ⟨rfl, by
    have h1 : decide ((0 : Int) ≤ (i : Int)) = true := decide_eq_true (Int.natCast_nonneg i)
    have h2 : decide ((i : Int) < 1000000000000000000) = true := decide_eq_true (by omega)
    show ((decide ((0 : Int) ≤ (i : Int)) && decide ((i : Int) < 1000000000000000000)) && true) = true
    rw [h1, h2]; rfl⟩
  rw [runS, if_pos hm, evalEs, h, bind_ok, evalEs, bind_ok, then_ok, if_pos hk]
  rfl
theorem st_set_err {tg : Tg} (h : evalE Γ e ρ μ = .err n fs μ1) : runS Γ (.set tg e) ρ μ = .er n fs ρ μ1 := by
  rw [runS, h, then_err]
theorem st_ret_err (h : evalE Γ e ρ μ = .err n fs μ1) : runS Γ (.ret e) ρ μ = .er n fs ρ μ1 := by
  rw [runS, h, then_err]
theorem ev_tup2_err (ha : evalE Γ a ρ μ = .ok x μ1) (hb : evalE Γ b ρ μ1 = .err n fs μ2) : evalE Γ (.tup (.cons a (.cons b .nil))) ρ μ = .err n fs μ2 := by
  rw [evalE, evalEs, ha, bind_ok, evalEs, hb, bind_err, bind_err, bind_err]
theorem ev_call4 {f : Nat} {r : Res D} (ha : evalE Γ a ρ μ = .ok x μ1) (hb : evalE Γ b ρ μ1 = .ok y μ2) (hc : evalE Γ c ρ μ2 = .ok z μ3) (hd : evalE Γ d ρ μ3 = .ok w μ4) (h : Γ.call f [x, y, z, w] μ4 = r) : evalE Γ (.call f (.cons a (.cons b (.cons c (.cons d .nil))))) ρ μ = r := by
  rw [evalE, evalEs, ha, bind_ok, evalEs, hb, bind_ok, evalEs, hc, bind_ok, evalEs, hd, bind_ok, evalEs, bind_ok, bind_ok, bind_ok, bind_ok, bind_ok, h]
theorem try_ok {i k : Nat} {h : XR} (he : evalE Γ e ρ μ = .ok x μ1) : runS Γ (.tryR e k i h) ρ μ = .rt x μ1 := by
  rw [runS, he]
theorem try_er {i k : Nat} {h : XR} (he : evalE Γ e ρ μ = .err k fs μ1) (hv : h.val fs = some v) : runS Γ (.tryR e k i h) ρ μ = .rt v μ1 := by
  rw [runS, he]
  simp only [if_true, hv]
theorem ev_idx0 {r : Res D} (ha : evalE Γ a ρ μ = .ok x μ1) (hb : evalE Γ b ρ μ1 = .ok y μ2) (h : idxD x y μ2 = r) : evalE Γ (.idx a b) ρ μ = r := ev_idx ha hb h
theorem ev_tup0 : evalE Γ (.tup .nil) ρ μ = .ok (.tup []) μ := by
  rw [evalE, evalEs, bind_ok, needs_pos (by simp)]
theorem ev_tup1 (ha : evalE Γ a ρ μ = .ok x μ1) : evalE Γ (.tup (.cons a .nil)) ρ μ = .ok (.tup [x]) μ1 := by
  rw [evalE, evalEs, ha, bind_ok, evalEs, bind_ok, bind_ok, needs_pos (by simp)]
theorem ev_cs {q : Str} {l : List Nat} (h : q = tx l) : evalE Γ (.cst (.str q)) ρ μ = .ok (.str (tx l)) μ := by rw [evalE, h]
theorem ev_add1 {k : Nat} (ha : evalE Γ a ρ μ = .ok (nD k) μ1) : evalE Γ (.bin .add a (.cst (.int 1))) ρ μ = .ok (nD (k + 1)) μ1 := ev_bin ha ev_cst rfl
theorem ev_add2 {k : Nat} (ha : evalE Γ a ρ μ = .ok (nD k) μ1) : evalE Γ (.bin .add a (.cst (.int 2))) ρ μ = .ok (nD (k + 2)) μ1 := ev_bin ha ev_cst rfl
theorem ev_slc {i j : Int} (ha : evalE Γ a ρ μ = .ok x μ1) (hb : evalE Γ b ρ μ1 = .ok (.int i) μ2) (hc : evalE Γ c ρ μ2 = .ok (.int j) μ3) {r : Res D} (h : slcD x (some i) (some j) μ3 = r) : evalE Γ (.slc a (.some b) (.some c)) ρ μ = r := by
  rw [evalE, ha, bind_ok, evalO, hb, bind_ok, bind_ok, evalO, hc, bind_ok, bind_ok, h]
theorem ev_slc_hi {j : Int} (ha : evalE Γ a ρ μ = .ok x μ1) (hc : evalE Γ c ρ μ1 = .ok (.int j) μ3) {r : Res D} (h : slcD x none (some j) μ3 = r) : evalE Γ (.slc a .none (.some c)) ρ μ = r := by
  rw [evalE, ha, bind_ok, evalO, bind_ok, evalO, hc, bind_ok, bind_ok, h]
theorem ev_slc_lo {i : Int} (ha : evalE Γ a ρ μ = .ok x μ1) (hb : evalE Γ b ρ μ1 = .ok (.int i) μ2) {r : Res D} (h : slcD x (some i) none μ2 = r) : evalE Γ (.slc a (.some b) .none) ρ μ = r := by
  rw [evalE, ha, bind_ok, evalO, hb, bind_ok, bind_ok, evalO, bind_ok, h]
theorem ev_chn_f {o o' : Cop} (ha : evalE Γ a ρ μ = .ok x μ1) (hb : evalE Γ b ρ μ1 = .ok y μ2) (h : cmpD o x y μ2 = .ok false μ2) : evalE Γ (.chn o o' a b c) ρ μ = .ok (.bl false) μ2 := by
  rw [evalE, ha, bind_ok, hb, bind_ok, h, bind_ok, if_neg (by decide)]
theorem ev_chn_t {o o' : Cop} {k : Bool} (ha : evalE Γ a ρ μ = .ok x μ1) (hb : evalE Γ b ρ μ1 = .ok y μ2) (h : cmpD o x y μ2 = .ok true μ2) (hc : evalE Γ c ρ μ2 = .ok z μ3) (h2 : cmpD o' y z μ3 = .ok k μ3) : evalE Γ (.chn o o' a b c) ρ μ = .ok (.bl k) μ3 := by
  rw [evalE, ha, bind_ok, hb, bind_ok, h, bind_ok, if_pos rfl, hc, bind_ok, h2, bind_ok]
theorem tv_and_f (ht : evalT Γ t ρ μ = .ok false μ1) : evalT Γ (.and t u) ρ μ = .ok false μ1 := by
  rw [evalT, ht, bind_ok, if_neg (by decide)]
theorem tv_and_t {r : Res Bool} (ht : evalT Γ t ρ μ = .ok true μ1) (hu : evalT Γ u ρ μ1 = r) : evalT Γ (.and t u) ρ μ = r := by
  rw [evalT, ht, bind_ok, if_pos rfl, hu]
theorem tv_or_t (ht : evalT Γ t ρ μ = .ok true μ1) : evalT Γ (.or t u) ρ μ = .ok true μ1 := by
  rw [evalT, ht, bind_ok, if_pos rfl]
theorem tv_or_f {r : Res Bool} (ht : evalT Γ t ρ μ = .ok false μ1) (hu : evalT Γ u ρ μ1 = r) : evalT Γ (.or t u) ρ μ = r := by
  rw [evalT, ht, bind_ok, if_neg (by decide), hu]
theorem st_aug {i : Nat} {j k : Int} (hi : ρ[i]? = some (some (.int j))) (h : evalE Γ e ρ μ = .ok (.int k) μ1) : runS Γ (.aug i .add e) ρ μ = .nx (ρ.set i (some (.int (j + k)))) μ1 := by
  rw [runS]
  simp only [hi]
  rw [h, then_ok]
theorem ev_met0 {m : Met} {r : Res D} (ho : evalE Γ a ρ μ = .ok x μ1) (ht : tyD m x μ1 = true) (h : metD m x [] μ1 = r) : evalE Γ (.met m a .nil) ρ μ = r := by
  rw [evalE, ho, bind_ok, needs_pos ht, evalEs, bind_ok, h]
theorem ev_met1 {m : Met} {r : Res D} (ho : evalE Γ a ρ μ = .ok x μ1) (ht : tyD m x μ1 = true) (hb : evalE Γ b ρ μ1 = .ok y μ2) (h : metD m x [y] μ2 = r) : evalE Γ (.met m a (.cons b .nil)) ρ μ = r := by
  rw [evalE, ho, bind_ok, needs_pos ht, evalEs, hb, bind_ok, evalEs, bind_ok, bind_ok, h]
theorem ev_met2 {m : Met} {r : Res D} (ho : evalE Γ a ρ μ = .ok x μ1) (ht : tyD m x μ1 = true) (hb : evalE Γ b ρ μ1 = .ok y μ2) (hc : evalE Γ c ρ μ2 = .ok z μ3) (h : metD m x [y, z] μ3 = r) : evalE Γ (.met m a (.cons b (.cons c .nil))) ρ μ = r := by
  rw [evalE, ho, bind_ok, needs_pos ht, evalEs, hb, bind_ok, evalEs, hc, bind_ok, evalEs, bind_ok, bind_ok, bind_ok, h]
end
/-! ### whiles -/
section
variable {c : Rho → Mu → Res Bool} {f : Rho → Mu → Out} {n k : Nat} {ρ ρ' : Rho} {μ μ' : Mu} {o : Out} {d : D} {fs : List D}
theorem whl_nx (h : c ρ μ = .ok true μ) (h2 : f ρ μ = .nx ρ' μ') (h3 : whileLoop c f n ρ' μ' = o) : whileLoop c f (n + 1) ρ μ = o := by
  rw [whileLoop, h, then_ok, if_pos rfl, h2]
  exact h3
theorem whl_stop (h : c ρ μ = .ok false μ) : whileLoop c f (n + 1) ρ μ = .nx ρ μ := by
  rw [whileLoop, h, then_ok, if_neg (by decide)]
theorem whl_rt (h : c ρ μ = .ok true μ) (h2 : f ρ μ = .rt d μ') : whileLoop c f (n + 1) ρ μ = .rt d μ' := by
  rw [whileLoop, h, then_ok, if_pos rfl, h2]
theorem whl_er (h : c ρ μ = .ok true μ) (h2 : f ρ μ = .er k fs ρ' μ') : whileLoop c f (n + 1) ρ μ = .er k fs ρ' μ' := by
  rw [whileLoop, h, then_ok, if_pos rfl, h2]
end
/-! ### texts -/
abbrev uni (c : Nat) : Bool := decide (c < 0x110000)
section
variable {t l : List Nat} {c d n : Nat} {q : Str} {μ : Mu}
theorem len_tx (h : t.length ≤ 16777216) : bifD .len [.str (tx t)] μ = .ok (nD t.length) μ := by
  show needs ((tx t).length ≤ 16777216) (Res.ok (D.int ((tx t).length : Nat)) μ) = _
  rw [tx_len, needs_pos h]
theorem ix_str (h : t.length ≤ 16777216) (hc : t[n]? = some c) : idxD (.str (tx t)) (nD n) μ = .ok (.str (tx [c])) μ := by
  have : atI (tx t).cps.toList (n : Int) = some c := (atI_natG _ n).trans hc
  unfold idxD nD
  simp only [this]
  exact needs_pos (by rw [tx_len]; exact h)
theorem slc_tx {i j : Int} (h : t.length ≤ 16777216) : slcD (.str (tx t)) (some i) (some j) μ = .ok (.str (cutS (tx t) (some i) (some j))) μ := needs_pos (by rw [tx_len]; exact h)
theorem eq_tx {a b : List Nat} (ha : a.all uni = true) (hb : b.all uni = true) : cmpD .eq (.str (tx a)) (.str (tx b)) μ = .ok (a == b) μ := by
  rw [eq_str (by rw [tx_all]; exact ha) (by rw [tx_all]; exact hb), tx_beq]
theorem ne_tx {a b : List Nat} (ha : a.all uni = true) (hb : b.all uni = true) : cmpD .ne (.str (tx a)) (.str (tx b)) μ = .ok (!(a == b)) μ := by
  rw [ne_str (by rw [tx_all]; exact ha) (by rw [tx_all]; exact hb), tx_beq]
theorem one_beq (c d : Nat) : ([c] == [d]) = (c == d) := by simp
theorem uni1 (h : uni c = true) : ([c] : List Nat).all uni = true := by simpa using h
theorem eq_c (hq : q = tx [d]) (hc : uni c = true) (hd : uni d = true) : cmpD .eq (.str (tx [c])) (.str q) μ = .ok (c == d) μ := by
  rw [hq, eq_tx (uni1 hc) (uni1 hd), one_beq]
theorem ne_c (hq : q = tx [d]) (hc : uni c = true) (hd : uni d = true) : cmpD .ne (.str (tx [c])) (.str q) μ = .ok (!(c == d)) μ := by
  rw [hq, ne_tx (uni1 hc) (uni1 hd), one_beq]
theorem eq_e (hq : q = tx [d]) (hd : uni d = true) : cmpD .eq (.str (tx [])) (.str q) μ = .ok false μ := by
  rw [hq, eq_tx rfl (uni1 hd)]; rfl
theorem ne_e (hq : q = tx [d]) (hd : uni d = true) : cmpD .ne (.str (tx [])) (.str q) μ = .ok true μ := by
  rw [hq, ne_tx rfl (uni1 hd)]; rfl
theorem in_c (hq : q = tx l) : cmpD .in_ (.str (tx [c])) (.str q) μ = .ok (decide (c ∈ l)) μ := by
  rw [hq]
  show Res.ok (!(Builtin.Str.occurrences (tx l) (tx [c]) 0 (tx l).length 1).isEmpty) μ = _
  rw [tx_in]
theorem notin_c (hq : q = tx l) : cmpD .notin (.str (tx [c])) (.str q) μ = .ok (!decide (c ∈ l)) μ := by
  rw [hq]
  show Res.ok (!(!(Builtin.Str.occurrences (tx l) (tx [c]) 0 (tx l).length 1).isEmpty)) μ = _
  rw [tx_in]
theorem lt_c (hq : q = tx [d]) : cmpD .lt (.str (tx [c])) (.str q) μ = .ok (decide (c < d)) μ := by
  rw [hq]
  show Res.ok (ltS (tx [c]) (tx [d])) μ = _
  rw [lt_one]
theorem gt_c (hq : q = tx [d]) : cmpD .gt (.str (tx [c])) (.str q) μ = .ok (decide (d < c)) μ := by
  rw [hq]
  show Res.ok (ltS (tx [d]) (tx [c])) μ = _
  rw [lt_one]
theorem le_cl (hq : q = tx [d]) : cmpD .le (.str q) (.str (tx [c])) μ = .ok (decide (d ≤ c)) μ := by
  rw [hq]
  show Res.ok (!ltS (tx [c]) (tx [d])) μ = _
  rw [lt_one]
  congr 1
  by_cases h : c < d
  · rw [decide_eq_true h, decide_eq_false (by omega)]; rfl
  · rw [decide_eq_false h, decide_eq_true (by omega)]; rfl
theorem le_cr (hq : q = tx [d]) : cmpD .le (.str (tx [c])) (.str q) μ = .ok (decide (c ≤ d)) μ := by
  rw [hq]
  show Res.ok (!ltS (tx [d]) (tx [c])) μ = _
  rw [lt_one]
  congr 1
  by_cases h : d < c
  · rw [decide_eq_true h, decide_eq_false (by omega)]; rfl
  · rw [decide_eq_false h, decide_eq_true (by omega)]; rfl
theorem le_el (hq : q = tx [d]) : cmpD .le (.str q) (.str (tx [])) μ = .ok false μ := by
  rw [hq]
  show Res.ok (!ltS (tx []) (tx [d])) μ = _
  rw [lt_none]; rfl
theorem lt_n {a b : Nat} : cmpD .lt (nD a) (nD b) μ = .ok (decide (a < b)) μ := congrArg (fun b => Res.ok b μ) (decide_eq_decide.mpr Int.ofNat_lt)
theorem gt_n {a b : Nat} : cmpD .gt (nD a) (nD b) μ = .ok (decide (b < a)) μ := congrArg (fun b => Res.ok b μ) (decide_eq_decide.mpr Int.ofNat_lt)
theorem ge_n {a b : Nat} : cmpD .ge (nD a) (nD b) μ = .ok (decide (b ≤ a)) μ := congrArg (fun b => Res.ok b μ) (decide_eq_decide.mpr Int.ofNat_le)
theorem eq_n {a b : Nat} : cmpD .eq (nD a) (nD b) μ = .ok (decide (a = b)) μ := by
  rw [eq_int]
  refine congrArg (fun b => Res.ok b μ) ?_
  by_cases h : a = b
  · subst h; simp
  · refine (beq_eq_false_iff_ne.mpr fun z => h (Int.ofNat.inj z)).trans (decide_eq_false h).symm
theorem eq_nm1 {a : Nat} : cmpD .eq (nD a) (.int (-1)) μ = .ok false μ := by
  rw [eq_int]
  exact congrArg (fun b => Res.ok b μ) (beq_eq_false_iff_ne.mpr (by omega))
end
/-! ### replacing -/
section
variable {Γ : G} {ρ : Rho} {μ μ1 : Mu} {e : E} {d : D} {r : R} {l y z : List Nat} {ys zs : Str}
theorem st_setR {i : Nat} (h : evalR Γ r ρ μ = .ok d μ1) : runS Γ (.setR i r) ρ μ = .nx (ρ.set i (some d)) μ1 := by
  rw [runS, h, then_ok]
theorem evr_base (h : evalE Γ e ρ μ = .ok d μ1) : evalR Γ (.base e) ρ μ = .ok d μ1 := by
  rw [evalR, h]
theorem evr_repl (h : evalR Γ r ρ μ = .ok (.str (tx l)) μ1) (hy : ys = tx y) (hz : zs = tx z) (ne : y ≠ []) (hb : l.length + (l.length + 1) * z.length ≤ 16777216) : evalR Γ (.repl r ys zs) ρ μ = .ok (.str (tx (StrLaws.replL y z l))) μ1 := by
  rw [evalR, h, bind_ok, hy, hz]
  show needs ((tx l).length + ((tx l).length + 1) * (tx z).length ≤ 16777216) _ = _
  rw [needs_pos (by rw [tx_len, tx_len]; exact hb), tx_repl _ _ _ ne]
end
/-! ### pieces of bodies -/
def nthS : B → Nat → PyI.S
  | .nil, _ => .pass
  | .cons s _, 0 => s
  | .cons _ b, n + 1 => nthS b n
def forB : PyI.S → B
  | .for_ _ _ b => b
  | .whl _ b => b
  | _ => .nil
def whlT : PyI.S → T
  | .whl t _ => t
  | _ => .yes
def thenB : PyI.S → B
  | .ifs _ b _ => b
  | _ => .nil
def elseB : PyI.S → B
  | .ifs _ _ b => b
  | _ => .nil
theorem finO_er {n c : Nat} {fs : List D} {ρ : Rho} {μ : Mu} (h : μ.length = n) : finO n (.er c fs ρ μ) = .err c fs μ := by
  unfold finO
  simp only
  rw [if_pos h]
/-- lists of its own were made, and are forgotten -/
theorem finO_er_more {c : Nat} {fs : List D} {ρ : Rho} {μ ν : Mu} (h : PureM μ) (hd : pureDs fs = true) : finO μ.length (.er c fs ρ (μ ++ ν)) = .err c fs μ := by
  have hb := pureDs.belows μ.length hd
  have ht : (μ ++ ν).take μ.length = μ := List.take_left' rfl
  unfold finO
  simp only
  by_cases z : (μ ++ ν).length = μ.length
  · have : ν = [] := List.length_eq_zero_iff.mp (by simp at z; exact z ▸ rfl)
    subst this
    rw [if_pos z, List.append_nil]
  · rw [if_neg z, ht, if_pos ⟨hb, h.all _, by simp⟩]
end PyI
/-! S1: values and their texts; a text is cut, unescaped and masked. -/
namespace PyI.K31
open PySem L2
/-- a sign that a text of a value may hold -/
def sgn (c : Nat) : Bool := (decide (32 ≤ c) && decide (c ≤ 126) && c != 37) || c == 10
def escT (c : Nat) : List Nat := if c = 92 then [92, 92] else if c = 34 then [92, 34] else if c = 10 then [92, 110] else [c]
def mskT (c : Nat) : List Nat := if c = 92 then [46, 46] else if c = 34 then [46, 46] else if c = 10 then [92, 110] else [c]
mutual
def plainL : D → List Nat
  | .non => [78]
  | .bl b => if b then [84] else [70]
  | .int i => intL i
  | .str s => 34 :: (s.cps.toList.flatMap escT ++ [34])
  | .tup l => 40 :: (plainLs l ++ [41])
  | _ => []
def plainLs : List D → List Nat
  | [] => []
  | [d] => plainL d
  | d :: e :: r => plainL d ++ (32 :: plainLs (e :: r))
end
mutual
def maskL : D → List Nat
  | .non => [78]
  | .bl b => if b then [84] else [70]
  | .int i => intL i
  | .str s => 34 :: (s.cps.toList.flatMap mskT ++ [34])
  | .tup l => 40 :: (maskLs l ++ [41])
  | _ => []
def maskLs : List D → List Nat
  | [] => []
  | [d] => maskL d
  | d :: e :: r => maskL d ++ (32 :: maskLs (e :: r))
end
mutual
def okV : D → Bool
  | .non | .bl _ => true
  | .int i => decide (i.natAbs < 10 ^ 20)
  | .str s => s.cps.toList.all sgn
  | .tup l => okVs l
  | _ => false
def okVs : List D → Bool
  | [] => true
  | d :: ds => okV d && okVs ds
end
mutual
def dep : D → Nat
  | .tup l => deps l + 1
  | _ => 0
def deps : List D → Nat
  | [] => 0
  | d :: ds => max (dep d) (deps ds)
end
theorem okVs_mem : ∀ {l : List D}, okVs l = true → ∀ d ∈ l, okV d = true
  | e :: l, h, d, hd => by
    simp only [okVs, Bool.and_eq_true] at h
    rcases List.mem_cons.mp hd with rfl | q
    · exact h.1
    · exact okVs_mem h.2 d q
theorem okVs_of : ∀ {l : List D}, (∀ d ∈ l, okV d = true) → okVs l = true
  | [], _ => rfl
  | e :: l, h => by
    simp only [okVs, Bool.and_eq_true]
    exact ⟨h e (List.mem_cons_self ..), okVs_of fun d hd => h d (List.mem_cons_of_mem _ hd)⟩
theorem deps_mem : ∀ {l : List D}, ∀ d ∈ l, dep d ≤ deps l
  | e :: l, d, hd => by
    simp only [deps]
    rcases List.mem_cons.mp hd with rfl | q
    · omega
    · have := deps_mem d q
      omega
mutual
theorem okV.pure : ∀ {d : D}, okV d = true → pureD d = true
  | .non, _ | .bl _, _ | .int _, _ | .str _, _ => rfl
  | .ref _, h => by cases h
  | .lst _, h => by cases h
  | .kl _, h => by cases h
  | .tup l, h => okVs.pure (l := l) h
theorem okVs.pure : ∀ {l : List D}, okVs l = true → pureDs l = true
  | [], _ => rfl
  | d :: l, h => by
    simp only [okVs, Bool.and_eq_true] at h
    simp only [pureDs, Bool.and_eq_true]
    exact ⟨okV.pure h.1, okVs.pure h.2⟩
end
theorem plainLs_join : ∀ l : List D, plainLs l = TL.joinL [32] (l.map plainL)
  | [] => rfl
  | [_] => by simp only [plainLs, List.map_cons, List.map_nil, TL.joinL]
  | d :: e :: r => by
    simp only [plainLs, List.map_cons, TL.joinL, plainLs_join (e :: r), List.cons_append, List.nil_append]
theorem intL_len (i : Int) : (intL i).length ≠ 0 := by
  cases i with
  | ofNat n => exact fun h => TL.numL_ne n (List.length_eq_zero_iff.mp h)
  | negSucc n => simp [intL]
theorem plain_pos : ∀ {d : D}, okV d = true → 1 ≤ (plainL d).length
  | .non, _ => Nat.le_refl _
  | .bl b, _ => by cases b <;> exact Nat.le_refl _
  | .int i, _ => Nat.pos_of_ne_zero (intL_len i)
  | .str _, _ => by simp [plainL]
  | .tup _, _ => by simp [plainL]
  | .ref _, h => by cases h
  | .lst _, h => by cases h
  | .kl _, h => by cases h
theorem plains_len : ∀ {l : List D}, okVs l = true → l.length ≤ (plainLs l).length
  | [], _ => Nat.le_refl _
  | [d], h => by
    simp only [okVs, Bool.and_true] at h
    exact plain_pos h
  | d :: e :: r, h => by
    have h' : okV d = true ∧ okVs (e :: r) = true := by simpa only [okVs, Bool.and_eq_true] using h
    have := plains_len h'.2
    simp only [plainLs, List.length_cons, List.length_append] at *
    omega
theorem plains_mem : ∀ {l : List D}, ∀ d ∈ l, (plainL d).length ≤ (plainLs l).length
  | [e], d, hd => by
    rw [List.mem_singleton.mp hd]
    exact Nat.le_refl _
  | e :: f :: r, d, hd => by
    simp only [plainLs, List.length_cons, List.length_append]
    rcases List.mem_cons.mp hd with rfl | q
    · omega
    · have := plains_mem d q
      omega
theorem joined_len : ∀ l : List (List Nat), (l.map List.length).sum + l.length ≤ (TL.joinL [32] l).length + 1
  | [] => by simp
  | [_] => by simp [TL.joinL]
  | p :: q :: r => by
    have := joined_len (q :: r)
    simp only [TL.joinL, List.map_cons, List.sum_cons, List.length_cons, List.length_append, List.length_nil] at *
    omega
/-! ### texts of signs -/
theorem esc_repl (l : List Nat) : StrLaws.replL [10] [92, 110] (StrLaws.replL [34] [92, 34] (StrLaws.replL [92] [92, 92] l)) = l.flatMap escT := by
  have one : ∀ (y : Nat) (z l : List Nat), StrLaws.replL [y] z l = l.flatMap fun c => if c = y then z else [c] := by
    intro y z l
    induction l with
    | nil => exact StrLaws.replL_nil
    | cons c r ih =>
      by_cases h : c = y
      · rw [StrLaws.replL_hit (by simp) (by simp [h])]
        simp [h, ih]
      · rw [StrLaws.replL_miss (by simpa using h), ih]
        simp [h]
  rw [one, one, one, List.flatMap_assoc, List.flatMap_assoc]
  congr 1
  funext c
  unfold escT
  by_cases h1 : c = 92
  · subst h1; rfl
  by_cases h2 : c = 34
  · subst h2; rfl
  by_cases h3 : c = 10
  · subst h3; rfl
  simp [h1, h2, h3]
theorem esc_len (l : List Nat) : (l.flatMap mskT).length = (l.flatMap escT).length := by
  induction l with
  | nil => rfl
  | cons c r ih =>
    have e : (mskT c).length = (escT c).length := by
      unfold mskT escT
      split
      · rfl
      split
      · rfl
      split <;> rfl
    simp [ih, e]
theorem esc_le (l : List Nat) : l.length ≤ (l.flatMap escT).length ∧ (l.flatMap escT).length ≤ 2 * l.length := by
  induction l with
  | nil => exact ⟨Nat.le_refl _, Nat.le_refl _⟩
  | cons c r ih =>
    have e : 1 ≤ (escT c).length ∧ (escT c).length ≤ 2 := by
      unfold escT
      split
      · decide
      split
      · decide
      split <;> simp
    rw [List.flatMap_cons, List.length_append, List.length_cons]
    omega
theorem esc_msk : ∀ l : List Nat, 34 ∉ l.flatMap mskT := by
  intro l h
  obtain ⟨c, _, h⟩ := List.mem_flatMap.mp h
  unfold mskT at h
  split at h
  · simp at h
  split at h
  · simp at h
  split at h
  · simp at h
  · simp_all
/-- a sign of an inner text -/
def sin (c : Nat) : Bool := decide (32 ≤ c) && decide (c ≤ 126) && c != 37
theorem esc_sin {l : List Nat} (h : l.all sgn = true) : (l.flatMap escT).all sin = true := by
  rw [List.all_eq_true] at *
  intro c hc
  obtain ⟨d, hd, hc⟩ := List.mem_flatMap.mp hc
  have hs := h d hd
  unfold sgn at hs
  unfold escT at hc
  split at hc
  · simp at hc; subst hc; rfl
  split at hc
  · simp at hc; rcases hc with rfl | rfl <;> rfl
  split at hc
  · simp at hc; rcases hc with rfl | rfl <;> rfl
  · rw [List.mem_singleton.mp hc]
    unfold sin
    simp_all
theorem prin : ∀ c : Nat, c < 127 → 32 ≤ c → Unicode.isPrintable c = true := by decide +kernel
def cut : List Nat → List Nat → List (List Nat)
  | acc, [] => [acc]
  | acc, c :: r => if c = 92 then acc :: cut [] r else cut (acc ++ [c]) r
theorem cut_free : ∀ (s acc : List Nat), 92 ∉ acc → ∀ p ∈ cut acc s, 92 ∉ p
  | [], acc, h, p, hp => by
    rw [cut] at hp
    rw [List.mem_singleton.mp hp]
    exact h
  | c :: r, acc, h, p, hp => by
    rw [cut] at hp
    by_cases hc : c = 92
    · rw [if_pos hc] at hp
      rcases List.mem_cons.mp hp with rfl | q
      · exact h
      · exact cut_free r [] (by simp) p q
    · rw [if_neg hc] at hp
      exact cut_free r _ (by simp [h]; omega) p hp
theorem cut_ne (s acc : List Nat) : cut acc s ≠ [] := by
  induction s generalizing acc with
  | nil => simp [cut]
  | cons c r ih =>
    rw [cut]
    split
    · simp
    · exact ih _
theorem cut_join : ∀ (s acc : List Nat), TL.joinL [92] (cut acc s) = acc ++ s
  | [], acc => by simp [cut, TL.joinL]
  | c :: r, acc => by
    rw [cut]
    by_cases hc : c = 92
    · subst hc
      rw [if_pos rfl]
      have := cut_join r []
      cases h : cut [] r with
      | nil => exact absurd h (cut_ne r [])
      | cons a t =>
        rw [h] at this
        simp only [TL.joinL, this]
        rfl
    · rw [if_neg hc, cut_join r]
      simp
theorem cut_mem : ∀ (s acc : List Nat), ∀ p ∈ cut acc s, p.length ≤ acc.length + s.length
  | [], acc, p, hp => by
    rw [cut] at hp
    rw [List.mem_singleton.mp hp]
    simp
  | c :: r, acc, p, hp => by
    rw [cut] at hp
    by_cases hc : c = 92
    · rw [if_pos hc] at hp
      rcases List.mem_cons.mp hp with rfl | q
      · simp
      · have := cut_mem r [] p q
        simp at *
        omega
    · rw [if_neg hc] at hp
      have := cut_mem r _ p hp
      simp at *
      omega
theorem cut_count : ∀ (s acc : List Nat), (cut acc s).length ≤ s.length + 1
  | [], acc => by simp [cut]
  | c :: r, acc => by
    rw [cut]
    split
    · have := cut_count r []
      simp
      omega
    · have := cut_count r (acc ++ [c])
      simp
      omega
theorem escT_92 : escT 92 = [92, 92] := rfl
theorem escT_34 : escT 34 = [92, 34] := rfl
theorem escT_10 : escT 10 = [92, 110] := rfl
theorem escT_o {c : Nat} (h1 : c ≠ 92) (h2 : c ≠ 34) (h3 : c ≠ 10) : escT c = [c] := by simp [escT, h1, h2, h3]
theorem spl_esc : ∀ (s acc : List Nat), TL.spl [92, 92] 0 (acc.flatMap escT) (s.flatMap escT) = (cut acc s).map (List.flatMap escT)
  | [], acc => by simp [cut, TL.spl_nil]
  | c :: r, acc => by
    rw [cut, List.flatMap_cons]
    by_cases hc : c = 92
    · subst hc
      rw [if_pos rfl, escT_92]
      show TL.spl [92, 92] 0 _ (92 :: 92 :: r.flatMap escT) = _
      rw [TL.spl_hit (by simp [TL.pre]), TL.spl_pass]
      have := spl_esc r []
      simpa using this
    · rw [if_neg hc, ← spl_esc r, List.flatMap_append, List.flatMap_cons, List.flatMap_nil, List.append_nil]
      by_cases h2 : c = 34
      · subst h2
        rw [escT_34]
        show TL.spl [92, 92] 0 _ (92 :: 34 :: r.flatMap escT) = _
        rw [TL.spl_miss (by simp [TL.pre]), TL.spl_miss (by simp [TL.pre])]
        simp
      by_cases h3 : c = 10
      · subst h3
        rw [escT_10]
        show TL.spl [92, 92] 0 _ (92 :: 110 :: r.flatMap escT) = _
        rw [TL.spl_miss (by simp [TL.pre]), TL.spl_miss (by simp [TL.pre])]
        simp
      rw [escT_o hc h2 h3]
      show TL.spl [92, 92] 0 _ (c :: r.flatMap escT) = _
      rw [TL.spl_miss (TL.pre_of_head _ _ hc)]
/-- replaced, whatever follows -/
def Cl (y z a b : List Nat) : Prop := ∀ r, StrLaws.replL y z (a ++ r) = b ++ StrLaws.replL y z r
theorem Cl.nil {y z : List Nat} : Cl y z [] [] := fun _ => rfl
theorem Cl.app {y z a b c d : List Nat} (h : Cl y z a b) (g : Cl y z c d) : Cl y z (a ++ c) (b ++ d) := fun r => by rw [List.append_assoc, h, g, List.append_assoc]
open StrLaws in
theorem Cl.one {x c : Nat} {y z : List Nat} (h : c ≠ x) : Cl (x :: y) z [c] [c] := fun r => by
  show replL _ _ (c :: r) = _
  rw [replL_miss (by simp [h])]
  rfl
open StrLaws in
theorem Cl.two {x c d : Nat} {z : List Nat} (h : c ≠ d) (h2 : c ≠ x) : Cl [x, d] z [x, c] [x, c] := fun r => by
  show replL _ _ (x :: c :: r) = _
  rw [replL_miss (by simp [h]), replL_miss (by simp [h2])]
  rfl
open StrLaws in
theorem Cl.hit {x d : Nat} {z : List Nat} : Cl [x, d] z [x, d] z := fun r => by
  show replL _ _ (x :: d :: r) = _
  rw [replL_hit (by simp) (by simp)]
  rfl
def unqE (c : Nat) : List Nat := if c = 10 then [92, 110] else [c]
theorem cl1 : ∀ p : List Nat, 92 ∉ p → Cl [92, 34] [34] (p.flatMap escT) (p.flatMap unqE)
  | [], _ => .nil
  | c :: r, h => by
    have hc : c ≠ 92 := fun e => h (by simp [e])
    rw [List.flatMap_cons, List.flatMap_cons]
    refine Cl.app ?_ (cl1 r fun e => h (by simp [e]))
    unfold unqE
    by_cases h2 : c = 34
    · subst h2; rw [escT_34, if_neg (by decide)]; exact .hit
    by_cases h3 : c = 10
    · subst h3; rw [escT_10, if_pos rfl]; exact .two (by decide) (by decide)
    rw [escT_o hc h2 h3, if_neg h3]
    exact .one hc
theorem cl2 : ∀ p : List Nat, 92 ∉ p → Cl [92, 110] [10] (p.flatMap unqE) p
  | [], _ => .nil
  | c :: r, h => by
    have hc : c ≠ 92 := fun e => h (by simp [e])
    rw [List.flatMap_cons]
    refine Cl.app (a := unqE c) (b := [c]) ?_ (cl2 r fun e => h (by simp [e]))
    unfold unqE
    by_cases h3 : c = 10
    · subst h3; rw [if_pos rfl]; exact .hit
    rw [if_neg h3]
    exact .one hc
theorem unq1 (p : List Nat) (h : 92 ∉ p) : StrLaws.replL [92, 34] [34] (p.flatMap escT) = p.flatMap unqE := by
  have := cl1 p h []
  rw [StrLaws.replL_nil, List.append_nil, List.append_nil] at this
  exact this
theorem unq2 (p : List Nat) (h : 92 ∉ p) : StrLaws.replL [92, 110] [10] (p.flatMap unqE) = p := by
  have := cl2 p h []
  rw [StrLaws.replL_nil, List.append_nil, List.append_nil] at this
  exact this
theorem esc_none : ∀ {l : List Nat}, 92 ∉ l.flatMap escT → l.flatMap escT = l
  | [], _ => rfl
  | c :: r, h => by
    rw [List.flatMap_cons] at *
    have ih := esc_none (l := r) fun e => h (List.mem_append_right _ e)
    rw [ih]
    have h' : 92 ∉ escT c := fun e => h (List.mem_append_left _ e)
    by_cases h1 : c = 92
    · subst h1; exact absurd (by simp [escT]) h'
    by_cases h2 : c = 34
    · subst h2; exact absurd (by simp [escT]) h'
    by_cases h3 : c = 10
    · subst h3; exact absurd (by simp [escT]) h'
    rw [escT_o h1 h2 h3]
    rfl
/-! ### masked -/
open StrLaws in
def M (a b : List Nat) : Prop := ∃ m, (∀ r, replL [92, 92] [46, 46] (a ++ r) = m ++ replL [92, 92] [46, 46] r) ∧ (∀ r, replL [92, 34] [46, 46] (m ++ r) = b ++ replL [92, 34] [46, 46] r)
theorem M.nil : M [] [] := ⟨[], fun _ => rfl, fun _ => rfl⟩
theorem M.app {a b c d : List Nat} (h : M a b) (g : M c d) : M (a ++ c) (b ++ d) := by
  obtain ⟨m, h1, h2⟩ := h
  obtain ⟨n, g1, g2⟩ := g
  exact ⟨m ++ n, fun r => by rw [List.append_assoc, h1, g1, List.append_assoc], fun r => by rw [List.append_assoc, h2, g2, List.append_assoc]⟩
open StrLaws in
theorem M.one {c : Nat} (h : c ≠ 92) : M [c] [c] := ⟨[c], fun r => by
  show replL _ _ (c :: r) = _
  rw [replL_miss (by simp [h])]
  rfl, fun r => by
  show replL _ _ (c :: r) = _
  rw [replL_miss (by simp [h])]
  rfl⟩
theorem M.free : ∀ {l : List Nat}, 92 ∉ l → M l l
  | [], _ => .nil
  | c :: r, h => M.app (a := [c]) (b := [c]) (.one fun e => h (by simp [e])) (M.free fun e => h (by simp [e]))
open StrLaws in
theorem M.sign (c : Nat) : M (escT c) (mskT c) := by
  by_cases h1 : c = 92
  · subst h1
    refine ⟨[46, 46], fun r => ?_, fun r => ?_⟩
    · show replL _ _ (92 :: 92 :: r) = _
      rw [replL_hit (by simp) (by simp)]
      rfl
    · show replL _ _ (46 :: 46 :: r) = _
      rw [replL_miss (by simp), replL_miss (by simp)]
      rfl
  by_cases h2 : c = 34
  · subst h2
    refine ⟨[92, 34], fun r => ?_, fun r => ?_⟩
    · show replL _ _ (92 :: 34 :: r) = _
      rw [replL_miss (by simp), replL_miss (by simp)]
      rfl
    · show replL _ _ (92 :: 34 :: r) = _
      rw [replL_hit (by simp) (by simp)]
      rfl
  by_cases h3 : c = 10
  · subst h3
    refine ⟨[92, 110], fun r => ?_, fun r => ?_⟩
    · show replL _ _ (92 :: 110 :: r) = _
      rw [replL_miss (by simp), replL_miss (by simp)]
      rfl
    · show replL _ _ (92 :: 110 :: r) = _
      rw [replL_miss (by simp), replL_miss (by simp)]
      rfl
  have e : mskT c = [c] := by simp [mskT, h1, h2, h3]
  rw [escT_o h1 h2 h3, e]
  exact .one h1
theorem M.text : ∀ l : List Nat, M (l.flatMap escT) (l.flatMap mskT)
  | [] => .nil
  | c :: r => by
    rw [List.flatMap_cons, List.flatMap_cons]
    exact (M.sign c).app (M.text r)
theorem int_free (i : Int) : 92 ∉ intL i := by
  cases i with
  | ofNat n => exact TL.numL_free (.inr (by decide))
  | negSucc n =>
    intro h
    rcases List.mem_cons.mp h with q | q
    · cases q
    · exact TL.numL_free (.inr (by decide)) q
mutual
theorem M.plain : ∀ v : D, M (plainL v) (maskL v)
  | .non => .free (by simp [plainL])
  | .bl true => .free (by simp [plainL])
  | .bl false => .free (by simp [plainL])
  | .int i => .free (int_free i)
  | .str s => by
    simp only [plainL, maskL]
    exact M.app (a := [34]) (b := [34]) (.one (by decide)) (M.app (M.text _) (.one (by decide)))
  | .tup l => by
    simp only [plainL, maskL]
    exact M.app (a := [40]) (b := [40]) (.one (by decide)) (M.app (M.plains l) (.one (by decide)))
  | .lst _ => by simp only [plainL, maskL]; exact .nil
  | .ref _ => by simp only [plainL, maskL]; exact .nil
  | .kl _ => by simp only [plainL, maskL]; exact .nil
theorem M.plains : ∀ l : List D, M (plainLs l) (maskLs l)
  | [] => .nil
  | [d] => M.plain d
  | d :: e :: r => by
    simp only [plainLs, maskLs]
    exact (M.plain d).app (M.app (a := [32]) (b := [32]) (.one (by decide)) (M.plains (e :: r)))
end
open StrLaws in
theorem masked (v : D) : replL [92, 34] [46, 46] (replL [92, 92] [46, 46] (plainL v)) = maskL v := by
  obtain ⟨m, h1, h2⟩ := M.plain v
  have e1 := h1 []
  have e2 := h2 []
  rw [replL_nil, List.append_nil, List.append_nil] at e1 e2
  rw [e1, e2]
mutual
theorem mask_len : ∀ v : D, (maskL v).length = (plainL v).length
  | .non | .int _ | .lst _ | .ref _ | .kl _ => rfl
  | .bl b => by cases b <;> rfl
  | .str s => by simp only [plainL, maskL, List.length_cons, List.length_append, esc_len]
  | .tup l => by simp only [plainL, maskL, List.length_cons, List.length_append, masks_len l]
theorem masks_len : ∀ l : List D, (maskLs l).length = (plainLs l).length
  | [] => rfl
  | [d] => mask_len d
  | d :: e :: r => by simp only [plainLs, maskLs, List.length_cons, List.length_append, mask_len d, masks_len (e :: r)]
end
end PyI.K31
/-! S2: a text behind its quote: what both sides walk. -/
namespace PyI.K31
open PySem L2
inductive Rs (α : Type) where
  | good (a : α) (r : List Nat)
  | bad (r : List Nat)
def esc (d : Nat) : Bool := d == 92 || d == 34 || d == 110
def una (d : Nat) : Nat := if d = 110 then 10 else d
def txtS : List Nat → List Nat → Rs (List Nat)
  | _, [] => .bad []
  | acc, [c] => if c = 34 then .good acc [] else if c = 92 then .bad [] else if sin c = true then .bad [] else .bad [c]
  | acc, c :: d :: s => if c = 34 then .good acc (d :: s) else if c = 92 then (if esc d = true then txtS (acc ++ [una d]) s else .bad (d :: s)) else if sin c = true then txtS (acc ++ [c]) (d :: s) else .bad (c :: d :: s)
def wpS : List Nat → List Nat
  | [] => []
  | [c] => if c = 92 then [] else if sin c = true then [] else [c]
  | c :: d :: s => if c = 92 then (if esc d = true then wpS s else d :: s) else if sin c = true then wpS (d :: s) else c :: d :: s
theorem sin_34 : sin 34 = true := by decide
theorem sin_92 : sin 92 = true := by decide
theorem sgn_una {d : Nat} (h : esc d = true) : sgn (una d) = true := by
  unfold esc at h
  simp only [Bool.or_eq_true, beq_iff_eq] at h
  rcases h with (rfl | rfl) | rfl <;> decide
theorem escT_una {d : Nat} (h : esc d = true) : escT (una d) = [92, d] := by
  unfold esc at h
  simp only [Bool.or_eq_true, beq_iff_eq] at h
  rcases h with (rfl | rfl) | rfl <;> rfl
theorem sgn_sin {c : Nat} (h : sin c = true) : sgn c = true := by
  unfold sgn
  unfold sin at h
  rw [h]; rfl
theorem escT_sin {c : Nat} (h : sin c = true) (h1 : c ≠ 92) (h2 : c ≠ 34) : escT c = [c] := escT_o h1 h2 (by
  rintro rfl
  exact absurd h (by decide))
theorem txt_good : ∀ {s acc u r : List Nat}, txtS acc s = .good u r → ∃ v, u = acc ++ v ∧ s = v.flatMap escT ++ 34 :: r ∧ v.all sgn = true
  | [], acc, u, r, h => by cases h
  | [c], acc, u, r, h => by
    unfold txtS at h
    by_cases h1 : c = 34
    · rw [if_pos h1] at h; cases h; subst h1; exact ⟨[], by simp, rfl, rfl⟩
    · rw [if_neg h1] at h
      split at h
      · cases h
      · split at h <;> cases h
  | c :: d :: s, acc, u, r, h => by
    unfold txtS at h
    by_cases h1 : c = 34
    · rw [if_pos h1] at h; cases h; subst h1; exact ⟨[], by simp, rfl, rfl⟩
    rw [if_neg h1] at h
    by_cases h2 : c = 92
    · rw [if_pos h2] at h
      by_cases h3 : esc d = true
      · rw [if_pos h3] at h
        obtain ⟨v, e1, e2, e3⟩ := txt_good h
        refine ⟨una d :: v, by rw [e1]; simp, ?_, by rw [List.all_cons, sgn_una h3, e3]; rfl⟩
        rw [List.flatMap_cons, escT_una h3, e2, h2]; rfl
      · rw [if_neg h3] at h; cases h
    rw [if_neg h2] at h
    by_cases h3 : sin c = true
    · rw [if_pos h3] at h
      obtain ⟨v, e1, e2, e3⟩ := txt_good h
      refine ⟨c :: v, by rw [e1]; simp, ?_, by rw [List.all_cons, sgn_sin h3, e3]; rfl⟩
      rw [List.flatMap_cons, escT_sin h3 h2 h1, e2]; rfl
    · rw [if_neg h3] at h; cases h
inductive Bk (s r : List Nat) : Prop
  | ends (v : List Nat) : v.all sgn = true → s = v.flatMap escT → r = [] → Bk s r
  | bsl (v : List Nat) : v.all sgn = true → s = v.flatMap escT ++ [92] → r = [] → Bk s r
  | sign (v : List Nat) (c : Nat) (s' : List Nat) : v.all sgn = true → s = v.flatMap escT ++ c :: s' → r = c :: s' → sin c = false → Bk s r
  | escb (v : List Nat) (d : Nat) (s' : List Nat) : v.all sgn = true → s = v.flatMap escT ++ 92 :: d :: s' → r = d :: s' → esc d = false → Bk s r
theorem Bk.cons {w : Nat} {e s r : List Nat} (he : escT w = e) (hw : sgn w = true) (h : Bk s r) : Bk (e ++ s) r := by
  have q : ∀ {v : List Nat}, v.all sgn = true → (w :: v).all sgn = true := fun h => by rw [List.all_cons, hw, h]; rfl
  subst he
  cases h with
  | ends v h1 h2 h3 => exact .ends (w :: v) (q h1) (by rw [h2]; rfl) h3
  | bsl v h1 h2 h3 => exact .bsl (w :: v) (q h1) (by rw [h2, List.flatMap_cons, List.append_assoc]) h3
  | sign v c s' h1 h2 h3 h4 => exact .sign (w :: v) c s' (q h1) (by rw [h2, List.flatMap_cons, List.append_assoc]) h3 h4
  | escb v d s' h1 h2 h3 h4 => exact .escb (w :: v) d s' (q h1) (by rw [h2, List.flatMap_cons, List.append_assoc]) h3 h4
theorem txt_bad : ∀ {s acc r : List Nat}, txtS acc s = .bad r → wpS s = r ∧ Bk s r
  | [], acc, r, h => by cases h; exact ⟨rfl, .ends [] rfl rfl rfl⟩
  | [c], acc, r, h => by
    unfold txtS at h
    unfold wpS
    by_cases h1 : c = 34
    · rw [if_pos h1] at h; cases h
    rw [if_neg h1] at h
    by_cases h2 : c = 92
    · rw [if_pos h2] at h ⊢; cases h; subst h2; exact ⟨rfl, .bsl [] rfl rfl rfl⟩
    rw [if_neg h2] at h ⊢
    by_cases h3 : sin c = true
    · rw [if_pos h3] at h ⊢; cases h
      have := escT_sin h3 h2 h1
      exact ⟨rfl, .ends [c] (by rw [List.all_cons, sgn_sin h3]; rfl) (by rw [List.flatMap_cons, this]; rfl) rfl⟩
    · rw [if_neg h3] at h ⊢; cases h
      exact ⟨rfl, .sign [] c [] rfl rfl rfl (by simpa using h3)⟩
  | c :: d :: s, acc, r, h => by
    unfold txtS at h
    unfold wpS
    by_cases h1 : c = 34
    · rw [if_pos h1] at h; cases h
    rw [if_neg h1] at h
    by_cases h2 : c = 92
    · rw [if_pos h2] at h ⊢
      by_cases h3 : esc d = true
      · rw [if_pos h3] at h ⊢
        obtain ⟨e1, e2⟩ := txt_bad h
        subst h2
        exact ⟨e1, e2.cons (escT_una h3) (sgn_una h3)⟩
      · rw [if_neg h3] at h ⊢; cases h; subst h2
        exact ⟨rfl, .escb [] d s rfl rfl rfl (by simpa using h3)⟩
    rw [if_neg h2] at h ⊢
    by_cases h3 : sin c = true
    · rw [if_pos h3] at h ⊢
      obtain ⟨e1, e2⟩ := txt_bad h
      exact ⟨e1, e2.cons (e := [c]) (escT_sin h3 h2 h1) (sgn_sin h3)⟩
    · rw [if_neg h3] at h ⊢; cases h
      exact ⟨rfl, .sign [] c (d :: s) rfl rfl rfl (by simpa using h3)⟩
/-! ### the masked text -/
open StrLaws in
def msk (t : List Nat) : List Nat := replL [92, 34] [46, 46] (replL [92, 92] [46, 46] t)
open StrLaws in
theorem M.msk {a b : List Nat} (h : M a b) (r : List Nat) : K31.msk (a ++ r) = b ++ K31.msk r := by
  obtain ⟨m, h1, h2⟩ := h
  unfold K31.msk
  rw [h1, h2]
theorem msk_nil : msk [] = [] := by
  unfold msk
  rw [StrLaws.replL_nil, StrLaws.replL_nil]
theorem msk_one {c : Nat} (h : c ≠ 92) (r : List Nat) : msk (c :: r) = c :: msk r := (M.one h).msk r
theorem msk_bs {d : Nat} (h1 : d ≠ 92) (h2 : d ≠ 34) (r : List Nat) : msk (92 :: d :: r) = 92 :: d :: msk r := by
  have e1 := Cl.two (x := 92) (c := d) (d := 92) (z := [46, 46]) h1 h1 r
  have e2 := Cl.two (x := 92) (c := d) (d := 34) (z := [46, 46]) h2 h1 (StrLaws.replL [92, 92] [46, 46] r)
  unfold msk
  exact (congrArg (StrLaws.replL [92, 34] [46, 46]) e1).trans e2
open StrLaws in
theorem msk_end : msk [92] = [92] := by decide +kernel
theorem msk_txt (v r : List Nat) : msk (v.flatMap escT ++ r) = v.flatMap mskT ++ msk r := (M.text v).msk r
open StrLaws in
theorem repl_same {y z : List Nat} (hy : y ≠ []) (hz : z.length = y.length) : ∀ (n : Nat) (l : List Nat), l.length ≤ n → (replL y z l).length = l.length
  | _, [], _ => by rw [replL_nil]
  | 0, c :: r, h => absurd h (by simp)
  | n + 1, c :: r, h => by
    by_cases e : (c :: r).take y.length = y
    · rw [replL_hit hy e]
      have : 1 ≤ y.length := List.length_pos_iff.mpr hy
      have q := congrArg List.length e
      rw [List.length_take] at q
      have := repl_same hy hz n ((c :: r).drop y.length) (by rw [List.length_drop]; simp at *; omega)
      rw [List.length_append, this, List.length_drop]
      simp at *
      omega
    · rw [replL_miss e, List.length_cons, repl_same hy hz n r (by simpa using h), List.length_cons]
theorem msk_len (t : List Nat) : (msk t).length = t.length := by
  unfold msk
  rw [repl_same (y := [92, 34]) (z := [46, 46]) (by simp) rfl _ _ (Nat.le_refl _), repl_same (y := [92, 92]) (z := [46, 46]) (by simp) rfl _ _ (Nat.le_refl _)]
end PyI.K31
/-! S3: calls; signs that can be quoted; the place of a fault. -/
namespace PyI.K31
open PySem L2
section
variable {k f : Nat} {b : B} {ρ ρ' : Rho} {ds l fs : List D} {μ μ' : Mu} {d : D} {m : MO} {c : Nat}
theorem call_of (hc : callD prg.tab prg.con prg.dic prg.wf (k + 1) f ds μ = finO μ.length (runB (gg k) b ρ μ)) (hl : μ'.length = μ.length) (h : runB (gg k) b ρ μ = .rt d μ') : (gg (k + 1)).call f ds μ = .ok d μ' := by
  show callD prg.tab prg.con prg.dic prg.wf (k + 1) f ds μ = _
  rw [hc, h, finO_rt, fin_same hl]
theorem call_er (hc : callD prg.tab prg.con prg.dic prg.wf (k + 1) f ds μ = finO μ.length (runB (gg k) b ρ μ)) (hl : μ'.length = μ.length) (h : runB (gg k) b ρ μ = .er c fs ρ' μ') : (gg (k + 1)).call f ds μ = .err c fs μ' := by
  show callD prg.tab prg.con prg.dic prg.wf (k + 1) f ds μ = _
  rw [hc, h, finO_er hl]
theorem call_one (hc : callD prg.tab prg.con prg.dic prg.wf (k + 1) f ds μ = finO μ.length (runB (gg k) b ρ μ)) (hμ : PureM μ) (hd : pureD d = true) (h : runB (gg k) b ρ μ = .rt d (μ ++ [m])) : (gg (k + 1)).call f ds μ = .ok d μ := by
  show callD prg.tab prg.con prg.dic prg.wf (k + 1) f ds μ = _
  rw [hc, h, finO_rt, fin_one hμ hd]
theorem call_one_er (hc : callD prg.tab prg.con prg.dic prg.wf (k + 1) f ds μ = finO μ.length (runB (gg k) b ρ μ)) (hμ : PureM μ) (hd : pureDs fs = true) (h : runB (gg k) b ρ μ = .er c fs ρ' (μ ++ [m])) : (gg (k + 1)).call f ds μ = .err c fs μ := by
  show callD prg.tab prg.con prg.dic prg.wf (k + 1) f ds μ = _
  rw [hc, h, finO_er_more hμ hd]
theorem call_lst (hc : callD prg.tab prg.con prg.dic prg.wf (k + 1) f ds μ = finO μ.length (runB (gg k) b ρ μ)) (hμ : PureM μ) (hl : pureDs l = true) (h : runB (gg k) b ρ μ = .rt (.ref μ.length) (μ ++ [.lst l])) : (gg (k + 1)).call f ds μ = .ok (.lst l) μ := by
  show callD prg.tab prg.con prg.dic prg.wf (k + 1) f ds μ = _
  rw [hc, h, finO_rt, fin_ret hμ hl]
end
section
variable {k : Nat} {μ : Mu}
theorem prt : ∀ c : Nat, c < 128 → Unicode.isPrintable c = (decide (32 ≤ c) && decide (c ≤ 126)) := by decide +kernel
theorem sin_split (l : List Nat) (h : l.all (· < 128) = true) : l.all sin = (l.all Unicode.isPrintable && l.all (· != 37)) := by
  induction l with
  | nil => rfl
  | cons c r ih =>
    rw [List.all_cons, Bool.and_eq_true] at h
    rw [List.all_cons, List.all_cons, List.all_cons, ih h.2, prt c (by simpa using h.1)]
    unfold sin
    cases decide (32 ≤ c) <;> cases decide (c ≤ 126) <;> cases (c != 37) <;> cases (r.all Unicode.isPrintable) <;> cases (r.all (· != 37)) <;> rfl
theorem sin_asc {l : List Nat} (h : l.all sin = true) : l.all (· < 128) = true := by
  rw [List.all_eq_true] at *
  intro c hc
  have := h c hc
  unfold sin at this
  simp only [Bool.and_eq_true, decide_eq_true_eq] at this
  simp; omega
theorem filt_len (l : List Nat) : ((l.filter (· != 37)).length = l.length) ↔ l.all (· != 37) = true := by
  rw [List.length_filter_eq_length_iff, List.all_eq_true]
theorem quoted {l : List Nat} (hl : l.length ≤ 1000000) : (gg (k + 1)).call n_can_be_quoted [.str (tx l)] μ = .ok (.bl (l.all sin)) μ := by
  have a1 : ∀ {ρ : Rho}, ρ[0]? = some (some (.str (tx l))) → evalE (gg k) (.met .isascii (.var 0) .nil) ρ μ = .ok (.bl (l.all (· < 128))) μ := fun h => ev_met0 (ev_var h) rfl (by
    show Res.ok (D.bl (Txt.isascii (tx l))) μ = _
    unfold Txt.isascii
    rw [tx_all])
  have a2 : ∀ {ρ : Rho}, ρ[0]? = some (some (.str (tx l))) → evalE (gg k) (.met .isprintable (.var 0) .nil) ρ μ = .ok (.bl (l.all Unicode.isPrintable)) μ := fun h => ev_met0 (ev_var h) rfl (by
    show Res.ok (D.bl (Txt.isprintable (tx l))) μ = _
    unfold Txt.isprintable
    rw [tx_all])
  refine call_of c_can_be_quoted rfl (run_rt (st_ret ?_))
  cases h1 : l.all (· < 128) with
  | false =>
    have : l.all sin = false := by
      cases h2 : l.all sin with
      | false => rfl
      | true => rw [sin_asc h2] at h1; cases h1
    rw [this]
    refine ev_and_f ((a1 rfl).trans ?_) rfl
    rw [h1]
  | true =>
    rw [sin_split l h1]
    refine ev_and_t ((a1 rfl).trans (congrArg (fun b => Res.ok (D.bl b) μ) h1)) rfl ?_
    cases h2 : l.all Unicode.isPrintable with
    | false => exact ev_and_f ((a2 rfl).trans (congrArg (fun b => Res.ok (D.bl b) μ) h2)) rfl
    | true =>
      refine ev_and_t ((a2 rfl).trans (congrArg (fun b => Res.ok (D.bl b) μ) h2)) rfl ?_
      have e3 : tr37S (tx l) = tx (l.filter (· != 37)) := rfl
      have e4 : (tx l).length ≤ 1000000 ∧ (tx l).cps.all (· < 128) = true := ⟨by rw [tx_len]; exact hl, by rw [tx_all]; exact h1⟩
      have e5 : evalE (gg k) (.tr37 (.var 0)) (startR f_can_be_quoted.N.length [.str (tx l)]) μ = .ok (.str (tx (l.filter (· != 37)))) μ := by
        rw [evalE, ev_var (d := .str (tx l)) rfl, bind_ok]
        show needs _ _ = _
        rw [needs_pos e4, e3]
      have e6 := List.length_filter_le (· != 37) l
      refine ev_cmp (ev_bif1 e5 (len_tx (by omega))) (ev_bif1 (ev_var rfl) (len_tx (by omega))) (eq_n.trans ?_)
      refine congrArg (fun b => Res.ok b μ) ?_
      rw [Bool.true_and]
      by_cases h3 : l.all (· != 37) = true
      · rw [h3]; exact decide_eq_true ((filt_len l).mpr h3)
      · rw [Bool.eq_false_iff.mpr h3]; exact decide_eq_false fun z => h3 ((filt_len l).mp z)
/-! ### wrong_place -/
abbrev wT : T := whlT (nthS b_wrong_place 0)
abbrev wBd : B := forB (nthS b_wrong_place 0)
theorem at_mid {T p s : List Nat} {c : Nat} (hT : T = p ++ c :: s) : T[p.length]? = some c := by
  rw [hT]; simp
theorem at_mid2 {T p s : List Nat} {c d : Nat} (hT : T = p ++ c :: d :: s) : T[p.length + 1]? = some d := by
  rw [hT, List.getElem?_append_right (by omega)]; simp
theorem uni_mid {T p s : List Nat} {c : Nat} (hT : T = p ++ c :: s) (hu : T.all uni = true) : uni c = true := by
  subst hT
  rw [List.all_append, List.all_cons, Bool.and_eq_true, Bool.and_eq_true] at hu
  exact hu.2.1
theorem len_mid {T p s : List Nat} (hT : T = p ++ s) : T.length = p.length + s.length := by rw [hT, List.length_append]
theorem esc_tup {d : Nat} : cmpD .notin (.str (tx [d])) (.tup [.str "\\", .str "\"", .str "n"]) μ = .ok (!esc d) μ := by
  rw [t_13, t_5, t_16]
  show needs _ _ = _
  rw [needs_pos ⟨rfl, rfl⟩]
  refine congrArg (fun b => Res.ok (!b) μ) ?_
  show ((tx [92] == tx [d]) || ((tx [34] == tx [d]) || ((tx [110] == tx [d]) || false))) = _
  rw [tx_beq, tx_beq, tx_beq, one_beq, one_beq, one_beq]
  unfold esc
  rw [Bool.or_false, Bool.beq_comm (a := 92), Bool.beq_comm (a := 34), Bool.beq_comm (a := 110), Bool.or_assoc]
theorem esc_tup0 : cmpD .notin (.str (tx [])) (.tup [.str "\\", .str "\"", .str "n"]) μ = .ok true μ := by
  rw [t_13, t_5, t_16]
  show needs _ _ = _
  rw [needs_pos ⟨rfl, rfl⟩]
  refine congrArg (fun b => Res.ok (!b) μ) (?_ : _ = false)
  show ((tx [92] == tx []) || ((tx [34] == tx []) || ((tx [110] == tx []) || false))) = _
  rw [tx_beq, tx_beq, tx_beq]
  rfl
theorem wrong_loop {T : List Nat} (hu : T.all uni = true) (hl : T.length ≤ 40000) : ∀ (n : Nat) (s p : List Nat), T = p ++ s → s.length < n →
    whileLoop (fun ρ μ => evalT (gg (k + 1)) wT ρ μ) (fun ρ μ => runB (gg (k + 1)) wBd ρ μ) n [some (.str (tx T)), some (nD p.length)] μ = .nx [some (.str (tx T)), some (nD (T.length - (wpS s).length))] μ ∨
    whileLoop (fun ρ μ => evalT (gg (k + 1)) wT ρ μ) (fun ρ μ => runB (gg (k + 1)) wBd ρ μ) n [some (.str (tx T)), some (nD p.length)] μ = .rt (nD (T.length - (wpS s).length)) μ := by
  intro n
  induction n with
  | zero => intro s p _ h; exact absurd h (Nat.not_lt_zero _)
  | succ n ih =>
    intro s p hT hn
    have hz : T.length ≤ 16777216 := by omega
    have hlm := len_mid hT
    have test : evalT (gg (k + 1)) wT [some (.str (tx T)), some (nD p.length)] μ = .ok (decide (p.length < T.length)) μ := tv_bl (ev_cmp (ev_var rfl) (ev_bif1 (ev_var rfl) (len_tx hz)) lt_n)
    match s, hT, hn, hlm with
    | [], hT, hn, hlm =>
      have e : p.length = T.length := by rw [hlm]; rfl
      refine .inl (whl_stop (test.trans ?_) |>.trans ?_)
      · rw [decide_eq_false (by omega)]
      · rw [e]; rfl
    | c :: s, hT, hn, hlm =>
      rw [List.length_cons] at hlm
      have hc := uni_mid hT hu
      have tt : evalT (gg (k + 1)) wT [some (.str (tx T)), some (nD p.length)] μ = .ok true μ := test.trans (by rw [decide_eq_true (by omega)])
      have i1 : ∀ {x}, evalE (gg (k + 1)) (.idx (.var 0) (.var 1)) [some (.str (tx T)), some (nD p.length), x] μ = .ok (.str (tx [c])) μ := fun {x} => ev_idx (ev_var rfl) (ev_var rfl) (ix_str hz (at_mid hT))
      have i2 : evalE (gg (k + 1)) (.idx (.var 0) (.var 1)) [some (.str (tx T)), some (nD p.length)] μ = .ok (.str (tx [c])) μ := ev_idx (ev_var rfl) (ev_var rfl) (ix_str hz (at_mid hT))
      have e92 := ev_cmp (o := .eq) i2 (ev_cst (d := .str "\\")) (eq_c t_13 hc (by decide))
      by_cases h92 : c = 92
      · subst h92
        have cut : ∀ x : List Nat, s.take 1 = x → evalE (gg (k + 1)) (.slc (.var 0) (.some (.bin .add (.var 1) (.cst (.int 1)))) (.some (.bin .add (.var 1) (.cst (.int 2))))) [some (.str (tx T)), some (nD p.length)] μ = .ok (.str (tx x)) μ := fun x hx =>
          ev_slc (ev_var rfl) (ev_add1 (ev_var rfl)) (ev_add2 (ev_var rfl)) ((slc_tx hz).trans (by
            rw [tx_cut T (p.length + 1) (p.length + 2) rfl rfl, hT, ← hx, show p ++ 92 :: s = (p ++ [92]) ++ s by simp, List.drop_left' (by simp), show p.length + 2 - (p.length + 1) = 1 by omega]))
        match s, hT, hn, hlm, cut with
        | [], hT, hn, hlm, cut =>
          refine .inr (whl_rt tt (run_rt (ifs_true (tv_bl e92) (run_rt (ifs_true (tv_bl (ev_cmp (cut _ rfl) (ev_tup3 ev_cst ev_cst ev_cst) esc_tup0)) (run_rt (st_ret (ev_add1 (ev_var rfl)))))))) |>.trans ?_)
          have : T.length - (wpS [92]).length = p.length + 1 := by rw [hlm]; rfl
          rw [this]
        | d :: s, hT, hn, hlm, cut =>
          rw [List.length_cons] at hlm hn
          cases he : esc d with
          | false =>
            refine .inr (whl_rt tt (run_rt (ifs_true (tv_bl e92) (run_rt (ifs_true (tv_bl (ev_cmp (cut _ rfl) (ev_tup3 ev_cst ev_cst ev_cst) (esc_tup.trans (by rw [he]; rfl)))) (run_rt (st_ret (ev_add1 (ev_var rfl)))))))) |>.trans ?_)
            have : wpS (92 :: d :: s) = d :: s := by rw [wpS, if_pos rfl, if_neg (by rw [he]; decide)]
            rw [this, List.length_cons, show T.length - (s.length + 1) = p.length + 1 by omega]
          | true =>
            have : wpS (92 :: d :: s) = wpS s := by rw [wpS, if_pos rfl, if_pos he]
            rw [this]
            have q := ih s (p ++ [92, d]) (by rw [hT]; simp) (by rw [List.length_cons] at hn; omega)
            have bd : runB (gg (k + 1)) wBd [some (.str (tx T)), some (nD p.length)] μ = .nx [some (.str (tx T)), some (nD (p ++ [92, d]).length)] μ := by
              rw [show (p ++ [92, d]).length = p.length + 2 by simp]
              exact run_nx (ifs_true (tv_bl e92) (run_nx (ifs_false (tv_bl (ev_cmp (cut _ rfl) (ev_tup3 ev_cst ev_cst ev_cst) (esc_tup.trans (by rw [he]; rfl)))) run_nil) (run_nx (st_aug rfl ev_cst) run_nil))) run_nil
            rcases q with q | q
            · exact .inl (whl_nx tt bd q)
            · exact .inr (whl_nx tt bd q)
      · have e92' : evalT (gg (k + 1)) (.val (.cmp .eq (.idx (.var 0) (.var 1)) (.cst (.str "\\")))) [some (.str (tx T)), some (nD p.length)] μ = .ok false μ := (tv_bl e92).trans (by rw [beq_eq_false_iff_ne.mpr h92])
        have cq : evalE (gg (k + 1)) (.call 5 (.cons (.idx (.var 0) (.var 1)) .nil)) [some (.str (tx T)), some (nD p.length)] μ = .ok (.bl (sin c)) μ := ev_call1 i2 ((quoted (k := k) (by simp)).trans (by rw [List.all_cons, List.all_nil, Bool.and_true]))
        cases hs : sin c with
        | false =>
          rw [hs] at cq
          refine .inr (whl_rt tt (run_rt (ifs_false e92' (run_rt (ifs_false (tv_bl cq) (run_rt (st_ret (ev_var rfl))))))) |>.trans ?_)
          have : wpS (c :: s) = c :: s := by
            cases s with
            | nil => rw [wpS, if_neg h92, if_neg (by rw [hs]; decide)]
            | cons d s => rw [wpS, if_neg h92, if_neg (by rw [hs]; decide)]
          rw [this, List.length_cons, show T.length - (s.length + 1) = p.length by omega]
        | true =>
          rw [hs] at cq
          have : wpS (c :: s) = wpS s := by
            cases s with
            | nil => simp only [wpS, if_neg h92, if_pos hs]
            | cons d s => rw [wpS, if_neg h92, if_pos hs]
          rw [this]
          have q := ih s (p ++ [c]) (by rw [hT]; simp) (by rw [List.length_cons] at hn; omega)
          have bd : runB (gg (k + 1)) wBd [some (.str (tx T)), some (nD p.length)] μ = .nx [some (.str (tx T)), some (nD (p ++ [c]).length)] μ := by
            rw [show (p ++ [c]).length = p.length + 1 by simp]
            exact run_nx (ifs_false e92' (run_nx (ifs_true (tv_bl cq) (run_nx (st_aug rfl ev_cst) run_nil)) run_nil)) run_nil
          rcases q with q | q
          · exact .inl (whl_nx tt bd q)
          · exact .inr (whl_nx tt bd q)
theorem wrong {T p s : List Nat} (hT : T = p ++ s) (hu : T.all uni = true) (hl : T.length ≤ 40000) : (gg (k + 2)).call n_wrong_place [.str (tx T), nD p.length] μ = .ok (nD (T.length - (wpS s).length)) μ := by
  refine call_of c_wrong_place rfl ?_
  have hlm := len_mid hT
  rcases wrong_loop (k := k) (μ := μ) hu hl 100000 s p hT (by omega) with q | q
  · exact run_nx (st_whl q) (run_rt (st_ret (ev_var rfl)))
  · exact run_rt (st_whl q)
end
end PyI.K31
/-! S4: unescaped. -/
namespace PyI.K31
open PySem L2
theorem repl_len {y z : List Nat} (hy : y ≠ []) (hz : z.length ≤ y.length) : ∀ (n : Nat) (l : List Nat), l.length ≤ n → (StrLaws.replL y z l).length ≤ l.length
  | _, [], _ => by rw [StrLaws.replL_nil]; exact Nat.le_refl _
  | 0, c :: r, h => absurd h (by simp)
  | n + 1, c :: r, h => by
    by_cases e : (c :: r).take y.length = y
    · rw [StrLaws.replL_hit hy e]
      have : 1 ≤ y.length := List.length_pos_iff.mpr hy
      have q := congrArg List.length e
      rw [List.length_take] at q
      have := repl_len hy hz n ((c :: r).drop y.length) (by rw [List.length_drop]; simp at *; omega)
      rw [List.length_append]
      rw [List.length_drop] at this
      simp at *
      omega
    · rw [StrLaws.replL_miss e]
      have := repl_len hy hz n r (by simpa using h)
      simpa using this
/-- what is told of a piece -/
def told (p : List Nat) : List Nat := StrLaws.replL [92, 110] [10] (StrLaws.replL [92, 34] [34] p)
theorem told_len (p : List Nat) : (told p).length ≤ p.length := Nat.le_trans (repl_len (by simp) (by simp) _ _ (Nat.le_refl _)) (repl_len (by simp) (by simp) _ _ (Nat.le_refl _))
theorem told_good {p : List Nat} (h : 92 ∉ p) : told (p.flatMap escT) = p := by
  unfold told
  rw [unq1 p h, unq2 p h]
theorem told_bad {v z : List Nat} {d : Nat} (h : 92 ∉ v) (hd : esc d = false) : 92 ∈ told (v.flatMap escT ++ 92 :: d :: z) := by
  unfold esc at hd
  simp only [Bool.or_eq_false_iff, beq_eq_false_iff_ne] at hd
  obtain ⟨⟨d1, d2⟩, d3⟩ := hd
  unfold told
  have e1 : StrLaws.replL [92, 34] [34] (v.flatMap escT ++ 92 :: d :: z) = v.flatMap unqE ++ ([92, d] ++ StrLaws.replL [92, 34] [34] z) := by
    rw [cl1 v h]
    exact congrArg _ (Cl.two (x := 92) (c := d) (d := 34) (z := [34]) d2 d1 z)
  rw [e1, cl2 v h]
  have e2 := Cl.two (x := 92) (c := d) (d := 110) (z := [10]) d3 d1 (StrLaws.replL [92, 34] [34] z)
  rw [e2]
  simp
theorem spl_pre {S : List Nat} : ∀ (x acc : List Nat), ∃ z rest, TL.spl S 0 acc x = (acc ++ z) :: rest ∧ z.length ≤ x.length
  | [], acc => ⟨[], [], by rw [TL.spl_nil, List.append_nil], Nat.le_refl _⟩
  | c :: r, acc => by
    cases h : TL.pre S (c :: r) with
    | true => exact ⟨[], _, by rw [TL.spl_hit h, List.append_nil], Nat.zero_le _⟩
    | false =>
      obtain ⟨z, rest, e1, e2⟩ := spl_pre (S := S) r (acc ++ [c])
      exact ⟨c :: z, rest, by rw [TL.spl_miss h, e1]; simp, by simpa using e2⟩
theorem spl_bad {d : Nat} {x : List Nat} (hd : d ≠ 92) : ∀ (u acc : List Nat), 92 ∉ acc → ∃ (ps : List (List Nat)) (v z : List Nat) (rest : List (List Nat)), TL.spl [92, 92] 0 (acc.flatMap escT) (u.flatMap escT ++ 92 :: d :: x) = ps.map (List.flatMap escT) ++ (v.flatMap escT ++ 92 :: d :: z) :: rest ∧
    (∀ p ∈ ps, 92 ∉ p ∧ p.length ≤ acc.length + u.length) ∧ 92 ∉ v ∧ ps.length ≤ u.length ∧ v.length ≤ acc.length + u.length ∧ z.length ≤ x.length
  | [], acc, ha => by
    obtain ⟨z, rest, e1, e2⟩ := spl_pre (S := [92, 92]) x (acc.flatMap escT ++ [92] ++ [d])
    refine ⟨[], acc, z, rest, ?_, (fun p hp => nomatch hp), ha, Nat.le_refl _, by simp, e2⟩
    show TL.spl [92, 92] 0 _ (92 :: d :: x) = _
    rw [TL.spl_miss (by simp [TL.pre]; exact hd), TL.spl_miss (TL.pre_of_head _ _ hd), e1]
    simp
  | c :: r, acc, ha => by
    rw [List.flatMap_cons, List.append_assoc]
    by_cases hc : c = 92
    · subst hc
      obtain ⟨ps, v, z, rest, e1, e2, e3, e4, e5, e6⟩ := spl_bad (x := x) hd r [] (by simp)
      refine ⟨acc :: ps, v, z, rest, ?_, fun p hp => ?_, e3, by simpa using e4, by simp at *; omega, e6⟩
      · rw [escT_92]
        show TL.spl [92, 92] 0 _ (92 :: 92 :: _) = _
        rw [TL.spl_hit (by simp [TL.pre]), TL.spl_pass]
        exact congrArg (fun l => acc.flatMap escT :: l) e1
      · rcases List.mem_cons.mp hp with rfl | q
        · exact ⟨ha, by simp⟩
        · have := e2 p q
          exact ⟨this.1, by have := this.2; simp at *; omega⟩
    · obtain ⟨ps, v, z, rest, e1, e2, e3, e4, e5, e6⟩ := spl_bad (x := x) hd r (acc ++ [c]) (by simp [ha]; exact fun h => hc h.symm)
      refine ⟨ps, v, z, rest, ?_, fun p hp => ⟨(e2 p hp).1, by have := (e2 p hp).2; simp at *; omega⟩, e3, by simp at *; omega, by simp at *; omega, e6⟩
      rw [← e1, List.flatMap_append, List.flatMap_cons, List.flatMap_nil, List.append_nil]
      by_cases h2 : c = 34
      · subst h2
        rw [escT_34]
        show TL.spl [92, 92] 0 _ (92 :: 34 :: _) = _
        rw [TL.spl_miss (by simp [TL.pre]), TL.spl_miss (by simp [TL.pre])]
        simp
      by_cases h3 : c = 10
      · subst h3
        rw [escT_10]
        show TL.spl [92, 92] 0 _ (92 :: 110 :: _) = _
        rw [TL.spl_miss (by simp [TL.pre]), TL.spl_miss (by simp [TL.pre])]
        simp
      rw [escT_o hc h2 h3]
      show TL.spl [92, 92] 0 _ (c :: _) = _
      rw [TL.spl_miss (TL.pre_of_head _ _ hc)]
      rfl
abbrev uB : B := forB (nthS b_unescaped 1)
section
variable {k : Nat} {μ : Mu} {I : D}
theorem un_told {n : Nat} {p : List Nat} {o2 o3 : Option D} {ν : Mu} (hp : p.length ≤ 100000) : runS (gg k) (nthS uB 0) [some I, some (.ref n), some (.str (tx p)), o3] ν = .nx [some I, some (.ref n), some (.str (tx p)), some (.str (tx (told p)))] ν := by
  have h1 := repl_len (y := [92, 34]) (z := [34]) (by simp) (by simp) p.length p (Nat.le_refl _)
  refine st_setR (evr_repl (evr_repl (evr_base (ev_var rfl)) t_4 t_5 (by simp) ?_) t_14 t_15 (by simp) ?_)
  · show p.length + (p.length + 1) * 1 ≤ _; omega
  · show _ + (_ + 1) * 1 ≤ _; omega
theorem un_loop : ∀ (ps done : List (List Nat)) (o2 o3 : Option D) (rest : List D), (∀ p ∈ ps, 92 ∉ p ∧ p.length ≤ 50000) → done.length + ps.length ≤ 100000 → ∃ o2' o3', ∀ o, forLoop (fbody (gg k) (.nm 2) uB) (chkOf none) rest [some I, some (.ref μ.length), o2', o3'] (μ ++ [.lst ((done ++ ps).map fun p => D.str (tx p))]) = o →
    forLoop (fbody (gg k) (.nm 2) uB) (chkOf none) ((ps.map fun p => D.str (tx (p.flatMap escT))) ++ rest) [some I, some (.ref μ.length), o2, o3] (μ ++ [.lst (done.map fun p => D.str (tx p))]) = o
  | [], done, o2, o3, rest, _, _ => ⟨o2, o3, fun o h => by rw [List.append_nil] at h; exact h⟩
  | p :: ps, done, o2, o3, rest, hp, hl => by
    rw [List.length_cons] at hl
    obtain ⟨h1, h2⟩ := hp p (List.mem_cons_self ..)
    have h3 := (esc_le p).2
    obtain ⟨o2', o3', q⟩ := un_loop ps (done ++ [p]) (some (.str (tx (p.flatMap escT)))) (some (.str (tx p))) rest (fun q hq => hp q (List.mem_cons_of_mem _ hq)) (by simp; omega)
    refine ⟨o2', o3', fun o ho => ?_⟩
    rw [List.append_assoc] at q
    have q' := q o ho
    rw [List.map_cons, List.cons_append]
    refine for_cons_nx (ρ' := [some I, some (.ref μ.length), some (.str (tx (p.flatMap escT))), some (.str (tx p))]) (μ' := μ ++ [.lst ((done ++ [p]).map fun p => D.str (tx p))]) ?_ q'
    refine run_nx (un_told (o2 := o2) (by omega)) ?_
    rw [told_good h1]
    refine run_nx (ifs_false (tv_bl (ev_cmp (ev_cs t_13) (ev_var rfl) ((in_c rfl).trans ?_))) run_nil) ?_
    · rw [decide_eq_false h1]
    · exact run_nx (st_append (μ1 := μ ++ [.lst (done.map fun p => D.str (tx p))]) (μ2 := μ ++ [.lst (done.map fun p => D.str (tx p))]) (ev_var rfl) (ev_var rfl) snoc_get (by rw [List.length_map]; omega) (by rw [snoc_set, List.map_append]; rfl) snoc_get) run_nil
theorem un_it {t : List Nat} {o1 o2 o3 : Option D} {ν : Mu} (hz : t.length ≤ 1000000) : evalIt (gg k) (.seq (.met .split (.var 0) (.cons (.cst (.str "\\\\")) .nil))) [some (.str (tx t)), o1, o2, o3] ν = .ok ((TL.spl [92, 92] 0 [] t).map (fun p => D.str (tx p)), none) ν := by
  refine it_lst (ev_met1 (ev_var rfl) rfl (ev_cs t_2) ?_)
  show needs _ _ = _
  rw [needs_pos ⟨by rw [tx_len]; decide, by rw [tx_len]; omega⟩, tx_split _ _ (by simp) (by decide), List.map_map]
  rfl
theorem unescaped_good {v : List Nat} (hμ : PureM μ) (hl : v.length ≤ 40000) : (gg (k + 1)).call n_unescaped [.str (tx (v.flatMap escT))] μ = .ok (.str (tx v)) μ := by
  have hle := (esc_le v).2
  have hsp : TL.spl [92, 92] 0 [] (v.flatMap escT) = (cut [] v).map (List.flatMap escT) := spl_esc v []
  obtain ⟨o2', o3', q⟩ := un_loop (k := k) (μ := μ) (I := .str (tx (v.flatMap escT))) (cut [] v) [] none none [] (fun p hp => ⟨cut_free v [] (by simp) p hp, by have := cut_mem v [] p hp; simp at this; omega⟩) (by have := cut_count v []; simp; omega)
  have q' := q _ for_nil
  refine call_one c_unescaped hμ rfl (m := .lst ((cut [] v).map fun p => D.str (tx p))) ?_
  refine run_nx (st_new ev_lst0) (run_nx (ρ' := [some (.str (tx (v.flatMap escT))), some (.ref μ.length), o2', o3']) (μ' := μ ++ [.lst ((cut [] v).map fun p => D.str (tx p))]) (for_run' (un_it (by omega)) ?_) (run_rt (st_ret ?_)))
  · rw [hsp, List.map_map]
    rw [List.append_nil] at q'
    exact q'
  · refine ev_met1 (ev_cs t_13) rfl (ev_var rfl) ?_
    have hs : seqD (μ ++ [.lst ((cut [] v).map fun p => D.str (tx p))]) (.ref μ.length) = some ((cut [] v).map fun p => D.str (tx p)) := by
      unfold seqD; simp only [snoc_get]
    have est : strsOf ((cut [] v).map fun p => D.str (tx p)) = some ((cut [] v).map tx) := by
      have := strs_map ((cut [] v).map tx)
      rw [List.map_map] at this
      exact this
    have hsum : ∀ l : List (List Nat), ((l.map tx).map (·.length)).sum + l.length ≤ (TL.joinL [92] l).length + 1 := by
      intro l
      induction l with
      | nil => simp
      | cons p r ih =>
        cases r with
        | nil => simp [TL.joinL, tx_len]
        | cons q r =>
          simp only [TL.joinL, List.map_cons, List.sum_cons, List.length_cons, List.length_append, List.length_nil, tx_len] at *
          omega
    have hj : TL.joinL [92] (cut [] v) = v := cut_join v []
    have h5 := hsum (cut [] v)
    rw [hj] at h5
    show (match (seqD (μ ++ [.lst ((cut [] v).map fun p => D.str (tx p))]) (.ref μ.length)).bind strsOf with
      | some (ys : List Str) => needs ((ys.map (fun y : Str => y.length)).sum + ys.length * (tx [92]).length ≤ 16777216) (Res.ok (D.str (Txt.join (tx [92]) ys)) _)
      | none => .stuck) = _
    rw [hs]
    simp only [Option.bind, est]
    rw [needs_pos (by rw [tx_len, List.length_map]; simp only [List.length_cons, List.length_nil]; omega), tx_join, hj]
theorem unescaped_bad {v x : List Nat} {d : Nat} (hμ : PureM μ) (hd : esc d = false) (hl : v.length + x.length ≤ 40000) : (gg (k + 1)).call n_unescaped [.str (tx (v.flatMap escT ++ 92 :: d :: x))] μ = .ok .non μ := by
  have hle := (esc_le v).2
  have hd92 : d ≠ 92 := by rintro rfl; exact absurd hd (by decide)
  obtain ⟨ps, w, z, rest, e1, e2, e3, e4, e5, e6⟩ := spl_bad (x := x) hd92 v [] (by simp)
  have hsp : TL.spl [92, 92] 0 [] (v.flatMap escT ++ 92 :: d :: x) = ps.map (List.flatMap escT) ++ (w.flatMap escT ++ 92 :: d :: z) :: rest := e1
  obtain ⟨o2', o3', q⟩ := un_loop (k := k) (μ := μ) (I := .str (tx (v.flatMap escT ++ 92 :: d :: x))) ps [] none none (((w.flatMap escT ++ 92 :: d :: z) :: rest).map fun p => D.str (tx p)) (fun p hp => ⟨(e2 p hp).1, by have := (e2 p hp).2; simp at this; omega⟩) (by simp; omega)
  have hw := (esc_le w).2
  simp only [List.length_nil, Nat.zero_add] at e5
  have q' := q (.rt .non (μ ++ [.lst (([] ++ ps).map fun p => D.str (tx p))])) (by
    rw [List.map_cons]
    refine for_cons_rt (run_nx (un_told (o2 := o2') (by simp only [List.length_append, List.length_cons]; omega)) (run_rt (ifs_true (tv_bl (ev_cmp (ev_cs t_13) (ev_var rfl) ((in_c rfl).trans ?_))) (run_rt (st_ret ev_cst)))))
    rw [decide_eq_true (told_bad e3 hd)])
  refine call_one c_unescaped hμ rfl (m := .lst (([] ++ ps).map fun p => D.str (tx p))) ?_
  refine run_nx (st_new ev_lst0) (run_rt (for_run' (un_it (by simp only [List.length_append, List.length_cons]; omega)) ?_))
  rw [hsp, List.map_append, List.map_map]
  exact q'
end
end PyI.K31
/-! S5: texts, read by both. -/
namespace PyI.K31
open PySem L2
def dropB : B → Nat → B
  | b, 0 => b
  | .nil, _ => .nil
  | .cons _ b, n + 1 => dropB b n
/-- a prefix that is masked by itself -/
def Mo (p : List Nat) : Prop := ∃ mp, M p mp ∧ mp.length = p.length
theorem Mo.nil : Mo [] := ⟨[], .nil, rfl⟩
theorem Mo.app {p q : List Nat} (h : Mo p) (g : Mo q) : Mo (p ++ q) := by
  obtain ⟨a, h1, h2⟩ := h
  obtain ⟨b, g1, g2⟩ := g
  exact ⟨a ++ b, h1.app g1, by rw [List.length_append, List.length_append, h2, g2]⟩
theorem Mo.one {c : Nat} (h : c ≠ 92) : Mo [c] := ⟨[c], .one h, rfl⟩
theorem Mo.free {l : List Nat} (h : 92 ∉ l) : Mo l := ⟨l, .free h, rfl⟩
theorem Mo.text (v : List Nat) : Mo (v.flatMap escT) := ⟨_, .text v, esc_len v⟩
theorem find_low (a b w : List Nat) (c : Nat) {i : Int} (hi : i = a.length) (h : c ∉ b) : Txt.find3 (tx (a ++ (b ++ w))) (tx [c]) i = -1 ∨ ∃ j : Nat, Txt.find3 (tx (a ++ (b ++ w))) (tx [c]) i = ((a.length + j : Nat) : Int) ∧ b.length ≤ j ∧ j < (b ++ w).length := by
  have fi : fromIndex (tx (a ++ (b ++ w))).length i = a.length := by
    subst hi
    unfold fromIndex
    rw [if_neg (by omega)]
    omega
  have g : ∀ v, (tx (a ++ (b ++ w))).cps.getD v 0 = (a ++ (b ++ w)).getD v 0 := fun v => by simp [tx]
  rcases StrLaws.find3_spec (tx (a ++ (b ++ w))) c i with ⟨h1, _⟩ | ⟨k, h1, hlo, hlt, hk, _⟩
  · exact .inl h1
  · rw [fi] at hlo
    rw [tx_len, List.length_append] at hlt
    refine .inr ⟨k - a.length, by rw [show a.length + (k - a.length) = k by omega]; exact h1, ?_, by omega⟩
    rcases Nat.lt_or_ge (k - a.length) b.length with q | q
    · rw [g, List.getD, List.getElem?_append_right hlo, List.getElem?_append_left q, List.getElem?_eq_getElem q] at hk
      exact absurd (hk ▸ List.getElem_mem q) h
    · exact q
def rsD {α : Type} (T : List Nat) (f : α → D) : Rs α → D
  | .good a r => .lst [f a, nD (T.length - r.length)]
  | .bad r => .lst [nD (T.length - r.length), .int (-1)]
def rsP {α : Type} (T : List Nat) (f : α → D) (μ : Mu) : Rs α → Res D
  | .good a r => .ok (.tup [f a, nD (T.length - r.length)]) μ
  | .bad r => .err 0 [nD (T.length - r.length)] μ
abbrev sD (u : List Nat) : D := .str (tx u)
section
variable {k : Nat} {μ : Mu}
theorem esc_bad {d : Nat} (h : esc d = false) : d ≠ 92 ∧ d ≠ 34 ∧ d ≠ 110 := by
  unfold esc at h
  simp only [Bool.or_eq_false_iff, beq_eq_false_iff_ne] at h
  exact ⟨h.1.1, h.1.2, h.2⟩
theorem msk34 (v : List Nat) {l : List Nat} (h : 34 ∉ l) : 34 ∉ v.flatMap mskT ++ l := by
  rw [List.mem_append]
  rintro (q | q)
  · exact esc_msk v q
  · exact h q
/-- a text that is wrong -/
theorem quoted_bad {T p s r : List Nat} (hT : T = p ++ s) (hu : T.all uni = true) (hl : T.length ≤ 20000) (hμ : PureM μ) (hm : Mo p) (hw : wpS s = r) (hb : Bk s r) : (gg (k + 3)).call n_read_quoted [.str (tx T), .str (tx (msk T)), nD p.length] μ = .err 0 [nD (T.length - r.length)] μ := by
  obtain ⟨mp, hmp, hml⟩ := hm
  have hz : T.length ≤ 16777216 := by omega
  have hlm := len_mid hT
  have wr : ∀ {x3 x4 x5 : Option D}, evalE (gg (k + 2)) (.call 7 (.cons (.var 0) (.cons (.var 2) .nil))) [some (.str (tx T)), some (.str (tx (msk T))), some (nD p.length), x3, x4, x5] μ = .ok (nD (T.length - r.length)) μ := fun {x3 x4 x5} =>
    ev_call2 (ev_var rfl) (ev_var rfl) ((wrong (k := k) hT hu (by omega)).trans (by rw [hw]))
  have rs : ∀ {x3 x4 x5 : Option D}, runS (gg (k + 2)) (.rse 0 1 (.cons (.call 7 (.cons (.var 0) (.cons (.var 2) .nil))) .nil)) [some (.str (tx T)), some (.str (tx (msk T))), some (nD p.length), x3, x4, x5] μ = .er 0 [nD (T.length - r.length)] [some (.str (tx T)), some (.str (tx (msk T))), some (nD p.length), x3, x4, x5] μ := fun {x3 x4 x5} => st_rse (by show decide (2 ≤ k + 2) = true; exact decide_eq_true (by omega)) wr (by omega)
  have hmT : msk T = mp ++ msk s := by rw [hT]; exact hmp.msk s
  have ef : ∀ {f : Int}, Txt.find3 (tx (msk T)) (tx [34]) (p.length : Int) = f → evalE (gg (k + 2)) (.met .find (.var 1) (.cons (.cst (.str "\"")) (.cons (.var 2) .nil))) [some (.str (tx T)), some (.str (tx (msk T))), some (nD p.length), none, none, none] μ = .ok (.int f) μ := fun {f} h =>
    ev_met2 (ev_var rfl) rfl (ev_cs t_5) (ev_var rfl) (by
      show Res.ok (D.int (Txt.find3 (tx (msk T)) (tx [34]) (p.length : Int))) μ = _
      rw [h])
  -- no quote
  have none_ : Txt.find3 (tx (msk T)) (tx [34]) (p.length : Int) = -1 → (gg (k + 3)).call n_read_quoted [.str (tx T), .str (tx (msk T)), nD p.length] μ = .err 0 [nD (T.length - r.length)] μ := fun h =>
    call_er c_read_quoted rfl (run_nx (st_set (ef h)) (run_er (ifs_true (tv_bl (ev_cmp (ev_var rfl) ev_cst rfl)) (run_er rs))))
  -- a quote, behind at least b
  have some_ : ∀ (b : List Nat) (w : List Nat), msk s = b ++ w → 34 ∉ b → (∀ j, b.length ≤ j → j < s.length → (s.take j).all sin = true → (∃ (x v : List Nat) (d : Nat), s.take j = v.flatMap escT ++ 92 :: d :: x ∧ esc d = false)) → (gg (k + 3)).call n_read_quoted [.str (tx T), .str (tx (msk T)), nD p.length] μ = .err 0 [nD (T.length - r.length)] μ := fun b w h1 h2 h3 => by
    have fl := find_low mp b w 34 (i := (p.length : Int)) (by rw [hml]) h2
    rw [← h1, ← hmT] at fl
    rcases fl with q | ⟨j, q, j1, j2⟩
    · exact none_ q
    · rw [hml] at q
      rw [msk_len] at j2
      have ct : evalE (gg (k + 2)) (.slc (.var 0) (.some (.var 2)) (.some (.var 3))) [some (.str (tx T)), some (.str (tx (msk T))), some (nD p.length), some (nD (p.length + j)), none, none] μ = .ok (.str (tx (s.take j))) μ :=
        ev_slc (ev_var rfl) (ev_var rfl) (ev_var rfl) ((slc_tx hz).trans (by rw [tx_cut T p.length (p.length + j) rfl rfl, hT, List.drop_left' rfl, Nat.add_sub_cancel_left]))
      have hq : (gg (k + 2)).call n_can_be_quoted [.str (tx (s.take j))] μ = .ok (.bl ((s.take j).all sin)) μ := quoted (k := k + 1) (by rw [List.length_take]; omega)
      have go : ∀ {ρ' : Rho}, runB (gg (k + 2)) (dropB b_read_quoted 3) [some (.str (tx T)), some (.str (tx (msk T))), some (nD p.length), some (nD (p.length + j)), some (.str (tx (s.take j))), none] μ = .er 0 [nD (T.length - r.length)] ρ' μ → (gg (k + 3)).call n_read_quoted [.str (tx T), .str (tx (msk T)), nD p.length] μ = .err 0 [nD (T.length - r.length)] μ := fun {ρ'} h =>
        call_er c_read_quoted rfl (run_nx (st_set (ef q)) (run_nx (ifs_false (tv_bl (ev_cmp (ev_var rfl) ev_cst (congrArg (fun b => Res.ok b μ) (decide_eq_false (by omega))))) run_nil) (run_nx (st_set ct) h)))
      cases hs : (s.take j).all sin with
      | false =>
        rw [hs] at hq
        refine go (ρ' := [some (.str (tx T)), some (.str (tx (msk T))), some (nD p.length), some (nD (p.length + j)), some (.str (tx (s.take j))), none]) ?_
        exact run_er (ifs_true (tv_not (tv_bl (ev_call1 (ev_var rfl) hq))) (run_er rs))
      | true =>
        rw [hs] at hq
        obtain ⟨x, v, d, e1, e2⟩ := h3 j j1 j2 hs
        have hx := congrArg List.length e1
        rw [List.length_take, List.length_append, List.length_cons, List.length_cons] at hx
        have hv := (esc_le v).1
        have hun := unescaped_bad (k := k + 1) (μ := μ) (v := v) (x := x) hμ e2 (by omega)
        rw [← e1] at hun
        refine go (ρ' := [some (.str (tx T)), some (.str (tx (msk T))), some (nD p.length), some (nD (p.length + j)), some (.str (tx (s.take j))), some .non]) ?_
        refine run_nx (ifs_false (tv_not (tv_bl (ev_call1 (ev_var rfl) hq))) run_nil) ?_
        refine run_nx (ifs_false (tv_bl (ev_cmp (ev_cs t_13) (ev_var rfl) ((notin_c rfl).trans ?_))) run_nil) ?_
        · rw [decide_eq_true (by rw [e1]; simp)]; rfl
        refine run_nx (st_set (ev_call1 (ev_var rfl) hun)) (run_er (ifs_true (tv_bl (ev_cmp (ev_var rfl) ev_cst rfl)) (run_er rs)))
  cases hb with
  | ends v h1 h2 h3 =>
    refine some_ (v.flatMap mskT) [] (by rw [h2]; have := msk_txt v []; rw [List.append_nil, msk_nil] at this; exact this) (esc_msk v) (fun j a b _ => ?_)
    rw [h2, ← esc_len] at b; omega
  | bsl v h1 h2 h3 =>
    refine some_ (v.flatMap mskT ++ [92]) [] (by rw [h2, msk_txt, msk_end, List.append_nil]) (msk34 v (by decide)) (fun j a b _ => ?_)
    rw [h2, List.length_append, ← esc_len] at b
    rw [List.length_append] at a; omega
  | sign v c s' h1 h2 h3 h4 =>
    have hc : c ≠ 92 ∧ c ≠ 34 := ⟨by rintro rfl; exact absurd h4 (by decide), by rintro rfl; exact absurd h4 (by decide)⟩
    refine some_ (v.flatMap mskT ++ [c]) (msk s') (by rw [h2, msk_txt, msk_one hc.1, List.append_assoc]; rfl) (msk34 v (by simp [hc.2.symm])) (fun j a b hs => ?_)
    rw [List.length_append, esc_len, List.length_singleton] at a
    have hj : s.take j = (v.flatMap escT ++ [c]) ++ s'.take (j - (v.flatMap escT ++ [c]).length) := by
      rw [h2, show v.flatMap escT ++ c :: s' = (v.flatMap escT ++ [c]) ++ s' by simp, List.take_append, List.take_of_length_le (by rw [List.length_append, List.length_singleton]; omega)]
    rw [hj, List.all_append, List.all_append, List.all_cons, h4] at hs
    simp at hs
  | escb v d s' h1 h2 h3 h4 =>
    have hd := esc_bad h4
    refine some_ (v.flatMap mskT ++ [92, d]) (msk s') (by rw [h2, msk_txt, msk_bs hd.1 hd.2.1, List.append_assoc]; rfl) (msk34 v (by simp [hd.2.1.symm])) (fun j a b hs => ?_)
    rw [List.length_append, esc_len, show ([92, d] : List Nat).length = 2 from rfl] at a
    refine ⟨s'.take (j - (v.flatMap escT ++ [92, d]).length), v, d, ?_, h4⟩
    rw [h2, show v.flatMap escT ++ 92 :: d :: s' = (v.flatMap escT ++ [92, d]) ++ s' by simp, List.take_append, List.take_of_length_le (by rw [List.length_append, show ([92, d] : List Nat).length = 2 from rfl]; omega)]
    simp
theorem quoted_good {T p r v : List Nat} (hT : T = p ++ (v.flatMap escT ++ 34 :: r)) (hl : T.length ≤ 20000) (hv : v.all sgn = true) (hμ : PureM μ) (hm : Mo p) : (gg (k + 3)).call n_read_quoted [.str (tx T), .str (tx (msk T)), nD p.length] μ = .ok (.tup [sD v, nD (T.length - r.length)]) μ := by
  obtain ⟨mp, hmp, hml⟩ := hm
  have hz : T.length ≤ 16777216 := by omega
  have hlm := len_mid hT
  rw [List.length_append, List.length_cons] at hlm
  have hle := (esc_le v).1
  have hmT : msk T = mp ++ (v.flatMap mskT ++ 34 :: msk r) := by rw [hT, hmp.msk, msk_txt, msk_one (by decide)]
  have ef : Txt.find3 (tx (msk T)) (tx [34]) (p.length : Int) = ((p.length + (v.flatMap escT).length : Nat) : Int) := by
    rw [hmT, tx_find _ _ _ _ (by rw [hml]) (esc_msk v), hml, esc_len]
  have e1 : evalE (gg (k + 2)) (.met .find (.var 1) (.cons (.cst (.str "\"")) (.cons (.var 2) .nil))) [some (.str (tx T)), some (.str (tx (msk T))), some (nD p.length), none, none, none] μ = .ok (nD (p.length + (v.flatMap escT).length)) μ :=
    ev_met2 (ev_var rfl) rfl (ev_cs t_5) (ev_var rfl) (by
      show Res.ok (D.int (Txt.find3 (tx (msk T)) (tx [34]) (p.length : Int))) μ = _
      rw [ef])
  have ct : evalE (gg (k + 2)) (.slc (.var 0) (.some (.var 2)) (.some (.var 3))) [some (.str (tx T)), some (.str (tx (msk T))), some (nD p.length), some (nD (p.length + (v.flatMap escT).length)), none, none] μ = .ok (.str (tx (v.flatMap escT))) μ :=
    ev_slc (ev_var rfl) (ev_var rfl) (ev_var rfl) ((slc_tx hz).trans (by rw [hT, cut_mid p (v.flatMap escT) (34 :: r) rfl (by omega)]))
  have hq : (gg (k + 2)).call n_can_be_quoted [.str (tx (v.flatMap escT))] μ = .ok (.bl true) μ := (quoted (k := k + 1) (by omega)).trans (by rw [show (v.flatMap escT).all sin = true from esc_sin hv])
  have pos : p.length + (v.flatMap escT).length + 1 = T.length - r.length := by omega
  refine call_of c_read_quoted rfl (run_nx (st_set e1) (run_nx (ifs_false (tv_bl (ev_cmp (ev_var rfl) ev_cst (congrArg (fun b => Res.ok b μ) (decide_eq_false (by omega))))) run_nil) (run_nx (st_set ct) (run_nx (ifs_false (tv_not (tv_bl (ev_call1 (ev_var rfl) hq))) run_nil) ?_))))
  rw [← pos]
  by_cases h92 : 92 ∈ v.flatMap escT
  · refine run_nx (ifs_false (tv_bl (ev_cmp (ev_cs t_13) (ev_var rfl) ((notin_c rfl).trans ?_))) run_nil) ?_
    · rw [decide_eq_true h92]; rfl
    refine run_nx (st_set (ev_call1 (ev_var rfl) (unescaped_good (k := k + 1) (v := v) hμ (by omega)))) (run_nx (ifs_false (tv_bl (ev_cmp (ev_var rfl) ev_cst rfl)) run_nil) (run_rt (st_ret (ev_tup2 (ev_var rfl) (ev_add1 (ev_var rfl))))))
  · refine run_rt (ifs_true (tv_bl (ev_cmp (ev_cs t_13) (ev_var rfl) ((notin_c rfl).trans ?_))) (run_rt (st_ret ?_)))
    · rw [decide_eq_false h92]; rfl
    · rw [esc_none h92]
      exact ev_tup2 (ev_var rfl) (ev_add1 (ev_var rfl))
theorem read_quoted {T p s : List Nat} (hT : T = p ++ s) (hu : T.all uni = true) (hl : T.length ≤ 20000) (hμ : PureM μ) (hm : Mo p) : (gg (k + 3)).call n_read_quoted [.str (tx T), .str (tx (msk T)), nD p.length] μ = rsP T sD μ (txtS [] s) := by
  cases h : txtS [] s with
  | good u r =>
    obtain ⟨v, e1, e2, e3⟩ := txt_good h
    rw [List.nil_append] at e1
    subst e1
    subst e2
    exact quoted_good hT hl e3 hμ hm
  | bad r =>
    obtain ⟨e1, e2⟩ := txt_bad h
    exact quoted_bad hT hu hl hμ hm e1 e2
end
end PyI.K31
/-! S6: the law's own reading of a text. -/
namespace PyI.K31
open PySem L2
abbrev lB : B := forB (nthS b_law_text_at 1)
section
variable {k : Nat} {μ : Mu}
theorem dgt_una {Γ : G} {ρ : Rho} {a : E} {d : Nat} (ha : evalE Γ a ρ μ = .ok (.str (tx [d])) μ) : evalE Γ (.dgt [("n", (.str "\n"))] a a) ρ μ = .ok (.str (tx [una d])) μ := by
  rw [evalE, ha, bind_ok, ha, bind_ok]
  show Res.ok ((if tx [d] = "n" then some (D.str "\n") else none : Option D).getD (D.str (tx [d]))) μ = _
  rw [t_16, t_15]
  unfold una
  by_cases h : d = 110
  · subst h; rw [if_pos rfl, if_pos rfl]; rfl
  · rw [if_neg (fun z => h (by have := tx_inj.mp z; simpa using this)), if_neg h]; rfl
theorem ev_pairm1 {Γ : G} {ρ : Rho} {a : E} {d : D} (ha : evalE Γ a ρ μ = .ok d μ) : evalE Γ (.lst (.cons a (.cons (.neg (.cst (.int 1))) .nil))) ρ μ = .ok (.lst [d, .int (-1)]) μ := ev_lst2 ha ev_m1
theorem txt_mem {d : Nat} : (!decide (d ∈ ([92, 34, 110] : List Nat))) = !esc d := by
  unfold esc
  congr 1
  rw [Bool.eq_iff_iff]
  simp [or_assoc]
theorem sin_test {Γ : G} {ρ : Rho} {c : Nat} (h : ρ[4]? = some (some (.str (tx [c])))) : evalT Γ (.or (.val (.cmp .lt (.var 4) (.cst (.str " ")))) (.or (.val (.cmp .gt (.var 4) (.cst (.str "~")))) (.val (.cmp .eq (.bif .ord (.cons (.var 4) .nil)) (.cst (.int 37)))))) ρ μ = .ok (!sin c) μ := by
  have a1 : evalT Γ (.val (.cmp .lt (.var 4) (.cst (.str " ")))) ρ μ = .ok (decide (c < 32)) μ := tv_bl (ev_cmp (ev_var h) ev_cst (lt_c t_8))
  have a2 : evalT Γ (.val (.cmp .gt (.var 4) (.cst (.str "~")))) ρ μ = .ok (decide (126 < c)) μ := tv_bl (ev_cmp (ev_var h) ev_cst (gt_c t_22))
  have od : bifD .ord [.str (tx [c])] μ = .ok (nD c) μ := by
    show needs ((tx [c]).length = 1) _ = _
    rw [needs_pos (by rw [tx_len]; rfl)]
    rfl
  have a3 : evalT Γ (.val (.cmp .eq (.bif .ord (.cons (.var 4) .nil)) (.cst (.int 37)))) ρ μ = .ok (decide (c = 37)) μ := tv_bl (ev_cmp (ev_bif1 (ev_var h) od) ev_cst (eq_n (b := 37)))
  unfold sin
  by_cases h1 : c < 32
  · rw [decide_eq_true h1] at a1
    rw [tv_or_t a1, decide_eq_false (show ¬ 32 ≤ c by omega)]; rfl
  rw [decide_eq_false h1] at a1
  by_cases h2 : 126 < c
  · rw [decide_eq_true h2] at a2
    rw [tv_or_f a1 (tv_or_t a2), decide_eq_true (show 32 ≤ c by omega), decide_eq_false (show ¬ c ≤ 126 by omega)]; rfl
  rw [decide_eq_false h2] at a2
  rw [tv_or_f a1 (tv_or_f a2 a3), decide_eq_true (show 32 ≤ c by omega), decide_eq_true (show c ≤ 126 by omega)]
  by_cases h3 : c = 37
  · subst h3; rfl
  · rw [decide_eq_false h3]
    simp [h3]
theorem text_loop {T : List Nat} (hu : T.all uni = true) (hl : T.length ≤ 40000) : ∀ (ds : List D) (s p acc : List Nat) (o3 o4 : Option D), T = p ++ s → s.length < ds.length → acc.length + s.length ≤ 40000 →
    forLoop (fbody (gg k) (.nm 3) lB) (chkOf none) ds [some (.str (tx T)), some (nD p.length), some (.str (tx acc)), o3, o4] μ = .rt (rsD T sD (txtS acc s)) μ := by
  intro ds
  induction ds with
  | nil => intro s p acc o3 o4 _ h; exact absurd h (Nat.not_lt_zero _)
  | cons x ds ih =>
    intro s p acc o3 o4 hT hn ha
    have hz : T.length ≤ 16777216 := by omega
    have hlm := len_mid hT
    have ln : ∀ {a b c d e : Option D}, a = some (.str (tx T)) → evalE (gg k) (.bif .len (.cons (.var 0) .nil)) [a, b, c, d, e] μ = .ok (nD T.length) μ := fun h => by subst h; exact ev_bif1 (ev_var rfl) (len_tx hz)
    have t0 : evalT (gg k) (.val (.cmp .ge (.var 1) (.bif .len (.cons (.var 0) .nil)))) [some (.str (tx T)), some (nD p.length), some (.str (tx acc)), some x, o4] μ = .ok (decide (T.length ≤ p.length)) μ := tv_bl (ev_cmp (ev_var rfl) (ln rfl) ge_n)
    match s, hT, hn, hlm, ha with
    | [], hT, hn, hlm, ha =>
      refine for_cons_rt (run_rt (ifs_true (t0.trans ?_) (run_rt (st_ret (ev_pairm1 (ln rfl))))))
      rw [decide_eq_true (by rw [hlm]; simp)]
    | c :: s, hT, hn, hlm, ha =>
      simp only [List.length_cons] at hlm ha hn
      have hc := uni_mid hT hu
      have t0' : evalT (gg k) (.val (.cmp .ge (.var 1) (.bif .len (.cons (.var 0) .nil)))) [some (.str (tx T)), some (nD p.length), some (.str (tx acc)), some x, o4] μ = .ok false μ := t0.trans (by rw [decide_eq_false (by omega)])
      have i1 : evalE (gg k) (.idx (.var 0) (.var 1)) [some (.str (tx T)), some (nD p.length), some (.str (tx acc)), some x, o4] μ = .ok (.str (tx [c])) μ := ev_idx (ev_var rfl) (ev_var rfl) (ix_str hz (at_mid hT))
      have e34 : evalT (gg k) (.val (.cmp .eq (.var 4) (.cst (.str "\"")))) [some (.str (tx T)), some (nD p.length), some (.str (tx acc)), some x, some (.str (tx [c]))] μ = .ok (c == 34) μ := tv_bl (ev_cmp (ev_var rfl) ev_cst (eq_c t_5 hc (by decide)))
      have e92 : evalT (gg k) (.val (.cmp .eq (.var 4) (.cst (.str "\\")))) [some (.str (tx T)), some (nD p.length), some (.str (tx acc)), some x, some (.str (tx [c]))] μ = .ok (c == 92) μ := tv_bl (ev_cmp (ev_var rfl) ev_cst (eq_c t_13 hc (by decide)))
      by_cases h34 : c = 34
      · subst h34
        have et : txtS acc (34 :: s) = .good acc s := by cases s <;> rfl
        rw [et]
        refine for_cons_rt (run_nx (ifs_false t0' run_nil) (run_nx (st_set i1) (run_rt (ifs_true e34 (run_rt (st_ret (ev_lst2 (ev_var rfl) ((ev_add1 (ev_var rfl)).trans ?_))))))))
        rw [show p.length + 1 = T.length - s.length by omega]
      rw [beq_eq_false_iff_ne.mpr h34] at e34
      by_cases h92 : c = 92
      · subst h92
        match s, hT, hn, hlm, ha with
        | [], hT, hn, hlm, ha =>
          refine for_cons_rt (run_nx (ifs_false t0' run_nil) (run_nx (st_set i1) (run_nx (ifs_false e34 run_nil) (run_rt (ifs_true e92 (run_rt (ifs_true (tv_bl (ev_cmp (ev_add1 (ev_var rfl)) (ln rfl) (ge_n.trans ?_))) (run_rt (st_ret (ev_pairm1 (ln rfl)))))))))))
          rw [decide_eq_true (by rw [hlm]; simp)]
        | d :: s, hT, hn, hlm, ha =>
          simp only [List.length_cons] at hlm ha hn
          have t1 : ∀ {ρ4}, evalT (gg k) (.val (.cmp .ge (.bin .add (.var 1) (.cst (.int 1))) (.bif .len (.cons (.var 0) .nil)))) [some (.str (tx T)), some (nD p.length), some (.str (tx acc)), some x, ρ4] μ = .ok false μ := fun {ρ4} => tv_bl (ev_cmp (ev_add1 (ev_var rfl)) (ln rfl) (ge_n.trans (by rw [decide_eq_false (by omega)])))
          have i2 : ∀ {ρ4}, evalE (gg k) (.idx (.var 0) (.bin .add (.var 1) (.cst (.int 1)))) [some (.str (tx T)), some (nD p.length), some (.str (tx acc)), some x, ρ4] μ = .ok (.str (tx [d])) μ := fun {ρ4} => ev_idx (ev_var rfl) (ev_add1 (ev_var rfl)) (ix_str hz (at_mid2 hT))
          have t2 : ∀ {ρ4}, evalT (gg k) (.val (.cmp .notin (.idx (.var 0) (.bin .add (.var 1) (.cst (.int 1)))) (.cst (.str "\\\"n")))) [some (.str (tx T)), some (nD p.length), some (.str (tx acc)), some x, ρ4] μ = .ok (!esc d) μ := fun {ρ4} => tv_bl (ev_cmp i2 ev_cst ((notin_c t_21).trans (by rw [txt_mem])))
          cases he : esc d with
          | false =>
            have et : txtS acc (92 :: d :: s) = .bad (d :: s) := by rw [txtS, if_neg (by decide), if_pos rfl, if_neg (by rw [he]; decide)]
            rw [et]
            refine for_cons_rt (run_nx (ifs_false t0' run_nil) (run_nx (st_set i1) (run_nx (ifs_false e34 run_nil) (run_rt (ifs_true e92 (run_nx (ifs_false t1 run_nil) (run_rt (ifs_true (t2.trans ?_) (run_rt (st_ret (ev_pairm1 ((ev_add1 (ev_var rfl)).trans ?_)))))))))))) 
            · rw [he]; rfl
            · rw [List.length_cons, show p.length + 1 = T.length - (s.length + 1) by omega]
          | true =>
            have et : txtS acc (92 :: d :: s) = txtS (acc ++ [una d]) s := by rw [txtS, if_neg (by decide), if_pos rfl, if_pos he]
            rw [et]
            have q := ih s (p ++ [92, d]) (acc ++ [una d]) (some x) (some (.str (tx [92]))) (by rw [hT]; simp) (by omega) (by rw [List.length_append, List.length_singleton]; omega)
            rw [show (p ++ [92, d]).length = p.length + 2 by simp] at q
            refine for_cons_nx (run_nx (ifs_false t0' run_nil) (run_nx (st_set i1) (run_nx (ifs_false e34 run_nil) (run_nx (ifs_true e92 (run_nx (ifs_false t1 run_nil) (run_nx (ifs_false (t2.trans ?_) run_nil) (run_nx (st_set (ev_add (ev_var rfl) (dgt_una i2) (by rw [List.length_singleton]; omega))) (run_nx (st_set (ev_add2 (ev_var rfl))) run_nil))))) run_nil)))) q
            rw [he]; rfl
      rw [beq_eq_false_iff_ne.mpr h92] at e92
      cases hs : sin c with
      | false =>
        have et : txtS acc (c :: s) = .bad (c :: s) := by
          cases s with
          | nil => simp only [txtS, if_neg h34, if_neg h92, if_neg (show ¬ sin c = true by rw [hs]; decide)]
          | cons d s => rw [txtS, if_neg h34, if_neg h92, if_neg (by rw [hs]; decide)]
        rw [et]
        refine for_cons_rt (run_nx (ifs_false t0' run_nil) (run_nx (st_set i1) (run_nx (ifs_false e34 run_nil) (run_rt (ifs_false e92 (run_rt (ifs_true ((sin_test rfl).trans (by rw [hs]; rfl)) (run_rt (st_ret (ev_pairm1 ((ev_var rfl).trans ?_)))))))))))
        rw [List.length_cons, show T.length - (s.length + 1) = p.length by omega]
      | true =>
        have et : txtS acc (c :: s) = txtS (acc ++ [c]) s := by
          cases s with
          | nil => simp only [txtS, if_neg h34, if_neg h92, if_pos hs]
          | cons d s => rw [txtS, if_neg h34, if_neg h92, if_pos hs]
        rw [et]
        have q := ih s (p ++ [c]) (acc ++ [c]) (some x) (some (.str (tx [c]))) (by rw [hT]; simp) (by omega) (by rw [List.length_append, List.length_singleton]; omega)
        rw [show (p ++ [c]).length = p.length + 1 by simp] at q
        exact for_cons_nx (run_nx (ifs_false t0' run_nil) (run_nx (st_set i1) (run_nx (ifs_false e34 run_nil) (run_nx (ifs_false e92 (run_nx (ifs_false ((sin_test rfl).trans (by rw [hs]; rfl)) (run_nx (st_set (ev_add (ev_var rfl) (ev_var rfl) (by rw [List.length_singleton]; omega))) (run_nx (st_set (ev_add1 (ev_var rfl))) run_nil))) run_nil)) run_nil)))) q
theorem text_at {T p s : List Nat} (hT : T = p ++ s) (hu : T.all uni = true) (hl : T.length ≤ 20000) : (gg (k + 1)).call n_law_text_at [.str (tx T), nD p.length] μ = .ok (rsD T sD (txtS [] s)) μ := by
  have hlm := len_mid hT
  refine call_of c_law_text_at rfl (run_nx (st_set (ev_cs t_20)) (run_rt (for_run' (it_rng1 (n := T.length + 1) (ev_add1 (ev_bif1 (ev_var rfl) (len_tx (by omega)))) rfl (by omega)) (text_loop hu (by omega) _ s p [] none none hT ?_ ?_))))
  · rw [rng0, List.length_map, List.length_range]; omega
  · rw [List.length_nil]; omega
end
end PyI.K31
/-! S7: numbers, read by both. -/
namespace PyI.K31
open PySem L2
def dg (c : Nat) : Bool := decide (48 ≤ c) && decide (c ≤ 57)
def hdB : List Nat → Bool
  | [] => false
  | c :: _ => dg c
def hd1B : List Nat → Bool
  | [] => false
  | c :: _ => dg c && c != 48
/-- what is read at a place: over: a number of more than 20 digits -/
inductive Oc where
  | good (v : D) (r : List Nat)
  | bad (r : List Nat)
  | over (v : D) (r : List Nat)
def Oc.rest : Oc → List Nat
  | .good _ r => r
  | .bad r => r
  | .over _ r => r
def ocL (T : List Nat) : Oc → D
  | .good v r => .lst [v, nD (T.length - r.length)]
  | .bad r => .lst [nD (T.length - r.length), .int (-1)]
  | .over _ r => .lst [nD (T.length - r.length), .int (-1)]
def ocP (T : List Nat) (μ : Mu) : Oc → Res D
  | .good v r => .ok (.tup [v, nD (T.length - r.length)]) μ
  | .bad r => .err 0 [nD (T.length - r.length)] μ
  | .over v r => .ok (.tup [v, nD (T.length - r.length)]) μ
theorem span_dg : ∀ s : List Nat, ∃ ds r, s = ds ++ r ∧ (∀ c ∈ ds, dg c = true) ∧ (r = [] ∨ ∃ c q, r = c :: q ∧ dg c = false)
  | [] => ⟨[], [], rfl, (fun c h => nomatch h), .inl rfl⟩
  | c :: s => by
    cases h : dg c with
    | false => exact ⟨[], c :: s, rfl, (fun c h => nomatch h), .inr ⟨c, s, rfl, h⟩⟩
    | true =>
      obtain ⟨ds, r, e1, e2, e3⟩ := span_dg s
      refine ⟨c :: ds, r, by rw [e1]; rfl, fun d hd => ?_, e3⟩
      rcases List.mem_cons.mp hd with rfl | q
      · exact h
      · exact e2 d q
section
variable {k : Nat} {μ : Mu} {T P p ds r sg s : List Nat}
theorem slc1 (hz : T.length ≤ 16777216) (hT : T = P ++ s) : slcD (.str (tx T)) (some (P.length : Int)) (some ((P.length + 1 : Nat) : Int)) μ = .ok (.str (tx (s.take 1))) μ := by
  rw [slc_tx hz, tx_cut T P.length (P.length + 1) rfl rfl, hT, List.drop_left' rfl, Nat.add_sub_cancel_left]
theorem dig_test {Γ : G} {ρ : Rho} {e : E} {s : List Nat} (h : evalE Γ e ρ μ = .ok (.str (tx (s.take 1))) μ) : evalE Γ (.chn .le .le (.cst (.str "0")) e (.cst (.str "9"))) ρ μ = .ok (.bl (hdB s)) μ := by
  match s, h with
  | [], h => exact ev_chn_f ev_cst h (le_el t_10)
  | c :: s, h =>
    have h' : evalE Γ e ρ μ = .ok (.str (tx [c])) μ := h
    by_cases q : 48 ≤ c
    · refine (ev_chn_t ev_cst h' ((le_cl t_10).trans (by rw [decide_eq_true q])) ev_cst (le_cr t_12)).trans ?_
      show _ = Res.ok (D.bl (decide (48 ≤ c) && decide (c ≤ 57))) μ
      rw [decide_eq_true q, Bool.true_and]
    · refine (ev_chn_f ev_cst h' ((le_cl t_10).trans (by rw [decide_eq_false q]))).trans ?_
      show _ = Res.ok (D.bl (decide (48 ≤ c) && decide (c ≤ 57))) μ
      rw [decide_eq_false q, Bool.false_and]
theorem dig1_test {Γ : G} {ρ : Rho} {e : E} {s : List Nat} (h : evalE Γ e ρ μ = .ok (.str (tx (s.take 1))) μ) : evalE Γ (.chn .le .le (.cst (.str "1")) e (.cst (.str "9"))) ρ μ = .ok (.bl (hd1B s)) μ := by
  match s, h with
  | [], h => exact ev_chn_f ev_cst h (le_el t_11)
  | c :: s, h =>
    have h' : evalE Γ e ρ μ = .ok (.str (tx [c])) μ := h
    by_cases q : 49 ≤ c
    · refine (ev_chn_t ev_cst h' ((le_cl t_11).trans (by rw [decide_eq_true q])) ev_cst (le_cr t_12)).trans ?_
      show _ = Res.ok (D.bl ((decide (48 ≤ c) && decide (c ≤ 57)) && c != 48)) μ
      rw [decide_eq_true (show 48 ≤ c by omega), Bool.true_and, show (c != 48) = true by simp; omega, Bool.and_true]
    · refine (ev_chn_f ev_cst h' ((le_cl t_11).trans (by rw [decide_eq_false q]))).trans ?_
      show _ = Res.ok (D.bl ((decide (48 ≤ c) && decide (c ≤ 57)) && c != 48)) μ
      by_cases z : 48 ≤ c
      · rw [show c = 48 by omega]; rfl
      · rw [decide_eq_false z]; rfl
abbrev nT : PyI.T := whlT (nthS b_read_number 5)
abbrev nB : B := forB (nthS b_read_number 5)
theorem num_loop {x1 x3 : Option D} (hT : T = P ++ (ds ++ r)) (hz : T.length ≤ 16777216) (hd : ∀ c ∈ ds, dg c = true) (hr : r = [] ∨ ∃ c q, r = c :: q ∧ dg c = false) : ∀ (n j : Nat), j ≤ min ds.length 20 → min ds.length 20 - j < n →
    whileLoop (fun ρ μ => evalT (gg k) nT ρ μ) (fun ρ μ => runB (gg k) nB ρ μ) n [some (.str (tx T)), x1, some (nD P.length), x3, some (nD (P.length + j))] μ = .nx [some (.str (tx T)), x1, some (nD P.length), x3, some (nD (P.length + min ds.length 20))] μ := by
  intro n
  induction n with
  | zero => intro j _ h; exact absurd h (Nat.not_lt_zero _)
  | succ n ih =>
    intro j hj hn
    have t1 : evalT (gg k) (.val (.cmp .lt (.var 4) (.bin .add (.var 2) (.glob 0)))) [some (.str (tx T)), x1, some (nD P.length), x3, some (nD (P.length + j))] μ = .ok (decide (P.length + j < P.length + 20)) μ := tv_bl (ev_cmp (ev_var rfl) (ev_bin (ev_var rfl) (ev_glob rfl) rfl) (lt_n (b := P.length + 20)))
    have hT2 : T = (P ++ ds.take j) ++ (ds.drop j ++ r) := by
      rw [hT, List.append_assoc, ← List.append_assoc (ds.take j), List.take_append_drop]
    have hPl : (P ++ ds.take j).length = P.length + j := by rw [List.length_append, List.length_take, Nat.min_eq_left (by omega)]
    have sl := slc1 (μ := μ) hz hT2
    rw [hPl] at sl
    have t2 := tv_bl (dig_test (Γ := gg k) (ρ := [some (.str (tx T)), x1, some (nD P.length), x3, some (nD (P.length + j))]) (e := .slc (.var 0) (.some (.var 4)) (.some (.bin .add (.var 4) (.cst (.int 1))))) (μ := μ) (s := ds.drop j ++ r) (ev_slc (ev_var rfl) (ev_var rfl) (ev_add1 (ev_var rfl)) sl))
    by_cases hlt : j < min ds.length 20
    · rw [decide_eq_true (by omega)] at t1
      obtain ⟨c, q, hc⟩ : ∃ c q, ds.drop j = c :: q := by
        cases h : ds.drop j with
        | nil => have := congrArg List.length h; simp at this; omega
        | cons c q => exact ⟨c, q, rfl⟩
      have hcd : dg c = true := hd c (List.mem_of_mem_drop (i := j) (by rw [hc]; exact List.mem_cons_self ..))
      rw [hc] at t2
      have t2' : evalT (gg k) _ _ μ = .ok true μ := t2.trans (congrArg (fun b => Res.ok b μ) hcd)
      exact whl_nx (tv_and_t t1 t2') (run_nx (st_aug rfl ev_cst) run_nil) (ih (j + 1) (by omega) (by omega))
    · have hjm : j = min ds.length 20 := by omega
      by_cases h20 : j < 20
      · rw [decide_eq_true (by omega)] at t1
        have hdr : ds.drop j = [] := List.drop_eq_nil_of_le (by omega)
        rw [hdr, List.nil_append] at t2
        have t2' : evalT (gg k) _ _ μ = .ok false μ := t2.trans (by
          rcases hr with rfl | ⟨c, q, rfl, hc⟩
          · rfl
          · exact congrArg (fun b => Res.ok b μ) hc)
        refine (whl_stop (tv_and_t t1 t2')).trans ?_
        rw [← hjm]
      · rw [decide_eq_false (by omega)] at t1
        refine (whl_stop (tv_and_f t1)).trans ?_
        rw [← hjm]
/-- a sign, and what follows it -/
def Sg (sg s : List Nat) : Prop := sg = [45] ∨ (sg = [] ∧ ∀ c r, s = c :: r → c ≠ 45)
theorem sg_cases (s : List Nat) : ∃ sg s1, s = sg ++ s1 ∧ Sg sg s1 := by
  cases s with
  | nil => exact ⟨[], [], rfl, .inr ⟨rfl, (fun c r h => nomatch h)⟩⟩
  | cons c r =>
    by_cases h : c = 45
    · subst h; exact ⟨[45], r, rfl, .inl rfl⟩
    · exact ⟨[], c :: r, rfl, .inr ⟨rfl, fun d q e => by cases e; exact h⟩⟩
theorem start_ok {x3 x4 x5 : Option D} (hT : T = p ++ (sg ++ s)) (hz : T.length ≤ 16777216) (hu : T.all uni = true) (h : Sg sg s) : evalE (gg k) (.ite (.val (.cmp .eq (.slc (.var 0) (.some (.var 1)) (.some (.bin .add (.var 1) (.cst (.int 1))))) (.cst (.str "-")))) (.bin .add (.var 1) (.cst (.int 1))) (.var 1)) [some (.str (tx T)), some (nD p.length), x3, x4, x5] μ = .ok (nD (p ++ sg).length) μ := by
  have sl := slc1 (μ := μ) hz hT
  have ev : evalE (gg k) (.slc (.var 0) (.some (.var 1)) (.some (.bin .add (.var 1) (.cst (.int 1))))) [some (.str (tx T)), some (nD p.length), x3, x4, x5] μ = .ok (.str (tx ((sg ++ s).take 1))) μ := ev_slc (ev_var rfl) (ev_var rfl) (ev_add1 (ev_var rfl)) sl
  rcases h with rfl | ⟨rfl, h⟩
  · rw [List.length_append]
    exact ev_ite_true (tv_bl (ev_cmp ev ev_cst (eq_c t_9 (by decide) (by decide)))) (ev_add1 (ev_var rfl))
  · rw [List.append_nil]
    refine ev_ite_false (tv_bl (ev_cmp (k := false) ev ev_cst ?_)) (ev_var rfl)
    cases s with
    | nil => exact eq_e t_9 (by decide)
    | cons c q =>
      refine (eq_c t_9 (uni_mid (p := p) (s := q) hT hu) (by decide)).trans ?_
      rw [beq_eq_false_iff_ne.mpr (h c q rfl)]
/-- the digits' value -/
def numV (sg ds : List Nat) : Int := if sg = [] then ((NumText.digitsVal ds : Nat) : Int) else -((NumText.digitsVal ds : Nat) : Int)
theorem num_val (h : Sg sg s) (hd : ∀ c ∈ ds, dg c = true) (hne : ds ≠ []) (hl : ds.length ≤ 20) : bifD .int [.str (tx (sg ++ ds))] μ = .ok (.int (numV sg ds)) μ := by
  have ha : NumText.AllDigits ds := fun c hc => by
    have := hd c hc
    unfold dg at this
    simpa using this
  have hi : intText? (tx (sg ++ ds)) = some (numV sg ds) := by
    rcases h with rfl | ⟨rfl, _⟩
    · rw [PySem.intText_neg (cs := ds) rfl ha hne (by rw [tx_len]; simp; omega)]; rfl
    · rw [List.nil_append, PySem.intText_digits (by rw [tx_l]; exact ha) (by rw [tx_l]; exact hne) (by rw [tx_len]; omega)]; rfl
  have hlen : (tx (sg ++ ds)).length ≤ 640 := by
    rw [tx_len, List.length_append]
    rcases h with rfl | ⟨rfl, _⟩
    · simp; omega
    · simp; omega
  show (match intText? (tx (sg ++ ds)) with
    | some n => needs ((tx (sg ++ ds)).length ≤ 640) (Res.ok (D.int n) μ)
    | none => .stuck) = _
  rw [hi]
  exact needs_pos hlen
def numO (sg s1 : List Nat) : Oc → Prop
  | .bad r => r = s1 ∧ (s1 = [] ∨ (∃ c q, s1 = c :: q ∧ dg c = false) ∨ (sg = [45] ∧ ∃ q, s1 = 48 :: q))
  | .good v r => (sg = [] ∧ s1 = 48 :: r ∧ v = .int 0) ∨ ∃ c ds, dg c = true ∧ c ≠ 48 ∧ (∀ d ∈ c :: ds, dg d = true) ∧ (c :: ds).length ≤ 20 ∧ s1 = c :: ds ++ r ∧ (r = [] ∨ ∃ c q, r = c :: q ∧ dg c = false) ∧ v = .int (numV sg (c :: ds))
  | .over v r => ∃ c ds q, dg c = true ∧ c ≠ 48 ∧ (∀ d ∈ c :: ds, dg d = true) ∧ 20 < (c :: ds).length ∧ s1 = c :: ds ++ q ∧ (q = [] ∨ ∃ c q', q = c :: q' ∧ dg c = false) ∧ r = s1.drop 20 ∧ v = .int (numV sg ((c :: ds).take 20))
theorem numO_ex (h : Sg sg s) : ∃ o, numO sg s o := by
  cases s with
  | nil => exact ⟨.bad [], rfl, .inl rfl⟩
  | cons c q =>
    cases hd : dg c with
    | false => exact ⟨.bad (c :: q), rfl, .inr (.inl ⟨c, q, rfl, hd⟩)⟩
    | true =>
      by_cases h48 : c = 48
      · subst h48
        rcases h with rfl | ⟨rfl, _⟩
        · exact ⟨.bad (48 :: q), rfl, .inr (.inr ⟨rfl, q, rfl⟩)⟩
        · exact ⟨.good (.int 0) q, .inl ⟨rfl, rfl, rfl⟩⟩
      · obtain ⟨ds, r, e1, e2, e3⟩ := span_dg q
        have ha : ∀ d ∈ c :: ds, dg d = true := fun d hd' => by
          rcases List.mem_cons.mp hd' with rfl | z
          · exact hd
          · exact e2 d z
        by_cases hl : (c :: ds).length ≤ 20
        · exact ⟨.good _ r, .inr ⟨c, ds, hd, h48, ha, hl, by rw [e1]; rfl, e3, rfl⟩⟩
        · exact ⟨.over _ _, c, ds, r, hd, h48, ha, by omega, by rw [e1]; rfl, e3, rfl, rfl⟩
theorem read_number {o : Oc} (hT : T = p ++ (sg ++ s)) (hl : T.length ≤ 20000) (hu : T.all uni = true) (h : Sg sg s) (ho : numO sg s o) : (gg (k + 3)).call n_read_number [.str (tx T), nD p.length] μ = ocP T μ o := by
  have hz : T.length ≤ 16777216 := by omega
  have hT2 : T = (p ++ sg) ++ s := by rw [hT, List.append_assoc]
  have hlm := len_mid hT2
  have s1 := start_ok (k := k + 2) (μ := μ) (x3 := none) (x4 := none) (x5 := none) hT hz hu h
  have s2 : evalE (gg (k + 2)) (.slc (.var 0) (.some (.var 2)) (.some (.bin .add (.var 2) (.cst (.int 1))))) [some (.str (tx T)), some (nD p.length), some (nD (p ++ sg).length), none, none] μ = .ok (.str (tx (s.take 1))) μ := ev_slc (ev_var rfl) (ev_var rfl) (ev_add1 (ev_var rfl)) (slc1 hz hT2)
  have t9 := tv_not (tv_bl (dig1_test (Γ := gg (k + 2)) (ρ := [some (.str (tx T)), some (nD p.length), some (nD (p ++ sg).length), some (.str (tx (s.take 1))), none]) (e := .var 3) (μ := μ) (s := s) (ev_var rfl)))
  have sl : (p ++ sg).length = p.length + sg.length := List.length_append ..
  -- zero
  have t0f : (∀ q, s = 48 :: q → sg = [45]) → evalT (gg (k + 2)) (.and (.val (.cmp .eq (.var 3) (.cst (.str "0")))) (.val (.cmp .eq (.var 2) (.var 1)))) [some (.str (tx T)), some (nD p.length), some (nD (p ++ sg).length), some (.str (tx (s.take 1))), none] μ = .ok false μ := fun hq => by
    match s, hT2, hq with
    | [], _, _ => exact tv_and_f (tv_bl (ev_cmp (ev_var rfl) ev_cst (eq_e t_10 (by decide))))
    | c :: q, hT2, hq =>
      by_cases h48 : c = 48
      · subst h48
        have e45 := hq q rfl
        refine tv_and_t (tv_bl (ev_cmp (ev_var rfl) ev_cst (eq_c t_10 (by decide) (by decide)))) (tv_bl (ev_cmp (ev_var rfl) (ev_var rfl) (eq_n.trans ?_)))
        rw [decide_eq_false (by rw [sl, e45]; simp)]
      · refine tv_and_f (tv_bl (ev_cmp (ev_var rfl) ev_cst ((eq_c t_10 (uni_mid hT2 hu) (by decide)).trans ?_)))
        rw [beq_eq_false_iff_ne.mpr h48]
  have fault : (∀ q, s = 48 :: q → sg = [45]) → hd1B s = false → (gg (k + 3)).call n_read_number [.str (tx T), nD p.length] μ = .err 0 [nD (T.length - s.length)] μ := fun h1 h2 => by
    rw [show T.length - s.length = (p ++ sg).length by omega]
    refine call_er c_read_number rfl (run_nx (st_set s1) (run_nx (st_set s2) (run_nx (ifs_false (t0f h1) run_nil) (run_er (ifs_true (t9.trans ?_) (run_er (st_rse (by show decide (2 ≤ k + 2) = true; exact decide_eq_true (by omega)) (ev_var rfl) (by omega))))))))
    rw [h2]; rfl
  have loop : ∀ (c : Nat) (ds r : List Nat), s = c :: ds ++ r → dg c = true → c ≠ 48 → (∀ d ∈ c :: ds, dg d = true) → (r = [] ∨ ∃ c q, r = c :: q ∧ dg c = false) → (gg (k + 3)).call n_read_number [.str (tx T), nD p.length] μ = .ok (.tup [.int (numV sg ((c :: ds).take 20)), nD ((p ++ sg).length + min (c :: ds).length 20)]) μ := fun c ds r e hc h48 hd hr => by
    have w := num_loop (k := k + 2) (μ := μ) (T := T) (P := p ++ sg) (ds := c :: ds) (r := r) (x1 := some (nD p.length)) (x3 := some (.str (tx (s.take 1)))) (by rw [hT2, e]) hz hd hr 100000 1 (by simp only [List.length_cons]; omega) (by omega)
    have ct : evalE (gg (k + 2)) (.slc (.var 0) (.some (.var 1)) (.some (.var 4))) [some (.str (tx T)), some (nD p.length), some (nD (p ++ sg).length), some (.str (tx (s.take 1))), some (nD ((p ++ sg).length + min (c :: ds).length 20))] μ = .ok (.str (tx (sg ++ (c :: ds).take 20))) μ := by
      refine ev_slc (ev_var rfl) (ev_var rfl) (ev_var rfl) ((slc_tx hz).trans ?_)
      have hmid : T = p ++ ((sg ++ (c :: ds).take 20) ++ ((c :: ds).drop 20 ++ r)) := by
        rw [hT, e]
        congr 1
        rw [List.append_assoc, ← List.append_assoc ((c :: ds).take 20), List.take_append_drop]
      rw [hmid, cut_mid p _ _ rfl ?_]
      rw [sl, List.length_append, List.length_take]
      omega
    have vl := num_val (μ := μ) (ds := (c :: ds).take 20) h (fun d hd' => hd d (List.mem_of_mem_take hd')) (by simp) (by rw [List.length_take]; omega)
    refine call_of c_read_number rfl (run_nx (st_set s1) (run_nx (st_set s2) (run_nx (ifs_false (t0f fun q hq => by rw [e] at hq; cases hq; exact absurd rfl h48) run_nil) (run_nx (ifs_false (t9.trans ?_) run_nil) (run_nx (st_set (ev_add1 (ev_var rfl))) (run_nx (st_whl w) (run_rt (st_ret (ev_tup2 (ev_bif1 ct vl) (ev_var rfl))))))))))
    rw [e]
    show Res.ok (!(dg c && c != 48)) μ = _
    rw [hc, bne_iff_ne.mpr h48]; rfl
  match o, ho with
  | .bad r, ⟨hr, hb⟩ =>
    subst hr
    refine fault (fun q hq => ?_) ?_
    · rcases hb with rfl | ⟨c, q', rfl, hc⟩ | ⟨h1, _⟩
      · cases hq
      · cases hq; exact absurd hc (by decide)
      · exact h1
    · rcases hb with rfl | ⟨c, q', rfl, hc⟩ | ⟨_, q, rfl⟩
      · rfl
      · show (dg c && c != 48) = false
        rw [hc]; rfl
      · rfl
  | .good v r, .inl ⟨h1, h2, h3⟩ =>
    subst h1 h2 h3
    rw [List.length_cons] at hlm
    rw [List.append_nil] at s1 s2 hlm
    refine call_of c_read_number rfl (run_nx (st_set s1) (run_nx (st_set s2) (run_rt (ifs_true (tv_and_t (tv_bl (ev_cmp (ev_var rfl) ev_cst (eq_c t_10 (by decide) (by decide)))) (tv_bl (ev_cmp (ev_var rfl) (ev_var rfl) (eq_n.trans ?_)))) (run_rt (st_ret (ev_tup2 ev_cst ((ev_add1 (ev_var rfl)).trans ?_))))))))
    · rw [decide_eq_true rfl]
    · rw [show p.length + 1 = T.length - r.length by omega]
  | .good v r, .inr ⟨c, ds, h1, h2, h3, h4, h5, h6, h7⟩ =>
    have q := loop c ds r h5 h1 h2 h3 h6
    rw [List.take_of_length_le h4, Nat.min_eq_left h4] at q
    subst h7
    refine q.trans ?_
    have hsl := congrArg List.length h5
    rw [List.length_append] at hsl
    rw [show (p ++ sg).length + (c :: ds).length = T.length - r.length by omega]
    rfl
  | .over v r, ⟨c, ds, q, h1, h2, h3, h4, h5, h6, h7, h8⟩ =>
    have w := loop c ds q h5 h1 h2 h3 h6
    rw [Nat.min_eq_right (by omega)] at w
    subst h7 h8
    refine w.trans ?_
    have hsl := congrArg List.length h5
    rw [List.length_append] at hsl
    rw [show (p ++ sg).length + 20 = T.length - (s.drop 20).length by rw [List.length_drop]; omega]
    rfl
end
end PyI.K31
/-! S8: the law's own reading of a number. -/
namespace PyI.K31
open PySem L2
theorem mem_dg (c : Nat) : decide (c ∈ ([48, 49, 50, 51, 52, 53, 54, 55, 56, 57] : List Nat)) = dg c := by
  unfold dg
  rw [← Bool.decide_and, decide_eq_decide]
  simp only [List.mem_cons, List.not_mem_nil, or_false]
  omega
section
variable {k : Nat} {μ : Mu} {T P p ds r sg s : List Nat}
abbrev gB : B := forB (nthS b_law_digits_at 5)
theorem in_test {Γ : G} {ρ : Rho} {i : Nat} {n : Nat} {c : Nat} (hz : T.length ≤ 16777216) (h0 : ρ[0]? = some (some (.str (tx T)))) (hi : ρ[i]? = some (some (nD n))) (hc : T[n]? = some c) : evalT Γ (.val (.cmp .in_ (.idx (.var 0) (.var i)) (.cst (.str "0123456789")))) ρ μ = .ok (dg c) μ :=
  tv_bl (ev_cmp (ev_idx (ev_var h0) (ev_var hi) (ix_str hz hc)) ev_cst ((in_c t_23).trans (by rw [mem_dg])))
theorem sub_n {a b : Nat} (h : b ≤ a) : binD .sub (nD a) (nD b) μ = .ok (nD (a - b)) μ := by
  show Res.ok (D.int ((a : Int) - (b : Int))) μ = Res.ok (D.int ((a - b : Nat) : Int)) μ
  rw [Int.ofNat_sub h]
theorem dig_turn {x1 x4 : Option D} {j : Nat} (hT : T = P ++ (ds ++ r)) (hz : T.length ≤ 16777216) (hr : r = [] ∨ ∃ c q, r = c :: q ∧ dg c = false) (hd : ∀ c ∈ ds, dg c = true) (hj : j ≤ ds.length) :
    evalT (gg k) (.and (.val (.cmp .lt (.var 3) (.bif .len (.cons (.var 0) .nil)))) (.val (.cmp .in_ (.idx (.var 0) (.var 3)) (.cst (.str "0123456789"))))) [some (.str (tx T)), x1, some (nD P.length), some (nD (P.length + j)), x4] μ = .ok (decide (j < ds.length)) μ := by
  have hlm := len_mid hT
  rw [List.length_append] at hlm
  have t1 : evalT (gg k) (.val (.cmp .lt (.var 3) (.bif .len (.cons (.var 0) .nil)))) [some (.str (tx T)), x1, some (nD P.length), some (nD (P.length + j)), x4] μ = .ok (decide (P.length + j < T.length)) μ := tv_bl (ev_cmp (ev_var rfl) (ev_bif1 (ev_var rfl) (len_tx hz)) lt_n)
  by_cases h1 : j < ds.length
  · have hc : T[P.length + j]? = some ds[j] := by
      rw [hT, List.getElem?_append_right (by omega), Nat.add_sub_cancel_left, List.getElem?_append_left h1, List.getElem?_eq_getElem h1]
    rw [decide_eq_true (by omega)] at t1
    rw [tv_and_t t1 (in_test hz rfl rfl hc), hd _ (List.getElem_mem h1), decide_eq_true h1]
  · rw [decide_eq_false h1]
    rcases hr with rfl | ⟨c, q, rfl, hc⟩
    · rw [List.length_nil] at hlm
      rw [decide_eq_false (by omega)] at t1
      exact tv_and_f t1
    · rw [List.length_cons] at hlm
      rw [decide_eq_true (by omega)] at t1
      have hcc : T[P.length + j]? = some c := by
        rw [hT, List.getElem?_append_right (by omega), Nat.add_sub_cancel_left, List.getElem?_append_right (by omega), show j - ds.length = 0 by omega]; rfl
      rw [tv_and_t t1 (in_test hz rfl rfl hcc), hc]
theorem dig_short {x1 : Option D} (hT : T = P ++ (ds ++ r)) (hz : T.length ≤ 16777216) (hr : r = [] ∨ ∃ c q, r = c :: q ∧ dg c = false) (hd : ∀ c ∈ ds, dg c = true) (h20 : ds.length ≤ 20) : ∀ (xs : List D) (j : Nat) (x4 : Option D), j ≤ ds.length → ds.length - j ≤ xs.length →
    ∃ x4', forLoop (fbody (gg k) (.nm 4) gB) (chkOf none) xs [some (.str (tx T)), x1, some (nD P.length), some (nD (P.length + j)), x4] μ = .nx [some (.str (tx T)), x1, some (nD P.length), some (nD (P.length + ds.length)), x4'] μ := by
  intro xs
  induction xs with
  | nil =>
    intro j x4 h1 h2
    rw [List.length_nil] at h2
    rw [show j = ds.length by omega]
    exact ⟨x4, for_nil⟩
  | cons x xs ih =>
    intro j x4 h1 h2
    rw [List.length_cons] at h2
    have t := dig_turn (k := k) (μ := μ) (x1 := x1) (x4 := some x) hT hz hr hd h1
    by_cases h : j < ds.length
    · rw [decide_eq_true h] at t
      obtain ⟨x4', q⟩ := ih (j + 1) (some x) h (by omega)
      refine ⟨x4', for_cons_nx (run_nx (ifs_true t (run_nx (ifs_false (tv_bl (ev_cmp (ev_bin (ev_var rfl) (ev_var rfl) (sub_n (a := P.length + j) (b := P.length) (by omega))) ev_cst (eq_n (b := 20) |>.trans ?_))) run_nil) (run_nx (st_set (ev_add1 (ev_var rfl))) run_nil))) run_nil) q⟩
      rw [decide_eq_false (by omega)]
    · rw [decide_eq_false h] at t
      obtain ⟨x4', q⟩ := ih j (some x) h1 (by omega)
      exact ⟨x4', for_cons_nx (run_nx (ifs_false t run_nil) run_nil) q⟩
theorem dig_long {x1 : Option D} (hT : T = P ++ (ds ++ r)) (hz : T.length ≤ 16777216) (hr : r = [] ∨ ∃ c q, r = c :: q ∧ dg c = false) (hd : ∀ c ∈ ds, dg c = true) (h20 : 20 < ds.length) : ∀ (xs : List D) (j : Nat) (x4 : Option D), j ≤ 20 → 20 - j < xs.length →
    forLoop (fbody (gg k) (.nm 4) gB) (chkOf none) xs [some (.str (tx T)), x1, some (nD P.length), some (nD (P.length + j)), x4] μ = .rt (.lst [nD (P.length + 20), .int (-1)]) μ := by
  intro xs
  induction xs with
  | nil =>
    intro j x4 h1 h2
    exact absurd h2 (Nat.not_lt_zero _)
  | cons x xs ih =>
    intro j x4 h1 h2
    rw [List.length_cons] at h2
    have t := dig_turn (k := k) (μ := μ) (x1 := x1) (x4 := some x) hT hz hr hd (show j ≤ ds.length by omega)
    rw [decide_eq_true (by omega)] at t
    by_cases h : j = 20
    · subst h
      refine for_cons_rt (run_rt (ifs_true t (run_rt (ifs_true (tv_bl (ev_cmp (ev_bin (ev_var rfl) (ev_var rfl) (sub_n (a := P.length + 20) (b := P.length) (by omega))) ev_cst (eq_n (b := 20) |>.trans ?_))) (run_rt (st_ret (ev_pairm1 (ev_var rfl))))))))
      rw [decide_eq_true (by omega)]
    · refine for_cons_nx (run_nx (ifs_true t (run_nx (ifs_false (tv_bl (ev_cmp (ev_bin (ev_var rfl) (ev_var rfl) (sub_n (a := P.length + j) (b := P.length) (by omega))) ev_cst (eq_n (b := 20) |>.trans ?_))) run_nil) (run_nx (st_set (ev_add1 (ev_var rfl))) run_nil))) run_nil) (ih (j + 1) (some x) (by omega) (by omega))
      rw [decide_eq_false (by omega)]
theorem digits_at {o : Oc} (hT : T = p ++ (sg ++ s)) (hl : T.length ≤ 20000) (hu : T.all uni = true) (h : Sg sg s) (ho : numO sg s o) (hne : sg ++ s ≠ []) : (gg (k + 1)).call n_law_digits_at [.str (tx T), nD p.length] μ = .ok (ocL T o) μ := by
  have hz : T.length ≤ 16777216 := by omega
  have hT2 : T = (p ++ sg) ++ s := by rw [hT, List.append_assoc]
  have hlm := len_mid hT2
  have sl : (p ++ sg).length = p.length + sg.length := List.length_append ..
  have s1 : evalE (gg k) (.bin .add (.var 1) (.bif .int (.cons (.cmp .eq (.idx (.var 0) (.var 1)) (.cst (.str "-"))) .nil))) [some (.str (tx T)), some (nD p.length), none, none, none] μ = .ok (nD (p ++ sg).length) μ := by
    rcases h with rfl | ⟨rfl, hh⟩
    · refine (ev_bin (ev_var rfl) (ev_bif1 (ev_cmp (k := true) (ev_idx (ev_var rfl) (ev_var rfl) (ix_str hz (at_mid (s := s) hT))) ev_cst (eq_c t_9 (by decide) (by decide))) rfl) rfl).trans ?_
      rw [sl]
      rfl
    · match s, hT, hne, hh with
      | [], _, hne, _ => exact absurd rfl hne
      | c :: q, hT, _, hh =>
        refine (ev_bin (ev_var rfl) (ev_bif1 (ev_cmp (k := false) (ev_idx (ev_var rfl) (ev_var rfl) (ix_str hz (at_mid (s := q) hT))) ev_cst ((eq_c t_9 (uni_mid (s := q) hT hu) (by decide)).trans ?_)) rfl) rfl).trans ?_
        · rw [beq_eq_false_iff_ne.mpr (hh c q rfl)]
        · rw [List.append_nil]
          show Res.ok (D.int ((p.length : Int) + 0)) μ = _
          rw [Int.add_zero]
  have t2 : evalT (gg k) (.val (.cmp .ge (.var 2) (.bif .len (.cons (.var 0) .nil)))) [some (.str (tx T)), some (nD p.length), some (nD (p ++ sg).length), none, none] μ = .ok (decide (T.length ≤ (p ++ sg).length)) μ := tv_bl (ev_cmp (ev_var rfl) (ev_bif1 (ev_var rfl) (len_tx hz)) ge_n)
  match s, o, ho, hT2, hlm, t2 with
  | [], o, ho, hT2, hlm, t2 =>
    have : o = .bad [] := by
      cases o with
      | bad r => rw [ho.1]
      | good v r => rcases ho with ⟨_, h, _⟩ | ⟨c, ds, _, _, _, _, h, _⟩ <;> cases h
      | over v r => obtain ⟨c, ds, q, _, _, _, _, h, _⟩ := ho; cases h
    subst this
    rw [decide_eq_true (by rw [hlm]; simp)] at t2
    exact call_of c_law_digits_at rfl (run_nx (st_set s1) (run_rt (ifs_true t2 (run_rt (st_ret (ev_pairm1 (ev_bif1 (ev_var rfl) (len_tx hz))))))))
  | c :: q, o, ho, hT2, hlm, t2 =>
    rw [List.length_cons] at hlm
    rw [decide_eq_false (by omega)] at t2
    have hc := uni_mid hT2 hu
    have ix : evalE (gg k) (.idx (.var 0) (.var 2)) [some (.str (tx T)), some (nD p.length), some (nD (p ++ sg).length), none, none] μ = .ok (.str (tx [c])) μ := ev_idx (ev_var rfl) (ev_var rfl) (ix_str hz (at_mid hT2))
    have t3 : evalT (gg k) (.val (.cmp .notin (.idx (.var 0) (.var 2)) (.cst (.str "0123456789")))) [some (.str (tx T)), some (nD p.length), some (nD (p ++ sg).length), none, none] μ = .ok (!dg c) μ := tv_bl (ev_cmp ix ev_cst ((notin_c t_23).trans (by rw [mem_dg])))
    have t4 : evalT (gg k) (.val (.cmp .eq (.idx (.var 0) (.var 2)) (.cst (.str "0")))) [some (.str (tx T)), some (nD p.length), some (nD (p ++ sg).length), none, none] μ = .ok (c == 48) μ := tv_bl (ev_cmp ix ev_cst (eq_c t_10 hc (by decide)))
    have pos : T.length - (q.length + 1) = (p ++ sg).length := by omega
    have bd48 : dg c = true → c ≠ 48 → ∀ {ds r : List Nat}, c :: q = c :: ds ++ r → (∀ d ∈ c :: ds, dg d = true) → (r = [] ∨ ∃ c q, r = c :: q ∧ dg c = false) → True := fun _ _ _ _ _ _ _ => trivial
    match o, ho with
    | .bad r, ⟨hr, hb⟩ =>
      subst hr
      cases hd : dg c with
      | false =>
        rw [hd] at t3
        refine (call_of c_law_digits_at rfl (run_nx (st_set s1) (run_nx (ifs_false t2 run_nil) (run_rt (ifs_true t3 (run_rt (st_ret (ev_pairm1 (ev_var rfl))))))))).trans ?_
        show _ = Res.ok (D.lst [nD (T.length - (q.length + 1)), _]) μ
        rw [pos]
      | true =>
        rw [hd] at t3
        rcases hb with hb | ⟨c', q', e, hc'⟩ | ⟨e45, q', e⟩
        · cases hb
        · cases e; rw [hd] at hc'; cases hc'
        · cases e
          refine (call_of c_law_digits_at rfl (run_nx (st_set s1) (run_nx (ifs_false t2 run_nil) (run_nx (ifs_false t3 run_nil) (run_rt (ifs_true t4 (run_rt (st_ret (ev_ite_true (tv_bl (ev_cmp (ev_var rfl) (ev_var rfl) (gt_n.trans ?_))) (ev_pairm1 (ev_var rfl))))))))))).trans ?_
          · rw [decide_eq_true (by rw [sl, e45]; simp)]
          · show _ = Res.ok (D.lst [nD (T.length - (q.length + 1)), _]) μ
            rw [pos]
    | .good v r, .inl ⟨h1, h2, h3⟩ =>
      cases h2
      subst h1 h3
      refine (call_of c_law_digits_at rfl (run_nx (st_set s1) (run_nx (ifs_false t2 run_nil) (run_nx (ifs_false t3 run_nil) (run_rt (ifs_true t4 (run_rt (st_ret (ev_ite_false (tv_bl (ev_cmp (ev_var rfl) (ev_var rfl) (gt_n.trans ?_))) (ev_lst2 ev_cst (ev_add1 (ev_var rfl)))))))))))).trans ?_
      · rw [decide_eq_false (by rw [List.append_nil]; omega)]
      · show _ = Res.ok (D.lst [.int 0, nD (T.length - q.length)]) μ
        rw [show (p ++ ([] : List Nat)).length + 1 = T.length - q.length by omega]
    | .good v r, .inr ⟨c', ds, h1, h2, h3, h4, h5, h6, h7⟩ =>
      cases h5
      subst h7
      rw [h1] at t3
      rw [beq_eq_false_iff_ne.mpr h2] at t4
      have hsl : (ds ++ r).length = ds.length + r.length := List.length_append ..
      have hsl' : (ds.append r).length = ds.length + r.length := List.length_append ..
      obtain ⟨x4', w⟩ := dig_short (k := k) (μ := μ) (x1 := some (nD p.length)) (P := p ++ sg) (ds := c :: ds) (r := r) hT2 hz h6 h3 h4 (rngD 0 T.length) 0 none (Nat.zero_le _) (by rw [rng0, List.length_map, List.length_range]; simp only [List.length_cons] at *; omega)
      have ct : evalE (gg k) (.slc (.var 0) (.some (.var 1)) (.some (.var 3))) [some (.str (tx T)), some (nD p.length), some (nD (p ++ sg).length), some (nD ((p ++ sg).length + (c :: ds).length)), x4'] μ = .ok (.str (tx (sg ++ c :: ds))) μ := by
        refine ev_slc (ev_var rfl) (ev_var rfl) (ev_var rfl) ((slc_tx hz).trans ?_)
        have hmid : T = p ++ ((sg ++ c :: ds) ++ r) := by rw [hT]; simp
        rw [hmid, cut_mid p _ _ rfl ?_]
        rw [sl, List.length_append]; omega
      refine (call_of c_law_digits_at rfl (run_nx (st_set s1) (run_nx (ifs_false t2 run_nil) (run_nx (ifs_false t3 run_nil) (run_nx (ifs_false t4 run_nil) (run_nx (st_set (ev_var rfl)) (run_nx (for_run' (it_rng1 (n := T.length) (ev_bif1 (ev_var rfl) (len_tx hz)) rfl (by omega)) w) (run_rt (st_ret (ev_lst2 (ev_bif1 ct (num_val h h3 (by simp) h4)) (ev_var rfl))))))))))).trans ?_
      show _ = Res.ok (D.lst [_, nD (T.length - r.length)]) μ
      rw [show (p ++ sg).length + (c :: ds).length = T.length - r.length by simp only [List.length_cons] at *; omega]
    | .over v r, ⟨c', ds, q', h1, h2, h3, h4, h5, h6, h7, h8⟩ =>
      cases h5
      subst h7 h8
      rw [h1] at t3
      rw [beq_eq_false_iff_ne.mpr h2] at t4
      have hsl : (ds ++ q').length = ds.length + q'.length := List.length_append ..
      have hsl' : (ds.append q').length = ds.length + q'.length := List.length_append ..
      have w := dig_long (k := k) (μ := μ) (x1 := some (nD p.length)) (P := p ++ sg) (ds := c :: ds) (r := q') hT2 hz h6 h3 h4 (rngD 0 T.length) 0 none (Nat.zero_le _) (by rw [rng0, List.length_map, List.length_range]; simp only [List.length_cons] at *; omega)
      refine (call_of c_law_digits_at rfl (run_nx (st_set s1) (run_nx (ifs_false t2 run_nil) (run_nx (ifs_false t3 run_nil) (run_nx (ifs_false t4 run_nil) (run_nx (st_set (ev_var rfl)) (run_rt (for_run' (it_rng1 (n := T.length) (ev_bif1 (ev_var rfl) (len_tx hz)) rfl (by omega)) w)))))))).trans ?_
      show _ = Res.ok (D.lst [nD (T.length - ((c :: (ds ++ q')).drop 20).length), _]) μ
      rw [List.length_drop, show (p ++ sg).length + 20 = T.length - ((c :: (ds ++ q')).length - 20) by simp only [List.length_cons] at *; omega]
end
end PyI.K31
/-! S9: the members of a tuple, read by both. -/
namespace PyI.K31
open PySem L2
mutual
def okW : D → Bool
  | .non | .bl _ | .int _ => true
  | .str s => s.cps.toList.all uni
  | .tup l => decide (l.length ≤ 20000) && okWs l
  | _ => false
def okWs : List D → Bool
  | [] => true
  | d :: ds => okW d && okWs ds
end
mutual
theorem okW.pure : ∀ {d : D}, okW d = true → pureD d = true
  | .non, _ | .bl _, _ | .int _, _ | .str _, _ => rfl
  | .ref _, h => by cases h
  | .lst _, h => by cases h
  | .kl _, h => by cases h
  | .tup l, h => okWs.pure (l := l) (by simp only [okW, Bool.and_eq_true] at h; exact h.2)
theorem okWs.pure : ∀ {l : List D}, okWs l = true → pureDs l = true
  | [], _ => rfl
  | d :: l, h => by
    simp only [okWs, Bool.and_eq_true] at h
    simp only [pureDs, Bool.and_eq_true]
    exact ⟨okW.pure h.1, okWs.pure h.2⟩
end
theorem okWs_snoc : ∀ {l : List D} {d : D}, okWs l = true → okW d = true → okWs (l ++ [d]) = true
  | [], d, _, h => by simp only [List.nil_append, okWs, h]; rfl
  | e :: l, d, h1, h2 => by
    simp only [okWs, Bool.and_eq_true] at h1
    simp only [List.cons_append, okWs, h1.1, okWs_snoc h1.2 h2]; rfl
theorem deps_snoc : ∀ (l : List D) (d : D), deps (l ++ [d]) = max (deps l) (dep d)
  | [], d => by simp [deps]
  | e :: l, d => by simp only [List.cons_append, deps, deps_snoc l d, Nat.max_assoc]
def VOK (dp : Nat) (s : List Nat) : Oc → Prop
  | .good v r => ∃ c, s = c ++ r ∧ c ≠ [] ∧ Mo c ∧ okW v = true ∧ dep v + dp ≤ 60
  | .bad r => r.length ≤ s.length
  | .over _ r => r.length ≤ s.length ∧ ∃ c p d q, s = c ++ r ∧ p = c ∧ r = d :: q ∧ dg d = true
def VAL (e dp : Nat) : Prop := ∀ (T p s : List Nat), T = p ++ s → T.length ≤ 20000 → T.all uni = true → Mo p → ∃ o, VOK dp s o ∧
  (∀ (k : Nat) (μ : Mu), PureM μ → e + 2 ≤ k → (gg k).call n_law_value_at [.str (tx T), nD p.length, nD dp] μ = .ok (ocL T o) μ) ∧
  (∀ (k : Nat) (μ : Mu), PureM μ → 2 * e + 5 ≤ k → (gg k).call n_read_value [.str (tx T), .str (tx (msk T)), nD p.length, nD dp] μ = ocP T μ o)
abbrev vB : B := forB (nthS b_law_value_at 9)
abbrev mT : PyI.T := whlT (nthS b_read_members 4)
abbrev mB : B := forB (nthS b_read_members 4)
def MOK (dp : Nat) (s : List Nat) : Oc → Prop
  | .good v r => ∃ c l, s = c ++ r ∧ Mo c ∧ v = .tup l ∧ okW v = true ∧ deps l + 1 + dp ≤ 60
  | .bad r => r.length ≤ s.length
  | .over _ _ => False
def loopP (T : List Nat) (μ : Mu) (out : Out) : Oc → Prop
  | .good v r => ∃ l, out = .rt (.tup [v, nD (T.length - r.length)]) (μ ++ [.lst l])
  | .bad r => ∃ ρ' l, out = .er 0 [nD (T.length - r.length)] ρ' (μ ++ [.lst l])
  | .over _ _ => False
theorem add_tup {l m : List D} {μ : Mu} (h : l.length + m.length ≤ 16777216) : binD .add (.tup l) (.tup m) μ = .ok (.tup (l ++ m)) μ := by
  show needs _ _ = _
  rw [needs_pos h]
theorem tt_true {Γ : G} {ρ : Rho} {μ : Mu} : evalT Γ (.val (.cst (.bl true))) ρ μ = .ok true μ := tv_bl ev_cst
section
variable {T : List Nat} {e dp : Nat}
theorem mem_loop (hv : VAL e (dp + 1)) (hdp : dp + 1 + e = 60) (hl : T.length ≤ 20000) (hu : T.all uni = true) : ∀ (n : Nat) (s P : List Nat) (fl : List D), s.length < n → T = P ++ s → Mo P → okWs fl = true → deps fl + 1 + dp ≤ 60 → fl.length + s.length ≤ 20000 →
    ∃ o, MOK dp s o ∧ (∀ (k : Nat) (μ : Mu) (ds : List D) (x3 x5 x6 x7 : Option D), PureM μ → e + 2 ≤ k → s.length < ds.length →
        forLoop (fbody (gg k) (.nm 5) vB) (chkOf none) ds [some (.str (tx T)), some (nD P.length), some (nD dp), x3, some (.tup fl), x5, x6, x7] μ = .rt (ocL T o) μ) ∧
      (∀ (k : Nat) (μ : Mu) (m : Nat) (x5 x6 : Option D), PureM μ → 2 * e + 5 ≤ k → s.length < m →
        loopP T μ (whileLoop (fun ρ μ => evalT (gg k) mT ρ μ) (fun ρ μ => runB (gg k) mB ρ μ) m [some (.str (tx T)), some (.str (tx (msk T))), some (nD P.length), some (nD dp), some (.ref μ.length), x5, x6] (μ ++ [.lst fl])) o) := by
  intro n
  induction n with
  | zero => intro s P fl hs; exact absurd hs (Nat.not_lt_zero _)
  | succ n ih =>
    intro s P fl hs hT hP hf hd hc
    have hz : T.length ≤ 16777216 := by omega
    have hlm := len_mid hT
    obtain ⟨o, ho, vL, vP⟩ := hv T P s hT hl hu hP
    -- the steps that all share
    have callL : ∀ {k : Nat} {μ : Mu} {x3 x4 x5 x6 x7 : Option D}, PureM μ → e + 2 ≤ k → evalE (gg k) (.call 15 (.cons (.var 0) (.cons (.var 1) (.cons (.bin .add (.var 2) (.cst (.int 1))) .nil)))) [some (.str (tx T)), some (nD P.length), some (nD dp), x3, x4, x5, x6, x7] μ = .ok (ocL T o) μ := fun {k μ x3 x4 x5 x6 x7} hμ hk => ev_call3 (ev_var rfl) (ev_var rfl) (ev_add1 (ev_var rfl)) (vL k μ hμ hk)
    have callP : ∀ {k : Nat} {μ : Mu} {x4 x5 x6 : Option D}, PureM μ → 2 * e + 5 ≤ k → evalE (gg k) (.call 1 (.cons (.var 0) (.cons (.var 1) (.cons (.var 2) (.cons (.bin .add (.var 3) (.cst (.int 1))) .nil))))) [some (.str (tx T)), some (.str (tx (msk T))), some (nD P.length), some (nD dp), x4, x5, x6] μ = ocP T μ o := fun {k μ x4 x5 x6} hμ hk => ev_call4 (ev_var rfl) (ev_var rfl) (ev_var rfl) (ev_add1 (ev_var rfl)) (vP k μ hμ hk)
    have hpf : pureDs fl = true := okWs.pure hf
    -- a fault told by the law's value
    have failL : ∀ (r : List Nat), ocL T o = .lst [nD (T.length - r.length), .int (-1)] → ∀ (k : Nat) (μ : Mu) (ds : List D) (x3 x5 x6 x7 : Option D), PureM μ → e + 2 ≤ k → s.length < ds.length →
        forLoop (fbody (gg k) (.nm 5) vB) (chkOf none) ds [some (.str (tx T)), some (nD P.length), some (nD dp), x3, some (.tup fl), x5, x6, x7] μ = .rt (.lst [nD (T.length - r.length), .int (-1)]) μ := fun r hr k μ ds x3 x5 x6 x7 hμ hk hds => by
      match ds, hds with
      | [], hds => exact absurd hds (Nat.not_lt_zero _)
      | x :: ds, _ =>
        refine for_cons_rt (run_nx (st_tp2l ((callL hμ hk).trans (congrArg (fun d => Res.ok d μ) hr))) (run_rt (ifs_true (tv_bl (ev_cmp (ev_var rfl) ev_m1 (eq_int.trans ?_))) (run_rt (st_ret (ev_pairm1 (ev_var rfl)))))))
        rfl
    have raise : ∀ {k : Nat} {ν : Mu} {n : Nat} {x0 x1 x3 x4 x5 x6 : Option D}, 5 ≤ k → n ≤ 20000 → runS (gg k) (.rse 0 1 (.cons (.var 2) .nil)) [x0, x1, some (nD n), x3, x4, x5, x6] ν = .er 0 [nD n] [x0, x1, some (nD n), x3, x4, x5, x6] ν := fun {k ν n x0 x1 x3 x4 x5 x6} hk hn => st_rse (by show decide (2 ≤ k) = true; exact decide_eq_true (by omega)) (ev_var rfl) (by omega)
    -- a value, and what follows it
    have goodP : ∀ (v : D) (r c : List Nat), ocP T = (fun μ o => ocP T μ o) → s = c ++ r → (∀ μ, ocP T μ o = .ok (.tup [v, nD (T.length - r.length)]) μ) → (∀ d q, r = d :: q → d ≠ 41 ∧ d ≠ 32) → ∀ (k : Nat) (μ : Mu) (m : Nat) (x5 x6 : Option D), PureM μ → 2 * e + 5 ≤ k → s.length < m →
        loopP T μ (whileLoop (fun ρ μ => evalT (gg k) mT ρ μ) (fun ρ μ => runB (gg k) mB ρ μ) m [some (.str (tx T)), some (.str (tx (msk T))), some (nD P.length), some (nD dp), some (.ref μ.length), x5, x6] (μ ++ [.lst fl])) (.bad r) := fun v r c _ hs' hv' hr k μ m x5 x6 hμ hk hm => by
      match m, hm with
      | 0, hm => exact absurd hm (Nat.not_lt_zero _)
      | m + 1, _ =>
        have hT2 : T = (P ++ c) ++ r := by rw [hT, hs', List.append_assoc]
        have hl2 := len_mid hT2
        have sl := slc1 (μ := μ ++ [.lst (fl ++ [v])]) hz hT2
        rw [show (P ++ c).length = T.length - r.length by omega] at sl
        have sg : evalE (gg k) (.slc (.var 0) (.some (.var 2)) (.some (.bin .add (.var 2) (.cst (.int 1))))) [some (.str (tx T)), some (.str (tx (msk T))), some (nD (T.length - r.length)), some (nD dp), some (.ref μ.length), some v, x6] (μ ++ [.lst (fl ++ [v])]) = .ok (.str (tx (r.take 1))) (μ ++ [.lst (fl ++ [v])]) := ev_slc (ev_var rfl) (ev_var rfl) (ev_add1 (ev_var rfl)) sl
        refine ⟨_, _, whl_er tt_true (run_nx (st_tp2 ((callP (hμ.snoc hpf) hk).trans (hv' _))) (run_nx (st_append (ev_var rfl) (ev_var rfl) snoc_get (by omega) snoc_set snoc_get) (run_nx (st_set sg) (run_nx (ifs_false (tv_bl (ev_cmp (k := false) (ev_var rfl) ev_cst ?_)) run_nil) (run_er (ifs_true (tv_bl (ev_cmp (k := true) (ev_var rfl) ev_cst ?_)) (run_er (raise (by omega) (by omega)))))))))⟩
        · match r, hr, hT2 with
          | [], _, _ => exact eq_e t_7 (by decide)
          | d :: q, hr, hT2 =>
            refine (eq_c t_7 (uni_mid hT2 hu) (by decide)).trans ?_
            rw [beq_eq_false_iff_ne.mpr (hr d q rfl).1]
        · match r, hr, hT2 with
          | [], _, _ => exact ne_e t_8 (by decide)
          | d :: q, hr, hT2 =>
            refine (ne_c t_8 (uni_mid hT2 hu) (by decide)).trans ?_
            rw [beq_eq_false_iff_ne.mpr (hr d q rfl).2]; rfl
    match o, ho, vL, vP, @callL, @callP, failL, goodP with
    | .bad r, ho, _, _, _, callP, failL, _ =>
      refine ⟨.bad r, ho, failL r rfl, fun k μ m x5 x6 hμ hk hm => ?_⟩
      match m, hm with
      | 0, hm => exact absurd hm (Nat.not_lt_zero _)
      | m + 1, _ => exact ⟨_, _, whl_er tt_true (run_er (st_set_err (callP (hμ.snoc hpf) hk)))⟩
    | .over v r, ⟨ho, c, p', d, q, h1, _, h3, h4⟩, _, _, _, _, failL, goodP =>
      exact ⟨.bad r, ho, failL r rfl, goodP v r c rfl h1 (fun _ => rfl) fun d' q' e' => by
        rw [h3] at e'
        cases e'
        exact ⟨by rintro rfl; exact absurd h4 (by decide), by rintro rfl; exact absurd h4 (by decide)⟩⟩
    | .good v r, ⟨c, h1, h2, h3, h4, h5⟩, _, _, callL, callP, _, goodP =>
      have hT2 : T = (P ++ c) ++ r := by rw [hT, h1, List.append_assoc]
      have hl2 := len_mid hT2
      have hpos : (P ++ c).length = T.length - r.length := by omega
      have hcl : 0 < c.length := List.length_pos_iff.mpr h2
      have hsl : s.length = c.length + r.length := by rw [h1, List.length_append]
      -- the law's turn up to the sign
      have turnL : ∀ {k : Nat} {μ : Mu} {x : D} {ds : List D} {x3 x5 x6 x7 : Option D} {o' : Out}, PureM μ → e + 2 ≤ k →
          runB (gg k) (dropB vB 3) [some (.str (tx T)), some (nD P.length), some (nD dp), x3, some (.tup (fl ++ [v])), some x, some v, some (nD (T.length - r.length))] μ = o' → fbody (gg k) (.nm 5) vB x [some (.str (tx T)), some (nD P.length), some (nD dp), x3, some (.tup fl), x5, x6, x7] μ = o' := fun {k μ x ds x3 x5 x6 x7 o'} hμ hk h => by
        refine run_nx (st_tp2l (callL hμ hk)) (run_nx (ifs_false (tv_bl (ev_cmp (ev_var rfl) ev_m1 eq_nm1)) run_nil) (run_nx (st_set (ev_bin (ev_var rfl) (ev_tup1 (ev_var rfl)) (add_tup (by rw [List.length_singleton]; omega)))) h))
      have t1L : ∀ {k : Nat} {μ : Mu} {x3 x4 x5 x6 : Option D}, evalT (gg k) (.val (.cmp .ge (.var 7) (.bif .len (.cons (.var 0) .nil)))) [some (.str (tx T)), some (nD P.length), some (nD dp), x3, x4, x5, x6, some (nD (T.length - r.length))] μ = .ok (decide (T.length ≤ T.length - r.length)) μ := fun {k μ x3 x4 x5 x6} => tv_bl (ev_cmp (ev_var rfl) (ev_bif1 (ev_var rfl) (len_tx hz)) ge_n)
      match r, h1, hT2, hl2, hpos, hsl, @turnL, @t1L, @callP, goodP with
      | [], h1, hT2, hl2, hpos, hsl, turnL, t1L, callP, goodP =>
        refine ⟨.bad [], Nat.zero_le _, fun k μ ds x3 x5 x6 x7 hμ hk hds => ?_, goodP v [] c rfl h1 (fun _ => rfl) (fun d q e' => nomatch e')⟩
        match ds, hds with
        | [], hds => exact absurd hds (Nat.not_lt_zero _)
        | x :: ds, _ =>
          refine for_cons_rt (turnL (ds := ds) hμ hk (run_rt (ifs_true (t1L.trans ?_) (run_rt (st_ret (ev_pairm1 (ev_bif1 (ev_var rfl) (len_tx hz))))))))
          rw [decide_eq_true (by simp)]
      | d :: q, h1, hT2, hl2, hpos, hsl, turnL, t1L, callP, goodP =>
        rw [List.length_cons] at hl2 hsl
        have hd' := uni_mid hT2 hu
        have t1L' : ∀ {k : Nat} {μ : Mu} {x3 x4 x5 x6 : Option D}, evalT (gg k) (.val (.cmp .ge (.var 7) (.bif .len (.cons (.var 0) .nil)))) [some (.str (tx T)), some (nD P.length), some (nD dp), x3, x4, x5, x6, some (nD (T.length - (d :: q).length))] μ = .ok false μ := fun {k μ x3 x4 x5 x6} => t1L.trans (by rw [decide_eq_false (by rw [List.length_cons]; omega)])
        have ixL : ∀ {k : Nat} {μ : Mu} {x3 x4 x5 x6 : Option D}, evalE (gg k) (.idx (.var 0) (.var 7)) [some (.str (tx T)), some (nD P.length), some (nD dp), x3, x4, x5, x6, some (nD (T.length - (d :: q).length))] μ = .ok (.str (tx [d])) μ := fun {k μ x3 x4 x5 x6} => ev_idx (ev_var rfl) (ev_var rfl) (ix_str hz (by rw [← hpos]; exact at_mid hT2))
        have e41 : ∀ {k : Nat} {μ : Mu} {x3 x4 x5 x6 : Option D}, evalT (gg k) (.val (.cmp .eq (.idx (.var 0) (.var 7)) (.cst (.str ")")))) [some (.str (tx T)), some (nD P.length), some (nD dp), x3, x4, x5, x6, some (nD (T.length - (d :: q).length))] μ = .ok (d == 41) μ := fun {k μ x3 x4 x5 x6} => tv_bl (ev_cmp ixL ev_cst (eq_c t_7 hd' (by decide)))
        have e32 : ∀ {k : Nat} {μ : Mu} {x3 x4 x5 x6 : Option D}, evalT (gg k) (.val (.cmp .ne (.idx (.var 0) (.var 7)) (.cst (.str " ")))) [some (.str (tx T)), some (nD P.length), some (nD dp), x3, x4, x5, x6, some (nD (T.length - (d :: q).length))] μ = .ok (!(d == 32)) μ := fun {k μ x3 x4 x5 x6} => tv_bl (ev_cmp ixL ev_cst (ne_c t_8 hd' (by decide)))
        have pos1 : T.length - (d :: q).length + 1 = T.length - q.length := by rw [List.length_cons]; omega
        have okfl := okWs_snoc hf h4
        have dpfl := deps_snoc fl v
        -- the program's turn up to the sign
        have sgP : ∀ {k : Nat} {μ : Mu} {x5 x6 : Option D}, evalE (gg k) (.slc (.var 0) (.some (.var 2)) (.some (.bin .add (.var 2) (.cst (.int 1))))) [some (.str (tx T)), some (.str (tx (msk T))), some (nD (T.length - (d :: q).length)), some (nD dp), some (.ref μ.length), x5, x6] (μ ++ [.lst (fl ++ [v])]) = .ok (.str (tx [d])) (μ ++ [.lst (fl ++ [v])]) := fun {k μ x5 x6} => by
          have sl := slc1 (μ := μ ++ [.lst (fl ++ [v])]) hz hT2
          rw [hpos] at sl
          exact ev_slc (ev_var rfl) (ev_var rfl) (ev_add1 (ev_var rfl)) sl
        have turnP : ∀ {k : Nat} {μ : Mu} {x5 x6 : Option D} {o' : Out}, PureM μ → 2 * e + 5 ≤ k →
            runB (gg k) (dropB mB 3) [some (.str (tx T)), some (.str (tx (msk T))), some (nD (T.length - (d :: q).length)), some (nD dp), some (.ref μ.length), some v, some (.str (tx [d]))] (μ ++ [.lst (fl ++ [v])]) = o' →
            runB (gg k) mB [some (.str (tx T)), some (.str (tx (msk T))), some (nD P.length), some (nD dp), some (.ref μ.length), x5, x6] (μ ++ [.lst fl]) = o' := fun {k μ x5 x6 o'} hμ hk h =>
          run_nx (st_tp2 (callP (hμ.snoc hpf) hk)) (run_nx (st_append (ev_var rfl) (ev_var rfl) snoc_get (by omega) snoc_set snoc_get) (run_nx (st_set sgP) h))
        by_cases h41 : d = 41
        · subst h41
          refine ⟨.good (.tup (fl ++ [v])) q, ⟨c ++ [41], fl ++ [v], by rw [h1]; simp, h3.app (.one (by decide)), rfl, by simp only [okW, okfl, Bool.and_true, decide_eq_true_eq, List.length_append, List.length_singleton]; omega, by rw [dpfl]; omega⟩, fun k μ ds x3 x5 x6 x7 hμ hk hds => ?_, fun k μ m x5 x6 hμ hk hm => ?_⟩
          · match ds, hds with
            | [], hds => exact absurd hds (Nat.not_lt_zero _)
            | x :: ds, _ =>
              refine (for_cons_rt (turnL (ds := ds) hμ hk (run_nx (ifs_false t1L' run_nil) (run_rt (ifs_true e41 (run_rt (st_ret (ev_lst2 (ev_var rfl) (ev_add1 (ev_var rfl)))))))))).trans ?_
              rw [pos1]; rfl
          · match m, hm with
            | 0, hm => exact absurd hm (Nat.not_lt_zero _)
            | m + 1, _ =>
              refine ⟨fl ++ [v], (whl_rt tt_true (turnP hμ hk (run_rt (ifs_true (tv_bl (ev_cmp (ev_var rfl) ev_cst (eq_c t_7 (by decide) (by decide)))) (run_rt (st_ret (ev_tup2 (ev_bif1 (ev_var rfl) (tuple_ref snoc_get)) (ev_add1 (ev_var rfl))))))))).trans ?_⟩
              rw [pos1]
        have b41 : (d == 41) = false := beq_eq_false_iff_ne.mpr h41
        rw [b41] at e41
        by_cases h32 : d = 32
        · subst h32
          have hPc : (P ++ (c ++ [32])).length = T.length - q.length := by simp only [List.length_append, List.length_singleton] at *; omega
          obtain ⟨o2, m1, m2, m3⟩ := ih q (P ++ (c ++ [32])) (fl ++ [v]) (by omega) (by rw [hT2]; simp) (hP.app (h3.app (.one (by decide)))) okfl (by rw [dpfl]; omega) (by rw [List.length_append, List.length_singleton]; omega)
          rw [hPc] at m2 m3
          refine ⟨o2, ?_, fun k μ ds x3 x5 x6 x7 hμ hk hds => ?_, fun k μ m x5 x6 hμ hk hm => ?_⟩
          · match o2, m1 with
            | .good v2 r2, ⟨c2, l2, a1, a2, a3⟩ => exact ⟨c ++ [32] ++ c2, l2, by rw [h1, a1]; simp, (h3.app (.one (by decide))).app a2, a3⟩
            | .bad r2, m1 => exact Nat.le_trans m1 (by omega)
          · match ds, hds with
            | [], hds => exact absurd hds (Nat.not_lt_zero _)
            | x :: ds, hds =>
              rw [List.length_cons] at hds
              have q2 := m2 k μ ds x3 (some x) (some v) (some (nD (T.length - (32 :: q).length))) hμ hk (by omega)
              rw [← pos1] at q2
              refine for_cons_nx (turnL (ds := ds) hμ hk (run_nx (ifs_false t1L' run_nil) (run_nx (ifs_false e41 run_nil) (run_nx (ifs_false e32 run_nil) (run_nx (st_set (ev_add1 (ev_var rfl))) run_nil))))) q2
          · match m, hm with
            | 0, hm => exact absurd hm (Nat.not_lt_zero _)
            | m + 1, hm =>
              have q3 := m3 k μ m (some v) (some (.str (tx [32]))) hμ hk (by omega)
              rw [← pos1] at q3
              have bd : runB (gg k) mB [some (.str (tx T)), some (.str (tx (msk T))), some (nD P.length), some (nD dp), some (.ref μ.length), x5, x6] (μ ++ [.lst fl]) = .nx [some (.str (tx T)), some (.str (tx (msk T))), some (nD (T.length - (32 :: q).length + 1)), some (nD dp), some (.ref μ.length), some v, some (.str (tx [32]))] (μ ++ [.lst (fl ++ [v])]) :=
                turnP hμ hk (run_nx (ifs_false (tv_bl (ev_cmp (ev_var rfl) ev_cst (eq_c t_7 (by decide) (by decide)))) run_nil) (run_nx (ifs_false (tv_bl (ev_cmp (ev_var rfl) ev_cst (ne_c t_8 (by decide) (by decide)))) run_nil) (run_nx (st_aug rfl ev_cst) run_nil)))
              have q4 := whl_nx (c := fun ρ μ => evalT (gg k) mT ρ μ) (f := fun ρ μ => runB (gg k) mB ρ μ) (n := m) tt_true bd rfl
              exact q4 ▸ q3
        · have b32 : (d == 32) = false := beq_eq_false_iff_ne.mpr h32
          rw [b32] at e32
          refine ⟨.bad (d :: q), by show (d :: q).length ≤ s.length; rw [List.length_cons]; omega, fun k μ ds x3 x5 x6 x7 hμ hk hds => ?_, goodP v (d :: q) c rfl h1 (fun _ => rfl) fun d' q' e' => by cases e'; exact ⟨h41, h32⟩⟩
          match ds, hds with
          | [], hds => exact absurd hds (Nat.not_lt_zero _)
          | x :: ds, _ =>
            exact for_cons_rt (turnL (ds := ds) hμ hk (run_nx (ifs_false t1L' run_nil) (run_nx (ifs_false e41 run_nil) (run_rt (ifs_true e32 (run_rt (st_ret (ev_pairm1 (ev_var rfl)))))))))
end
end PyI.K31
/-! S10: values, read by both. -/
namespace PyI.K31
open PySem L2
def wv (c : Nat) : D := if c = 84 then .bl true else if c = 70 then .bl false else .non
def hdE : List Nat → Nat → Bool
  | [], _ => false
  | c :: _, d => c == d
def isWd (c : Nat) : Bool := c == 84 || c == 70 || c == 78
theorem wd_cases {c : Nat} (h : isWd c = true) : c = 84 ∨ c = 70 ∨ c = 78 := by
  unfold isWd at h
  simp only [Bool.or_eq_true, beq_iff_eq, or_assoc] at h
  exact h
theorem mem_wd (c : Nat) : decide (c ∈ ([84, 70, 78] : List Nat)) = isWd c := by
  unfold isWd
  rw [Bool.eq_iff_iff]
  simp [or_assoc]
theorem mem_num (c : Nat) : decide (c ∈ ([45, 48, 49, 50, 51, 52, 53, 54, 55, 56, 57] : List Nat)) = (c == 45 || dg c) := by
  unfold dg
  rw [Bool.eq_iff_iff]
  simp only [List.mem_cons, List.not_mem_nil, or_false, decide_eq_true_eq, Bool.or_eq_true, beq_iff_eq, Bool.and_eq_true]
  omega
theorem look (c : Nat) : (dic 0).lookup (tx [c]) = if isWd c = true then some (wv c) else none := by
  unfold dic isWd wv
  simp only [List.lookup, t_17, t_18, t_19, tx_beq, List.cons_beq_cons, beq_self_eq_true, Bool.and_true]
  by_cases h1 : c = 84
  · subst h1; rfl
  rw [show (c == 84) = false from by simp [h1], if_neg h1]
  by_cases h2 : c = 70
  · subst h2; rfl
  rw [if_neg h2, show (c == 70) = false from by simp [h2]]
  by_cases h3 : c = 78
  · subst h3; rfl
  rw [show (c == 78) = false from by simp [h3]]
  rfl
theorem look0 : (dic 0).lookup (tx []) = none := by
  unfold dic
  simp only [List.lookup, t_17, t_18, t_19, tx_beq]
  rfl
section
variable {k : Nat} {μ : Mu} {T p s : List Nat} {e dp : Nat}
theorem ev_dgl {Γ : G} {ρ : Rho} {a : E} {c : Nat} (ha : evalE Γ a ρ μ = .ok (.str (tx [c])) μ) (h : isWd c = true) : evalE Γ (.dgl [("T", (.bl true)), ("F", (.bl false)), ("N", .non)] a) ρ μ = .ok (wv c) μ := by
  rw [evalE, ha, bind_ok]
  have : lkL [("T", (.bl true)), ("F", (.bl false)), ("N", .non)] (tx [c]) none = some (wv c) := by
    simp only [lkL, t_17, t_18, t_19, tx_inj]
    rcases wd_cases h with rfl | rfl | rfl <;> rfl
  simp only [this]
theorem ev_gin {ρ : Rho} {a : E} {s : Str} (ha : evalE (gg k) a ρ μ = .ok (.str s) μ) : evalE (gg k) (.gin false 0 a) ρ μ = .ok (.bl ((dic 0).lookup s).isSome) μ := by
  rw [evalE, ha, bind_ok]
  rfl
theorem ev_gdict {ρ : Rho} {a : E} {s : Str} {d : D} (ha : evalE (gg k) a ρ μ = .ok (.str s) μ) (h : (dic 0).lookup s = some d) : evalE (gg k) (.gdict 0 a) ρ μ = .ok d μ := by
  rw [evalE, ha, bind_ok]
  show (match (dic 0).lookup s with
    | some d => Res.ok d μ
    | none => .stuck) = _
  rw [h]
/-- the program at a sign -/
theorem rv_sign (hz : T.length ≤ 16777216) (hT : T = p ++ s) : evalE (gg k) (.slc (.var 0) (.some (.var 2)) (.some (.bin .add (.var 2) (.cst (.int 1))))) [some (.str (tx T)), some (.str (tx (msk T))), some (nD p.length), some (nD dp), none] μ = .ok (.str (tx (s.take 1))) μ := ev_slc (ev_var rfl) (ev_var rfl) (ev_add1 (ev_var rfl)) (slc1 hz hT)
def outR (ρ : Rho) : Res D → Out
  | .ok d μ => .rt d μ
  | .err c fs μ => .er c fs ρ μ
  | .stuck => .stuck
theorem st_ret_res {Γ : G} {ρ : Rho} {a : E} {r : Res D} (h : evalE Γ a ρ μ = r) : runS Γ (.ret a) ρ μ = outR ρ r := by
  rw [runS, h]
  cases r <;> rfl
theorem run_res {Γ : G} {ρ ρ' : Rho} {b : B} {x : PyI.S} {r : Res D} (h : runS Γ x ρ μ = outR ρ' r) : runB Γ (.cons x b) ρ μ = outR ρ' r := by
  rw [runB, h]
  cases r <;> rfl
theorem call_res {f : Nat} {b : B} {ρ ρ' : Rho} {ds : List D} {o : Oc} (hc : callD prg.tab prg.con prg.dic prg.wf (k + 1) f ds μ = finO μ.length (runB (gg k) b ρ μ)) (h : runB (gg k) b ρ μ = outR ρ' (ocP T μ o)) : (gg (k + 1)).call f ds μ = ocP T μ o := by
  show callD prg.tab prg.con prg.dic prg.wf (k + 1) f ds μ = _
  rw [hc, h]
  cases o with
  | good v r => exact fin_same rfl
  | bad r => exact finO_er rfl
  | over v r => exact fin_same rfl
theorem eq_h {d : Nat} {q : Str} (hT : T = p ++ s) (hu : T.all uni = true) (hq : q = tx [d]) (hd : uni d = true) : cmpD .eq (.str (tx (s.take 1))) (.str q) μ = .ok (hdE s d) μ := by
  match s, hT with
  | [], _ => exact eq_e hq hd
  | c :: r, hT => exact eq_c hq (uni_mid hT hu) hd
abbrev rvE (T p s : List Nat) (dp : Nat) : Rho := [some (.str (tx T)), some (.str (tx (msk T))), some (nD p.length), some (nD dp), some (.str (tx (s.take 1)))]
/-- no quote, no bracket, no word -/
theorem rv_num {o : Oc} (hz : T.length ≤ 16777216) (hT : T = p ++ s) (hu : T.all uni = true) (h : ∀ c q, s = c :: q → c ≠ 34 ∧ c ≠ 40 ∧ isWd c = false) (hn : (gg (k)).call n_read_number [.str (tx T), nD p.length] μ = ocP T μ o) :
    (gg (k + 1)).call n_read_value [.str (tx T), .str (tx (msk T)), nD p.length, nD dp] μ = ocP T μ o := by
  have e34 : hdE s 34 = false := by
    match s, h with
    | [], _ => rfl
    | c :: q, h => exact beq_eq_false_iff_ne.mpr (h c q rfl).1
  have e40 : hdE s 40 = false := by
    match s, h with
    | [], _ => rfl
    | c :: q, h => exact beq_eq_false_iff_ne.mpr (h c q rfl).2.1
  have ew : ((dic 0).lookup (tx (s.take 1))).isSome = false := by
    match s, h with
    | [], _ => show ((dic 0).lookup (tx [])).isSome = false; rw [look0]; rfl
    | c :: q, h => show ((dic 0).lookup (tx [c])).isSome = false; rw [look, (h c q rfl).2.2]; rfl
  refine call_res (ρ' := rvE T p s dp) c_read_value (run_nx (st_set (rv_sign hz hT)) (run_nx (ifs_false (tv_bl (ev_cmp (ev_var rfl) ev_cst ((eq_h hT hu t_5 (by decide)).trans (congrArg (fun b => Res.ok b μ) e34)))) run_nil) (run_nx (ifs_false (tv_bl (ev_cmp (ev_var rfl) ev_cst ((eq_h hT hu t_6 (by decide)).trans (congrArg (fun b => Res.ok b μ) e40)))) run_nil) (run_nx (ifs_false (tv_bl ((ev_gin (ev_var rfl)).trans (congrArg (fun b => Res.ok (D.bl b) μ) ew))) run_nil) (run_res (st_ret_res (ev_call2 (ev_var rfl) (ev_var rfl) hn)))))))
theorem rv_quo {o : Oc} (hz : T.length ≤ 16777216) (hT : T = p ++ 34 :: s) (hu : T.all uni = true) (hn : (gg (k)).call n_read_quoted [.str (tx T), .str (tx (msk T)), nD (p.length + 1)] μ = ocP T μ o) :
    (gg (k + 1)).call n_read_value [.str (tx T), .str (tx (msk T)), nD p.length, nD dp] μ = ocP T μ o :=
  call_res (ρ' := rvE T p (34 :: s) dp) c_read_value (run_nx (st_set (rv_sign hz hT)) (run_res (ifs_true (tv_bl (ev_cmp (ev_var rfl) ev_cst (eq_h hT hu t_5 (by decide)))) (run_res (st_ret_res (ev_call3 (ev_var rfl) (ev_var rfl) (ev_add1 (ev_var rfl)) hn))))))
theorem rv_mem {o : Oc} (hz : T.length ≤ 16777216) (hT : T = p ++ 40 :: s) (hu : T.all uni = true) (hn : (gg (k)).call n_read_members [.str (tx T), .str (tx (msk T)), nD p.length, nD dp] μ = ocP T μ o) :
    (gg (k + 1)).call n_read_value [.str (tx T), .str (tx (msk T)), nD p.length, nD dp] μ = ocP T μ o :=
  call_res (ρ' := rvE T p (40 :: s) dp) c_read_value (run_nx (st_set (rv_sign hz hT)) (run_nx (ifs_false (tv_bl (ev_cmp (ev_var rfl) ev_cst (eq_h hT hu t_5 (by decide)))) run_nil) (run_res (ifs_true (tv_bl (ev_cmp (ev_var rfl) ev_cst (eq_h hT hu t_6 (by decide)))) (run_res (st_ret_res (ev_call4 (ev_var rfl) (ev_var rfl) (ev_var rfl) (ev_var rfl) hn)))))))
theorem rv_wd {c : Nat} (hz : T.length ≤ 16777216) (hT : T = p ++ c :: s) (hu : T.all uni = true) (hw : isWd c = true) :
    (gg (k + 1)).call n_read_value [.str (tx T), .str (tx (msk T)), nD p.length, nD dp] μ = ocP T μ (.good (wv c) s) := by
  have hlm := len_mid hT
  rw [List.length_cons] at hlm
  have hl : (dic 0).lookup (tx [c]) = some (wv c) := by rw [look, if_pos hw]
  have n34 : (c == 34) = false := by rcases wd_cases hw with rfl | rfl | rfl <;> rfl
  have n40 : (c == 40) = false := by rcases wd_cases hw with rfl | rfl | rfl <;> rfl
  refine (call_of c_read_value rfl (run_nx (st_set (rv_sign hz hT)) (run_nx (ifs_false (tv_bl (ev_cmp (ev_var rfl) ev_cst ((eq_h hT hu t_5 (by decide)).trans (congrArg (fun b => Res.ok b μ) n34)))) run_nil) (run_nx (ifs_false (tv_bl (ev_cmp (ev_var rfl) ev_cst ((eq_h hT hu t_6 (by decide)).trans (congrArg (fun b => Res.ok b μ) n40)))) run_nil) (run_rt (ifs_true (tv_bl ((ev_gin (s := tx [c]) (ev_var rfl)).trans (congrArg (fun o => Res.ok (D.bl (Option.isSome o)) μ) hl))) (run_rt (st_ret (ev_tup2 (ev_gdict (s := tx [c]) (ev_var rfl) hl) (ev_add1 (ev_var rfl))))))))))).trans ?_
  rw [show p.length + 1 = T.length - s.length by omega]
  rfl
/-! ### the law at a sign -/
abbrev lvE (T p : List Nat) (dp : Nat) (x : Option D) : Rho := [some (.str (tx T)), some (nD p.length), some (nD dp), x, none, none, none, none]
theorem lv_in {c : Nat} (hT : T = p ++ c :: s) (hz : T.length ≤ 16777216) : evalT (gg k) (.val (.cmp .ge (.var 1) (.bif .len (.cons (.var 0) .nil)))) (lvE T p dp none) μ = .ok false μ := by
  have hlm := len_mid hT
  rw [List.length_cons] at hlm
  refine tv_bl (ev_cmp (ev_var rfl) (ev_bif1 (ev_var rfl) (len_tx hz)) (ge_n.trans ?_))
  rw [decide_eq_false (by omega)]
theorem lv_sign {c : Nat} (hT : T = p ++ c :: s) (hz : T.length ≤ 16777216) : evalE (gg k) (.idx (.var 0) (.var 1)) (lvE T p dp none) μ = .ok (.str (tx [c])) μ := ev_idx (ev_var rfl) (ev_var rfl) (ix_str hz (at_mid hT))
abbrev lvS (T p : List Nat) (dp c : Nat) : Rho := lvE T p dp (some (.str (tx [c])))
theorem lv_wd {c : Nat} : evalT (gg k) (.val (.cmp .in_ (.var 3) (.cst (.str "TFN")))) (lvS T p dp c) μ = .ok (isWd c) μ := tv_bl (ev_cmp (ev_var rfl) ev_cst ((in_c t_24).trans (by rw [mem_wd])))
theorem lv_34 {c : Nat} (hc : uni c = true) : evalT (gg k) (.val (.cmp .eq (.var 3) (.cst (.str "\"")))) (lvS T p dp c) μ = .ok (c == 34) μ := tv_bl (ev_cmp (ev_var rfl) ev_cst (eq_c t_5 hc (by decide)))
theorem lv_num {c : Nat} : evalT (gg k) (.val (.cmp .in_ (.var 3) (.cst (.str "-0123456789")))) (lvS T p dp c) μ = .ok (c == 45 || dg c) μ := tv_bl (ev_cmp (ev_var rfl) ev_cst ((in_c t_25).trans (by rw [mem_num])))
theorem lv_40 {c : Nat} (hc : uni c = true) : evalT (gg k) (.or (.val (.cmp .ne (.var 3) (.cst (.str "(")))) (.val (.cmp .eq (.var 2) (.cst (.int 60))))) (lvS T p dp c) μ = .ok (!(c == 40) || decide (dp = 60)) μ := by
  have t1 : evalT (gg k) (.val (.cmp .ne (.var 3) (.cst (.str "(")))) (lvS T p dp c) μ = .ok (!(c == 40)) μ := tv_bl (ev_cmp (ev_var rfl) ev_cst (ne_c t_6 hc (by decide)))
  have t2 : evalT (gg k) (.val (.cmp .eq (.var 2) (.cst (.int 60)))) (lvS T p dp c) μ = .ok (decide (dp = 60)) μ := tv_bl (ev_cmp (ev_var rfl) ev_cst (eq_n (b := 60)))
  cases h : (c == 40) with
  | false => rw [h] at t1; exact tv_or_t t1
  | true => rw [h] at t1; exact (tv_or_f t1 t2).trans (by simp)
end
end PyI.K31
/-! S11: every value, read by both. -/
namespace PyI.K31
open PySem L2
theorem sgn_uni {l : List Nat} (h : l.all sgn = true) : l.all uni = true := by
  rw [List.all_eq_true] at *
  intro c hc
  have := h c hc
  unfold sgn at this
  simp only [Bool.or_eq_true, Bool.and_eq_true, decide_eq_true_eq, beq_iff_eq] at this
  show decide (c < 0x110000) = true
  rw [decide_eq_true_eq]
  omega
theorem Bk.le {s r : List Nat} (h : Bk s r) : r.length ≤ s.length := by
  cases h with
  | ends v h1 h2 h3 => subst h3; exact Nat.zero_le _
  | bsl v h1 h2 h3 => subst h3; exact Nat.zero_le _
  | sign v c s' h1 h2 h3 h4 => rw [h2, h3, List.length_append]; omega
  | escb v d s' h1 h2 h3 h4 => rw [h2, h3, List.length_append]; simp only [List.length_cons]; omega
def ocT : Rs (List Nat) → Oc
  | .good u r => .good (sD u) r
  | .bad r => .bad r
theorem ocT_L (T : List Nat) (x : Rs (List Nat)) : rsD T sD x = ocL T (ocT x) := by cases x <;> rfl
theorem ocT_P (T : List Nat) (μ : Mu) (x : Rs (List Nat)) : rsP T sD μ x = ocP T μ (ocT x) := by cases x <;> rfl
theorem ocT_ok {dp : Nat} (h : dp ≤ 60) (s : List Nat) : VOK dp (34 :: s) (ocT (txtS [] s)) := by
  cases e : txtS [] s with
  | good u r =>
    obtain ⟨v, e1, e2, e3⟩ := txt_good e
    rw [List.nil_append] at e1
    subst e1
    refine ⟨34 :: (u.flatMap escT ++ [34]), by rw [e2]; simp, by simp, Mo.app (p := [34]) (.one (by decide)) ((Mo.text u).app (.one (by decide))), ?_, by simp only [sD, dep]; omega⟩
    simp only [sD, okW]
    exact sgn_uni e3
  | bad r =>
    have := (txt_bad e).2.le
    show r.length ≤ (34 :: s).length
    rw [List.length_cons]; omega
theorem dg_ne {c : Nat} (h : dg c = true) : 48 ≤ c ∧ c ≤ 57 := by
  unfold dg at h
  simpa using h
theorem num_ok {dp : Nat} (h : dp ≤ 60) {sg s : List Nat} (hs : Sg sg s) {o : Oc} (ho : numO sg s o) : VOK dp (sg ++ s) o := by
  have msg : 92 ∉ sg := by
    rcases hs with rfl | ⟨rfl, _⟩ <;> simp
  have free : ∀ {ds : List Nat}, (∀ d ∈ ds, dg d = true) → 92 ∉ ds := fun hd q => by have := dg_ne (hd _ q); omega
  match o, ho with
  | .bad r, ⟨hr, _⟩ =>
    subst hr
    show r.length ≤ (sg ++ r).length
    rw [List.length_append]; omega
  | .good v r, .inl ⟨h1, h2, h3⟩ =>
    subst h1 h2 h3
    exact ⟨[48], rfl, by simp, .one (by decide), rfl, by simp only [dep]; omega⟩
  | .good v r, .inr ⟨c, ds, h1, h2, h3, h4, h5, h6, h7⟩ =>
    subst h7
    refine ⟨sg ++ (c :: ds), by rw [h5, List.append_assoc], by simp, .app (.free msg) (.free (free h3)), rfl, by simp only [dep]; omega⟩
  | .over v r, ⟨c, ds, q, h1, h2, h3, h4, h5, h6, h7, h8⟩ =>
    subst h7
    refine ⟨by rw [List.length_append, List.length_drop]; omega, ?_⟩
    obtain ⟨d, hd, hdd⟩ : ∃ d t, (c :: ds).drop 20 = d :: t := by
      cases z : (c :: ds).drop 20 with
      | nil => have := congrArg List.length z; rw [List.length_drop, List.length_nil] at this; omega
      | cons d t => exact ⟨d, t, rfl⟩
    refine ⟨sg ++ s.take 20, _, d, hd ++ q, by rw [List.append_assoc, List.take_append_drop], rfl, ?_, h3 d (List.mem_of_mem_drop (i := 20) (by rw [hdd]; exact List.mem_cons_self ..))⟩
    rw [h5, List.drop_append, hdd, show 20 - (c :: ds).length = 0 by omega]
    rfl
section
variable {T p s : List Nat} {e dp : Nat}
theorem mem_top (hT : T = p ++ 40 :: s) (hl : T.length ≤ 20000) {k : Nat} {μ : Mu} (hk : 2 ≤ k) : (gg (k + 1)).call n_read_members [.str (tx T), .str (tx (msk T)), nD p.length, nD 60] μ = ocP T μ (.bad (40 :: s)) := by
  have hlm := len_mid hT
  refine (call_er c_read_members rfl (run_er (ifs_true (tv_bl (ev_cmp (ev_var rfl) (ev_glob rfl) (eq_n (a := 60) (b := 60)))) (run_er (st_rse (by show decide (2 ≤ k) = true; exact decide_eq_true hk) (ev_var rfl) (by omega)))))).trans ?_
  show _ = Res.err 0 [nD (T.length - (40 :: s).length)] μ
  rw [show p.length = T.length - (40 :: s).length by omega]
abbrev rmE (T p : List Nat) (dp : Nat) (x : Option D) : Rho := [some (.str (tx T)), some (.str (tx (msk T))), some (nD (p.length + 1)), some (nD dp), x, none, none]
theorem mem_head {k : Nat} {μ : Mu} {o : Out} (hd : dp < 60) (h : runB (gg k) (dropB b_read_members 2) (rmE T p dp none) μ = o) : runB (gg k) b_read_members (startR f_read_members.N.length [.str (tx T), .str (tx (msk T)), nD p.length, nD dp]) μ = o := by
  refine run_nx (ifs_false (tv_bl (ev_cmp (ev_var rfl) (ev_glob rfl) ((eq_n (a := dp) (b := 60)).trans ?_))) run_nil) (run_nx (st_aug rfl ev_cst) h)
  rw [decide_eq_false (by omega)]
theorem mem_sign {k : Nat} {μ : Mu} (hT : T = p ++ 40 :: s) (hz : T.length ≤ 16777216) (hu : T.all uni = true) : evalT (gg k) (.val (.cmp .eq (.slc (.var 0) (.some (.var 2)) (.some (.bin .add (.var 2) (.cst (.int 1))))) (.cst (.str ")")))) (rmE T p dp none) μ = .ok (hdE s 41) μ := by
  have hT2 : T = (p ++ [40]) ++ s := by rw [hT]; simp
  have sl := slc1 (μ := μ) hz hT2
  have hp1 : (p ++ [40]).length = p.length + 1 := by simp
  rw [hp1] at sl
  exact tv_bl (ev_cmp (ev_slc (ev_var rfl) (ev_var rfl) (ev_add1 (ev_var rfl)) sl) ev_cst (eq_h hT2 hu t_7 (by decide)))
theorem mem_empty (hT : T = p ++ 40 :: 41 :: s) (hl : T.length ≤ 20000) (hu : T.all uni = true) (hd : dp < 60) {k : Nat} {μ : Mu} : (gg (k + 1)).call n_read_members [.str (tx T), .str (tx (msk T)), nD p.length, nD dp] μ = ocP T μ (.good (.tup []) s) := by
  have hlm := len_mid hT
  simp only [List.length_cons] at hlm
  refine (call_of c_read_members rfl (mem_head hd (run_rt (ifs_true (mem_sign hT (by omega) hu) (run_rt (st_ret (ev_tup2 ev_tup0 (ev_add1 (ev_var rfl))))))))).trans ?_
  rw [show p.length + 1 + 1 = T.length - s.length by omega]
  rfl
theorem mem_some {o : Oc} (hT : T = p ++ 40 :: s) (hl : T.length ≤ 20000) (hu : T.all uni = true) (hd : dp < 60) (h41 : hdE s 41 = false) {k : Nat} {μ : Mu} (hμ : PureM μ) (ho : MOK dp s o)
    (h : loopP T μ (whileLoop (fun ρ μ => evalT (gg k) mT ρ μ) (fun ρ μ => runB (gg k) mB ρ μ) 100000 [some (.str (tx T)), some (.str (tx (msk T))), some (nD (p.length + 1)), some (nD dp), some (.ref μ.length), none, none] (μ ++ [.lst []])) o) :
    (gg (k + 1)).call n_read_members [.str (tx T), .str (tx (msk T)), nD p.length, nD dp] μ = ocP T μ o := by
  have sgn := mem_sign (k := k) (μ := μ) (dp := dp) hT (by omega) hu
  rw [h41] at sgn
  match o, ho, h with
  | .good v r, ⟨c, l, _, _, hv, hw, _⟩, ⟨l', h⟩ =>
    exact call_one c_read_members hμ (by simp only [pureD, pureDs, okW.pure hw]; rfl) (mem_head hd (run_nx (ifs_false sgn run_nil) (run_nx (st_new ev_lst0) (run_rt (st_whl h)))))
  | .bad r, _, ⟨ρ', l', h⟩ =>
    exact call_one_er c_read_members hμ rfl (mem_head hd (run_nx (ifs_false sgn run_nil) (run_nx (st_new ev_lst0) (run_er (st_whl h)))))
theorem val_step (hdp : e + dp = 60) (hv : dp < 60 → VAL (e - 1) (dp + 1)) (T p s : List Nat) (hT : T = p ++ s) (hl : T.length ≤ 20000) (hu : T.all uni = true) (hm : Mo p) : ∃ o, VOK dp s o ∧
    (∀ (k : Nat) (μ : Mu), PureM μ → e + 2 ≤ k → (gg k).call n_law_value_at [.str (tx T), nD p.length, nD dp] μ = .ok (ocL T o) μ) ∧
    (∀ (k : Nat) (μ : Mu), PureM μ → 2 * e + 5 ≤ k → (gg k).call n_read_value [.str (tx T), .str (tx (msk T)), nD p.length, nD dp] μ = ocP T μ o) := by
  have hz : T.length ≤ 16777216 := by omega
  have hlm := len_mid hT
  match s, hT, hlm with
  | [], hT, hlm =>
    refine ⟨.bad [], Nat.le_refl _, fun k μ hμ hk => ?_, fun k μ hμ hk => ?_⟩
    · obtain ⟨k, rfl⟩ : ∃ j, k = j + 1 := ⟨k - 1, by omega⟩
      refine call_of c_law_value_at rfl (run_rt (ifs_true (tv_bl (ev_cmp (ev_var rfl) (ev_bif1 (ev_var rfl) (len_tx hz)) (ge_n.trans ?_))) (run_rt (st_ret (ev_pairm1 (ev_bif1 (ev_var rfl) (len_tx hz)))))))
      rw [decide_eq_true (by rw [hlm]; simp)]
    · obtain ⟨k, rfl⟩ : ∃ j, k = j + 4 := ⟨k - 4, by omega⟩
      exact rv_num (k := k + 3) hz hT hu (fun c q e => nomatch e) (read_number (k := k) (sg := []) hT hl hu (.inr ⟨rfl, fun c q e => nomatch e⟩) ⟨rfl, .inl rfl⟩)
  | c :: s, hT, hlm =>
    have hc := uni_mid hT hu
    rw [List.length_cons] at hlm
    have hTc : T = (p ++ [c]) ++ s := by rw [hT]; simp
    have hpc : (p ++ [c]).length = p.length + 1 := by simp
    have pos : p.length = T.length - (c :: s).length := by rw [List.length_cons]; omega
    by_cases hw : isWd c = true
    · refine ⟨.good (wv c) s, ⟨[c], rfl, by simp, .one (by rcases wd_cases hw with rfl | rfl | rfl <;> decide), by rcases wd_cases hw with rfl | rfl | rfl <;> rfl, by rcases wd_cases hw with rfl | rfl | rfl <;> simp only [wv] <;> simp [dep] <;> omega⟩, fun k μ hμ hk => ?_, fun k μ hμ hk => ?_⟩
      · obtain ⟨k, rfl⟩ : ∃ j, k = j + 1 := ⟨k - 1, by omega⟩
        refine (call_of c_law_value_at rfl (run_nx (ifs_false (lv_in hT hz) run_nil) (run_nx (st_set (lv_sign hT hz)) (run_rt (ifs_true (lv_wd.trans (congrArg (fun b => Res.ok b μ) hw)) (run_rt (st_ret (ev_lst2 (ev_dgl (ev_var rfl) hw) (ev_add1 (ev_var rfl)))))))))).trans ?_
        rw [show p.length + 1 = T.length - s.length by omega]
        rfl
      · obtain ⟨k, rfl⟩ : ∃ j, k = j + 1 := ⟨k - 1, by omega⟩
        exact rv_wd hz hT hu hw
    have hw' : isWd c = false := by simpa using hw
    by_cases h34 : c = 34
    · subst h34
      refine ⟨ocT (txtS [] s), ocT_ok (by omega) s, fun k μ hμ hk => ?_, fun k μ hμ hk => ?_⟩
      · obtain ⟨k, rfl⟩ : ∃ j, k = j + 2 := ⟨k - 2, by omega⟩
        rw [← ocT_L]
        have q := text_at (k := k) (μ := μ) hTc hu hl
        rw [hpc] at q
        exact call_of (k := k + 1) c_law_value_at rfl (run_nx (ifs_false (lv_in hT hz) run_nil) (run_nx (st_set (lv_sign hT hz)) (run_nx (ifs_false (lv_wd.trans (congrArg (fun b => Res.ok b μ) hw')) run_nil) (run_rt (ifs_true (lv_34 hc) (run_rt (st_ret (ev_call2 (ev_var rfl) (ev_add1 (ev_var rfl)) q))))))))
      · obtain ⟨k, rfl⟩ : ∃ j, k = j + 4 := ⟨k - 4, by omega⟩
        have q := read_quoted (k := k) (μ := μ) hTc hu hl hμ (hm.app (.one (by decide)))
        rw [hpc, ocT_P] at q
        exact rv_quo (k := k + 3) hz hT hu q
    have b34 : (c == 34) = false := beq_eq_false_iff_ne.mpr h34
    cases hn : (c == 45 || dg c) with
    | true =>
      obtain ⟨sg, s1, es, hs⟩ := sg_cases (c :: s)
      obtain ⟨o, ho⟩ := numO_ex hs
      have n40 : c ≠ 40 := by rintro rfl; exact absurd hn (by decide)
      rw [es] at hT
      refine ⟨o, by rw [es]; exact num_ok (by omega) hs ho, fun k μ hμ hk => ?_, fun k μ hμ hk => ?_⟩
      · obtain ⟨k, rfl⟩ : ∃ j, k = j + 2 := ⟨k - 2, by omega⟩
        have q := digits_at (k := k) (μ := μ) hT hl hu hs ho (by rw [← es]; simp)
        rw [← es] at hT
        exact call_of (k := k + 1) c_law_value_at rfl (run_nx (ifs_false (lv_in hT hz) run_nil) (run_nx (st_set (lv_sign hT hz)) (run_nx (ifs_false (lv_wd.trans (congrArg (fun b => Res.ok b μ) hw')) run_nil) (run_nx (ifs_false ((lv_34 hc).trans (congrArg (fun b => Res.ok b μ) b34)) run_nil) (run_rt (ifs_true (lv_num.trans (congrArg (fun b => Res.ok b μ) hn)) (run_rt (st_ret (ev_call2 (ev_var rfl) (ev_var rfl) q)))))))))
      · obtain ⟨k, rfl⟩ : ∃ j, k = j + 4 := ⟨k - 4, by omega⟩
        have q := read_number (k := k) (μ := μ) hT hl hu hs ho
        rw [← es] at hT
        exact rv_num (k := k + 3) hz hT hu (fun c' q' e' => by cases e'; exact ⟨h34, n40, hw'⟩) q
    | false =>
      have n45 : c ≠ 45 := by rintro rfl; exact absurd hn (by decide)
      have hdg : dg c = false := by
        cases h : dg c with
        | false => rfl
        | true => rw [h, Bool.or_true] at hn; cases hn
      -- the law's head
      have headL : ∀ {k : Nat} {μ : Mu} {b : Bool} {o : Out}, (!(c == 40) || decide (dp = 60)) = b → (b = false → runB (gg k) (dropB b_law_value_at 6) (lvS T p dp c) μ = o) → (b = true → .rt (.lst [nD (T.length - (c :: s).length), .int (-1)]) μ = o) → runB (gg k) b_law_value_at (startR f_law_value_at.N.length [.str (tx T), nD p.length, nD dp]) μ = o := fun {k μ b o} hb h1 h2 => by
        have t := (lv_40 (k := k) (μ := μ) (T := T) (p := p) (dp := dp) hc).trans (congrArg (fun b => Res.ok b μ) hb)
        cases b with
        | false => exact run_nx (ifs_false (lv_in hT hz) run_nil) (run_nx (st_set (lv_sign hT hz)) (run_nx (ifs_false (lv_wd.trans (congrArg (fun b => Res.ok b μ) hw')) run_nil) (run_nx (ifs_false ((lv_34 hc).trans (congrArg (fun b => Res.ok b μ) b34)) run_nil) (run_nx (ifs_false (lv_num.trans (congrArg (fun b => Res.ok b μ) hn)) run_nil) (run_nx (ifs_false t run_nil) (h1 rfl))))))
        | true =>
          rw [← h2 rfl, ← pos]
          exact run_nx (ifs_false (lv_in hT hz) run_nil) (run_nx (st_set (lv_sign hT hz)) (run_nx (ifs_false (lv_wd.trans (congrArg (fun b => Res.ok b μ) hw')) run_nil) (run_nx (ifs_false ((lv_34 hc).trans (congrArg (fun b => Res.ok b μ) b34)) run_nil) (run_nx (ifs_false (lv_num.trans (congrArg (fun b => Res.ok b μ) hn)) run_nil) (run_rt (ifs_true t (run_rt (st_ret (ev_pairm1 (ev_var rfl))))))))))
      by_cases h40 : c = 40
      · subst h40
        by_cases h60 : dp = 60
        · subst h60
          refine ⟨.bad (40 :: s), Nat.le_refl _, fun k μ hμ hk => ?_, fun k μ hμ hk => ?_⟩
          · obtain ⟨k, rfl⟩ : ∃ j, k = j + 1 := ⟨k - 1, by omega⟩
            exact call_of c_law_value_at rfl (headL rfl (fun h => absurd h (by decide)) (fun _ => rfl))
          · obtain ⟨k, rfl⟩ : ∃ j, k = j + 4 := ⟨k - 4, by omega⟩
            exact rv_mem (k := k + 3) hz hT hu (mem_top hT hl (by omega))
        · have hd : dp < 60 := by omega
          have hb : (!((40 : Nat) == 40) || decide (dp = 60)) = false := by rw [decide_eq_false h60]; rfl
          -- the law behind the bracket
          have test : ∀ {k : Nat} {μ : Mu}, evalT (gg k) (.and (.val (.cmp .lt (.var 1) (.bif .len (.cons (.var 0) .nil)))) (.val (.cmp .eq (.idx (.var 0) (.var 1)) (.cst (.str ")"))))) [some (.str (tx T)), some (nD (p.length + 1)), some (nD dp), some (.str (tx [40])), some (.tup []), none, none, none] μ = .ok (hdE s 41) μ := fun {k μ} => by
            have t1 : evalT (gg k) (.val (.cmp .lt (.var 1) (.bif .len (.cons (.var 0) .nil)))) [some (.str (tx T)), some (nD (p.length + 1)), some (nD dp), some (.str (tx [40])), some (.tup []), none, none, none] μ = .ok (decide (p.length + 1 < T.length)) μ := tv_bl (ev_cmp (ev_var rfl) (ev_bif1 (ev_var rfl) (len_tx hz)) lt_n)
            match s, hT, hlm with
            | [], hT, hlm =>
              rw [List.length_nil] at hlm
              rw [decide_eq_false (by omega)] at t1
              exact tv_and_f t1
            | d :: q, hT, hlm =>
              rw [List.length_cons] at hlm
              rw [decide_eq_true (by omega)] at t1
              exact tv_and_t t1 (tv_bl (ev_cmp (ev_idx (ev_var rfl) (ev_var rfl) (ix_str hz (at_mid2 hT))) ev_cst (eq_c t_7 (uni_mid (p := p ++ [40]) (s := q) (by rw [hT]; simp) hu) (by decide))))
          cases h41 : hdE s 41 with
          | true =>
            obtain ⟨q, rfl⟩ : ∃ q, s = 41 :: q := by
              cases s with
              | nil => cases h41
              | cons d q => exact ⟨q, by rw [show d = 41 from eq_of_beq h41]⟩
            simp only [List.length_cons] at hlm
            refine ⟨.good (.tup []) q, ⟨[40, 41], rfl, by simp, .free (by decide), rfl, by simp only [dep, deps]; omega⟩, fun k μ hμ hk => ?_, fun k μ hμ hk => ?_⟩
            · obtain ⟨k, rfl⟩ : ∃ j, k = j + 1 := ⟨k - 1, by omega⟩
              refine (call_of c_law_value_at rfl (headL hb (fun _ => run_nx (st_set ev_tup0) (run_nx (st_set (ev_add1 (ev_var rfl))) (run_rt (ifs_true test (run_rt (st_ret (ev_lst2 ev_tup0 (ev_add1 (ev_var rfl))))))))) (fun h => nomatch h))).trans ?_
              rw [show p.length + 1 + 1 = T.length - q.length by omega]
              rfl
            · obtain ⟨k, rfl⟩ : ∃ j, k = j + 2 := ⟨k - 2, by omega⟩
              exact rv_mem (k := k + 1) hz hT hu (mem_empty hT hl hu hd)
          | false =>
            obtain ⟨o, ho, mL, mP⟩ := mem_loop (e := e - 1) (dp := dp) (T := T) (hv hd) (by omega) hl hu (s.length + 1) s (p ++ [40]) [] (by omega) hTc (hm.app (.one (by decide))) rfl (by simp only [deps]; omega) (by rw [List.length_nil]; omega)
            rw [hpc] at mL mP
            refine ⟨o, ?_, fun k μ hμ hk => ?_, fun k μ hμ hk => ?_⟩
            · match o, ho with
              | .good v r, ⟨c', l, a1, a2, a3, a4, a5⟩ =>
                subst a3
                exact ⟨40 :: c', by rw [a1]; rfl, by simp, Mo.app (p := [40]) (.one (by decide)) a2, a4, by simp only [dep]; omega⟩
              | .bad r, ho => exact Nat.le_succ_of_le ho
            · obtain ⟨k, rfl⟩ : ∃ j, k = j + 1 := ⟨k - 1, by omega⟩
              have q := mL k μ (rngD 0 (T.length + 1)) (some (.str (tx [40]))) none none none hμ (by omega) (by rw [rng0, List.length_map, List.length_range]; omega)
              exact call_of c_law_value_at rfl (headL hb (fun _ => run_nx (st_set ev_tup0) (run_nx (st_set (ev_add1 (ev_var rfl))) (run_nx (ifs_false (test.trans (congrArg (fun b => Res.ok b μ) h41)) run_nil) (run_rt (for_run' (it_rng1 (n := T.length + 1) (ev_add1 (ev_bif1 (ev_var rfl) (len_tx hz))) rfl (by omega)) q))))) (fun h => nomatch h))
            · obtain ⟨k, rfl⟩ : ∃ j, k = j + 2 := ⟨k - 2, by omega⟩
              exact rv_mem (k := k + 1) hz hT hu (mem_some hT hl hu hd h41 hμ ho (mP k μ 100000 none none hμ (by omega) (by omega)))
      · have b40 : (c == 40) = false := beq_eq_false_iff_ne.mpr h40
        refine ⟨.bad (c :: s), Nat.le_refl _, fun k μ hμ hk => ?_, fun k μ hμ hk => ?_⟩
        · obtain ⟨k, rfl⟩ : ∃ j, k = j + 1 := ⟨k - 1, by omega⟩
          exact call_of c_law_value_at rfl (headL (b := true) (by rw [b40]; rfl) (fun h => nomatch h) (fun _ => rfl))
        · obtain ⟨k, rfl⟩ : ∃ j, k = j + 4 := ⟨k - 4, by omega⟩
          exact rv_num (k := k + 3) hz hT hu (fun c' q' e' => by cases e'; exact ⟨h34, h40, hw'⟩) (read_number (k := k) (sg := []) hT hl hu (.inr ⟨rfl, fun c' q' e' => by cases e'; exact n45⟩) ⟨rfl, .inr (.inl ⟨c, s, rfl, hdg⟩)⟩)
theorem val : ∀ (e dp : Nat), e + dp = 60 → VAL e dp := by
  intro e
  induction e with
  | zero =>
    intro dp hdp
    exact fun T p s hT hl hu hm => val_step hdp (fun h => absurd h (by omega)) T p s hT hl hu hm
  | succ e ih =>
    intro dp hdp
    exact fun T p s hT hl hu hm => val_step hdp (fun _ => ih (dp + 1) (by omega)) T p s hT hl hu hm
end
end PyI.K31
/-! S14: the law's digits and draws. -/
namespace PyI.K31
open PySem L2 PyProof.Rows
abbrev dBody : B := forB (nthS b_law_digits 1)
abbrev dBig : B := forB (nthS (thenB (nthS dBody 3)) 0)
abbrev dSm : B := forB (nthS (elseB (nthS dBody 3)) 1)
section
variable {Γ : G} {ρ : Rho} {μ μ1 : Mu} {a b : E}
theorem int_int {i : Int} : bifD .int [.int i] μ = .ok (.int i) μ := rfl
theorem mul_int {i j : Int} (h : lim64 i ∨ lim64 j) : binD .mul (.int i) (.int j) μ = .ok (.int (i * j)) μ := by
  show needs _ _ = _
  rw [needs_pos (.inl h)]
theorem mod_int {i j : Int} (h : 0 < j) : binD .mod (.int i) (.int j) μ = .ok (.int (i % j)) μ := by
  show needs _ _ = _
  rw [needs_pos h]
theorem fdiv_int {i j : Int} (h : 0 < j) (h2 : j < 1073741824) : binD .fdiv (.int i) (.int j) μ = .ok (.int (i / j)) μ := by
  show needs _ _ = _
  rw [needs_pos ⟨h, .inl h2⟩]
theorem gt_int {i j : Int} : cmpD .gt (.int i) (.int j) μ = .ok (decide (j < i)) μ := rfl
theorem lt_int {i j : Int} : cmpD .lt (.int i) (.int j) μ = .ok (decide (i < j)) μ := rfl
theorem ge_int {i j : Int} : cmpD .ge (.int i) (.int j) μ = .ok (decide (j ≤ i)) μ := rfl
theorem len_lst {l : List D} : bifD .len [.lst l] μ = .ok (nD l.length) μ := rfl
theorem len_kl {l : List D} : bifD .len [.kl l] μ = .ok (nD l.length) μ := rfl
theorem len_ref {n : Nat} {l : List D} (h : μ[n]? = some (.lst l)) : bifD .len [.ref n] μ = .ok (nD l.length) μ := by
  show (match seqD μ (.ref n) with
    | some l => Res.ok (D.int (l.length : Int)) μ
    | none => .stuck) = _
  have : seqD μ (.ref n) = some l := by unfold seqD; simp only [h]
  rw [this]
theorem ix_kl {l : List D} {n : Nat} {d : D} {μ : Mu} (h : l[n]? = some d) : idxD (.kl l) (.int (n : Int)) μ = .ok d μ := by
  show (match seqD μ (.kl l) with
    | some l => match atI l (n : Int) with
      | some d => Res.ok d μ
      | none => .stuck
    | none => .stuck) = _
  simp only [seqD, atI_nat, h]
theorem ix_ref {l : List D} {n m : Nat} {d : D} {μ : Mu} (hm : μ[m]? = some (.lst l)) (h : l[n]? = some d) : idxD (.ref m) (.int (n : Int)) μ = .ok d μ := by
  have e : seqD μ (.ref m) = some l := by unfold seqD; simp only [hm]
  show (match seqD μ (.ref m) with
    | some l => match atI l (n : Int) with
      | some d => Res.ok d μ
      | none => .stuck
    | none => .stuck) = _
  simp only [e, atI_nat, h]
end
section
variable {k : Nat} {μ : Mu}
theorem cell_ok {i : Nat} {ns : List Int} : ∃ v, (gg (k + 1)).call n_law_cell [.kl (ns.map D.int), nD i] μ = .ok (.int v) μ := by
  have test : evalT (gg k) (.val (.cmp .lt (.var 1) (.bif .len (.cons (.var 0) .nil)))) (startR f_law_cell.N.length [.kl (ns.map D.int), nD i]) μ = .ok (decide ((i : Int) < ((ns.map D.int).length : Int))) μ := tv_bl (ev_cmp (ev_var rfl) (ev_bif1 (ev_var rfl) len_kl) lt_int)
  by_cases h : i < ns.length
  · refine ⟨ns[i], call_of c_law_cell rfl (run_rt (ifs_true (test.trans ?_) (run_rt (st_ret (ev_idx (ev_var rfl) (ev_var rfl) (ix_kl (by rw [List.getElem?_map, List.getElem?_eq_getElem h]; rfl)))))))⟩
    rw [decide_eq_true (by rw [List.length_map]; omega)]
  · refine ⟨0, call_of c_law_cell rfl (run_nx (ifs_false (test.trans ?_) run_nil) (run_rt (st_ret ev_cst)))⟩
    rw [decide_eq_false (by rw [List.length_map]; omega)]
theorem big_loop {n m : Nat} {x0 x1 x2 x4 x6 x7 : Option D} {c : Int} {ds : List Int} (hn : n = μ.length) (hm : m ≤ 1000000) (hl : ds.length ≤ m) :
    ∃ ρ' μ', forLoop (fbody (gg k) (.nm 6) dBig) (chkOf none) (rngD 0 60) [x0, x1, x2, some (.ref n), x4, some (.int c), x6, x7] (μ ++ [.lst (ds.map D.int)]) = .nx ρ' μ' ∧
      ∃ (ds' : List Int) (c' : Int) (o6 : Option D), ds'.length ≤ m + 60 ∧ μ' = μ ++ [.lst (ds'.map D.int)] ∧ ρ' = [x0, x1, x2, some (.ref n), x4, some (.int c'), o6, x7] := by
  refine for_range (fun j ρ ν => ∃ (ds' : List Int) (c' : Int) (o6 : Option D), ds'.length ≤ m + j ∧ ν = μ ++ [.lst (ds'.map D.int)] ∧ ρ = [x0, x1, x2, some (.ref n), x4, some (.int c'), o6, x7]) ⟨ds, c, x6, hl, rfl, rfl⟩ ?_
  rintro i hi ρ ν ⟨ds', c', o6, h1, rfl, rfl⟩
  subst hn
  generalize (0 : Int) + (i : Int) = j
  rw [fbody_nm]
  have g3 : (ds'.map D.int).length < 16777216 := by rw [List.length_map]; omega
  have test : evalT (gg k) (.val (.cmp .gt (.var 5) (.cst (.int 0)))) ([x0, x1, x2, some (.ref μ.length), x4, some (.int c'), o6, x7].set 6 (some (.int j))) (μ ++ [.lst (ds'.map D.int)]) = .ok (decide (0 < c')) _ := tv_bl (ev_cmp (ev_var rfl) ev_cst gt_int)
  by_cases hc : 0 < c'
  · rw [decide_eq_true hc] at test
    refine .inl ⟨_, _, run_nx (ifs_true test (run_nx (st_append (ev_var rfl) (ev_bin (ev_bif1 (ev_var rfl) int_int) ev_cst (mod_int (by decide))) snoc_get g3 snoc_set snoc_get) (run_nx (st_set (ev_bin (ev_var rfl) ev_cst (fdiv_int (by decide) (by decide)))) run_nil))) run_nil, ds' ++ [c' % 1000], c' / 1000, _, by simp; omega, by rw [List.map_append]; rfl, rfl⟩
  · rw [decide_eq_false hc] at test
    exact .inl ⟨_, _, run_nx (ifs_false test run_nil) run_nil, ds', c', _, by omega, rfl, rfl⟩
theorem small_loop {n m : Nat} {x0 x1 x2 x4 x5 x6 : Option D} {c : Int} {ds : List Int} (hn : n = μ.length) (hm : m ≤ 1000000) (hl : ds.length ≤ m) :
    ∃ ρ' μ', forLoop (fbody (gg k) (.nm 6) dSm) (chkOf none) (rngD 0 12) [x0, x1, x2, some (.ref n), x4, x5, x6, some (.int c)] (μ ++ [.lst (ds.map D.int)]) = .nx ρ' μ' ∧
      ∃ (ds' : List Int) (c' : Int) (o6 : Option D), ds'.length ≤ m + 12 ∧ μ' = μ ++ [.lst (ds'.map D.int)] ∧ ρ' = [x0, x1, x2, some (.ref n), x4, x5, o6, some (.int c')] := by
  refine for_range (fun j ρ ν => ∃ (ds' : List Int) (c' : Int) (o6 : Option D), ds'.length ≤ m + j ∧ ν = μ ++ [.lst (ds'.map D.int)] ∧ ρ = [x0, x1, x2, some (.ref n), x4, x5, o6, some (.int c')]) ⟨ds, c, x6, hl, rfl, rfl⟩ ?_
  rintro i hi ρ ν ⟨ds', c', o6, h1, rfl, rfl⟩
  subst hn
  generalize (0 : Int) + (i : Int) = j
  rw [fbody_nm]
  have g3 : (ds'.map D.int).length < 16777216 := by rw [List.length_map]; omega
  refine .inl ⟨_, _, run_nx (st_set (ev_bin (ev_bif1 (ev_bin (ev_bin (ev_bin (ev_var rfl) ev_cst (mul_int (.inr (by decide)))) (ev_bin ev_cst (ev_var rfl) (mul_int (.inl (by decide)))) rfl) ev_cst rfl) int_int) ev_cst (mod_int (by decide)))) (run_nx (st_append (ev_var rfl) (ev_bin (ev_bif1 (ev_bin (ev_var rfl) ev_cst (fdiv_int (by decide) (by decide))) int_int) ev_cst (mod_int (by decide))) snoc_get g3 snoc_set snoc_get) run_nil), ds' ++ [((c' * 16807 + 7 * j + 1) % 2147483647) / 997 % 1000], _, _, by simp; omega, by rw [List.map_append]; rfl, rfl⟩
theorem digits_ok {ns : List Int} (hμ : PureM μ) : ∃ ds : List Int, (gg (k + 2)).call n_law_digits [.kl (ns.map D.int), .int 0, .int 63] μ = .ok (.lst (ds.map D.int)) μ := by
  have loop := for_range (f := fbody (gg (k + 1)) (.nm 4) dBody) (lo := 0) (n := 63) (ρ := [some (.kl (ns.map D.int)), some (.int 0), some (.int 63), some (.ref μ.length), none, none, none, none]) (μ := μ ++ [.lst []])
    (fun i ρ ν => ∃ (ds : List Int) (o4 o5 o6 o7 : Option D), ds.length ≤ 60 * i ∧ ν = μ ++ [.lst (ds.map D.int)] ∧ ρ = [some (.kl (ns.map D.int)), some (.int 0), some (.int 63), some (.ref μ.length), o4, o5, o6, o7])
    ⟨[], none, none, none, none, by simp, rfl, rfl⟩ (by
      rintro i hi ρ ν ⟨ds, o4, o5, o6, o7, h1, rfl, rfl⟩
      rw [Int.zero_add, fbody_nm]
      obtain ⟨v, hv⟩ := cell_ok (k := k) (i := i) (ns := ns) (μ := μ ++ [.lst (ds.map D.int)])
      generalize hX : D.kl (ns.map D.int) = X at hv ⊢
      obtain ⟨c, h3⟩ : ∃ c, runS (gg (k + 1)) (nthS dBody 2) [some X, some (.int 0), some (.int 63), some (.ref μ.length), some (nD i), some (.int v), o6, o7] (μ ++ [.lst (ds.map D.int)]) = .nx [some X, some (.int 0), some (.int 63), some (.ref μ.length), some (nD i), some (.int c), o6, o7] (μ ++ [.lst (ds.map D.int)]) := by
        have test : evalT (gg (k + 1)) (.val (.cmp .lt (.var 5) (.cst (.int 0)))) [some X, some (.int 0), some (.int 63), some (.ref μ.length), some (nD i), some (.int v), o6, o7] (μ ++ [.lst (ds.map D.int)]) = .ok (decide (v < 0)) _ := tv_bl (ev_cmp (ev_var rfl) ev_cst lt_int)
        by_cases hc : v < 0
        · rw [decide_eq_true hc] at test
          exact ⟨1 - 2 * v, ifs_true test (run_nx (st_set (ev_bin ev_cst (ev_bin ev_cst (ev_var rfl) (mul_int (.inl (by decide)))) rfl)) run_nil)⟩
        · rw [decide_eq_false hc] at test
          exact ⟨v, ifs_false test run_nil⟩
      have test : evalT (gg (k + 1)) (.val (.cmp .gt (.bif .len (.cons (.var 3) .nil)) (.cst (.int 1500)))) [some X, some (.int 0), some (.int 63), some (.ref μ.length), some (nD i), o5, o6, o7] (μ ++ [.lst (ds.map D.int)]) = .ok (decide ((1500 : Int) < ((ds.map D.int).length : Int))) (μ ++ [.lst (ds.map D.int)]) := tv_bl (ev_cmp (ev_bif1 (ev_var rfl) (len_ref snoc_get)) ev_cst gt_int)
      by_cases hb : (1500 : Int) < ((ds.map D.int).length : Int)
      · rw [decide_eq_true hb] at test
        exact .inr ⟨_, _, run_br (ifs_true test (run_br (ρ' := [some X, some (.int 0), some (.int 63), some (.ref μ.length), some (nD i), o5, o6, o7]) (μ' := μ ++ [.lst (ds.map D.int)]) (by rw [runS]; rfl))), ds, _, _, _, _, by omega, rfl, rfl⟩
      · rw [decide_eq_false hb] at test
        have gp : (0 : Int) ≤ 18 ∧ (18 : Int) ≤ 1000000 ∧ (10 : Int).natAbs < 2 ^ 64 := by decide
        have ep : ∀ {ν : Mu}, binD .pow (.int 10) (.int 18) ν = .ok (.int ((10 : Int) ^ (18 : Int).toNat)) ν := fun {ν} => by
          show needs _ _ = _
          rw [needs_pos gp]
        have t4 : evalT (gg (k + 1)) (.val (.cmp .ge (.var 5) (.bin .pow (.cst (.int 10)) (.cst (.int 18))))) [some X, some (.int 0), some (.int 63), some (.ref μ.length), some (nD i), some (.int c), o6, o7] (μ ++ [.lst (ds.map D.int)]) = .ok (decide ((10 : Int) ^ (18 : Int).toNat ≤ c)) (μ ++ [.lst (ds.map D.int)]) := tv_bl (ev_cmp (ev_var rfl) (ev_bin ev_cst ev_cst ep) ge_int)
        have h4 : ∃ ρ' μ', runS (gg (k + 1)) (nthS dBody 3) [some X, some (.int 0), some (.int 63), some (.ref μ.length), some (nD i), some (.int c), o6, o7] (μ ++ [.lst (ds.map D.int)]) = .nx ρ' μ' ∧ ∃ (ds : List Int) (o4 o5 o6 o7 : Option D), ds.length ≤ 60 * (i + 1) ∧ μ' = μ ++ [.lst (ds.map D.int)] ∧ ρ' = [some X, some (.int 0), some (.int 63), some (.ref μ.length), o4, o5, o6, o7] := by
          by_cases hg : (10 : Int) ^ (18 : Int).toNat ≤ c
          · rw [decide_eq_true hg] at t4
            obtain ⟨ρ', μ', e, ds', c', o6', q1, q2, q3⟩ := big_loop (k := k + 1) (n := μ.length) (m := 60 * i) (x0 := some X) (x1 := some (.int 0)) (x2 := some (.int 63)) (x4 := some (nD i)) (x6 := o6) (x7 := o7) (c := c) (ds := ds) (μ := μ) rfl (by omega) h1
            exact ⟨ρ', μ', ifs_true t4 (run_nx (for_run' (it_rng1 (i := 60) (n := 60) ev_cst rfl (by omega)) e) run_nil), ds', _, _, _, _, by omega, q2, q3⟩
          · rw [decide_eq_false hg] at t4
            obtain ⟨ρ', μ', e, ds', c', o6', q1, q2, q3⟩ := small_loop (k := k + 1) (n := μ.length) (m := 60 * i) (x0 := some X) (x1 := some (.int 0)) (x2 := some (.int 63)) (x4 := some (nD i)) (x5 := some (.int c)) (x6 := o6) (c := (c * 48271 + (i : Int) * 69621 + 11) % 2147483647) (ds := ds) (μ := μ) rfl (by omega) h1
            exact ⟨ρ', μ', ifs_false t4 (run_nx (st_set (ev_bin (ev_bif1 (ev_bin (ev_bin (ev_bin (ev_var rfl) ev_cst (mul_int (.inr (by decide)))) (ev_bin (ev_var rfl) ev_cst (mul_int (.inr (by decide)))) rfl) ev_cst rfl) int_int) ev_cst (mod_int (by decide)))) (run_nx (for_run' (it_rng1 (i := 12) (n := 12) ev_cst rfl (by omega)) e) run_nil)), ds', _, _, _, _, by omega, q2, q3⟩
        obtain ⟨ρ', μ', e4, q⟩ := h4
        exact .inl ⟨ρ', μ', run_nx (ifs_false test run_nil) (run_nx (st_set (ev_call2 (ev_var rfl) (ev_var rfl) hv)) (run_nx h3 (run_nx e4 run_nil))), q⟩)
  obtain ⟨ρ', μ', e, ds, o4, o5, o6, o7, h1, rfl, rfl⟩ := loop
  refine ⟨ds, ?_⟩
  have full : runB (gg (k + 1)) b_law_digits (startR f_law_digits.N.length [.kl (ns.map D.int), .int 0, .int 63]) μ = .rt (.ref μ.length) (μ ++ [.lst (ds.map D.int)]) := by
    have hb : b_law_digits = .cons (.new 3 (.lst .nil)) (.cons (.for_ (.nm 4) (.rng2 (.var 1) (.var 2)) dBody) (.cons (.ret (.var 3)) .nil)) := by kernel_rfl
    have hs : startR f_law_digits.N.length [.kl (ns.map D.int), .int 0, .int 63] = [some (.kl (ns.map D.int)), some (.int 0), some (.int 63), none, none, none, none, none] := rfl
    rw [hb, hs]
    refine run_nx (ρ' := [some (.kl (ns.map D.int)), some (.int 0), some (.int 63), some (.ref μ.length), none, none, none, none]) (μ' := μ ++ [.lst []]) (st_new ev_lst0) ?_
    have hi : evalIt (gg (k + 1)) (.rng2 (.var 1) (.var 2)) [some (.kl (ns.map D.int)), some (.int 0), some (.int 63), some (.ref μ.length), none, none, none, none] (μ ++ [.lst []]) = .ok (rngD 0 63, none) (μ ++ [.lst []]) := it_rng2 (μ1 := μ ++ [.lst []]) (i := 0) (j := 63) (n := 0) (m := 63) (ev_var rfl) (ev_var rfl) rfl rfl (by omega)
    exact run_nx (for_run' hi e) (run_rt (st_ret (ev_var rfl)))
  exact call_lst (c_law_digits (k := k + 1)) hμ (pureDs_map (fun _ => rfl) ds) full
end
/-- the heap: the box, then others -/
def Bx (ν : Mu) (rest : Mu) : Prop := ∃ (ds : List Int) (at_ : Nat), ν = .lst [.lst (ds.map D.int), nD at_] :: rest
theorem Bx.pure {ν rest : Mu} (h : Bx ν rest) (hr : PureM rest) : PureM ν := by
  obtain ⟨ds, at_, rfl⟩ := h
  intro m hm
  rcases List.mem_cons.mp hm with rfl | q
  · refine ⟨_, rfl, ?_⟩
    simp only [pureDs, pureD, pureDs_map (f := D.int) (fun _ => rfl) ds, nD, Bool.and_true]
  · exact hr m q
theorem Bx.len {ν rest : Mu} (h : Bx ν rest) : ν.length = rest.length + 1 := by
  obtain ⟨ds, at_, rfl⟩ := h
  rfl
theorem Bx.snoc {ν rest : Mu} {m : MO} (h : Bx ν rest) : Bx (ν ++ [m]) (rest ++ [m]) := by
  obtain ⟨ds, at_, rfl⟩ := h
  exact ⟨ds, at_, rfl⟩
section
variable {k : Nat} {ν rest : Mu}
theorem draw_ok (h : Bx ν rest) {m : Nat} (hm : 0 < m) : ∃ r ν', r < m ∧ Bx ν' rest ∧ (gg (k + 1)).call n_law_draw [.ref 0, nD m] ν = .ok (nD r) ν' := by
  obtain ⟨ds, at_, rfl⟩ := h
  have hseq : ∀ (x : Nat), (.lst [.lst (ds.map D.int), nD x] :: rest : Mu)[0]? = some (.lst [.lst (ds.map D.int), nD x]) := fun _ => rfl
  have st2 : ∀ {o : Out}, runB (gg k) (match b_law_draw with | .cons _ (.cons _ b) => b | b => b) [some (.ref 0), some (nD m), some (nD at_)] (.lst [.lst (ds.map D.int), nD (at_ + 1)] :: rest) = o → runB (gg k) b_law_draw (startR f_law_draw.N.length [.ref 0, nD m]) (.lst [.lst (ds.map D.int), nD at_] :: rest) = o := fun {o} e => by
    refine run_nx (st_set (ev_idx (ev_var rfl) ev_cst (ix_ref (n := 1) (hseq _) rfl))) (run_nx (ρ' := [some (.ref 0), some (nD m), some (nD at_)]) (μ' := (.lst [.lst (ds.map D.int), nD (at_ + 1)] :: rest)) ?_ e)
    have e1 : evalE (gg k) (.bin .add (.var 2) (.cst (.int 1))) [some (.ref 0), some (nD m), some (nD at_)] (.lst [.lst (ds.map D.int), nD at_] :: rest) = .ok (nD (at_ + 1)) (.lst [.lst (ds.map D.int), nD at_] :: rest) := ev_add1 (ev_var rfl)
    show runS (gg k) (.setIx (.var 0) (.cst (.int 1)) (.bin .add (.var 2) (.cst (.int 1)))) [some (.ref 0), some (nD m), some (nD at_)] (.lst [.lst (ds.map D.int), nD at_] :: rest) = _
    rw [runS, e1, then_ok, ev_var (d := .ref 0) rfl, then_ok, ev_cst, then_ok]
    rfl
  have e0 : evalE (gg k) (.idx (.var 0) (.cst (.int 0))) [some (.ref 0), some (nD m), some (nD at_)] (.lst [.lst (ds.map D.int), nD (at_ + 1)] :: rest) = .ok (.lst (ds.map D.int)) (.lst [.lst (ds.map D.int), nD (at_ + 1)] :: rest) := ev_idx (ev_var rfl) ev_cst (ix_ref (n := 0) (hseq _) rfl)
  have test : evalT (gg k) (.val (.cmp .lt (.var 2) (.bif .len (.cons (.idx (.var 0) (.cst (.int 0))) .nil)))) [some (.ref 0), some (nD m), some (nD at_)] (.lst [.lst (ds.map D.int), nD (at_ + 1)] :: rest) = .ok (decide ((at_ : Int) < ((ds.map D.int).length : Int))) (.lst [.lst (ds.map D.int), nD (at_ + 1)] :: rest) := tv_bl (ev_cmp (ev_var rfl) (ev_bif1 e0 len_lst) lt_int)
  have modn : ∀ (v : Int), ∃ r : Nat, r < m ∧ v % (m : Int) = (r : Int) := fun v => by
    have h1 := Int.emod_nonneg v (show (m : Int) ≠ 0 by omega)
    have h2 := Int.emod_lt_of_pos v (show (0 : Int) < (m : Int) by omega)
    exact ⟨(v % (m : Int)).toNat, by omega, by omega⟩
  by_cases hc : at_ < ds.length
  · rw [decide_eq_true (by rw [List.length_map]; omega)] at test
    obtain ⟨r, hr, er⟩ := modn ds[at_]
    refine ⟨r, _, hr, ⟨ds, at_ + 1, rfl⟩, call_of c_law_draw rfl (st2 (run_rt (ifs_true test (run_rt (st_ret (ev_bin (ev_bif1 (ev_idx e0 (ev_var rfl) (ix_lst (d := .int ds[at_]) (by rw [List.getElem?_map, List.getElem?_eq_getElem hc]; rfl))) int_int) (ev_var rfl) ((mod_int (by omega)).trans ?_)))))))⟩
    rw [er]
  · rw [decide_eq_false (by rw [List.length_map]; omega)] at test
    obtain ⟨r, hr, er⟩ := modn ((at_ : Int) * 7)
    refine ⟨r, _, hr, ⟨ds, at_ + 1, rfl⟩, call_of c_law_draw rfl (st2 (run_nx (ifs_false test run_nil) (run_rt (st_ret (ev_bin (ev_bif1 (ev_bin (ev_var rfl) ev_cst (mul_int (.inr (by decide)))) int_int) (ev_var rfl) ((mod_int (by omega)).trans ?_))))))⟩
    rw [er]
end
theorem choose_l {α : Type} {g : α → D} {Q : α → Prop} : ∀ {l : List D}, (∀ y ∈ l, ∃ a, y = g a ∧ Q a) → ∃ as : List α, l = as.map g ∧ ∀ a ∈ as, Q a
  | [], _ => ⟨[], rfl, fun _ h => nomatch h⟩
  | y :: l, h => by
    obtain ⟨a, rfl, ha⟩ := h y (List.mem_cons_self ..)
    obtain ⟨as, rfl, has⟩ := choose_l (l := l) fun y hy => h y (List.mem_cons_of_mem _ hy)
    exact ⟨a :: as, rfl, fun b hb => by
      rcases List.mem_cons.mp hb with e | e
      · rw [e]; exact ha
      · exact has b e⟩
end PyI.K31
/-! S15: a text is told alike by both. -/
namespace PyI.K31
open PySem L2
def goodD (v : D) : D := .tup [.str "good", v]
def badD (n : Nat) : D := .tup [.str "bad", nD n]
def finD (T : List Nat) : Oc → D
  | .good v [] => goodD v
  | .good _ (c :: r) => badD (T.length - (c :: r).length)
  | .bad r => badD (T.length - r.length)
  | .over _ r => badD (T.length - r.length)
def plP (T : List Nat) (μ : Mu) : Oc → Res D
  | .good v [] => .ok v μ
  | .good _ (c :: r) => .err 0 [nD (T.length - (c :: r).length)] μ
  | .bad r => .err 0 [nD (T.length - r.length)] μ
  | .over _ r => .err 0 [nD (T.length - r.length)] μ
section
variable {T : List Nat} {k : Nat} {μ : Mu}
theorem law_read {o : Oc} (hl : T.length ≤ 20000) (ho : VOK 0 T o) (h : (gg (k)).call n_law_value_at [.str (tx T), nD 0, nD 0] μ = .ok (ocL T o) μ) : (gg (k + 1)).call n_law_read [.str (tx T)] μ = .ok (finD T o) μ := by
  have hz : T.length ≤ 16777216 := by omega
  have c : evalE (gg k) (.call 15 (.cons (.var 0) (.cons (.cst (.int 0)) (.cons (.cst (.int 0)) .nil)))) [some (.str (tx T)), none, none] μ = .ok (ocL T o) μ := ev_call3 (ev_var rfl) ev_cst ev_cst h
  have badc : ∀ {n : Nat}, ocL T o = .lst [nD n, .int (-1)] → (gg (k + 1)).call n_law_read [.str (tx T)] μ = .ok (badD n) μ := fun {n} e =>
    call_of c_law_read rfl (run_nx (st_tp2l (c.trans (congrArg (fun d => Res.ok d μ) e))) (run_rt (ifs_true (tv_bl (ev_cmp (ev_var rfl) ev_m1 rfl)) (run_rt (st_ret (ev_tup2 ev_cst (ev_var rfl)))))))
  match o, ho, c, @badc with
  | .bad r, _, _, badc => exact badc rfl
  | .over v r, _, _, badc => exact badc rfl
  | .good v [], _, c, _ =>
    refine call_of c_law_read rfl (run_nx (st_tp2l c) (run_nx (ifs_false (tv_bl (ev_cmp (ev_var rfl) ev_m1 eq_nm1)) run_nil) (run_rt (st_ret (ev_ite_true (tv_bl (ev_cmp (ev_var rfl) (ev_bif1 (ev_var rfl) (len_tx hz)) (eq_n.trans ?_))) (ev_tup2 ev_cst (ev_var rfl)))))))
    rw [decide_eq_true (by simp)]
  | .good v (d :: r), ⟨c', e, _⟩, c, _ =>
    have hlm := len_mid e
    rw [List.length_cons] at hlm
    refine call_of c_law_read rfl (run_nx (st_tp2l c) (run_nx (ifs_false (tv_bl (ev_cmp (ev_var rfl) ev_m1 eq_nm1)) run_nil) (run_rt (st_ret (ev_ite_false (tv_bl (ev_cmp (ev_var rfl) (ev_bif1 (ev_var rfl) (len_tx hz)) (eq_n.trans ?_))) (ev_tup2 ev_cst (ev_var rfl)))))))
    rw [decide_eq_false (by rw [List.length_cons]; omega)]
theorem read_plain {o : Oc} (hl : T.length ≤ 20000) (hk : 2 ≤ k) (ho : VOK 0 T o) (h : (gg (k)).call n_read_value [.str (tx T), .str (tx (msk T)), nD 0, nD 0] μ = ocP T μ o) : (gg (k + 1)).call n_read_plain [.str (tx T)] μ = plP T μ o := by
  have hz : T.length ≤ 16777216 := by omega
  have l1 : (StrLaws.replL [92, 92] [46, 46] T).length = T.length := repl_same (y := [92, 92]) (z := [46, 46]) (by simp) rfl _ _ (Nat.le_refl _)
  have sm : runS (gg k) (nthS b_read_plain 0) [some (.str (tx T)), none, none, none] μ = .nx [some (.str (tx T)), some (.str (tx (msk T))), none, none] μ := by
    refine st_setR (evr_repl (evr_repl (evr_base (ev_var rfl)) t_2 t_3 (by simp) ?_) t_4 t_3 (by simp) ?_)
    · show T.length + (T.length + 1) * 2 ≤ _; omega
    · rw [l1]; show T.length + (T.length + 1) * 2 ≤ _; omega
  have c : evalE (gg k) (.call 1 (.cons (.var 0) (.cons (.var 1) (.cons (.cst (.int 0)) (.cons (.cst (.int 0)) .nil))))) [some (.str (tx T)), some (.str (tx (msk T))), none, none] μ = ocP T μ o := ev_call4 (ev_var rfl) (ev_var rfl) ev_cst ev_cst h
  have past : ∀ {v : D} {n : Nat}, ocP T μ o = .ok (.tup [v, nD n]) μ → n < T.length → (gg (k + 1)).call n_read_plain [.str (tx T)] μ = .err 0 [nD n] μ := fun {v n} e hn => by
    refine call_er c_read_plain rfl (run_nx sm (run_nx (st_tp2 (c.trans e)) (run_er (ifs_true (tv_bl (ev_cmp (ev_var rfl) (ev_bif1 (ev_var rfl) (len_tx hz)) (lt_n.trans ?_))) (run_er (st_rse (by show decide (2 ≤ k) = true; exact decide_eq_true hk) (ev_var rfl) (by omega)))))))
    rw [decide_eq_true hn]
  match o, ho, c, @past with
  | .bad r, _, c, _ => exact call_er c_read_plain rfl (run_nx sm (run_er (st_set_err c)))
  | .over v r, ⟨_, c', p', d, q, e, _, e2, _⟩, _, past =>
    have hlm := len_mid e
    rw [e2, List.length_cons] at hlm
    exact past rfl (by rw [e2, List.length_cons]; omega)
  | .good v [], _, c, _ =>
    refine call_of c_read_plain rfl (run_nx sm (run_nx (st_tp2 c) (run_nx (ifs_false (tv_bl (ev_cmp (ev_var rfl) (ev_bif1 (ev_var rfl) (len_tx hz)) (lt_n.trans ?_))) run_nil) (run_rt (st_ret (ev_var rfl))))))
    rw [decide_eq_false (by simp)]
  | .good v (d :: r), ⟨c', e, _⟩, _, past =>
    have hlm := len_mid e
    rw [List.length_cons] at hlm
    exact past rfl (by rw [List.length_cons]; omega)
theorem law_told {o : Oc} (h : (gg (k)).call n_read_plain [.str (tx T)] μ = plP T μ o) : (gg (k + 1)).call n_law_told [.str (tx T)] μ = .ok (finD T o) μ := by
  have bad : ∀ {n : Nat}, (gg (k)).call n_read_plain [.str (tx T)] μ = .err 0 [nD n] μ → (gg (k + 1)).call n_law_told [.str (tx T)] μ = .ok (badD n) μ := fun {n} e =>
    call_of c_law_told rfl (run_rt (try_er (ev_tup2_err ev_cst (ev_call1 (ev_var rfl) e)) rfl))
  match o, h with
  | .bad r, h => exact bad h
  | .over v r, h => exact bad h
  | .good v [], h => exact call_of c_law_told rfl (run_rt (try_ok (ev_tup2 ev_cst (ev_call1 (ev_var rfl) h))))
  | .good v (d :: r), h => exact bad h
end
/-! ### the same -/
section
variable {k : Nat} {μ : Mu}
theorem isi_ {Γ : G} {ρ : Rho} {i : Nat} {d : D} {t : Ty} {v : Bool} (h : ρ[i]? = some (some d)) (hv : isiD d t μ = .ok (.bl v) μ) : evalE Γ (.isi (.var i) t) ρ μ = .ok (.bl v) μ := isi_eq (ev_var h) hv
theorem same_str {s : Str} (h : s.cps.all (· < 0x110000) = true) : (gg (k + 1)).call n_law_same [.str s, .str s] μ = .ok (.bl true) μ := by
  refine call_of c_law_same rfl (run_nx (ifs_false (tv_bl (isi_ rfl rfl)) run_nil) (run_nx (ifs_false (tv_bl (ev_cmp (ev_var rfl) ev_cst rfl)) run_nil) (run_nx (ifs_false (tv_bl (ev_cmp (ev_var rfl) ev_cst rfl)) run_nil) (run_nx (ifs_false (tv_bl (ev_cmp (ev_var rfl) ev_cst rfl)) run_nil) (run_nx (ifs_false (tv_bl (isi_ rfl rfl)) run_nil) (run_rt (st_ret (ev_and_t (isi_ rfl rfl) rfl (ev_cmp (ev_var rfl) (ev_var rfl) ((eq_str h h).trans ?_))))))))))
  rw [beq_self_eq_true]
theorem same_tup {l : List D} (hl : l.length ≤ 20000) (h : ∀ d ∈ l, (gg (k)).call n_law_same [d, d] μ = .ok (.bl true) μ) : (gg (k + 1)).call n_law_same [.tup l, .tup l] μ = .ok (.bl true) μ := by
  have ln : ∀ {ρ : Rho} {i : Nat}, ρ[i]? = some (some (.tup l)) → evalE (gg k) (.bif .len (.cons (.var i) .nil)) ρ μ = .ok (nD l.length) μ := fun hi => ev_bif1 (ev_var hi) rfl
  have loop : ∃ ρ' μ', forLoop (fbody (gg k) (.nm 2) (forB (nthS (thenB (nthS b_law_same 0)) 1))) (chkOf none) (rngD 0 l.length) [some (.tup l), some (.tup l), none] μ = .nx ρ' μ' ∧ ∃ o, ρ' = [some (.tup l), some (.tup l), o] ∧ μ' = μ := by
    refine for_range (fun _ ρ ν => ∃ o, ρ = [some (.tup l), some (.tup l), o] ∧ ν = μ) ⟨none, rfl, rfl⟩ ?_
    rintro i hi ρ ν ⟨o, rfl, rfl⟩
    rw [Int.zero_add, fbody_nm]
    have hx : l[i]? = some l[i] := List.getElem?_eq_getElem hi
    exact .inl ⟨_, _, run_nx (ifs_false (tv_not (tv_bl (ev_call2 (ev_idx (ev_var rfl) (ev_var rfl) (ix_tup hx)) (ev_idx (ev_var rfl) (ev_var rfl) (ix_tup hx)) (h _ (List.getElem_mem hi))))) run_nil) run_nil, _, rfl, rfl⟩
  obtain ⟨ρ', μ', e, o, rfl, rfl⟩ := loop
  refine call_of c_law_same rfl (run_rt (ifs_true (tv_bl (isi_ rfl rfl)) (run_nx (ifs_false (tv_or_ff (tv_not (k := true) (tv_bl (isi_ rfl rfl))) (tv_bl (ev_cmp (ln rfl) (ln rfl) ?_))) run_nil) (run_nx (for_run' (it_rng1 (n := l.length) (ln rfl) rfl (by omega)) e) (run_rt (st_ret ev_cst))))))
  show needs _ _ = _
  rw [needs_pos ⟨rfl, rfl⟩]
  show Res.ok (!((l.length : Int) == (l.length : Int))) _ = _
  rw [beq_self_eq_true]; rfl
mutual
theorem same : ∀ {d : D}, okW d = true → ∀ (k : Nat) (μ : Mu), dep d + 1 ≤ k → (gg (k)).call n_law_same [d, d] μ = .ok (.bl true) μ
  | .non, _, k + 1, μ, _ => call_of c_law_same rfl (run_nx (ifs_false (tv_bl (isi_ rfl rfl)) run_nil) (run_rt (ifs_true (tv_bl (ev_cmp (ev_var rfl) ev_cst rfl)) (run_rt (st_ret (ev_cmp (ev_var rfl) ev_cst rfl))))))
  | .bl true, _, k + 1, μ, _ => call_of c_law_same rfl (run_nx (ifs_false (tv_bl (isi_ rfl rfl)) run_nil) (run_nx (ifs_false (tv_bl (ev_cmp (ev_var rfl) ev_cst rfl)) run_nil) (run_rt (ifs_true (tv_bl (ev_cmp (ev_var rfl) ev_cst rfl)) (run_rt (st_ret (ev_cmp (ev_var rfl) ev_cst rfl)))))))
  | .bl false, _, k + 1, μ, _ => call_of c_law_same rfl (run_nx (ifs_false (tv_bl (isi_ rfl rfl)) run_nil) (run_nx (ifs_false (tv_bl (ev_cmp (ev_var rfl) ev_cst rfl)) run_nil) (run_nx (ifs_false (tv_bl (ev_cmp (ev_var rfl) ev_cst rfl)) run_nil) (run_rt (ifs_true (tv_bl (ev_cmp (ev_var rfl) ev_cst rfl)) (run_rt (st_ret (ev_cmp (ev_var rfl) ev_cst rfl))))))))
  | .int i, _, k + 1, μ, _ => by
    refine call_of c_law_same rfl (run_nx (ifs_false (tv_bl (isi_ rfl rfl)) run_nil) (run_nx (ifs_false (tv_bl (ev_cmp (ev_var rfl) ev_cst rfl)) run_nil) (run_nx (ifs_false (tv_bl (ev_cmp (ev_var rfl) ev_cst rfl)) run_nil) (run_nx (ifs_false (tv_bl (ev_cmp (ev_var rfl) ev_cst rfl)) run_nil) (run_rt (ifs_true (tv_bl (isi_ rfl rfl)) (run_rt (st_ret (ev_and_t (isi_ rfl rfl) rfl (ev_and_t (ev_notv (isi_ rfl rfl)) rfl (ev_cmp (ev_var rfl) (ev_var rfl) (eq_int.trans ?_))))))))))))
    rw [beq_self_eq_true]
  | .str s, h, k + 1, μ, _ => same_str (by rw [tx_self s, tx_all]; exact h)
  | .tup l, h, k + 1, μ, hk => by
    simp only [okW, Bool.and_eq_true, decide_eq_true_eq] at h
    exact same_tup h.1 (sames h.2 k μ (by simp only [dep] at hk; omega))
  | .ref _, h, _, _, _ => by cases h
  | .lst _, h, _, _, _ => by cases h
  | .kl _, h, _, _, _ => by cases h
theorem sames : ∀ {l : List D}, okWs l = true → ∀ (k : Nat) (μ : Mu), deps l + 1 ≤ k → ∀ d ∈ l, (gg (k)).call n_law_same [d, d] μ = .ok (.bl true) μ
  | [], _, _, _, _, d, hd => by cases hd
  | e :: l, h, k, μ, hk, d, hd => by
    simp only [okWs, Bool.and_eq_true] at h
    simp only [deps] at hk
    rcases List.mem_cons.mp hd with q | q
    · rw [q]
      exact same h.1 k μ (by omega)
    · exact sames h.2 k μ (by omega) d q
end
end
theorem fin_ok {T : List Nat} {o : Oc} (h : VOK 0 T o) : okW (finD T o) = true ∧ dep (finD T o) ≤ 61 := by
  have bad : ∀ n : Nat, okW (badD n) = true ∧ dep (badD n) ≤ 61 := fun n => ⟨rfl, by simp [badD, dep, deps]⟩
  match o, h with
  | .bad r, _ => exact bad _
  | .over v r, _ => exact bad _
  | .good v (d :: r), _ => exact bad _
  | .good v [], ⟨_, _, _, _, h1, h2⟩ =>
    refine ⟨?_, ?_⟩
    · show okW (goodD v) = true
      simp only [goodD, okW, okWs, h1]
      rfl
    · show dep (goodD v) ≤ 61
      simp only [goodD, dep, deps]
      omega
/-- a text is told alike -/
theorem told_alike {T : List Nat} (hu : T.all uni = true) (hl : T.length ≤ 20000) {k : Nat} {μ : Mu} (hμ : PureM μ) (hk : 130 ≤ k) : ∃ d, (gg (k)).call n_law_read [.str (tx T)] μ = .ok d μ ∧ (gg (k)).call n_law_told [.str (tx T)] μ = .ok d μ ∧ (gg (k)).call n_law_same [d, d] μ = .ok (.bl true) μ := by
  obtain ⟨o, ho, vL, vP⟩ := val 60 0 rfl T [] T rfl hl hu .nil
  obtain ⟨k, rfl⟩ : ∃ j, k = j + 2 := ⟨k - 2, by omega⟩
  obtain ⟨f1, f2⟩ := fin_ok ho
  exact ⟨finD T o, law_read hl ho (vL (k + 1) μ hμ (by omega)), law_told (read_plain hl (by omega) ho (vP k μ hμ (by omega))), same f1 _ μ (by omega)⟩
end PyI.K31
/-! S16: drawn values and their texts. -/
namespace PyI.K31
open PySem L2
def Pl (n L : Nat) (v : D) : Prop := ∃ t : List Nat, t.all uni = true ∧ t.length ≤ L ∧ ∀ (k : Nat) (μ : Mu), n + 1 ≤ k → (gg (k)).call n_law_plain [v] μ = .ok (.str (tx t)) μ
theorem Pl.mono {n m L K : Nat} {v : D} (h : Pl n L v) (h1 : n ≤ m) (h2 : L ≤ K) : Pl m K v := by
  obtain ⟨t, a, b, c⟩ := h
  exact ⟨t, a, by omega, fun k μ hk => c k μ (by omega)⟩
theorem ofP {n L : Nat} {v : D} (t : List Nat) (a : t.all uni = true) (b : t.length ≤ L) (c : ∀ (k : Nat) (μ : Mu), n ≤ k → (gg (k + 1)).call n_law_plain [v] μ = .ok (.str (tx t)) μ) : Pl n L v :=
  ⟨t, a, b, fun k μ hk => by
    obtain ⟨k, rfl⟩ : ∃ j, k = j + 1 := ⟨k - 1, by omega⟩
    exact c k μ (by omega)⟩
theorem pl_non : Pl 0 30 .non := ofP [78] (by decide) (by decide) fun k μ _ => call_of c_law_plain rfl (run_rt (ifs_true (tv_bl (ev_cmp (ev_var rfl) ev_cst rfl)) (run_rt (st_ret (ev_cs t_17)))))
theorem pl_t : Pl 0 30 (.bl true) := ofP [84] (by decide) (by decide) fun k μ _ => call_of c_law_plain rfl (run_nx (ifs_false (tv_bl (ev_cmp (ev_var rfl) ev_cst rfl)) run_nil) (run_rt (ifs_true (tv_bl (ev_cmp (ev_var rfl) ev_cst rfl)) (run_rt (st_ret (ev_cs t_18))))))
theorem pl_f : Pl 0 30 (.bl false) := ofP [70] (by decide) (by decide) fun k μ _ => call_of c_law_plain rfl (run_nx (ifs_false (tv_bl (ev_cmp (ev_var rfl) ev_cst rfl)) run_nil) (run_nx (ifs_false (tv_bl (ev_cmp (ev_var rfl) ev_cst rfl)) run_nil) (run_rt (ifs_true (tv_bl (ev_cmp (ev_var rfl) ev_cst rfl)) (run_rt (st_ret (ev_cs t_19)))))))
theorem intL_uni (i : Int) : (intL i).all uni = true := by
  have d : ∀ n, (TL.numL n).all uni = true := fun n => List.all_eq_true.mpr fun c hc => by
    have := TL.numL_digits n c hc
    show decide (c < 0x110000) = true
    rw [decide_eq_true_eq]
    omega
  cases i with
  | ofNat n => exact d n
  | negSucc n =>
    show ((45 :: TL.numL (n + 1)).all uni) = true
    rw [List.all_cons, d]
    rfl
theorem pl_int {i : Int} (h : i.natAbs < 1000) : Pl 0 30 (.int i) := by
  have hl : (intL i).length ≤ 30 := by
    cases i with
    | ofNat n =>
      have h' : n < 1000 := h
      have : (TL.numL n).length ≤ 4 := TL.numL_len (by decide) (by omega)
      show (TL.numL n).length ≤ 30; omega
    | negSucc n =>
      have h' : n + 1 < 1000 := h
      have : (TL.numL (n + 1)).length ≤ 4 := TL.numL_len (by decide) (by omega)
      show (45 :: TL.numL (n + 1)).length ≤ 30
      rw [List.length_cons]; omega
  have hlog : i.natAbs.log2 < 1920 := by
    rcases Nat.eq_zero_or_pos i.natAbs with e | e
    · rw [e]; decide
    · exact Nat.lt_trans ((Nat.log2_lt (by omega)).mpr (show i.natAbs < 2 ^ 10 by omega)) (by decide)
  refine ofP (intL i) (intL_uni i) hl fun k μ _ => call_of c_law_plain rfl (run_nx (ifs_false (tv_bl (ev_cmp (ev_var rfl) ev_cst rfl)) run_nil) (run_nx (ifs_false (tv_bl (ev_cmp (ev_var rfl) ev_cst rfl)) run_nil) (run_nx (ifs_false (tv_bl (ev_cmp (ev_var rfl) ev_cst rfl)) run_nil) (run_rt (ifs_true (tv_bl (isi_ rfl rfl)) (run_rt (st_ret (ev_bif1 (ev_var rfl) ?_))))))))
  show needs _ _ = _
  rw [needs_pos hlog, tx_int]
theorem repl2_len (y a b : Nat) (l : List Nat) : (StrLaws.replL [y] [a, b] l).length ≤ 2 * l.length := by
  induction l with
  | nil => rw [StrLaws.replL_nil]; exact Nat.le_refl _
  | cons c r ih =>
    by_cases h : c = y
    · rw [StrLaws.replL_hit (by simp) (by simp [h])]
      simp at *
      omega
    · rw [StrLaws.replL_miss (by simpa using h)]
      simp
      omega
theorem esc_uni {l : List Nat} (h : l.all uni = true) : (l.flatMap escT).all uni = true := by
  rw [List.all_eq_true] at *
  intro c hc
  obtain ⟨d, hd, hc⟩ := List.mem_flatMap.mp hc
  have hs := h d hd
  unfold escT at hc
  split at hc
  · simp at hc; subst hc; rfl
  split at hc
  · simp at hc; rcases hc with rfl | rfl <;> rfl
  split at hc
  · simp at hc; rcases hc with rfl | rfl <;> rfl
  · rw [List.mem_singleton.mp hc]; exact hs
theorem st_retR {Γ : G} {ρ : Rho} {μ μ1 : Mu} {r : R} {a x b : List Nat} {p q : Str} (h : evalR Γ r ρ μ = .ok (.str (tx x)) μ1) (hp : p = tx a) (hq : q = tx b) (hz : a.length + x.length + b.length ≤ 16777216) : runS Γ (.retR p r q) ρ μ = .rt (.str (tx (a ++ x ++ b))) μ1 := by
  rw [runS, h, then_ok, hp, hq, add_tx (by omega), bind_ok, add_tx (by rw [List.length_append]; omega), then_ok]
theorem pl_str {l : List Nat} (h : l.all uni = true) (hl : l.length ≤ 10) : Pl 0 30 (.str (tx l)) := by
  have l1 := repl2_len 92 92 92 l
  have l2 := repl2_len 34 92 34 (StrLaws.replL [92] [92, 92] l)
  have hle := (esc_le l).2
  refine ofP ([34] ++ l.flatMap escT ++ [34]) ?_ ?_ fun k μ _ => call_of c_law_plain rfl (run_nx (ifs_false (tv_bl (ev_cmp (ev_var rfl) ev_cst rfl)) run_nil) (run_nx (ifs_false (tv_bl (ev_cmp (ev_var rfl) ev_cst rfl)) run_nil) (run_nx (ifs_false (tv_bl (ev_cmp (ev_var rfl) ev_cst rfl)) run_nil) (run_nx (ifs_false (tv_bl (isi_ rfl rfl)) run_nil) (run_nx (ifs_false (tv_bl (isi_ rfl rfl)) run_nil) (run_rt (st_retR ?_ t_5 t_5 ?_)))))))
  · rw [List.all_append, List.all_append, esc_uni h]; rfl
  · rw [List.length_append, List.length_append]; simp only [List.length_cons, List.length_nil]; omega
  · rw [← esc_repl]
    refine evr_repl (evr_repl (evr_repl (evr_base (ev_var rfl)) t_13 t_2 (by simp) ?_) t_5 t_4 (by simp) ?_) t_15 t_14 (by simp) ?_
    · show l.length + (l.length + 1) * 2 ≤ _; omega
    · show _ + (_ + 1) * 2 ≤ _; omega
    · show _ + (_ + 1) * 2 ≤ _; omega
  · simp only [List.length_cons, List.length_nil]; omega
theorem joinL_len {B : Nat} {y : List Nat} : ∀ {ps : List (List Nat)}, (∀ p ∈ ps, p.length ≤ B) → (TL.joinL y ps).length ≤ ps.length * (B + y.length)
  | [], _ => Nat.zero_le _
  | [p], h => by
    have := h p (List.mem_cons_self ..)
    rw [TL.joinL, List.length_singleton]; omega
  | p :: q :: r, h => by
    have h1 := joinL_len (y := y) (ps := q :: r) fun t ht => h t (List.mem_cons_of_mem _ ht)
    have h2 := h p (List.mem_cons_self ..)
    rw [TL.joinL, List.length_append, List.length_append, List.length_cons, Nat.succ_mul]
    omega
theorem joinL_uni : ∀ {ps : List (List Nat)}, (∀ p ∈ ps, p.all uni = true) → (TL.joinL [32] ps).all uni = true
  | [], _ => rfl
  | [p], h => h p (List.mem_cons_self ..)
  | p :: q :: r, h => by
    rw [TL.joinL, List.all_append, List.all_append, h p (List.mem_cons_self ..), joinL_uni fun t ht => h t (List.mem_cons_of_mem _ ht)]
    rfl
theorem sum_tx (ps : List (List Nat)) : ((ps.map tx).map (fun y : Str => y.length)).sum = (ps.map List.length).sum := by
  induction ps with
  | nil => rfl
  | cons p r ih => rw [List.map_cons, List.map_cons, List.sum_cons, ih, tx_len, List.map_cons, List.sum_cons]
theorem pl_tup {n L : Nat} {l : List D} (h : ∀ d ∈ l, Pl n L d) (hl : l.length ≤ 3) (hL : L ≤ 5000) : Pl (n + 1) (3 * (L + 1) + 2) (.tup l) := by
  classical
  let f : D → List Nat := fun d => if q : Pl n L d then Classical.choose q else []
  have hf : ∀ d ∈ l, (f d).all uni = true ∧ (f d).length ≤ L ∧ ∀ (k : Nat) (μ : Mu), n + 1 ≤ k → (gg (k)).call n_law_plain [d] μ = .ok (.str (tx (f d))) μ := fun d hd => by
    have e : f d = Classical.choose (h d hd) := dif_pos (h d hd)
    rw [e]
    exact Classical.choose_spec (h d hd)
  have j1 := joinL_len (y := [32]) (B := L) (ps := l.map f) fun p hp => by
    obtain ⟨d, hd, rfl⟩ := List.mem_map.mp hp
    exact (hf d hd).2.1
  rw [List.length_map, List.length_singleton] at j1
  have j1' : l.length * (L + 1) ≤ 3 * (L + 1) := Nat.mul_le_mul_right _ hl
  have j2 := joinL_uni (ps := l.map f) fun p hp => by
    obtain ⟨d, hd, rfl⟩ := List.mem_map.mp hp
    exact (hf d hd).1
  have j3 := joined_len (l.map f)
  refine ofP ([40] ++ TL.joinL [32] (l.map f) ++ [41]) ?_ ?_ fun k μ hk => ?_
  · rw [List.all_append, List.all_append, j2]; rfl
  · rw [List.length_append, List.length_append]; simp only [List.length_cons, List.length_nil]; omega
  · have cp : evalE (gg k) (.comp [1] (.nm 1) (.seq (.var 0)) .yes (.call 12 (.cons (.var 1) .nil))) (startR f_law_plain.N.length [.tup l]) μ = .ok (.lst (l.map fun d => .str (tx (f d)))) μ := by
      have := comp_map (f := cbody (gg k) [1] (.nm 1) .yes (.call 12 (.cons (.var 1) .nil)) (startR f_law_plain.N.length [.tup l])) (g := fun d => D.str (tx (f d))) (μ := μ) (ds := l) (acc := []) (fun d hd => cbody_nm (ev_call1 (ev_var rfl) ((hf d hd).2.2 k μ (by omega)))) (by simp; omega)
      exact ev_comp (it_tup (ev_var rfl)) this
    have jn : metD .join (.str (tx [32])) [.lst (l.map fun d => .str (tx (f d)))] μ = .ok (.str (tx (TL.joinL [32] (l.map f)))) μ := by
      have est : strsOf (l.map fun d => D.str (tx (f d))) = some ((l.map f).map tx) := by
        have := strs_map ((l.map f).map tx)
        have e : ((l.map f).map tx).map D.str = l.map fun d => D.str (tx (f d)) := by rw [List.map_map, List.map_map]; rfl
        rw [e] at this
        exact this
      show (match (seqD μ (.lst (l.map fun d => D.str (tx (f d))))).bind strsOf with
        | some (ys : List Str) => needs ((ys.map (fun y : Str => y.length)).sum + ys.length * (tx [32]).length ≤ 16777216) (Res.ok (D.str (Txt.join (tx [32]) ys)) μ)
        | none => .stuck) = _
      simp only [seqD, Option.bind, est]
      rw [sum_tx, tx_len, List.length_map, needs_pos (by simp only [List.length_cons, List.length_nil]; omega), tx_join]
    exact call_of c_law_plain rfl (run_nx (ifs_false (tv_bl (ev_cmp (ev_var rfl) ev_cst rfl)) run_nil) (run_nx (ifs_false (tv_bl (ev_cmp (ev_var rfl) ev_cst rfl)) run_nil) (run_nx (ifs_false (tv_bl (ev_cmp (ev_var rfl) ev_cst rfl)) run_nil) (run_nx (ifs_false (tv_bl (isi_ rfl rfl)) run_nil) (run_rt (ifs_true (tv_bl (isi_ rfl rfl)) (run_rt (st_ret (ev_add (ev_add (ev_cs t_6) (ev_met1 (ev_cs t_8) rfl cp jn) (by simp only [List.length_cons, List.length_nil]; omega)) (ev_cs t_7) (by simp only [List.length_append, List.length_cons, List.length_nil]; omega))))))))))
def LB : Nat → Nat
  | 0 => 30
  | n + 1 => 3 * (LB n + 1) + 2
theorem LB_ge : ∀ n, 30 ≤ LB n
  | 0 => Nat.le_refl _
  | n + 1 => by have := LB_ge n; simp only [LB]; omega
section
variable {rest : Mu}
theorem mod_n {a b : Nat} {μ : Mu} (h : 0 < b) : binD .mod (nD a) (nD b) μ = .ok (nD (a % b)) μ := by
  show needs _ _ = _
  rw [needs_pos (by omega)]
  show Res.ok (D.int ((a : Int) % (b : Int))) μ = _
  rw [← Int.natCast_emod]
theorem leaf_list {k : Nat} {ρ : Rho} {ν : Mu} : evalE (gg k) (.lst (.cons (.cst .non) (.cons (.cst (.bl true)) (.cons (.cst (.bl false)) (.cons (.cst (.int 0)) (.cons (.neg (.cst (.int 7))) (.cons (.cst (.int 120)) (.cons (.cst (.str "")) (.cons (.cst (.str "a\"b")) (.cons (.cst (.str "x\ny")) (.cons (.cst (.str "\\")) (.cons (.cst (.str " (")) .nil)))))))))))) ρ ν = .ok (.lst [.non, .bl true, .bl false, .int 0, .int (-7), .int 120, .str (tx []), .str (tx [97, 34, 98]), .str (tx [120, 10, 121]), .str (tx [92]), .str (tx [32, 40])]) ν := by
  have g : 11 ≤ 16777216 := by decide
  simp only [evalE, evalEs, bind_ok, t_20, t_26, t_27, t_13, t_28, List.length_cons, List.length_nil, Nat.zero_add, Nat.reduceAdd, needs_pos g]
theorem leaf_ok : ∀ d ∈ ([.non, .bl true, .bl false, .int 0, .int (-7), .int 120, .str (tx []), .str (tx [97, 34, 98]), .str (tx [120, 10, 121]), .str (tx [92]), .str (tx [32, 40])] : List D), Pl 0 30 d := fun d h => by
  simp only [List.mem_cons, List.not_mem_nil, or_false] at h
  rcases h with rfl | rfl | rfl | rfl | rfl | rfl | rfl | rfl | rfl | rfl | rfl
  · exact pl_non
  · exact pl_t
  · exact pl_f
  · exact pl_int (by decide)
  · exact pl_int (by decide)
  · exact pl_int (by decide)
  · exact pl_str (by decide) (by decide)
  · exact pl_str (by decide) (by decide)
  · exact pl_str (by decide) (by decide)
  · exact pl_str (by decide) (by decide)
  · exact pl_str (by decide) (by decide)
theorem leaf {k n : Nat} {ν : Mu} {x1 x2 x3 : Option D} (h : Bx ν rest) : ∃ v ν', runS (gg (k + 1)) (nthS b_law_value 2) [some (.ref 0), x1, x2, x3] ν = .rt v ν' ∧ Bx ν' rest ∧ Pl n (LB n) v := by
  obtain ⟨r, ν', hr, hb, e⟩ := draw_ok (k := k) h (m := 900) (by decide)
  have hm := Nat.mod_lt r (show 0 < 11 by decide)
  have hi : ([.non, .bl true, .bl false, .int 0, .int (-7), .int 120, .str (tx []), .str (tx [97, 34, 98]), .str (tx [120, 10, 121]), .str (tx [92]), .str (tx [32, 40])] : List D)[r % 11]? = some _ := List.getElem?_eq_getElem hm
  refine ⟨_, ν', st_ret (ev_idx leaf_list (ev_bin (ev_bif1 (ev_call2 (ev_var rfl) ev_cst e) int_int) ev_cst (mod_n (b := 11) (by decide))) (ix_lst hi)), hb, ?_⟩
  exact (leaf_ok _ (List.getElem_mem hm)).mono (Nat.zero_le _) (LB_ge n)
theorem value_ok : ∀ (n k : Nat) (ν : Mu), n + 2 ≤ k → n ≤ 3 → Bx ν rest → ∃ v ν', (gg (k)).call n_law_value [.ref 0, nD n] ν = .ok v ν' ∧ Bx ν' rest ∧ Pl n (LB n) v := by
  intro n
  induction n with
  | zero =>
    intro k ν hk _ h
    obtain ⟨k, rfl⟩ : ∃ j, k = j + 2 := ⟨k - 2, by omega⟩
    obtain ⟨kd, ν1, _, h1, q⟩ := draw_ok (k := k) h (m := 6) (by decide)
    obtain ⟨v, ν2, e, h2, hv⟩ := leaf (k := k) (n := 0) (x1 := some (nD 0)) (x2 := some (nD kd)) (x3 := none) h1
    refine ⟨v, ν2, call_of (k := k + 1) c_law_value (by rw [h2.len, h.len]) (run_nx (st_set (ev_call2 (ev_var rfl) ev_cst q)) (run_nx (ifs_false (μ' := ν1) ?_ run_nil) (run_rt e))), h2, hv⟩
    have t1 : evalT (gg (k + 1)) (.val (.cmp .lt (.var 2) (.cst (.int 3)))) [some (.ref 0), some (nD 0), some (nD kd), none] ν1 = .ok (decide (kd < 3)) ν1 := tv_bl (ev_cmp (ev_var rfl) ev_cst (lt_n (b := 3)))
    cases hd : decide (kd < 3) with
    | false => rw [hd] at t1; exact tv_and_f t1
    | true => rw [hd] at t1; exact tv_and_t t1 (tv_bl (ev_cmp (ev_var rfl) ev_cst (gt_n (a := 0) (b := 0))))
  | succ n ih =>
    intro k ν hk hn h
    obtain ⟨k, rfl⟩ : ∃ j, k = j + 2 := ⟨k - 2, by omega⟩
    obtain ⟨kd, ν1, _, h1, q⟩ := draw_ok (k := k) h (m := 6) (by decide)
    have t1 : evalT (gg (k + 1)) (.val (.cmp .lt (.var 2) (.cst (.int 3)))) [some (.ref 0), some (nD (n + 1)), some (nD kd), none] ν1 = .ok (decide (kd < 3)) ν1 := tv_bl (ev_cmp (ev_var rfl) ev_cst (lt_n (b := 3)))
    by_cases hk3 : kd < 3
    · rw [decide_eq_true hk3] at t1
      have t2 : evalT (gg (k + 1)) (.val (.cmp .gt (.var 1) (.cst (.int 0)))) [some (.ref 0), some (nD (n + 1)), some (nD kd), none] ν1 = .ok true ν1 := tv_bl (ev_cmp (ev_var rfl) ev_cst ((gt_n (a := n + 1) (b := 0)).trans (by rw [decide_eq_true (by omega)])))
      obtain ⟨r, ν2, hr, h2, qr⟩ := draw_ok (k := k) h1 (m := 4) (by decide)
      obtain ⟨l, ν3, c1, c2, c3, h3⟩ := comp_inv (f := cbody (gg (k + 1)) [3] (.nm 3) .yes (.call 18 (.cons (.var 0) (.cons (.bin .sub (.var 1) (.cst (.int 1))) .nil))) [some (.ref 0), some (nD (n + 1)), some (nD kd), none]) (fun μ => Bx μ rest) (Pl n (LB n))
        (ds := rngD 0 r) (acc := []) (μ := ν2) (by
          intro d hd μ hμ
          obtain ⟨v, μ3, e, h3, hv⟩ := ih (k + 1) μ (by omega) (by omega) hμ
          exact ⟨v, μ3, cbody_nm (ev_call2 (ev_var rfl) (ev_bin (ev_var rfl) ev_cst (sub_n (a := n + 1) (b := 1) (by omega))) e), hv, h3⟩) (by simp [rngD]; omega) (by simp) h2
      have hll : l.length ≤ 3 := by
        simp [rngD] at c3
        omega
      have hLB : LB n ≤ 5000 := by
        rcases (show n = 0 ∨ n = 1 ∨ n = 2 by omega) with rfl | rfl | rfl <;> decide
      refine ⟨.tup l, ν3, call_of (k := k + 1) c_law_value (by rw [h3.len, h.len]) (run_nx (st_set (ev_call2 (ev_var rfl) ev_cst q)) (run_rt (ifs_true (tv_and_t t1 t2) (run_rt (st_ret (ev_bif1 (ev_comp (it_rng1 (n := r) (ev_call2 (ev_var rfl) ev_cst qr) rfl (by omega)) c1) tuple_lst)))))), h3, pl_tup c2 hll hLB⟩
    · rw [decide_eq_false hk3] at t1
      obtain ⟨v, ν2, e, h2, hv⟩ := leaf (k := k) (n := n + 1) (x1 := some (nD (n + 1))) (x2 := some (nD kd)) (x3 := none) h1
      exact ⟨v, ν2, call_of (k := k + 1) c_law_value (by rw [h2.len, h.len]) (run_nx (st_set (ev_call2 (ev_var rfl) ev_cst q)) (run_nx (ifs_false (tv_and_f t1) run_nil) (run_rt e))), h2, hv⟩
end
end PyI.K31
/-! S17: the law keeps. -/
namespace PyI.K31
open PySem L2
def Tx (L : Nat) (v : D) : Prop := ∃ u : List Nat, v = .str (tx u) ∧ u.all uni = true ∧ u.length ≤ L
/-- an expression that tells a text -/
def Ex (k L : Nat) (e : E) (ρ : Rho) (ν : Mu) : Prop := ∃ u : List Nat, evalE (gg k) e ρ ν = .ok (.str (tx u)) ν ∧ u.all uni = true ∧ u.length ≤ L
def EsX (k L n : Nat) (es : Es) (ρ : Rho) (ν : Mu) : Prop := ∃ ds : List D, evalEs (gg k) es ρ ν = .ok ds ν ∧ ds.length = n ∧ ∀ d ∈ ds, Tx L d
section
variable {k L K n : Nat} {a b e : E} {es : Es} {ρ : Rho} {ν : Mu}
theorem EsX.nil : EsX k L 0 .nil ρ ν := ⟨[], by rw [evalEs], rfl, (fun d h => nomatch h)⟩
theorem EsX.cons (h : Ex k L e ρ ν) (hs : EsX k L n es ρ ν) : EsX k L (n + 1) (.cons e es) ρ ν := by
  obtain ⟨u, h1, h2, h3⟩ := h
  obtain ⟨ds, g1, g2, g3⟩ := hs
  refine ⟨.str (tx u) :: ds, by rw [evalEs, h1, bind_ok, g1, bind_ok], by rw [List.length_cons, g2], fun d hd => ?_⟩
  rcases List.mem_cons.mp hd with rfl | q
  · exact ⟨u, rfl, h2, h3⟩
  · exact g3 d q
theorem EsX.lst (h : EsX k L n es ρ ν) (hn : n ≤ 1000) : ∃ ds : List D, evalE (gg k) (.lst es) ρ ν = .ok (.lst ds) ν ∧ ds.length = n ∧ ∀ d ∈ ds, Tx L d := by
  obtain ⟨ds, g1, g2, g3⟩ := h
  exact ⟨ds, by rw [evalE, g1, bind_ok, needs_pos (by omega)], g2, g3⟩
theorem Ex.mono (h : Ex k L e ρ ν) (hL : L ≤ K) : Ex k K e ρ ν := by
  obtain ⟨u, h1, h2, h3⟩ := h
  exact ⟨u, h1, h2, by omega⟩
theorem Ex.add (h : Ex k L a ρ ν) (g : Ex k K b ρ ν) (hz : L + K ≤ 16777216) : Ex k (L + K) (.bin .add a b) ρ ν := by
  obtain ⟨u, h1, h2, h3⟩ := h
  obtain ⟨v, g1, g2, g3⟩ := g
  exact ⟨u ++ v, ev_add h1 g1 (by omega), by rw [List.all_append, h2, g2]; rfl, by rw [List.length_append]; omega⟩
theorem Ex.cst {s : Str} (h : s.cps.toList.all uni = true) (hl : s.cps.toList.length ≤ L) : Ex k L (.cst (.str s)) ρ ν := ⟨s.cps.toList, ev_cs (tx_self s), h, hl⟩
theorem Ex.rep {s : Str} {j : Int} (hn : (-(2 ^ 62) ≤ j ∧ j < 2 ^ 62) ∧ s.length * j.toNat ≤ 16777216) (h : (strRep s j.toNat).cps.toList.all uni = true) (hl : (strRep s j.toNat).cps.toList.length ≤ L) : Ex k L (.bin .mul (.cst (.str s)) (.cst (.int j))) ρ ν := by
  refine ⟨(strRep s j.toNat).cps.toList, ?_, h, hl⟩
  refine ev_bin ev_cst ev_cst ?_
  rw [← tx_self]
  show needs _ _ = _
  rw [needs_pos hn]
theorem Ex.var {i : Nat} {t : List Nat} (h : ρ[i]? = some (some (.str (tx t)))) (hu : t.all uni = true) (hl : t.length ≤ L) : Ex k L (.var i) ρ ν := ⟨t, ev_var h, hu, hl⟩
theorem cut_ok {t : List Nat} (hu : t.all uni = true) (lo hi : Option Int) : ∃ u : List Nat, cutS (tx t) lo hi = tx u ∧ u.all uni = true ∧ u.length ≤ t.length := by
  refine ⟨(cutS (tx t) lo hi).cps.toList, tx_self _, ?_, ?_⟩
  · show List.all ((t.drop _).take _) uni = true
    rw [List.all_eq_true] at *
    exact fun c hc => hu c (List.mem_of_mem_drop (List.mem_of_mem_take hc))
  · show ((t.drop _).take _).length ≤ _
    rw [List.length_take, List.length_drop]
    omega
theorem Ex.hi {i : Int} {t : List Nat} (h : evalE (gg k) a ρ ν = .ok (.str (tx t)) ν) (hu : t.all uni = true) (hl : t.length ≤ L) (hz : L ≤ 16777216) (hb : evalE (gg k) b ρ ν = .ok (.int i) ν) : Ex k L (.slc a .none (.some b)) ρ ν := by
  obtain ⟨u, h1, h2, h3⟩ := cut_ok hu none (some i)
  refine ⟨u, ev_slc_hi h hb ?_, h2, by omega⟩
  rw [← h1]
  exact needs_pos (by rw [tx_len]; omega)
theorem Ex.lo {i : Int} {t : List Nat} (h : evalE (gg k) a ρ ν = .ok (.str (tx t)) ν) (hu : t.all uni = true) (hl : t.length ≤ L) (hz : L ≤ 16777216) (hb : evalE (gg k) b ρ ν = .ok (.int i) ν) : Ex k L (.slc a (.some b) .none) ρ ν := by
  obtain ⟨u, h1, h2, h3⟩ := cut_ok hu (some i) none
  refine ⟨u, ev_slc_lo h hb ?_, h2, by omega⟩
  rw [← h1]
  exact needs_pos (by rw [tx_len]; omega)
abbrev lawB : B := forB (nthS b_law 1)
def eOf : PyI.S → E
  | .set _ e => e
  | .new _ e => e
  | _ => .cst .non
abbrev greatE : E := eOf (nthS lawB 4)
theorem great_ok : ∃ ds : List D, evalE (gg k) greatE ρ ν = .ok (.lst ds) ν ∧ ds.length = 14 ∧ ∀ d ∈ ds, Tx 200 d := by
  refine EsX.lst (n := 14) ?_ (by decide)
  refine .cons (.rep (by decide +kernel) (by decide +kernel) (by decide +kernel)) ?_
  refine .cons ((Ex.add (L := 100) (K := 100) (.cst (by decide +kernel) (by decide +kernel)) (.rep (by decide +kernel) (by decide +kernel) (by decide +kernel)) (by decide))) ?_
  refine .cons ((Ex.add (L := 100) (K := 100) (.rep (by decide +kernel) (by decide +kernel) (by decide +kernel)) (.rep (by decide +kernel) (by decide +kernel) (by decide +kernel)) (by decide))) ?_
  refine .cons ((Ex.add (L := 100) (K := 100) (.rep (by decide +kernel) (by decide +kernel) (by decide +kernel)) (.rep (by decide +kernel) (by decide +kernel) (by decide +kernel)) (by decide))) ?_
  refine .cons (.cst (by decide +kernel) (by decide +kernel)) ?_
  refine .cons (.cst (by decide +kernel) (by decide +kernel)) ?_
  refine .cons (.cst (by decide +kernel) (by decide +kernel)) ?_
  refine .cons (.cst (by decide +kernel) (by decide +kernel)) ?_
  refine .cons (.cst (by decide +kernel) (by decide +kernel)) ?_
  refine .cons (.cst (by decide +kernel) (by decide +kernel)) ?_
  refine .cons (.cst (by decide +kernel) (by decide +kernel)) ?_
  refine .cons (.cst (by decide +kernel) (by decide +kernel)) ?_
  refine .cons (.rep (by decide +kernel) (by decide +kernel) (by decide +kernel)) ?_
  refine .cons ((Ex.add (L := 100) (K := 100) (.cst (by decide +kernel) (by decide +kernel)) (.rep (by decide +kernel) (by decide +kernel) (by decide +kernel)) (by decide))) ?_
  exact .nil
end
/-! ### heaps -/
theorem Bx.last {ν r : Mu} {m : MO} (h : Bx ν (r ++ [m])) : ν[r.length + 1]? = some m := by
  obtain ⟨ds, at_, rfl⟩ := h
  simp
theorem Bx.setL {ν r : Mu} {m m' : MO} (h : Bx ν (r ++ [m])) : Bx (ν.set (r.length + 1) m') (r ++ [m']) := by
  obtain ⟨ds, at_, rfl⟩ := h
  exact ⟨ds, at_, by simp⟩
theorem fin_more {d : D} {μ ν : Mu} (h : PureM μ) (hd : pureD d = true) : fin μ.length d (μ ++ ν) = .ok d μ := by
  have hb := pureD.below μ.length hd
  have hm : ((μ ++ ν).take μ.length).all (belowMO μ.length) = true := by rw [List.take_left']; exact h.all _; rfl
  have ht : (μ ++ ν).take μ.length = μ := List.take_left' rfl
  unfold fin
  by_cases z : (μ ++ ν).length = μ.length
  · have : ν = [] := List.length_eq_zero_iff.mp (by rw [List.length_append] at z; omega)
    subst this
    rw [if_pos z, List.append_nil]
  · rw [if_neg z]
    cases d with
    | ref k => cases hd
    | _ =>
      simp only []
      rw [if_pos ⟨hb, hm, by simp⟩, ht]
theorem pure_tx {L : Nat} : ∀ {l : List D}, (∀ d ∈ l, Tx L d) → pureDs l = true
  | [], _ => rfl
  | d :: l, h => by
    obtain ⟨u, rfl, _⟩ := h d (List.mem_cons_self ..)
    simp only [pureDs, pureD, pure_tx fun e he => h e (List.mem_cons_of_mem _ he)]
    rfl
end PyI.K31
/-! S18: main. -/
namespace PyI.K31
open PySem L2
section
variable {k : Nat} {X : D} {i : Nat} {ν rest : Mu} {o3 o4 o5 o6 o7 o8 : Option D}
theorem drawE {k m : Nat} {ρ : Rho} {ν rest : Mu} (hm : 0 < m) (h : Bx ν rest) (h1 : ρ[1]? = some (some (.ref 0))) : ∃ r ν', r < m ∧ Bx ν' rest ∧ evalE (gg (k + 1)) (.call 10 (.cons (.var 1) (.cons (.cst (.int (m : Int))) .nil))) ρ ν = .ok (nD r) ν' := by
  obtain ⟨r, ν', hr, hb, e⟩ := draw_ok (k := k) h hm
  exact ⟨r, ν', hr, hb, ev_call2 (ev_var h1) ev_cst e⟩
theorem turn_ok (hk : 140 ≤ k) (h : Bx ν rest) (hr : PureM rest) : ∃ ρ' ν', runB (gg (k + 1)) lawB [some X, some (.ref 0), some (.int (i : Int)), o3, o4, o5, o6, o7, o8] ν = .nx ρ' ν' ∧ (∃ rest', Bx ν' rest' ∧ PureM rest') ∧ ∃ a b c d e f g, ρ' = [some X, some (.ref 0), a, b, c, d, e, f, g] := by
  obtain ⟨v, ν1, e1, h1, t, tu, tl, tp⟩ := value_ok (rest := rest) 3 (k + 1) ν (by omega) (by omega) h
  have tl' : t.length ≤ 1000 := Nat.le_trans tl (by decide)
  obtain ⟨r2, ν2, _, h2, e2⟩ := drawE (k := k) (m := 900) (ρ := [some X, some (.ref 0), some (nD i), some (.str (tx t)), o4, o5, o6, o7, o8]) (by decide) h1 rfl
  have m2 : r2 % (t.length + 1) < t.length + 1 := Nat.mod_lt _ (by omega)
  generalize ha : r2 % (t.length + 1) = at_ at m2
  obtain ⟨r3, ν3, _, h3, e3⟩ := drawE (k := k) (m := 900) (ρ := [some X, some (.ref 0), some (nD i), some (.str (tx t)), some (nD at_), o5, o6, o7, o8]) (by decide) h2 rfl
  have m3 : r3 % 17 < 17 := Nat.mod_lt _ (by decide)
  obtain ⟨c, hc, cu⟩ : ∃ c, ([40, 41, 34, 32, 84, 70, 78, 45, 48, 49, 57, 53, 92, 110, 10, 120, 126] : List Nat)[r3 % 17]? = some c ∧ uni c = true := by
    refine ⟨_, List.getElem?_eq_getElem m3, ?_⟩
    exact List.all_eq_true.mp (show ([40, 41, 34, 32, 84, 70, 78, 45, 48, 49, 57, 53, 92, 110, 10, 120, 126] : List Nat).all uni = true by decide) _ (List.getElem_mem m3)
  -- the changed texts
  let ρ3 : Rho := [some X, some (.ref 0), some (nD i), some (.str (tx t)), some (nD at_), some (.str (tx [c])), o6, o7, o8]
  have x3 : evalE (gg (k + 1)) (.var 3) ρ3 ν3 = .ok (.str (tx t)) ν3 := ev_var rfl
  have x4 : evalE (gg (k + 1)) (.var 4) ρ3 ν3 = .ok (nD at_) ν3 := ev_var rfl
  have x5 : Ex (k + 1) 1 (.var 5) ρ3 ν3 := .var rfl (by rw [List.all_cons, cu]; rfl) (Nat.le_refl _)
  have hi : Ex (k + 1) 1000 (.slc (.var 3) .none (.some (.var 4))) ρ3 ν3 := Ex.hi x3 tu tl' (by decide) x4
  have lo : Ex (k + 1) 1000 (.slc (.var 3) (.some (.var 4)) .none) ρ3 ν3 := Ex.lo x3 tu tl' (by decide) x4
  have lo1 : Ex (k + 1) 1000 (.slc (.var 3) (.some (.bin .add (.var 4) (.cst (.int 1)))) .none) ρ3 ν3 := Ex.lo x3 tu tl' (by decide) (ev_add1 x4)
  have xt : Ex (k + 1) 1000 (.var 3) ρ3 ν3 := .var rfl tu tl'
  obtain ⟨l5, e5, l5n, l5t⟩ := EsX.lst (k := k + 1) (L := 2001) (n := 5) (ρ := ρ3) (ν := ν3) (.cons (hi.mono (by decide)) (.cons ((hi.add lo1 (by decide)).mono (by decide)) (.cons (((hi.add x5 (by decide)).add lo (by decide)).mono (by decide)) (.cons (((hi.add x5 (by decide)).add lo1 (by decide)).mono (by decide)) (.cons ((xt.add x5 (by decide)).mono (by decide)) .nil))))) (by decide)
  have h4 : Bx (ν3 ++ [.lst l5]) (rest ++ [.lst l5]) := h3.snoc
  have hlen3 : ν3.length = rest.length + 1 := h3.len
  obtain ⟨gs, eg, gn, gt⟩ := great_ok (k := k + 1) (ρ := [some X, some (.ref 0), some (nD i), some (.str (tx t)), some (nD at_), some (.str (tx [c])), some (.ref ν3.length), o7, o8]) (ν := ν3 ++ [.lst l5])
  obtain ⟨r5, ν5, _, h5, e5d⟩ := drawE (k := k) (m := 900) (ρ := [some X, some (.ref 0), some (nD i), some (.str (tx t)), some (nD at_), some (.str (tx [c])), some (.ref ν3.length), some (.lst gs), o8]) (by decide) h4 rfl
  have m5 : 4 + r5 % 8 < gs.length := by have := Nat.mod_lt r5 (show 0 < 8 by decide); omega
  have l5at : ν5[ν3.length]? = some (.lst l5) := by rw [hlen3]; exact h5.last
  have e6 : evalE (gg (k + 1)) (.bin .add (.var 6) (.lst (.cons (.idx (.var 7) (.bin .add (.cst (.int 4)) (.bin .mod (.bif .int (.cons (.call 10 (.cons (.var 1) (.cons (.cst (.int 900)) .nil))) .nil)) (.cst (.int 8))))) .nil))) [some X, some (.ref 0), some (nD i), some (.str (tx t)), some (nD at_), some (.str (tx [c])), some (.ref ν3.length), some (.lst gs), o8] (ν3 ++ [.lst l5]) = .ok (.lst (l5 ++ [gs[4 + r5 % 8]])) ν5 := by
    refine ev_bin (ev_var rfl) (ev_lst1 (ev_idx (ev_var rfl) (ev_bin ev_cst (ev_bin (ev_bif1 e5d int_int) ev_cst (mod_n (b := 8) (by decide))) rfl) (ix_lst (n := 4 + r5 % 8) (List.getElem?_eq_getElem m5)))) ?_
    have hs : lstD ν5 (.ref ν3.length) = some l5 := by unfold lstD; simp only [l5at]
    show (match lstD ν5 (.ref ν3.length), lstD ν5 (.lst [gs[4 + r5 % 8]]) with
      | some i, some j => needs (i.length + j.length ≤ 16777216) (Res.ok (D.lst (i ++ j)) ν5)
      | _, _ => .stuck) = _
    rw [hs]
    exact needs_pos (by simp only [List.length_cons, List.length_nil]; omega)
  have hl6t : ∀ d ∈ l5 ++ [gs[4 + r5 % 8]], Tx 2001 d := fun d hd => by
    rcases List.mem_append.mp hd with q | q
    · exact l5t d q
    · rw [List.mem_singleton.mp q]
      obtain ⟨u, a, b, c⟩ := gt _ (List.getElem_mem m5)
      exact ⟨u, a, b, by omega⟩
  have hl6n : (l5 ++ [gs[4 + r5 % 8]]).length = 6 := by rw [List.length_append, l5n]; rfl
  generalize l5 ++ [gs[4 + r5 % 8]] = l6 at e6 hl6t hl6n
  have h6 : Bx (ν5 ++ [.lst l6]) ((rest ++ [.lst l5]) ++ [.lst l6]) := h5.snoc
  have hlen5 : ν5.length = (rest ++ [MO.lst l5]).length + 1 := h5.len
  -- the sixth text, changed in the first turn
  have s6 : ∃ l7 ν7, runS (gg (k + 1)) (nthS lawB 6) [some X, some (.ref 0), some (nD i), some (.str (tx t)), some (nD at_), some (.str (tx [c])), some (.ref ν5.length), some (.lst gs), o8] (ν5 ++ [.lst l6]) = .nx [some X, some (.ref 0), some (nD i), some (.str (tx t)), some (nD at_), some (.str (tx [c])), some (.ref ν5.length), some (.lst gs), o8] ν7 ∧ Bx ν7 ((rest ++ [.lst l5]) ++ [.lst l7]) ∧ l7.length = 6 ∧ ∀ d ∈ l7, Tx 2001 d := by
    have test : evalT (gg (k + 1)) (.val (.cmp .eq (.var 2) (.cst (.int 0)))) [some X, some (.ref 0), some (nD i), some (.str (tx t)), some (nD at_), some (.str (tx [c])), some (.ref ν5.length), some (.lst gs), o8] (ν5 ++ [.lst l6]) = .ok (decide (i = 0)) (ν5 ++ [.lst l6]) := tv_bl (ev_cmp (ev_var rfl) ev_cst (eq_n (b := 0)))
    by_cases h0 : i = 0
    · rw [decide_eq_true h0] at test
      obtain ⟨r6, ν6, _, h7, e7⟩ := drawE (k := k) (m := 900) (ρ := [some X, some (.ref 0), some (nD i), some (.str (tx t)), some (nD at_), some (.str (tx [c])), some (.ref ν5.length), some (.lst gs), o8]) (by decide) h6 rfl
      have m6 : r6 % 14 < gs.length := by rw [gn]; exact Nat.mod_lt _ (by decide)
      have l6at : ν6[ν5.length]? = some (.lst l6) := by rw [hlen5]; exact h7.last
      refine ⟨l6.set 5 gs[r6 % 14], ν6.set ν5.length (.lst (l6.set 5 gs[r6 % 14])), ifs_true test (run_nx ?_ run_nil), by rw [hlen5]; exact h7.setL, by rw [List.length_set, hl6n], fun d hd => ?_⟩
      · have ev : evalE (gg (k + 1)) (.idx (.var 7) (.bin .mod (.bif .int (.cons (.call 10 (.cons (.var 1) (.cons (.cst (.int 900)) .nil))) .nil)) (.cst (.int 14)))) [some X, some (.ref 0), some (nD i), some (.str (tx t)), some (nD at_), some (.str (tx [c])), some (.ref ν5.length), some (.lst gs), o8] (ν5 ++ [.lst l6]) = .ok gs[r6 % 14] ν6 := ev_idx (ev_var rfl) (ev_bin (ev_bif1 e7 int_int) ev_cst (mod_n (b := 14) (by decide))) (ix_lst (List.getElem?_eq_getElem m6))
        rw [runS, ev, then_ok, ev_var (d := .ref ν5.length) rfl, then_ok, ev_cst, then_ok]
        have hx : setIxD (.ref ν5.length) (.int 5) gs[r6 % 14] ν6 = .ok () (ν6.set ν5.length (.lst (l6.set 5 gs[r6 % 14]))) := by
          have hix : ixN l6.length 5 = some 5 := by rw [hl6n]; rfl
          unfold setIxD
          simp only [l6at, hix]
        rw [hx, then_ok]
      · rcases List.mem_or_eq_of_mem_set hd with q | q
        · exact hl6t d q
        · rw [q]
          obtain ⟨u, a, b, c⟩ := gt _ (List.getElem_mem m6)
          exact ⟨u, a, b, by omega⟩
    · rw [decide_eq_false h0] at test
      exact ⟨l6, _, ifs_false test run_nil, h6, hl6n, hl6t⟩
  obtain ⟨l7, ν7, e7, h7, l7n, l7t⟩ := s6
  obtain ⟨r8, ν8, r8l, h8, e8⟩ := drawE (k := k) (m := 6) (ρ := [some X, some (.ref 0), some (nD i), some (.str (tx t)), some (nD at_), some (.str (tx [c])), some (.ref ν5.length), some (.lst gs), o8]) (by decide) h7 rfl
  have l7at : ν8[ν5.length]? = some (.lst l7) := by rw [hlen5]; exact h8.last
  have m8 : r8 < l7.length := by omega
  obtain ⟨u, eu, uu, ul⟩ := l7t _ (List.getElem_mem m8)
  have hx8 : l7[r8]? = some (.str (tx u)) := by rw [List.getElem?_eq_getElem m8, eu]
  have p8 : PureM ν8 := h8.pure (by
    have q := hr.snoc (l := l5) (pure_tx l5t)
    exact q.snoc (l := l7) (pure_tx l7t))
  obtain ⟨d, d1, d2, d3⟩ := told_alike (T := u) uu (by omega) (k := k + 1) (μ := ν8) p8 (by omega)
  refine ⟨[some X, some (.ref 0), some (nD i), some (.str (tx u)), some (nD at_), some (.str (tx [c])), some (.ref ν5.length), some (.lst gs), some d], ν8, ?_, ⟨_, h8, (by
    have q := hr.snoc (l := l5) (pure_tx l5t)
    exact q.snoc (l := l7) (pure_tx l7t))⟩, _, _, _, _, _, _, _, rfl⟩
  have hz : t.length ≤ 16777216 := by omega
  refine run_nx (st_set (ev_call1 (ev_call2 (ev_var rfl) ev_cst e1) (tp (k + 1) ν1 (by omega)))) ?_
  refine run_nx (ρ' := [some X, some (.ref 0), some (nD i), some (.str (tx t)), some (nD at_), o5, o6, o7, o8]) (μ' := ν2) (st_set (ev_bin (ev_bif1 e2 int_int) (ev_add1 (ev_bif1 (ev_var rfl) (len_tx hz))) ((mod_n (by omega)).trans (by rw [ha])))) ?_
  refine run_nx (ρ' := ρ3) (μ' := ν3) (st_set (ev_idx (ev_cs t_29) (ev_bin (ev_bif1 e3 int_int) ev_cst (mod_n (b := 17) (by decide))) (ix_str (by decide) hc))) ?_
  refine run_nx (st_new e5) ?_
  refine run_nx (st_set eg) ?_
  refine run_nx (st_new e6) ?_
  refine run_nx e7 ?_
  refine run_nx (st_set (ev_idx (ev_var rfl) e8 (ix_ref l7at hx8))) ?_
  refine run_nx (st_set (ev_call1 (ev_var rfl) d1)) ?_
  exact run_nx (ifs_false (tv_not (k := true) (tv_bl (ev_call2 (ev_call1 (ev_var rfl) d2) (ev_var rfl) d3))) run_nil) run_nil
end
theorem main (ns : List Int) (h : ns.length ≤ 63) : ∃ μ', callD prg.tab prg.con prg.dic prg.wf 200 n_law [.kl (ns.map D.int)] [] = .ok (.bl true) μ' := by
  obtain ⟨ds, e⟩ := digits_ok (k := 197) (ns := ns) (μ := []) (fun m hm => by cases hm)
  refine ⟨[], ?_⟩
  show callD prg.tab prg.con prg.dic prg.wf (199 + 1) n_law [.kl (ns.map D.int)] [] = _
  rw [c_law]
  generalize hX : D.kl (ns.map D.int) = X at *
  have loop := for_range (f := fbody (gg 199) (.nm 2) lawB) (lo := 0) (n := 6) (ρ := [some X, some (.ref 0), none, none, none, none, none, none, none]) (μ := [.lst [.lst (ds.map D.int), nD 0]])
    (fun _ ρ ν => (∃ rest, Bx ν rest ∧ PureM rest) ∧ ∃ a b c d e f g, ρ = [some X, some (.ref 0), a, b, c, d, e, f, g]) ⟨⟨[], ⟨ds, 0, rfl⟩, (fun m hm => nomatch hm)⟩, _, _, _, _, _, _, _, rfl⟩ (by
      rintro i hi ρ ν ⟨⟨rest, hb, hr⟩, a, b, c, d, e, f, g, rfl⟩
      rw [Int.zero_add, fbody_nm]
      obtain ⟨ρ', ν', q1, q2, q3⟩ := turn_ok (k := 198) (by omega) (X := X) (i := i) (o3 := b) (o4 := c) (o5 := d) (o6 := e) (o7 := f) (o8 := g) hb hr
      exact .inl ⟨ρ', ν', q1, q2, q3⟩)
  obtain ⟨ρ', ν', q1, ⟨rest, hb, hr⟩, a, b, c, d, e', f, g, rfl⟩ := loop
  have full : runB (gg 199) b_law (startR f_law.N.length [X]) [] = .rt (.bl true) ν' := by
    refine run_nx (ρ' := [some X, some (.ref 0), none, none, none, none, none, none, none]) (μ' := [.lst [.lst (ds.map D.int), nD 0]]) (st_new (ev_lst2 (ev_call3 (ev_var rfl) ev_cst ev_cst e) ev_cst)) ?_
    exact run_nx (for_run' (it_rng1 (i := 6) (n := 6) ev_cst rfl (by omega)) q1) (run_rt (st_ret ev_cst))
  rw [full, finO_rt]
  exact fin_more (μ := []) (ν := ν') (fun m hm => by cases hm) rfl
end PyI.K31
open PySem PySem.W PyProof.Rows
set_option maxRecDepth 100000 in
set_option maxHeartbeats 0 in
theorem PySem.Challenge.cw_sensekept_k31_plain_wrong_texts_holds : PySem.Challenge.rw_sensekept_k31_plain_wrong_texts.Holds := by
  w_on; o_law; k_head; (case hw => w_witness2)
  k_fill
  refine PyI.law_walk (p := PyI.K31.prg) (ct := ⟨fun c => match c with | 0 => 67 | _ => 0, fun c => (PyI.K31.tb.clss.getD c ("", [])).2⟩) (f := PyI.K31.n_law) (kk := 200) rfl rfl ⟨rfl, by decide, by decide⟩ (fun w h Y => PySem.W.kIn_of Y) PyI.K31.main ?F
  case F =>
    intro w mg fa h KX G hmg
    refine PyI.law_fn PyI.K31.prg_ok ⟨fun c => match c with | 0 => 67 | _ => 0, fun c => (PyI.K31.tb.clss.getD c ("", [])).2⟩ ⟨?bi, ?con, ?dic, ?cls, ?isx, ?fn⟩ hmg rfl rfl rfl 200
    case bi =>
      refine' PyI.biAll KX G ?z0 ?z1 ?z2 ?z3 ?z4 ?z5 ?z6 ?z7 ?z8 ?z9 ?z10 ?z11 ?z12 ?z13 ?z14 ?z15 ?z16 ?z17 ?z18 ?z19 ?z20
      (case z0 => k_is); (case z1 => k_is); (case z2 => k_is); (case z3 => k_is); (case z4 => k_is); (case z5 => k_is); (case z6 => k_is); (case z7 => k_is); (case z8 => k_is); (case z9 => k_is); (case z10 => k_is); (case z11 => k_is); (case z12 => k_is); (case z13 => k_is); (case z14 => k_is); (case z15 => k_is); (case z16 => k_is); (case z17 => k_is); (case z18 => k_is); (case z19 => k_is); (case z20 => k_is)
    case con =>
      intro g x d h1 h2
      rcases g with _ | _ | g
      · obtain rfl : ("MOST_DIGITS" : PySem.Str) = x := Option.some.inj h1
        obtain rfl : ((.int 20) : PyI.D) = d := Option.some.inj h2
        refine' PyI.conInt KX G ?c; (case c => k_is)
      · obtain rfl : ("MOST_DEEP" : PySem.Str) = x := Option.some.inj h1
        obtain rfl : ((.int 60) : PyI.D) = d := Option.some.inj h2
        refine' PyI.conInt KX G ?c; (case c => k_is)
      · cases h1
    case dic =>
      intro g x h1
      rcases g with _ | g
      · obtain rfl : ("WORDS" : PySem.Str) = x := Option.some.inj h1
        refine' PyI.dicAt KX G ?a ?l ?lit ?low ?er; (case a => k_is); (case l => k_is)
        case lit => exact ⟨⟨_, _, rfl, rfl⟩, ⟨_, _, rfl, rfl⟩, ⟨_, _, rfl, rfl⟩, trivial⟩
        case low => first | rfl | decide
        case er => exact .cons ⟨⟨_, rfl⟩, .bl _, rfl, fun _ _ => .bl _⟩ (.cons ⟨⟨_, rfl⟩, .bl _, rfl, fun _ _ => .bl _⟩ (.cons ⟨⟨_, rfl⟩, .non, rfl, fun _ _ => .non⟩ (.nil)))
      · cases h1
    case cls =>
      intro c x fl h1
      rcases c with _ | c
      · obtain ⟨rfl, rfl⟩ : ("BadPlain" : PySem.Str) = x ∧ (["place"] : List PySem.Str) = fl := Prod.mk.inj (Option.some.inj h1)
        refine' ⟨PyI.cls1_all KX G ?y_a ?y_lC ?y_hbm ?y_sa ?y_exC ?y_tyC ?y_kC ?y_ga ?y_gg ?y_hd ?y_ha ?y_hn ?y_ht ?y_hm ?y_ifi ?y_ity ?y_lI ?y_hcd ?y_lD ?y_lc ?y_hc ?y_hs ?y_ho ?y_hal ?y_hv ?y_sup ?y_hno ?y_hss ?y_hp ?y_har ?y_hf ?y_hpf ?y_htp ?y_hb ?y_S ?y_hks ?y_hx1 ?y_hx2 ?y_hz ?y_hce ?y_hsw, rfl, by decide⟩
        (case y_a => k_is); (case y_lC => k_is); (case y_hbm => rfl); (case y_sa => k_is); (case y_exC => k_is); (case y_tyC => k_is); (case y_kC => k_is); (case y_ga => k_is); (case y_gg => k_is); (case y_hd => k_is); (case y_ha => k_is); (case y_hn => k_is); (case y_ht => k_is); (case y_hm => k_is); (case y_ifi => k_is); (case y_ity => k_is); (case y_lI => k_is); (case y_hcd => k_is); (case y_lD => k_is); (case y_lc => k_is); (case y_hc => k_is); (case y_hs => k_is); (case y_ho => k_is); (case y_hal => ks_is); (case y_hv => k_is); (case y_sup => k_is); (case y_hno => k_is); (case y_hss => k_is); (case y_hp => rfl); (case y_har => rfl); (case y_hf => rfl); (case y_hpf => first | rfl | decide +kernel); (case y_htp => first | rfl | decide +kernel); (case y_hb => exact fun us hl => match us, hl with | [_, _], _ => rfl); (case y_S => first | rfl | decide +kernel); (case y_hks => rfl); (case y_hx1 => decide); (case y_hx2 => decide); (case y_hz => decide); (case y_hce => exact fun env => ⟨_, rfl⟩); (case y_hsw => exact fun _ => rfl)
      · cases h1
    case isx =>
      intro c x b h1
      simp only [PyI.K31.prg, PyI.K31.tb, List.mem_cons, Prod.mk.injEq, List.not_mem_nil, or_false] at h1
      rcases h1 with ⟨rfl, rfl, rfl⟩ | ⟨rfl, rfl, rfl⟩ | ⟨rfl, rfl, rfl⟩
      · refine' PyI.isxR KX G ?y_a ?y_hc ?y_ht ?y_hs ?y_hne; (case y_a => k_is); (case y_hc => k_is); (case y_ht => k_is); (case y_hs => k_is); (case y_hne => first | rfl | decide)
      · refine' PyI.isxB (T := "ValueError") KX G ?y_a ?y_hb (by decide) ?y_hm ?y_hs; (case y_a => k_is); (case y_hb => first | boot_by_name | rfl | kernel_rfl); (case y_hm => first | rfl | decide +kernel); (case y_hs => k_is)
      · refine' PyI.isxR KX G ?y_a ?y_hc ?y_ht ?y_hs ?y_hne; (case y_a => k_is); (case y_hc => k_is); (case y_ht => k_is); (case y_hs => k_is); (case y_hne => first | rfl | decide)
    case fn =>
      intro d hd
      simp only [PyI.K31.prg, List.mem_cons, List.not_mem_nil, or_false] at hd
      rcases hd with rfl | rfl | rfl | rfl | rfl | rfl | rfl | rfl | rfl | rfl | rfl | rfl | rfl | rfl | rfl | rfl | rfl | rfl | rfl | rfl
      · refine' PyI.defAt (name := "read_plain") (qual := "read_plain") (st := PyI.K31.top 8) KX G PyI.K31.bn_read_plain ?a ?l ?c ?k; (case a => k_is); (case l => k_is); (case c => k_is); (case k => k_is)
      · refine' PyI.defAt (name := "read_value") (qual := "read_value") (st := PyI.K31.top 9) KX G PyI.K31.bn_read_value ?a ?l ?c ?k; (case a => k_is); (case l => k_is); (case c => k_is); (case k => k_is)
      · refine' PyI.defAt (name := "read_members") (qual := "read_members") (st := PyI.K31.top 10) KX G PyI.K31.bn_read_members ?a ?l ?c ?k; (case a => k_is); (case l => k_is); (case c => k_is); (case k => k_is)
      · refine' PyI.defAt (name := "read_number") (qual := "read_number") (st := PyI.K31.top 11) KX G PyI.K31.bn_read_number ?a ?l ?c ?k; (case a => k_is); (case l => k_is); (case c => k_is); (case k => k_is)
      · refine' PyI.defAt (name := "read_quoted") (qual := "read_quoted") (st := PyI.K31.top 12) KX G PyI.K31.bn_read_quoted ?a ?l ?c ?k; (case a => k_is); (case l => k_is); (case c => k_is); (case k => k_is)
      · refine' PyI.defAt (name := "can_be_quoted") (qual := "can_be_quoted") (st := PyI.K31.top 13) KX G PyI.K31.bn_can_be_quoted ?a ?l ?c ?k; (case a => k_is); (case l => k_is); (case c => k_is); (case k => k_is)
      · refine' PyI.defAt (name := "unescaped") (qual := "unescaped") (st := PyI.K31.top 14) KX G PyI.K31.bn_unescaped ?a ?l ?c ?k; (case a => k_is); (case l => k_is); (case c => k_is); (case k => k_is)
      · refine' PyI.defAt (name := "wrong_place") (qual := "wrong_place") (st := PyI.K31.top 15) KX G PyI.K31.bn_wrong_place ?a ?l ?c ?k; (case a => k_is); (case l => k_is); (case c => k_is); (case k => k_is)
      · refine' PyI.defAt (name := "_law_cell") (qual := "_law_cell") (st := PyI.K31.top 17) KX G PyI.K31.bn_law_cell ?a ?l ?c ?k; (case a => k_is); (case l => k_is); (case c => k_is); (case k => k_is)
      · refine' PyI.defAt (name := "_law_digits") (qual := "_law_digits") (st := PyI.K31.top 18) KX G PyI.K31.bn_law_digits ?a ?l ?c ?k; (case a => k_is); (case l => k_is); (case c => k_is); (case k => k_is)
      · refine' PyI.defAt (name := "_law_draw") (qual := "_law_draw") (st := PyI.K31.top 19) KX G PyI.K31.bn_law_draw ?a ?l ?c ?k; (case a => k_is); (case l => k_is); (case c => k_is); (case k => k_is)
      · refine' PyI.defAt (name := "_law_same") (qual := "_law_same") (st := PyI.K31.top 20) KX G PyI.K31.bn_law_same ?a ?l ?c ?k; (case a => k_is); (case l => k_is); (case c => k_is); (case k => k_is)
      · refine' PyI.defAt (name := "_law_plain") (qual := "_law_plain") (st := PyI.K31.top 21) KX G PyI.K31.bn_law_plain ?a ?l ?c ?k; (case a => k_is); (case l => k_is); (case c => k_is); (case k => k_is)
      · refine' PyI.defAt (name := "_law_text_at") (qual := "_law_text_at") (st := PyI.K31.top 22) KX G PyI.K31.bn_law_text_at ?a ?l ?c ?k; (case a => k_is); (case l => k_is); (case c => k_is); (case k => k_is)
      · refine' PyI.defAt (name := "_law_digits_at") (qual := "_law_digits_at") (st := PyI.K31.top 23) KX G PyI.K31.bn_law_digits_at ?a ?l ?c ?k; (case a => k_is); (case l => k_is); (case c => k_is); (case k => k_is)
      · refine' PyI.defAt (name := "_law_value_at") (qual := "_law_value_at") (st := PyI.K31.top 24) KX G PyI.K31.bn_law_value_at ?a ?l ?c ?k; (case a => k_is); (case l => k_is); (case c => k_is); (case k => k_is)
      · refine' PyI.defAt (name := "_law_read") (qual := "_law_read") (st := PyI.K31.top 25) KX G PyI.K31.bn_law_read ?a ?l ?c ?k; (case a => k_is); (case l => k_is); (case c => k_is); (case k => k_is)
      · refine' PyI.defAt (name := "_law_told") (qual := "_law_told") (st := PyI.K31.top 26) KX G PyI.K31.bn_law_told ?a ?l ?c ?k; (case a => k_is); (case l => k_is); (case c => k_is); (case k => k_is)
      · refine' PyI.defAt (name := "_law_value") (qual := "_law_value") (st := PyI.K31.top 27) KX G PyI.K31.bn_law_value ?a ?l ?c ?k; (case a => k_is); (case l => k_is); (case c => k_is); (case k => k_is)
      · refine' PyI.defAt (name := "law") (qual := "law") (st := PyI.K31.top 28) KX G PyI.K31.bn_law ?a ?l ?c ?k; (case a => k_is); (case l => k_is); (case c => k_is); (case k => k_is)
#print axioms PySem.Challenge.cw_sensekept_k31_plain_wrong_texts_holds
